/- What the functions that the law reaches return, for every program that has their code; the conditions stand in each statement. -/
import Derived.Test.YtpipccfcpeemfacGreatDoorEncodeSameL2
set_option linter.unusedSectionVars false
set_option linter.unusedSimpArgs false
set_option linter.unusedVariables false
namespace Go.Am
open Go.RowKit
def JO (Lc : Nat) (l : List Int) (j : Nat) : List Int := (l.drop (j * Lc)).take Lc
def Qgg (t : Nat) (P : Prg) (f : Nat) : Prop := ∀ (k n : Nat) (x r : Int) (l : List Int), 1 ≤ k → k ≤ 1000 → l.length = n * k → okA r n →
 Qs5 P f [.int .i64 k, .int .i64 x, .int .i64 r, il l] [t] (cnt := (Q5 (QJ r).toNat n).length) (fun j => il (JO ((QJ r).toNat * k) l j.1))
theorem Qcf {X : Cx} {a : Act} : ∀ i, Rep X (look [] i) (a.tmps.getD i undef) := fun i => by simp only [look, Rep]
theorem QP {X : Cx} {a : Act} {fr : List (Nat × AV)} {j : Nat} {v : AV} (h : Rep X v (a.tmps.getD j undef)) (g : ∀ i, Rep X (look fr i) (a.tmps.getD i undef)) : ∀ i, Rep X (look ((j, v) :: fr) i) (a.tmps.getD i undef) := fun i => by
 simp only [look]
 split
 ·rename_i e; subst e; exact h
 ·exact g i
theorem QxL {N : Nat} {fr : List (Nat × AV)} {a : Act} {W : World} (hd : a.defers = []) (hz : a.tmps.size = N) (h : ∀ i, Rep ⟨W, [], [], fun _ _ => False⟩ (look fr i) (a.tmps.getD i undef)) : Sim ⟨W.heap.size, ⟨W, [], [], fun _ _ => False⟩, N, []⟩ ⟨fr, []⟩ a W :=
 ⟨hd, hz, Below.refl _ _, [], ⟨rfl, by simp, by simp, by simp, fun _ _ h => h.elim, Nat.le_refl _⟩, Moves.refl _, h⟩
theorem JV {W W' : World} (h : Below W.heap.size W W') : W.grownBy W' none := ⟨h.os, h.tape, h.output, h.size, fun k hk _ => h.block k hk⟩
theorem Qhe {k n L j : Nat} {l : List Int} (hl : l.length = n * k) (hn : 1 ≤ n) (hL : 1 ≤ L) (hj : j < (Q5 L n).length) :
  ∃ m : Nat, (Q5 L n).getD j 0 = m ∧ m ≤ n ∧ min (j * (L * k)) (n * k) = j * (L * k) ∧ j * (L * k) ≤ n * k ∧ min ((j + 1) * (L * k)) (n * k) = j * (L * k) + m * k ∧ JO (L * k) l j = (l.drop (j * (L * k))).take (m * k) ∧ j * (L * k) + m * k ≤ n * k := by
 rw [Z8] at hj
 have g0 : (n - 1) / L * L ≤ n - 1 := Nat.div_mul_le_self _ _
 have g2 : n - 1 < (n - 1) / L * L + L := Nat.lt_div_mul_add (by omega)
 have g1 : j * L ≤ (n - 1) / L * L := Nat.mul_le_mul_right _ (by omega)
 have e0 : j * (L * k) = j * L * k := by rw [Nat.mul_assoc]
 have e1 : (j + 1) * (L * k) = (j * L + L) * k := by rw [← Nat.mul_assoc, Nat.add_mul, Nat.one_mul]
 have h3 : j * L * k ≤ n * k := Nat.mul_le_mul_right _ (by omega)
 by_cases hq : j < (n - 1) / L
 ·have g3 : (j + 1) * L ≤ (n - 1) / L * L := Nat.mul_le_mul_right _ (by omega)
  rw [Nat.add_mul, Nat.one_mul] at g3
  have h7 : j * L + L ≤ n := Nat.le_trans g3 (Nat.le_trans g0 (Nat.sub_le _ _))
  have h4 : (j * L + L) * k ≤ n * k := Nat.mul_le_mul_right _ h7
  refine ⟨L, ?_, by omega, by rw [e0]; exact Nat.min_eq_left h3, by rw [e0]; exact h3, by rw [e1, e0, Nat.min_eq_left h4, Nat.add_mul], rfl, by rw [e0, ← Nat.add_mul]; exact h4⟩
  unfold Q5
  rw [List.getD_eq_getElem?_getD, List.getElem?_append_left (by simpa using hq), List.getElem?_replicate, if_pos hq]
  rfl
 ·have hjq : j = (n - 1) / L := by omega
  have h7 : n ≤ j * L + L := by rw [hjq]; generalize (n - 1) / L * L = w at *; omega
  have h8 : n - j * L ≤ L := by omega
  have h4 : n * k ≤ (j * L + L) * k := Nat.mul_le_mul_right _ h7
  have h5 : j * L * k + (n - j * L) * k = n * k := by rw [← Nat.add_mul]; congr 1; omega
  refine ⟨n - j * L, ?_, Nat.sub_le _ _, by rw [e0]; exact Nat.min_eq_left h3, by rw [e0]; exact h3, by rw [e1, e0, Nat.min_eq_right h4, h5], ?_, by rw [e0, h5]; exact Nat.le_refl _⟩
  ·unfold Q5
   rw [List.getD_eq_getElem?_getD, List.getElem?_append_right (by simp; omega)]
   simp only [List.length_replicate, ← hjq, Nat.sub_self, List.getElem?_cons_zero, Option.getD_some]
   omega
  ·unfold JO
   have h6 : (l.drop (j * (L * k))).length = (n - j * L) * k := by rw [List.length_drop, hl, e0]; omega
   rw [List.take_of_length_le (by rw [h6]; exact Nat.mul_le_mul_right _ h8), List.take_of_length_le (by rw [h6]; exact Nat.le_refl _)]
theorem Qr6 {m j : Nat} (h : j < m) : (List.finRange m).take (j + 1) = (List.finRange m).take j ++ [⟨j, h⟩] := by
 rw [List.take_succ_eq_append_getElem (by simpa using h)]
 simp
theorem Qt4 (L n : Nat) : 1 ≤ (Q5 L n).length := by rw [Z8]; exact Nat.le_add_left 1 _
set_option maxHeartbeats 1000000 in
theorem Qnd {P : Prg} {f fA t0 : Nat} (bd : Body P f 43 [] (XC fA)) (hA : Qs3 t0 P fA) : Qgg t0 P f := by
 intro k n x r l hk1 hk2 hl hok
 obtain ⟨L, hL⟩ : ∃ L, (QJ r).toNat = L := ⟨_, rfl⟩
 have hL1 : 1 ≤ L := by have := Xt r; omega
 obtain ⟨a1, a2, a3, a4, a5⟩ := hok
 have hn1 : 1 ≤ n := by omega
 have hn2 : n ≤ 4000 := by omega
 have hA' := hA r n ⟨a1, a2, a3, a4, a5⟩
 rw [hL, Int.toNat_natCast] at hA' a5
 rw [hL]
 refine ⟨fun j => Q8 _, fun w C v1 hv1 hex hG => ?_⟩
 have hv1' := hv1
 simp only [Rep] at hv1
 obtain ⟨b, o, vs, hv1e, hat, hvs⟩ := hv1
 simp only [RepL] at hvs
 obtain ⟨u0, q0, rfl, hu0, u1, q1, rfl, hu1, u2, q2, rfl, hu2, u3, q3, rfl, hu3, rfl⟩ := hvs
 have hu0' := hu0
 have hu3' := hu3
 simp only [Rep] at hu0 hu1 hu2
 rw [il] at hu3
 simp only [Rep] at hu3
 obtain ⟨sa, cap, ws, e3, hcap, hws, hwr⟩ := hu3
 rw [hl] at hcap
 obtain ⟨atN, hatN⟩ : ∃ atN : Nat → Nat, ∀ j, atN j = min (j * (L * k)) (n * k) := ⟨_, fun _ => rfl⟩
 obtain ⟨cnt, hcnt⟩ : ∃ cnt, (Q5 L n).length = cnt := ⟨_, rfl⟩
 have hnk : n * k ≤ 4000000 := Nat.mul_le_mul hn2 hk2
 rw [hcnt] at hA' a5 ⊢
 have hcnt1 : 1 ≤ cnt := by rw [← hcnt]; exact Qt4 _ _
 have pf : ∀ j, j < cnt → ∃ m : Nat, (Q5 L n).getD j 0 = m ∧ m ≤ n ∧ atN j = j * (L * k) ∧ atN (j + 1) = atN j + m * k ∧ JO (L * k) l j = (l.drop (atN j)).take (m * k) ∧ atN j + m * k ≤ n * k := fun j hj => by
  obtain ⟨m, h1, h2, h3, h4, h5, h6, h7⟩ := Qhe (j := j) hl hn1 hL1 (by rw [hcnt]; exact hj)
  refine ⟨m, h1, h2, by rw [hatN]; exact h3, by rw [hatN, hatN, h3]; exact h5, by rw [hatN, h3]; exact h6, by rw [hatN, h3]; exact h7⟩
 have hun : ∀ {W' : World}, (∀ (b k : Nat) (v : Value), ¬ C b k → w.cell? ⟨b, k, none⟩ = some v → W'.cell? ⟨b, k, none⟩ = some v) → ∀ (c : AV) (v : Value), isD c = true → Rep ⟨w, [], [], C⟩ c v → Rep ⟨W', [], [], fun _ _ => False⟩ c v := fun h c v hd hr =>
  Rep.data (X := ⟨w, [], [], C⟩) (Y := ⟨_, [], [], fun _ _ => False⟩) (fun b k v hc ha => ⟨h b k v (fun h => ha (.inl h)) hc, fun h => by
   rcases h with h | ⟨o, x, c, h1, _⟩
   ·exact h.elim
   ·simp at h1⟩) c v hd hr
 have hlit : ∀ {W' : World}, (∀ (b k : Nat) (v : Value), ¬ C b k → w.cell? ⟨b, k, none⟩ = some v → W'.cell? ⟨b, k, none⟩ = some v) → Rep ⟨W', [], [], fun _ _ => False⟩ (.cell [.int .i64 k, .int .i64 x, .int .i64 r, .lit u3]) v1 := fun {W'} h => by
  have h1 : Rep ⟨w, [], [], C⟩ (.cell [.int .i64 k, .int .i64 x, .int .i64 r, .lit u3]) v1 := by
   simp only [Rep]
   exact ⟨b, o, _, hv1e, hat, by simp only [RepL, Rep]; exact ⟨u0, _, rfl, hu0, u1, _, rfl, hu1, u2, _, rfl, hu2, u3, _, rfl, rfl, rfl⟩⟩
  exact hun h _ _ rfl h1
 refine ⟨fun j => .slice (if cap = atN j.1 then sa else sa.map (·.add (atN j.1 * 1))) (atN (j.1 + 1) - atN j.1) (cap - atN j.1), fun j => ?rep, ?seq⟩
 case rep =>
  obtain ⟨m, h1, h2, h3, h4, h5, h6⟩ := pf j.1 j.2
  have g : Held 0 ⟨w, [], [], fun _ _ => False⟩ := ⟨rfl, by simp, by simp, by simp, fun _ _ h => h.elim, Nat.zero_le _⟩
  have e4 : ((atN (j.1 + 1) : Nat) - (atN j.1 : Nat) : Int).toNat = m * k := by omega
  have e5 : (JO (L * k) l j.1).length = m * k := by rw [h5, List.length_take, List.length_drop, hl]; omega
  have hs : QeH [] 1 (il l) (atN j.1 : Nat) (atN (j.1 + 1) : Nat) = some (il (JO (L * k) l j.1)) := by
   simp only [QeH, il]
   rw [if_pos (by omega), if_pos (by rw [hl]; simp [ks]; omega), e4, e5, h5]
   simp [ks, List.map_take, List.map_drop]
  have hr := Qmk (X := ⟨w, [], [], fun b k => C b k ∧ b < w.heap.size⟩) (B := w.heap.size) ⟨rfl, by simp, by simp, by simp, fun _ _ h => h.2, Nat.le_refl _⟩ (η := fun _ => .any) (ρ := fun _ => undef) (fun _ => by simp only [Rep]) (sz := 1) (n := l.length) (cs := ks .i32 l) (a := sa) (cap := cap) (m := cap) (by
   rw [← e3]
   exact Rep.data (X := ⟨w, [], [], C⟩) (Y := ⟨w, [], [], fun b k => C b k ∧ b < w.heap.size⟩) (fun b k v hc ha => ⟨hc, fun h => ha (by
    rcases h with h | ⟨o, x, c, h1, _⟩
    ·exact .inl h.1
    ·simp at h1)⟩) _ _ (Q8 l) hu3') rfl hs (by omega) (.inl (Nat.le_refl _))
  have hr2 := hr.2.2.2
  simp only [Int.toNat_natCast] at hr2
  exact Rep.data (X := ⟨w, [], [], fun b k => C b k ∧ b < w.heap.size⟩) (Y := ⟨w, [], [], C⟩) (fun b k v hc ha => ⟨hc, fun h => ha (by
   rcases h with h | ⟨o, x, c, h1, _⟩
   ·exact .inl ⟨h, World.block_lt_of_cell? w _ hc⟩
   ·simp at h1)⟩) _ _ (Q8 _) hr2
 case seq =>
  intro ll J Jx W hW hJ hJx hY hJ0
  have hkw : ∀ (b k : Nat) (v : Value), ¬ C b k → w.cell? ⟨b, k, none⟩ = some v → W.cell? ⟨b, k, none⟩ = some v := fun b k v _ hc => (hW.cell (p := ⟨b, k, none⟩) (World.block_lt_of_cell? w _ hc)).trans hc
  obtain ⟨fn, hf, hnm, hN, hrl, hc'⟩ := bd
  obtain ⟨c, hb, hc⟩ := Option.bind_eq_some_iff.1 hc'
  refine callsIn_of_wp hf hb trivial ?_ rfl
  rw [hN]
  unfold XC at hc
  obtain ⟨c1, r1, rfl, hc1, hr1⟩ := Z9 hc
  obtain ⟨c2, r2, rfl, hc2, hr2⟩ := Z9 hr1
  obtain ⟨c3, c4, rfl, hc3, hc4⟩ := Z9 hr2
  obtain ⟨c5, rfl, hc5⟩ := QfT hc4
  obtain ⟨c6, rfl, hc6⟩ := QpY hc5
  obtain ⟨d1, s1, rfl, hd1, hs1⟩ := Z9 hc6
  obtain ⟨d2, s2, rfl, hd2, hs2⟩ := Z9 hs1
  obtain ⟨y1, y2, rfl, hy1, hy2⟩ := Qhv hd2
  obtain rfl := Qhu hy1
  obtain rfl := QpZ hy2
  obtain ⟨d3, d9, rfl, hd3, hd9⟩ := Z9 hs2
  obtain ⟨d4, rfl, hd4⟩ := QfT hd3
  obtain ⟨d5, s5, rfl, hd5, hs5⟩ := Z9 hd4
  obtain ⟨d6, s6, rfl, hd6, hs6⟩ := Z9 hs5
  obtain ⟨s7, d8, rfl, hs7, hd8⟩ := Z9 hs6
  obtain ⟨d7, dc, rfl, hd7, hdc⟩ := Z9 hs7
  obtain ⟨y3, y4, rfl, hy3, hy4⟩ := Qhv hdc
  obtain rfl := QsC hy3
  obtain rfl := Qhu hy4
  obtain ⟨id7, ops, rfl, hm7⟩ := Qlb hd7
  obtain ⟨l5, l3, hops, hm5, hm3⟩ := Qoo (q1 := [_, _, _, _, _]) hm7
  obtain ⟨oS, l2, rfl, hoS, hm2⟩ := Qon hm3
  obtain ⟨oY, l1, rfl, hoY, hm1⟩ := Qon hm2
  generalize hyv : (Value.func (.yield ll) #[] #[]) = yv at *
  let a0 : Act := { tmps := #[yv] ++ #[v1] ++ Array.replicate (43 - (#[yv] ++ #[v1]).size) undef, defers := [] }
  show Code.wpIn _ _ _ _ _ a0 _
  have z0 : a0.tmps.size = 43 := by simp [a0]
  have t00 : a0.tmps.getD 0 undef = yv := by simp [a0]
  have t01 : a0.tmps.getD 1 undef = v1 := by simp [a0]
  let C0 : Nat → Nat → Prop := fun b k => C b k ∧ b < W.heap.size
  have g0 : Held W.heap.size ⟨W, [ph2], [none], C0⟩ := by
   have g := (Held.empty (B := W.heap.size) (X := ⟨W, [], [], C0⟩) ⟨rfl, by simp, by simp, by simp, fun _ _ h => h.2, Nat.le_refl _⟩ 1 0).1
   exact g
  have hC0 : ∀ c v, isD c = true → Rep ⟨w, [], [], C⟩ c v → Rep ⟨W, [ph2], [none], C0⟩ c v := fun c v hd hr =>
   Rep.data (X := ⟨w, [], [], C⟩) (Y := ⟨W, [ph2], [none], C0⟩) (fun b k v hc ha => ⟨hkw b k v (fun h => ha (.inl h)) hc, fun h => by
    rcases h with h | ⟨o, x, c, h1, h2, _⟩
    ·exact ha (.inl h.1)
    ·rcases o with _ | o <;> simp at h2⟩) c v hd hr
  let Γ0 : Ctx := ⟨W.heap.size, ⟨W, [ph2], [none], C0⟩, 43, []⟩
  have hs0 : Sim Γ0 ⟨[(0, .lit yv), (1, .cell [.int .i64 k, .int .i64 x, .int .i64 r, il l])], [ph2]⟩ a0 W :=
   ⟨rfl, z0, Below.refl _ _, [none], g0, Moves.refl _, QP (by rw [t00]; simp only [Rep]) (QP (by rw [t01]; exact hC0 _ _ (by simp [isD, isDL, Q8]) hv1') Qcf)⟩
  have hF0 : Fit P 43 Γ0 := ⟨rfl, fun q cs hq => hC0 _ _ (by simp only [isD]; exact P.gd q cs hq) (hG q cs hq)⟩
  refine wpIn_seq ?_
  have hk0 : ((n * k : Nat) : Int) / (k : Int) = n := by
   rw [Int.natCast_mul, Int.mul_ediv_cancel _ (by omega)]
  have hk3 : ((n * k : Nat) : Int).tdiv (k : Int) = n := by rw [Int.tdiv_eq_ediv_of_nonneg (by omega), hk0]
  refine Qsg (Q := fun _ st' => st'.ob = [⟨t0, 1, cnt, ks .i64 (Q5 L n), 0⟩] ∧ look st'.fr 0 = .lit yv ∧ look st'.fr 3 = .own 0 cnt) hF0 hc1 1 (by rfl) t01 ?_ hs0 ?_
  ·simp only [il]
   simp (disch := omega) only [rq, simprocAttr, hl, hk3, hk0]
   refine ⟨shr 0 (.tup [.own 0 cnt, .int .i64 0]), some (0, ⟨t0, 1, cnt, ks .i64 (Q5 L n), 0⟩), ?_, ?_⟩
   ·unfold Qbu
    rw [if_pos rfl]
    exact ⟨ACall.of_vo_at hA' rfl ⟨rfl, rfl⟩, fun o x' e => by cases e; exact ⟨ph2, rfl, by simp [ph2, ph]⟩⟩
   ·simp (disch := omega) only [rq, simprocAttr, shr]
  ·intro st1 a1 W1 ⟨hob1, h10, h13⟩ hs1 t11
   show (Code.seq c2 _).wpIn Fence.wide 4 _ _ a1 W1
   let row : Ob := ⟨t0, 1, cnt, ks .i64 (Q5 L n), 0⟩
   have hs1' : Sim Γ0 ⟨[(0, .lit yv), (3, .own 0 cnt)], [row]⟩ a1 W1 := by
    have h : st1 = ⟨st1.fr, [row]⟩ := by rw [← hob1]
    rw [h] at hs1
    exact Le.slots (M := 1) (by simp [h10, h13]) Γ0 a1 W1 rfl hs1
   refine wpIn_seq ?_
   refine Qa4 (Q := fun _ st' => st' = ⟨[(5, .int .i64 0), (0, .lit yv), (3, .own 0 cnt)], [row]⟩) hF0 hc2 [(1, v1)] (by simp only [List.mem_singleton]; rintro _ rfl; exact ⟨rfl, t11⟩) (by simp (disch := omega) only [rq, simprocAttr]) hs1' ?_
   rintro _ a2 W2 rfl hs2 t2
   show (Code.seq c3 _).wpIn Fence.wide 4 _ _ a2 W2
   refine wpIn_seq ?_
   refine Qa4 (Q := fun _ st' => st' = ⟨[(23, .int .i64 0), (22, .int .i64 cnt), (21, .own 0 cnt), (5, .int .i64 0), (0, .lit yv), (3, .own 0 cnt)], [row]⟩) hF0 hc3 [(1, v1)] (by simp only [List.mem_singleton]; rintro _ rfl; exact ⟨rfl, t2 _ (by simp)⟩) (by simp (disch := omega) only [rq, simprocAttr, row]) hs2 ?_
   rintro _ a3 W3 rfl hs3 t3
   show (Code.block 0 (.loop _)).wpIn Fence.wide 4 _ _ a3 W3
   obtain ⟨f1, f2, f3, be, f4, f5, f6⟩ := hs3
   have f1' : a3.defers = [] := f1
   have f2' : a3.tmps.size = 43 := f2
   obtain ⟨e, he, hoke⟩ := f4.get (o := 0) (x := row) rfl
   have f21 := f6 21
   simp only [look, Nat.reduceEqDiff, if_false, if_true, Rep] at f21
   obtain ⟨⟨rw', hrw, _, _, hown⟩, _⟩ := f21
   have hrw' : row = rw' := by simpa using hrw
   subst hrw'
   have hown' := hown rfl
   have he' : be[0]? = some e := he
   simp only [he'] at hown'
   cases e with
   | none => exact absurd hoke.1 (by simp only [row]; omega)
   | some p =>
   obtain ⟨br, capr⟩ := p
   obtain ⟨cur, ⟨frz, hblk, _⟩, hcs, hnc, _, hcl, hcr, hone⟩ := hoke
   simp only [OwnV] at hown'
   have hblk' : W3.heap[br]? = some (.cells cur t0 frz) := hblk
   obtain ⟨sv, hsv⟩ : ∃ sv, sv = Value.slice (some ⟨br, 0, none⟩) cnt capr := ⟨_, rfl⟩
   have hcr' : ∀ {Y : Cx}, RepL Y (ks .i64 (Q5 L n)) (cur.toList.take cnt) := fun {Y} => by
    have h := RepL.flat (Y := Y) (by simp [row, ks, flat]) hcr
    have e : row.cs.length = cnt := by simp [row, ks, hcnt]
    rw [e] at h
    exact h
   have hrowR : ∀ {W' : World}, W'.heap[br]? = some (.cells cur t0 frz) → Rep ⟨W', [], [], fun _ _ => False⟩ (.list cnt (ks .i64 (Q5 L n))) sv := fun {W'} h => by
    simp only [Rep]
    refine ⟨_, _, cur.toList.take cnt, hsv, hnc, .inr ⟨br, 0, rfl, fun i v hv => ?_⟩, hcr'⟩
    rw [List.getElem?_take] at hv
    split at hv
    ·have hv2 : cur[i]? = some v := by simpa using hv
     refine ⟨⟨by simp [World.cell?, h, hv2], fun h => ?_⟩, hone v (by
      obtain ⟨h1, h2⟩ := Array.getElem?_eq_some_iff.1 hv2
      rw [← h2]; simp)⟩
     rcases h with h | ⟨o, x, c, h1, _⟩
     ·exact h.elim
     ·simp at h1
    ·cases hv
   have hJ3 : J [] W3 := hJ _ W W3 none hJ0 (JV f3) (fun r h => by cases h)
   refine wpIn_block ?_
   refine wpIn_loop (fun a W' => ∃ j, j ≤ cnt ∧ a.defers = [] ∧ a.tmps.size = 43 ∧ a.tmps.getD 0 undef = yv ∧ a.tmps.getD 1 undef = v1 ∧ a.tmps.getD 5 undef = .int .i64 (atN j : Nat) ∧ a.tmps.getD 21 undef = sv ∧ a.tmps.getD 22 undef = .int .i64 cnt ∧ a.tmps.getD 23 undef = .int .i64 j ∧
     W'.heap[br]? = some (.cells cur t0 frz) ∧ (∀ (b k : Nat) (v : Value), ¬ C b k → w.cell? ⟨b, k, none⟩ = some v → W'.cell? ⟨b, k, none⟩ = some v) ∧ J ((List.finRange cnt).take j) W')
    (fun a _ => match a.tmps.getD 23 undef with | .int _ z => cnt - z.toNat | _ => 0) ?_ ?_
   ·refine ⟨0, Nat.zero_le _, f1', f2', ?_, t3 (1, v1) (by simp), ?_, by rw [hsv]; exact hown', ?_, ?_, hblk', ?_, hJ3⟩
    ·have h := f6 0
     simpa [look, Rep] using h
    ·have h := f6 5
     have e0 : atN 0 = 0 := by rw [hatN]; simp
     simpa [look, Rep, e0] using h
    ·have h := f6 22
     simpa [look, Rep] using h
    ·have h := f6 23
     simpa [look, Rep] using h
    ·intro b k v hc hv
     have h := hkw b k v hc hv
     exact (f3.cell (p := ⟨b, k, none⟩) (World.block_lt_of_cell? W _ h)).trans h
   intro a Wj ⟨j, hj, i1, i2, i3, i4, i5, i6, i7, i8, i9, i10, i11⟩
   let ΓW : World → Ctx := fun W' => ⟨W'.heap.size, ⟨W', [], [], fun _ _ => False⟩, 43, []⟩
   have hF : ∀ {W' : World}, (∀ (b k : Nat) (v : Value), ¬ C b k → w.cell? ⟨b, k, none⟩ = some v → W'.cell? ⟨b, k, none⟩ = some v) → Fit P 43 (ΓW W') := fun {W'} h => ⟨rfl, fun q cs hq => hun h _ _ (by simp only [isD]; exact P.gd q cs hq) (hG q cs hq)⟩
   have hsA : Sim (ΓW Wj) ⟨[(0, .lit yv), (1, .cell [.int .i64 k, .int .i64 x, .int .i64 r, .lit u3]), (5, .int .i64 (atN j : Nat)), (21, .list cnt (ks .i64 (Q5 L n))), (22, .int .i64 cnt), (23, .int .i64 j)], []⟩ a Wj :=
    QxL i1 i2 (QP (by rw [i3]; simp only [Rep]) (QP (by rw [i4]; exact hlit i10) (QP (by rw [i5]; simp only [Rep]) (QP (by rw [i6]; exact hrowR i9) (QP (by rw [i7]; simp only [Rep]) (QP (by rw [i8]; simp only [Rep]) Qcf))))))
   have hI : ∀ {qs : List AO} {a : Act}, QfE 1 qs = true → QfE 21 qs = true → a.tmps.getD 1 undef = v1 → a.tmps.getD 21 undef = sv → ∀ p ∈ [(1, v1), (21, sv)], QfE p.1 qs = true ∧ a.tmps.getD p.1 undef = p.2 := fun h1 h2 h3 h4 p hp => by
    simp only [List.mem_cons, List.not_mem_nil, or_false] at hp
    rcases hp with rfl | rfl
    ·exact ⟨h1, h3⟩
    ·exact ⟨h2, h4⟩
   refine wpIn_seq ?_
   refine Qa4 (Q := fun _ st' => st' = ⟨[(24, .bool (decide ((j : Int) < cnt))), (0, .lit yv), (1, .cell [.int .i64 k, .int .i64 x, .int .i64 r, .lit u3]), (5, .int .i64 (atN j : Nat)), (21, .list cnt (ks .i64 (Q5 L n))), (22, .int .i64 cnt), (23, .int .i64 j)], []⟩) (hF i10) hd1 [(1, v1), (21, sv)] (hI rfl rfl i4 i6) (by simp (disch := omega) only [rq, simprocAttr]) hsA ?_
   rintro _ aB WB rfl hsB tB
   have bW : Below Wj.heap.size Wj WB := hsB.2.2.1
   show (Code.seq (.cond _ .skip (.exit 0)) _).wpIn Fence.wide 4 _ _ aB WB
   have h24 : aB.eval (.tmp 24) = .bool (decide ((j : Int) < cnt)) := by
    obtain ⟨_, _, _, _, _, _, h⟩ := hsB
    have h : Rep _ (.bool _) (aB.tmps.getD 24 undef) := h 24
    simp only [Rep] at h
    exact h
   refine wpIn_seq ?_
   by_cases hjc : j < cnt
   ·have e24 : decide ((j : Int) < cnt) = true := by simp; omega
    rw [e24] at h24 hsB
    obtain ⟨m, p1, p2, p3, p4, p5, p6⟩ := pf j hjc
    have la : (ks .i64 (Q5 L n)).drop j = .int .i64 m :: (ks .i64 (Q5 L n)).drop (j + 1) := by
     have h := Qin (K := .i64) (l := Q5 L n) (i := j) (by omega)
     rw [p1, ← Qa6] at h
     exact h
    refine wpIn_cond_true h24 (wpIn_skip ?_)
    show (Code.seq (.block 1 (.seq d5 _)) _).wpIn Fence.wide 4 _ _ aB WB
    obtain ⟨mk, hmk⟩ : ∃ mk, m * k = mk := ⟨_, rfl⟩
    rw [hmk] at p4 p5 p6
    have emk : (m : Int) * (k : Int) = mk := by rw [← hmk]; simp
    have e8 : ((atN j : Nat) : Int) + (mk : Int) = ((atN (j + 1) : Nat) : Int) := by omega
    obtain ⟨nk, hnk'⟩ : ∃ nk, n * k = nk := ⟨_, rfl⟩
    rw [hnk'] at p6 hnk hcap hl
    have hm4 : (m : Int) ≤ 4000 := by omega
    refine wpIn_seq (wpIn_block (wpIn_seq ?_))
    refine Qa4 (Q := fun _ st' => Le 0 st' ⟨[(7, .int .i64 m), (0, .lit yv), (1, .cell [.int .i64 k, .int .i64 x, .int .i64 r, .lit u3]), (5, .int .i64 (atN j : Nat)), (21, .list cnt (ks .i64 (Q5 L n))), (22, .int .i64 cnt), (23, .int .i64 j)], []⟩) (hF i10) hd5 [(1, v1), (21, sv)] (hI rfl rfl (tB (1, v1) (by simp)) (tB (21, sv) (by simp)))
     (by simp (disch := omega) only [rq, simprocAttr, la, Qi]; exact Le.slots (by simp [Am.look])) hsB ?_
    intro st5 a5 W5 hle5 hs5' t5
    have hs5 := hle5 _ _ _ rfl hs5'
    show (Code.seq d6 _).wpIn Fence.wide 4 _ _ a5 W5
    refine wpIn_seq ?_
    refine Qa4 (Q := fun _ st' => Le 0 st' ⟨[(8, .int .i64 (atN (j + 1) : Nat)), (0, .lit yv), (1, .cell [.int .i64 k, .int .i64 x, .int .i64 r, .lit u3]), (5, .int .i64 (atN j : Nat)), (21, .list cnt (ks .i64 (Q5 L n))), (22, .int .i64 cnt), (23, .int .i64 j)], []⟩) (hF i10) hd6 [(1, v1), (21, sv)] (hI rfl rfl (t5 (1, v1) (by simp)) (t5 (21, sv) (by simp)))
     (by simp (disch := omega) only [rq, simprocAttr, emk, e8]; exact Le.slots (by simp [Am.look])) hs5 ?_
    intro st6 a6 W6 hle6 hs6' t6
    have hs6 := hle6 _ _ _ rfl hs6'
    show (Code.seq (.seq (.region id7 ops false) _) d8).wpIn Fence.wide 4 _ _ a6 W6
    refine wpIn_seq (wpIn_seq (wpIn_region_list ?_))
    rw [hops]
    refine QbJ l5 _ a6 W6 (Qx ?_ _ _ _ (Qdq (Q := fun _ st' => Le 0 st' ⟨[(33, .lit yv), (0, .lit yv), (35, .lit u3), (36, .int .i64 (atN j : Nat)), (37, .int .i64 (atN (j + 1) : Nat)), (8, .int .i64 (atN (j + 1) : Nat)), (22, .int .i64 cnt), (23, .int .i64 j)], []⟩) (hF i10) hm5 [(1, v1), (21, sv)] (hI rfl rfl (t6 (1, v1) (by simp)) (t6 (21, sv) (by simp)))
     (by simp (disch := omega) only [rq, simprocAttr]; exact Le.slots (by simp [Am.look])) hs6))
    rintro _ a7 W7 ⟨rfl, st7, hle7, hs7', t7⟩
    have hs7 := hle7 _ _ _ rfl hs7'
    show wpListIn Fence.wide 4 _ _ _ (oS :: oY :: l1) a7 W7
    have W7b : Below Wj.heap.size Wj W7 := hs7.2.2.1
    have hd7 : a7.defers = [] := hs7.1
    have hz7 : a7.tmps.size = 43 := hs7.2.1
    have f7 : ∀ {i : Nat} {v : Value}, Rep ⟨W7, [], [], fun _ _ => False⟩ (.lit v) (a7.tmps.getD i undef) → a7.tmps.getD i undef = v := fun h => by simpa only [Rep] using h
    have f33 : a7.tmps.getD 33 undef = yv := by obtain ⟨_, _, _, _, _, _, h⟩ := hs7; have h : Rep _ (.lit yv) (a7.tmps.getD 33 undef) := h 33; simpa only [Rep] using h
    have f35 : a7.tmps.getD 35 undef = u3 := by obtain ⟨_, _, _, _, _, _, h⟩ := hs7; have h : Rep _ (.lit u3) (a7.tmps.getD 35 undef) := h 35; simpa only [Rep] using h
    have f8 : a7.tmps.getD 8 undef = .int .i64 (atN (j + 1) : Nat) := by obtain ⟨_, _, _, _, _, _, h⟩ := hs7; have h : Rep _ (.int .i64 _) (a7.tmps.getD 8 undef) := h 8; simpa only [Rep] using h
    have f22 : a7.tmps.getD 22 undef = .int .i64 cnt := by obtain ⟨_, _, _, _, _, _, h⟩ := hs7; have h : Rep _ (.int .i64 _) (a7.tmps.getD 22 undef) := h 22; simpa only [Rep] using h
    have f23 : a7.tmps.getD 23 undef = .int .i64 j := by obtain ⟨_, _, _, _, _, _, h⟩ := hs7; have h : Rep _ (.int .i64 _) (a7.tmps.getD 23 undef) := h 23; simpa only [Rep] using h
    obtain ⟨be7, g7, _, hη, _⟩ := hs7.eta (hF i10).2
    obtain ⟨cS, dS, _, gS⟩ := ZY hoS
    obtain ⟨tS, eS, opS, uS, zS⟩ := Qsx (Qhw cS (by intro h; cases h))
    have gS' : oS.guard = none := by
     rcases gS with ⟨h, _⟩ | ⟨_, _, _, _, _, h⟩
     ·exact h
     ·cases h
    have ex : a7.eval (.tmp 35) = .slice sa nk cap := by rw [← hl]; exact f35.trans e3
    have hrun := Ql9 (X := ⟨W7, [], be7, fun _ _ => False⟩) g7 hη opS uS zS ex (l := (atN j : Nat)) (h := (atN (j + 1) : Nat)) (by simp [loA, opd, look]) (by simp [hiA, opd, look]) (by omega) (by omega) (by omega)
    simp only [Int.toNat_natCast] at hrun
    unfold wpListIn
    rw [if_pos (by simp [Region.wanted, gS'])]
    unfold Oper.wpIn
    refine ⟨fun _ _ => trivial, ?_⟩
    rw [Qxw, hrun]
    show wpListIn Fence.wide 4 _ _ _ (oY :: l1) (a7.put oS.dst _) W7
    rw [← dS]
    obtain ⟨cY, dY, _, gY⟩ := ZY hoY
    obtain ⟨cl, opY, calY, argY⟩ := Qb0 cY
    have gY' : oY.guard = none := by
     rcases gY with ⟨h, _⟩ | ⟨_, _, _, _, _, h⟩
     ·exact h
     ·cases h
    have argY' : cl.args = #[.tmp 38] := Array.ext' argY.symm
    unfold wpListIn
    rw [if_pos (by simp [Region.wanted, gY'])]
    have hJ7 : J ((List.finRange cnt).take j) W7 := hJ _ Wj W7 none i11 (JV W7b) (fun r h => by cases h)
    have hlen : ((List.finRange cnt).take j).length < cnt := by simp; omega
    obtain ⟨vj, hvj⟩ : ∃ vj : Value, vj = .slice (if cap = atN j then sa else sa.map (·.add (atN j * 1))) (atN (j + 1) - atN j) (cap - atN j) := ⟨_, rfl⟩
    have hY' := hY ((List.finRange cnt).take j) ⟨j, hjc⟩ W7 hJ7 hlen
    simp only at hY'
    rw [← hvj] at hY' ⊢
    have p38 : (a7.put (some 38) vj).tmps.getD 38 undef = vj := by simp [Act.put, hz7]
    have p33 : (a7.put (some 38) vj).tmps.getD 33 undef = .func (.yield ll) #[] #[] := by rw [Xs (by simp), f33]; exact hyv.symm
    refine QoS opY calY argY' p33 p38 hY' ?_
    rw [← dY]
    have z8 : ∀ bb : Bool, ((a7.put (some 38) vj).put (some 39) (.bool bb)).tmps.size = 43 := fun bb => by rw [Qe1, Qe1]; exact hz7
    have p39 : ∀ bb : Bool, ((a7.put (some 38) vj).put (some 39) (.bool bb)).tmps.getD 39 undef = .bool bb := fun bb => by simp [Act.put, hz7]
    have pO : ∀ (bb : Bool) (i : Nat), i ≠ 38 → i ≠ 39 → ((a7.put (some 38) vj).put (some 39) (.bool bb)).tmps.getD i undef = a7.tmps.getD i undef := fun bb i h1 h2 => by
     rw [Xs (by simpa using fun h => h2 h.symm), Xs (by simpa using fun h => h1 h.symm)]
    have d8' : ∀ bb : Bool, ((a7.put (some 38) vj).put (some 39) (.bool bb)).defers = [] := fun bb => by rw [QdU, QdU]; exact hd7
    have hI3 : ∀ {qs : List AO} {a : Act}, QfE 0 qs = true → QfE 1 qs = true → QfE 21 qs = true → a.tmps.getD 0 undef = yv → a.tmps.getD 1 undef = v1 → a.tmps.getD 21 undef = sv → ∀ p ∈ [(0, yv), (1, v1), (21, sv)], QfE p.1 qs = true ∧ a.tmps.getD p.1 undef = p.2 := fun h1 h2 h3 h4 h5 h6 p hp => by
     simp only [List.mem_cons, List.not_mem_nil, or_false] at hp
     rcases hp with rfl | rfl | rfl
     ·exact ⟨h1, h4⟩
     ·exact ⟨h2, h5⟩
     ·exact ⟨h3, h6⟩
    have f0 : a7.tmps.getD 0 undef = yv := by obtain ⟨_, _, _, _, _, _, h⟩ := hs7; have h : Rep _ (.lit yv) (a7.tmps.getD 0 undef) := h 0; simpa only [Rep] using h
    have q0 : ∀ bb : Bool, _ := fun bb => (pO bb 0 (by omega) (by omega)).trans f0
    have q1 : ∀ bb : Bool, _ := fun bb => (pO bb 1 (by omega) (by omega)).trans (t7 (1, v1) (by simp))
    have q21 : ∀ bb : Bool, _ := fun bb => (pO bb 21 (by omega) (by omega)).trans (t7 (21, sv) (by simp))
    rintro e W8 (⟨rfl, hJ8, hK8⟩ | ⟨rfl, hX8⟩)
    ·refine ⟨true, rfl, ?_⟩
     have hbr7 : W7.heap[br]? = some (.cells cur t0 frz) := (W7b.block br (Array.getElem?_eq_some_iff.1 i9).1).trans i9
     have hbr8 : W8.heap[br]? = some (.cells cur t0 frz) := (hK8.1 br cur t0 frz hbr7 (by simp)).trans hbr7
     have hk8 : ∀ (b k : Nat) (v : Value), ¬ C b k → w.cell? ⟨b, k, none⟩ = some v → W8.cell? ⟨b, k, none⟩ = some v := fun b k v hc hv => by
      have h1 := i10 b k v hc hv
      exact hK8.2 b k v hc ((W7b.cell (p := ⟨b, k, none⟩) (World.block_lt_of_cell? Wj _ h1)).trans h1)
     have hs8 : Sim (ΓW W8) ⟨[(39, .bool true), (8, .int .i64 (atN (j + 1) : Nat)), (22, .int .i64 cnt), (23, .int .i64 j)], []⟩ ((a7.put (some 38) vj).put (some 39) (.bool true)) W8 :=
      QxL (d8' true) (z8 true) (QP (by rw [p39]; simp only [Rep]) (QP (by rw [pO true 8 (by omega) (by omega), f8]; simp only [Rep]) (QP (by rw [pO true 22 (by omega) (by omega), f22]; simp only [Rep]) (QP (by rw [pO true 23 (by omega) (by omega), f23]; simp only [Rep]) Qcf))))
     refine Qx ?_ _ _ _ (Qdq (Q := fun _ st' => Le 0 st' ⟨[(40, .bool false), (8, .int .i64 (atN (j + 1) : Nat)), (22, .int .i64 cnt), (23, .int .i64 j)], []⟩) (hF hk8) hm1 [(0, yv), (1, v1), (21, sv)] (hI3 rfl rfl rfl (q0 true) (q1 true) (q21 true))
      (by simp (disch := omega) only [rq, simprocAttr, Bool.not_true]; exact Le.slots (by simp [Am.look])) hs8)
     rintro _ a9 W9 ⟨rfl, st9, hle9, hs9', t9⟩
     have hs9 := hle9 _ _ _ rfl hs9'
     show (Code.cond _ .ret .skip).wpIn Fence.wide 4 _ _ a9 W9
     have h40 : a9.eval (.tmp 40) = .bool false := by obtain ⟨_, _, _, _, _, _, h⟩ := hs9; have h : Rep _ (.bool _) (a9.tmps.getD 40 undef) := h 40; simp only [Rep] at h; exact h
     refine wpIn_cond_false h40 (wpIn_skip ?_)
     show d8.wpIn Fence.wide 4 _ _ a9 W9
     refine Qa4 (Q := fun _ st' => Le 0 st' ⟨[(5, .int .i64 (atN (j + 1) : Nat)), (22, .int .i64 cnt), (23, .int .i64 j)], []⟩) (hF hk8) hd8 [(0, yv), (1, v1), (21, sv)] (hI3 rfl rfl rfl (t9 (0, yv) (by simp)) (t9 (1, v1) (by simp)) (t9 (21, sv) (by simp)))
      (by simp (disch := omega) only [rq, simprocAttr]; exact Le.slots (by simp [Am.look])) hs9 ?_
     intro stA aA WA hleA hsA' tA
     have hsA2 := hleA _ _ _ rfl hsA'
     show d9.wpIn Fence.wide 4 _ _ aA WA
     refine Qa4 (Q := fun _ st' => Le 0 st' ⟨[(5, .int .i64 (atN (j + 1) : Nat)), (22, .int .i64 cnt), (23, .int .i64 ((j + 1 : Nat) : Int))], []⟩) (hF hk8) hd9 [(0, yv), (1, v1), (21, sv)] (hI3 rfl rfl rfl (tA (0, yv) (by simp)) (tA (1, v1) (by simp)) (tA (21, sv) (by simp)))
      (by simp (disch := omega) only [rq, simprocAttr]; exact Le.slots (by simp [Am.look])) hsA2 ?_
     intro stC aC WC hleC hsC' tC
     have hsC := hleC _ _ _ rfl hsC'
     have WCb : Below W8.heap.size W8 WC := hsC.2.2.1
     obtain ⟨h1, h2, _, _, _, _, hC⟩ := hsC
     have c5 : aC.tmps.getD 5 undef = .int .i64 (atN (j + 1) : Nat) := by have h : Rep _ (.int .i64 _) (aC.tmps.getD 5 undef) := hC 5; simpa only [Rep] using h
     have c22 : aC.tmps.getD 22 undef = .int .i64 cnt := by have h : Rep _ (.int .i64 _) (aC.tmps.getD 22 undef) := hC 22; simpa only [Rep] using h
     have c23 : aC.tmps.getD 23 undef = .int .i64 ((j + 1 : Nat) : Int) := by have h : Rep _ (.int .i64 _) (aC.tmps.getD 23 undef) := hC 23; simpa only [Rep] using h
     refine ⟨⟨j + 1, by omega, h1, h2, tC (0, yv) (by simp), tC (1, v1) (by simp), c5, tC (21, sv) (by simp), c22, c23, (WCb.block br (Array.getElem?_eq_some_iff.1 hbr8).1).trans hbr8, fun b k v hc hv => ?_, ?_⟩, ?_⟩
     ·have h := hk8 b k v hc hv
      exact (WCb.cell (p := ⟨b, k, none⟩) (World.block_lt_of_cell? W8 _ h)).trans h
     ·rw [Qr6 hjc]
      exact hJ _ W8 WC none hJ8 (JV WCb) (fun r h => by cases h)
     ·simp only [c23, i8, Int.toNat_natCast]
      omega
    ·refine ⟨false, rfl, ?_⟩
     have hs8 : Sim (ΓW W8) ⟨[(39, .bool false)], []⟩ ((a7.put (some 38) vj).put (some 39) (.bool false)) W8 :=
      QxL (d8' false) (z8 false) (QP (by rw [p39]; simp only [Rep]) Qcf)
     let P0 : Prg := ⟨P.prog, [], fun _ _ h => by cases h⟩
     refine Qx ?_ _ _ _ (Qdq (P := P0) (N := 43) (Γ := ΓW W8) (Q := fun _ st' => Le 0 st' ⟨[(40, .bool true)], []⟩) ⟨rfl, fun _ _ h => by cases h⟩ hm1 [] (fun p hp => by cases hp)
      (by simp (disch := omega) only [rq, simprocAttr, Bool.not_false]; exact Le.slots (by simp [Am.look])) hs8)
     rintro _ a9 W9 ⟨rfl, st9, hle9, hs9', t9⟩
     have hs9 := hle9 _ _ _ rfl hs9'
     show (Code.cond _ .ret .skip).wpIn Fence.wide 4 _ _ a9 W9
     have h40 : a9.eval (.tmp 40) = .bool true := by obtain ⟨_, _, _, _, _, _, h⟩ := hs9; have h : Rep _ (.bool _) (a9.tmps.getD 40 undef) := h 40; simp only [Rep] at h; exact h
     refine wpIn_cond_true h40 (wpIn_ret ?_)
     have hX9 := hJx _ W8 W9 none hX8 (JV hs9.2.2.1) (fun r h => by cases h)
     exact ⟨hs9.1, .tuple #[], results_none (Array.ext' hrl) _ _ _, ⟨_, rfl⟩, .inr ⟨_, trivial, hX9⟩⟩
   ·have e24 : decide ((j : Int) < cnt) = false := by simp; omega
    rw [e24] at h24
    refine wpIn_cond_false h24 (wpIn_exit ?_)
    have hjc' : j = cnt := by omega
    rw [hjc', List.take_of_length_le (by simp)] at i11
    have hJB : J (List.finRange cnt) WB := hJ _ Wj WB none i11 (JV bW) (fun r h => by cases h)
    have hdB : aB.defers = [] := hsB.1
    exact ⟨hdB, .tuple #[], results_none (Array.ext' hrl) _ _ _, ⟨_, rfl⟩, .inl ⟨_, rfl, hJB⟩⟩
def Qgh (g : Nat) (P : Prg) (f : Nat) : Prop := ∀ (c x r : Int) (l : List Int), VC P f [clA c x r l] (.fn (.func g) [] [.cell [.int .i64 c, .int .i64 x, .int .i64 r, il l]])
theorem QpT {P : Prg} {f g t0 : Nat} (b : Body P f 4 [.tmp 2] (Qbo g t0)) : Qgh g P f := by
 intro c x r l
 refine VC.of_walk 1 (by simp [isDL, isD, Q8, clA]) (by simp [isD, isDL, Q8]) (ACall.of_body b (by simp) ?_)
 simp (disch := omega) only [rq, simprocAttr, Qbo, clA, il]
 simp [QO, Qz, frzL, Qv, isDL, isD, frzL_T _ (Qy .i32 _)]
def Q4 (c r : Int) (l : List Int) : List (List Int) := (List.range (Q5 (QJ r).toNat (l.length / c.toNat)).length).map (JO ((QJ r).toNat * c.toNat) l)
theorem Qae {c x r : Int} {l : List Int} (h : QN c x r l = 0) : ∃ k n : Nat, c = k ∧ 1 ≤ k ∧ k ≤ 1000 ∧ l.length = n * k ∧ okA r n ∧ l.length ≤ 4000 := by
 unfold QN at h
 split at h
 ·cases h
 rename_i h1
 split at h
 ·cases h
 rename_i h2
 split at h
 ·cases h
 rename_i h3
 have h3' : ZH c x r (l.length / c) = 0 := by simpa using h3
 have h2' : (l.length : Int) % c = 0 := by simpa using h2
 obtain ⟨k, rfl⟩ : ∃ k : Nat, c = k := ⟨c.toNat, by omega⟩
 have e1 : (l.length : Int) / (k : Int) = ((l.length / k : Nat) : Int) := by simp
 have e2 : l.length % k = 0 := by exact_mod_cast h2'
 rw [e1] at h3'
 have e3 := Nat.div_add_mod l.length k
 rw [e2, Nat.add_zero, Nat.mul_comm] at e3
 unfold ZH at h3'
 split at h3'
 ·cases h3'
 rename_i a1
 split at h3'
 ·cases h3'
 rename_i a2
 split at h3'
 ·cases h3'
 rename_i a3
 split at h3'
 ·cases h3'
 rename_i a4
 obtain ⟨n, hn⟩ : ∃ n, l.length / k = n := ⟨_, rfl⟩
 rw [hn] at e3 a2 a3 a4
 have a5 : Zg k x = 0 := by simpa using a1
 have a6 : QgS r n = 0 := by simpa using a4
 rcases Zf (k : Int) x with h4 | ⟨_, h5, h6, h7⟩
 ·omega
 have hle : n * k ≤ 4000 := by
  have h8 : (n : Int) ≤ 4000 / (k : Int) := by omega
  have h9 := Int.mul_le_of_le_ediv (a := (n : Int)) (b := 4000) (c := (k : Int)) (by omega) h8
  have h10 : ((n * k : Nat) : Int) ≤ 4000 := by rw [Int.natCast_mul]; exact h9
  omega
 have hn4 : n ≤ 4000 := Nat.le_trans (Nat.le_mul_of_pos_right n (by omega)) hle
 refine ⟨k, n, rfl, by omega, by omega, e3.symm, ?_, by omega⟩
 unfold QgS at a6
 split at a6
 ·cases a6
 split at a6
 ·cases a6
 split at a6
 ·cases a6
 rename_i b1 b2 b3
 refine ⟨by omega, by omega, by omega, by omega, ?_⟩
 have hlong : 1 ≤ QJ r := Xt r
 obtain ⟨L, hLe⟩ : ∃ L : Nat, QJ r = L := ⟨(QJ r).toNat, by omega⟩
 rw [hLe, Int.toNat_natCast, Int.toNat_natCast, Z8]
 rw [hLe] at b3
 have h1 : (n : Int) + (L : Int) - 1 = ((n - 1 + L : Nat) : Int) := by omega
 rw [h1, ← Int.natCast_ediv, Nat.add_div_right _ (by omega)] at b3
 omega
theorem QfB (c r : Int) (l : List Int) : (Q4 c r l).length = (Q5 (QJ r).toNat (l.length / c.toNat)).length := by simp [Q4]
theorem Qbb (c x r : Int) (l : List Int) : QN c x r l = 0 ∨ QN c x r l = 8 := by
 unfold QN; repeat' split
 all_goals simp
theorem Qhd (Lc : Nat) (l : List Int) : ∀ m : Nat, ((List.range m).map (JO Lc l)).flatten = l.take (m * Lc)
 | 0 => by simp
 | m + 1 => by
  rw [List.range_succ, List.map_append, List.flatten_append, Qhd Lc l m, Nat.add_mul, Nat.one_mul, List.take_add]
  simp [JO]
theorem QdV {c x r : Int} {l : List Int} (h : QN c x r l = 0) : (Q4 c r l).flatten = l := by
 obtain ⟨k, n, rfl, h1, h2, h3, ⟨o1, o2, o3, o4, o5⟩, h4⟩ := Qae h
 unfold Q4
 rw [Qhd, Int.toNat_natCast, h3, Nat.mul_div_cancel _ (by omega), Z8, List.take_of_length_le]
 have hL : 1 ≤ (QJ r).toNat := by have := Xt r; omega
 have g2 : n - 1 < (n - 1) / (QJ r).toNat * (QJ r).toNat + (QJ r).toNat := Nat.lt_div_mul_add (by omega)
 rw [h3, ← Nat.mul_assoc, Nat.add_mul, Nat.one_mul]
 refine Nat.mul_le_mul_right _ ?_
 generalize (n - 1) / (QJ r).toNat * (QJ r).toNat = w at *
 omega
theorem QdW {c x r : Int} {l : List Int} (h : QN c x r l = 0) : (Q4 c r l).length ≤ 1000 := by
 obtain ⟨k, n, rfl, h1, h2, h3, ⟨o1, o2, o3, o4, o5⟩, h4⟩ := Qae h
 rw [QfB, Int.toNat_natCast, h3, Nat.mul_div_cancel _ (by omega)]
 rwa [Int.toNat_natCast] at o5
def QtF (c : Nat) : Nat := (2 * c) % 18446744073709551616 ^^^ (if 9223372036854775808 ≤ c then 4823603603198064275 else 0)
def QeZ : Nat → Nat → Nat
 | 0, c => c
 | k + 1, c => QeZ k (QtF c)
theorem QqY (c : Nat) : QtF c < 18446744073709551616 := by
 unfold QtF
 have : (if 9223372036854775808 ≤ c then 4823603603198064275 else 0) < 2 ^ 64 := by split <;> decide
 exact Nat.xor_lt_two_pow (n := 64) (Nat.mod_lt _ (by decide)) this
theorem Qh7 : ∀ (k : Nat) {c : Nat}, c < 18446744073709551616 → QeZ k c < 18446744073709551616
 | 0, _, h => h
 | k + 1, c, _ => Qh7 k (QqY c)
theorem Qkb : ∀ (k c : Nat), QeZ (k + 1) c = QtF (QeZ k c)
 | 0, _ => rfl
 | k + 1, c => by rw [QeZ, Qkb k, QeZ]
theorem Qve (c : Nat) (h : c < 18446744073709551616) : (9223372036854775808 ≤ c) ↔ c.testBit 63 = true := by
 constructor
 ·intro h2
  rw [Nat.testBit_eq_decide_div_mod_eq]
  have : c / 2 ^ 63 = 1 := by omega
  rw [this]; rfl
 ·intro h2
  exact Nat.ge_two_pow_of_testBit h2
theorem QtE {x l : Nat} (hx : x < 18446744073709551616) (hl : l < 9223372036854775808) : QtF (x ^^^ l) = QtF x ^^^ 2 * l := by
 have hxl : x ^^^ l < 18446744073709551616 := Nat.xor_lt_two_pow (n := 64) hx (by omega)
 have e1 : (9223372036854775808 ≤ x ^^^ l) ↔ (9223372036854775808 ≤ x) := by
  rw [Qve _ hxl, Qve _ hx, Nat.testBit_xor, Nat.testBit_lt_two_pow (show l < 2 ^ 63 from hl), Bool.xor_false]
 have e2 : (2 * (x ^^^ l)) % 18446744073709551616 = (2 * x) % 18446744073709551616 ^^^ 2 * l := by
  apply Nat.eq_of_testBit_eq
  intro i
  rw [show (18446744073709551616 : Nat) = 2 ^ 64 from rfl, Nat.testBit_mod_two_pow, Nat.testBit_xor, Nat.testBit_mod_two_pow]
  rw [show 2 * (x ^^^ l) = 2 ^ 1 * (x ^^^ l) from rfl, show 2 * x = 2 ^ 1 * x from rfl, show 2 * l = 2 ^ 1 * l from rfl, Nat.testBit_two_pow_mul, Nat.testBit_two_pow_mul, Nat.testBit_two_pow_mul, Nat.testBit_xor]
  by_cases h : i < 64
  ·by_cases h1 : 1 ≤ i <;> simp [h, h1]
  ·have h2 : l.testBit (i - 1) = false := Nat.testBit_lt_two_pow (Nat.lt_of_lt_of_le (show l < 2 ^ 63 from hl) (Nat.pow_le_pow_right (by decide) (by omega)))
   simp [h, h2]
 unfold QtF
 rw [e2]
 by_cases h : 9223372036854775808 ≤ x
 ·rw [if_pos h, if_pos (e1.2 h), Nat.xor_assoc, Nat.xor_assoc, Nat.xor_comm (2 * l)]
 ·rw [if_neg h, if_neg (fun h2 => h (e1.1 h2)), Nat.xor_assoc, Nat.xor_assoc, Nat.xor_comm (2 * l)]
theorem Qn9 : ∀ (k : Nat) {x l : Nat}, k ≤ 64 → x < 18446744073709551616 → l < 2 ^ (64 - k) → QeZ k (x ^^^ l) = QeZ k x ^^^ 2 ^ k * l
 | 0, x, l, _, _, _ => by simp [QeZ]
 | k + 1, x, l, hk, hx, hl => by
  have h1 : l < 9223372036854775808 := Nat.lt_of_lt_of_le hl (Nat.pow_le_pow_right (by omega) (by omega : 64 - (k + 1) ≤ 63))
  have h2 : 2 * l < 2 ^ (64 - k) := by
   rw [show 64 - k = (64 - (k + 1)) + 1 by omega, Nat.pow_succ]; omega
  rw [QeZ, QtE hx h1, Qn9 k (by omega) (QqY x) h2, QeZ, Nat.pow_succ, Nat.mul_assoc]
def QwM (s b : Nat) : Nat := QeZ 8 (s ^^^ b * 72057594037927936)
theorem Qvn {s b : Nat} (hs : s < 18446744073709551616) : s ^^^ b * 72057594037927936 = (s / 72057594037927936 ^^^ b) * 72057594037927936 ^^^ s % 72057594037927936 := by
 have h := QjK s 56
 rw [show (2 : Nat) ^ 56 = 72057594037927936 from rfl] at h
 have e : (s / 72057594037927936 ^^^ b) * 72057594037927936 = s / 72057594037927936 * 72057594037927936 ^^^ b * 72057594037927936 := by
  apply Nat.eq_of_testBit_eq
  intro i
  rw [Nat.testBit_xor, show (72057594037927936 : Nat) = 2 ^ 56 from rfl, Nat.mul_comm _ (2 ^ 56), Nat.mul_comm _ (2 ^ 56), Nat.mul_comm b, Nat.testBit_two_pow_mul, Nat.testBit_two_pow_mul, Nat.testBit_two_pow_mul, Nat.testBit_xor]
  by_cases h : 56 ≤ i <;> simp [h]
 rw [e, Nat.xor_comm (s / 72057594037927936 * 72057594037927936), Nat.xor_assoc, Nat.mul_comm (s / 72057594037927936), Nat.xor_comm (72057594037927936 * _), ← h, Nat.xor_comm]
theorem Qpa {s b : Nat} (hs : s < 18446744073709551616) (hb : b < 256) : QwM s b = s * 256 % 18446744073709551616 ^^^ QeZ 8 ((s / 72057594037927936 ^^^ b) * 72057594037927936) := by
 have h0 : (s / 72057594037927936 ^^^ b) < 2 ^ 8 := Nat.xor_lt_two_pow (by omega) hb
 rw [QwM, Qvn hs, Qn9 8 (by omega) (by omega) (by show s % 72057594037927936 < 2 ^ 56; exact Nat.mod_lt _ (by decide)), Nat.xor_comm]
 congr 1
 omega
theorem QvA {s b : Nat} (hs : s < 18446744073709551616) (hb : b < 256) : QwM s b < 18446744073709551616 := Qh7 8 (Nat.xor_lt_two_pow (n := 64) hs (by omega))
def Jb (s : Nat) (l : List UInt8) : Nat := l.foldl (fun s b => QwM s b.toNat) s
theorem QqZ {s : Nat} {l : List UInt8} {k : Nat} (h : k < l.length) : Jb s (l.take (k + 1)) = QwM (Jb s (l.take k)) (l[k]).toNat := by
 rw [List.take_succ_eq_append_getElem h, Jb, List.foldl_append]; rfl
theorem Qh8 : ∀ {l : List UInt8} {s : Nat}, s < 18446744073709551616 → Jb s l < 18446744073709551616
 | [], _, h => h
 | b :: l, s, h => Qh8 (l := l) (QvA h (UInt8.toNat_lt b))
def QjB (i : Nat) : List Int := (List.range 256).map fun j => if j < i then ((QeZ 8 (j * 72057594037927936) : Nat) : Int) else 0
theorem Xj (i : Nat) : (QjB i).length = 256 := by simp [QjB]
theorem QeY {i j : Nat} (h : j < 256) : (QjB i)[j]'(by rw [Xj]; exact h) = if j < i then ((QeZ 8 (j * 72057594037927936) : Nat) : Int) else 0 := by simp [QjB]
theorem Qtv {i : Nat} (h : i < 256) : (QjB i).set i ((QeZ 8 (i * 72057594037927936) : Nat) : Int) = QjB (i + 1) := by
 refine List.ext_getElem (by simp [Xj]) fun j h1 h2 => ?_
 have hj : j < 256 := by simpa [Xj] using h2
 rw [List.getElem_set, QeY hj]
 split
 ·rename_i e; subst e; rw [QeY hj, if_pos (by omega)]
 ·rename_i e; rw [QeY hj]
  by_cases h3 : j < i
  ·rw [if_pos h3, if_pos (by omega)]
  ·rw [if_neg h3, if_neg (by omega)]
theorem QvF (c : Nat) : Qg true .u64 (c : Int) 1 = some (.int .u64 (((2 * c) % 18446744073709551616 : Nat) : Int)) := by
 have h3 : ¬ ((1 : Int) < 0) := by omega
 simp only [Qg, if_neg h3, if_true]
 have h5 : (min (1 : Int).toNat IntKind.u64.bits) = 1 := rfl
 rw [h5, Xl]
 congr 2
 omega
theorem Qq0 (c : Nat) : Qg true .u64 (c : Int) 8 = some (.int .u64 ((c * 256 % 18446744073709551616 : Nat) : Int)) := by
 have h3 : ¬ ((8 : Int) < 0) := by omega
 simp only [Qg, if_neg h3, if_true]
 have h5 : (min (8 : Int).toNat IntKind.u64.bits) = 8 := rfl
 rw [h5, Xl]
 congr 2
def Qjd (P : Prg) (f : Nat) : Prop := VC P f [] (.cell (ks .u64 (QjB 256)))
set_option maxRecDepth 40000 in
theorem Qm9 {P : Prg} {f t0 : Nat} (bd : Body P f 25 [.tmp 0] (QaF t0)) : Qjd P f := by
 refine VC.of_walk 1 rfl (by simp [isD, Qkz (Qy _ _)]) (ACall.of_body bd (by simp) ?_)
 unfold QaF
 simp (disch := omega) only [rq, simprocAttr]
 refine QL.by (ι := Nat) (fun i => ⟨[(5, .int .i64 i), (1, .ref 0 1 0)], [⟨t0, 256, 1, ks .u64 (QjB i), 0⟩]⟩) (fun i => i ≤ 256) (fun i => 256 - i) 0 (Le.slots (by simp [Am.look])) (by omega) ?_
 intro i hi
 by_cases hlt : i < 256
 ·have s0 : Qg true .u64 (i : Int) 56 = some (.int .u64 ((i * 72057594037927936 : Nat) : Int)) := by
   have := Qtb (K := .u64) rfl (c := i) (s := 56) (by decide) (by show i * 2 ^ 56 < 2 ^ 64; omega)
   exact this
  have w0 : IntKind.u64.wrap (i : Int) = i := Jr (by omega) (by omega)
  simp (disch := omega) only [rq, simprocAttr, s0, w0]
  refine QL.by (ι := Nat) (fun j => ⟨[(11, .int .i64 j), (3, .int .u64 (QeZ j (i * 72057594037927936))), (5, .int .i64 i), (2, .int .i64 i), (1, .ref 0 1 0)], [⟨t0, 256, 1, ks .u64 (QjB i), 0⟩]⟩) (fun j => j ≤ 8) (fun j => 8 - j) 0 (Le.slots (by simp [Am.look, QeZ])) (by omega) ?_
  intro j hj
  by_cases hjl : j < 8
  ·have hc := Qh7 j (c := i * 72057594037927936) (by omega)
   have hn := Qkb j (i * 72057594037927936)
   generalize QeZ j (i * 72057594037927936) = c at *
   have a1 := QvF c
   have a2 : Qg false .u64 (c : Int) 63 = some (.int .u64 ((c / 9223372036854775808 : Nat) : Int)) := Qmc (K := .u64) (n := c) (k := 63) (by decide)
   have hm := Nat.mod_lt (2 * c) (show 0 < 18446744073709551616 by decide)
   by_cases h2 : 9223372036854775808 ≤ c
   ·have a3 : IntKind.u64.wrap (BitVec.ofInt IntKind.u64.bits ((2 * c % 18446744073709551616 : Nat) : Int) ^^^ BitVec.ofInt IntKind.u64.bits 4823603603198064275).toNat = ((QeZ (j + 1) (i * 72057594037927936) : Nat) : Int) := by
     rw [hn, QtF, if_pos h2]
     exact Qtj (K := .u64) rfl (a := 2 * c % 18446744073709551616) (b := 4823603603198064275) hm (by decide)
    have a4 : c / 9223372036854775808 = 1 := by omega
    rw [a4] at a2
    generalize 2 * c % 18446744073709551616 = d at *
    simp (disch := omega) only [rq, simprocAttr, a1, a2, a3]
    exact ⟨j + 1, by omega, by omega, Le.slots (by simp [Am.look])⟩
   ·have a3 : IntKind.u64.wrap (BitVec.ofInt IntKind.u64.bits ((2 * c % 18446744073709551616 : Nat) : Int) ^^^ BitVec.ofInt IntKind.u64.bits 0).toNat = ((QeZ (j + 1) (i * 72057594037927936) : Nat) : Int) := by
     rw [hn, QtF, if_neg h2]
     exact Qtj (K := .u64) rfl (a := 2 * c % 18446744073709551616) (b := 0) hm (by decide)
    have a4 : c / 9223372036854775808 = 0 := by omega
    rw [a4] at a2
    generalize 2 * c % 18446744073709551616 = d at *
    simp (disch := omega) only [rq, simprocAttr, a1, a2, a3]
    exact ⟨j + 1, by omega, by omega, Le.slots (by simp [Am.look])⟩
  ·obtain rfl : j = 8 := by omega
   have e1 := Xj i
   have e2 := Qi .u64 (QjB i)
   have e3 : (ks .u64 (QjB i)).take i ++ [.int .u64 (QeZ 8 (i * 72057594037927936))] ++ (ks .u64 (QjB i)).drop (i + 1) = ks .u64 (QjB (i + 1)) := by
    rw [← Qtv hlt, List.set_eq_take_append_cons_drop, if_pos (by rw [Xj]; exact hlt)]; simp [ks, List.map_take, List.map_drop]
   simp (disch := omega) only [rq, simprocAttr, e1, e2, e3]
   exact ⟨i + 1, by omega, by omega, Le.slots (by simp [Am.look])⟩
 ·obtain rfl : i = 256 := by omega
  simp (disch := omega) only [rq, simprocAttr]
  simp [QO, Qz, frzL, Qv, frzL_T _ (Qy _ _)]
def Qgp (P : Prg) (f : Nat) : Prop := ∀ (s : Nat) (l : List UInt8), s < 18446744073709551616 → l.length ≤ 1000000 → VC P f [.cell (ks .u64 (QjB 256)), .int .u64 s, bs l] (.int .u64 (Jb s l : Nat))
set_option maxRecDepth 40000 in
theorem Qk0 {P : Prg} {f : Nat} (bd : Body P f 29 [.tmp 6] JY) : Qgp P f := by
 intro s l hs hl
 refine VC.of_acall (by simp [isDL, isD, QR, Zk]) rfl (ACall.of_body bd (by simp) ?_)
 have t0 := Qi .u64 (QjB 256)
 rw [Xj] at t0
 simp (disch := omega) only [rq, simprocAttr, JY, bs]
 refine QL.by (ι := Nat) (fun k => ⟨[(11, .int .i64 k), (10, .int .i64 l.length), (9, .list l.length (u8 l)), (0, .cell (ks .u64 (QjB 256))), (1, .int .u64 (Jb s (l.take k)))], []⟩) (fun k => k ≤ l.length) (fun k => l.length - k) 0 (Le.slots (by simp [Am.look, Jb])) (by omega) ?_
 intro k hk
 have hc := Qh8 (l := l.take k) hs
 by_cases hlt : k < l.length
 ·have e1 := Qeq hlt
  have hn := QqZ (s := s) hlt
  generalize Jb s (l.take k) = c at *
  have hb := (l[k]).toNat_lt
  rw [Qpa hc hb] at hn
  have h0 : (c / 72057594037927936 ^^^ (l[k]).toNat) < 256 := Nat.xor_lt_two_pow (n := 8) (by omega) hb
  have h1 := Qh7 8 (c := (c / 72057594037927936 ^^^ (l[k]).toNat) * 72057594037927936) (by omega)
  have a1 : Qg false .u64 (c : Int) 56 = some (.int .u64 ((c / 72057594037927936 : Nat) : Int)) := Qmc (K := .u64) (n := c) (k := 56) (by decide)
  have a0 := Qq0 c
  have a2 : IntKind.u8.wrap ((c / 72057594037927936 : Nat) : Int) = ((c / 72057594037927936 : Nat) : Int) := by rw [Zp]; omega
  have a3 : IntKind.u8.wrap (BitVec.ofInt IntKind.u8.bits ((c / 72057594037927936 : Nat) : Int) ^^^ BitVec.ofInt IntKind.u8.bits ((l[k]).toNat : Int)).toNat = ((c / 72057594037927936 ^^^ (l[k]).toNat : Nat) : Int) :=
   Qtj (K := .u8) rfl (a := c / 72057594037927936) (b := (l[k]).toNat) (by show c / 72057594037927936 < 256; omega) hb
  have hm := Nat.mod_lt (c * 256) (show 0 < 18446744073709551616 by decide)
  have a4 : IntKind.u64.wrap (BitVec.ofInt IntKind.u64.bits ((c * 256 % 18446744073709551616 : Nat) : Int) ^^^ BitVec.ofInt IntKind.u64.bits ((QeZ 8 ((c / 72057594037927936 ^^^ (l[k]).toNat) * 72057594037927936) : Nat) : Int)).toNat = ((Jb s (l.take (k + 1)) : Nat) : Int) := by
   rw [hn]; exact Qtj (K := .u64) rfl hm h1
  generalize c * 256 % 18446744073709551616 = d at *
  generalize c / 72057594037927936 ^^^ (l[k]).toNat = x at *
  have e2 : (ks .u64 (QjB 256)).drop x = .int .u64 ((QeZ 8 (x * 72057594037927936) : Nat) : Int) :: ks .u64 ((QjB 256).drop (x + 1)) := by
   rw [Qa6, List.drop_eq_getElem_cons (by rw [Xj]; exact h0), QfI, QeY h0, if_pos h0]
  generalize c / 72057594037927936 = q at *
  simp (disch := omega) only [rq, simprocAttr, e1, a0, a1, a2, a3, a4, e2, t0]
  exact ⟨k + 1, by omega, by omega, Le.slots (by simp [Am.look])⟩
 ·have ek : k = l.length := by omega
  subst ek
  rw [List.take_length]
  simp (disch := omega) only [rq, simprocAttr]
def QnM (P : Prg) (f : Nat) : Prop := ∀ (s : Nat) (l : List UInt8), s < 18446744073709551616 → VC P f [.int .u64 s, bs l] (if 100000 < l.length then .tup [.int .u64 0, .int .i64 4] else .tup [.int .u64 (Jb s l), .int .i64 0])
theorem QpO {P : Prg} {f fT fB : Nat} (bd : Body P f 13 [.tmp 4, .tmp 5] (JD fT fB)) (hT : Qjd P fT) (hB : Qgp P fB) : QnM P f := by
 intro s l hs
 refine VC.of_acall (by simp [isDL, isD, QR]) (by split <;> rfl) (ACall.of_body bd (by simp) ?_)
 by_cases hl : 100000 < l.length
 ·rw [if_pos hl]
  simp (disch := omega) only [rq, simprocAttr, JD, bs]
 ·rw [if_neg hl]
  have hB' := hB s l hs (by omega)
  rw [bs] at hB'
  have hT' : VC P fT [] _ := hT
  simp (disch := omega) only [rq, simprocAttr, JD, bs]
  refine Qc.vc hT' ?_
  simp (disch := omega) only [rq, simprocAttr]
  refine Qc.vc hB' ?_
  simp (disch := omega) only [rq, simprocAttr]
def QoO (P : Prg) (f : Nat) : Prop := ∀ (l : List UInt8), VC P f [bs l] (if 100000 < l.length then .tup [.int .u64 0, .int .i64 4] else .tup [.int .u64 (Jb 0 l), .int .i64 0])
theorem Qsj {P : Prg} {f fN : Nat} (bd : Body P f 8 [.tmp 2, .tmp 3] (Qal fN)) (hN : QnM P fN) : QoO P f := by
 intro l
 refine VC.of_acall (by simp [isDL, isD, QR]) (by split <;> rfl) (ACall.of_body bd (by simp) ?_)
 have hN' := hN 0 l (by decide)
 rw [bs] at hN'
 by_cases hl : 100000 < l.length
 ·rw [if_pos hl] at hN' ⊢
  simp (disch := omega) only [rq, simprocAttr, Qal, bs]
  refine Qc.vc hN' ?_
  simp (disch := omega) only [rq, simprocAttr]
 ·rw [if_neg hl] at hN' ⊢
  simp (disch := omega) only [rq, simprocAttr, Qal, bs]
  refine Qc.vc hN' ?_
  simp (disch := omega) only [rq, simprocAttr]
def sb8 (x : Nat) : Int := if 127 < x % 256 then ((x % 256 : Nat) : Int) - 256 else ((x % 256 : Nat) : Int)
theorem QwR (x : Nat) : -128 ≤ sb8 x ∧ sb8 x ≤ 127 := by unfold sb8; split <;> omega
def ofK (d k : Nat) : List Int := (List.range 16).map fun i => if i < k then sb8 (d / 2 ^ (8 * i)) else 0
theorem QdZ (d k : Nat) : (ofK d k).length = 16 := by simp [ofK]
theorem QvS {d k : Nat} (h : k < 16) : (ofK d k).set k (sb8 (d / 2 ^ (8 * k))) = ofK d (k + 1) := by
 refine List.ext_getElem (by simp [QdZ]) fun j h1 h2 => ?_
 have hj : j < 16 := by simpa [QdZ] using h2
 rw [List.getElem_set]
 simp only [ofK, List.getElem_map, List.getElem_range]
 split
 ·rename_i e; subst e; rw [if_pos (by omega)]
 ·by_cases h3 : j < k
  ·rw [if_pos h3, if_pos (by omega)]
  ·rw [if_neg h3, if_neg (by omega)]
theorem Qvq (x : Nat) : IntKind.i8.wrap (x : Int) = sb8 x := by
 unfold sb8
 simp only [IntKind.wrap, IntKind.bits, IntKind.signed]
 simp
 split <;> split <;> omega
def QsT (P : Prg) (f : Nat) : Prop := ∀ d : Nat, d < 18446744073709551616 → VC P f [.int .u64 d] (.agg (ks .i32 (ofK d 8)))
theorem QvL {P : Prg} {f t0 : Nat} (bd : Body P f 18 [.cell 2 t0] (Qea t0)) (ht : Z6 P t0 = some (some 16)) : QsT P f := by
 intro d hd
 refine VC.of_acall rfl (by simp [isD, Zk]) (ACall.of_body bd (by simp) ?_)
 unfold Qea
 have z : ([.int .i32 0, .int .i32 0, .int .i32 0, .int .i32 0, .int .i32 0, .int .i32 0, .int .i32 0, .int .i32 0, .int .i32 0, .int .i32 0, .int .i32 0, .int .i32 0, .int .i32 0, .int .i32 0, .int .i32 0, .int .i32 0] : List AV) = ks .i32 (ofK 0 0) := rfl
 have z0 : ks .i32 (ofK 0 0) = ks .i32 (ofK d 0) := rfl
 rw [z]
 have ol := QaO .i32 (ofK 0 0)
 have kl0 : (ks .i32 (ofK 0 0)).length = 16 := rfl
 simp (disch := omega) only [rq, simprocAttr, ol, kl0]
 refine QL.by (ι := Nat) (fun i => ⟨[(5, .int .i64 i), (0, .int .u64 d), (3, .ref 1 1 0), (2, .ref 0 1 0)], [⟨t0, 16, 1, ks .i32 (ofK 0 0), 0⟩, ⟨t0, 16, 1, ks .i32 (ofK d i), 0⟩]⟩) (fun i => i ≤ 8) (fun i => 8 - i) 0 (Le.slots (by simp [Am.look])) (by omega) ?_
 intro i hi
 have kl : (ks .i32 (ofK d i)).length = 16 := by rw [Qi, QdZ]
 by_cases hlt : i < 8
 ·have a1 : Qg false .u64 (d : Int) (8 * (i : Int)) = some (.int .u64 ((d / 2 ^ (8 * i) : Nat) : Int)) := by
   have := Qmc (K := .u64) (n := d) (k := 8 * i) (by show 8 * i ≤ 64; omega)
   simpa using this
  have a2 := Qvq (d / 2 ^ (8 * i))
  have a3 := QwR (d / 2 ^ (8 * i))
  have e3 : (ks .i32 (ofK d i)).take i ++ [.int .i32 (sb8 (d / 2 ^ (8 * i)))] ++ (ks .i32 (ofK d i)).drop (i + 1) = ks .i32 (ofK d (i + 1)) := by
   rw [← QvS (by omega), List.set_eq_take_append_cons_drop, if_pos (by rw [QdZ]; omega)]; simp [ks, List.map_take, List.map_drop]
  generalize d / 2 ^ (8 * i) = q at *
  generalize sb8 q = y at *
  simp (disch := omega) only [rq, simprocAttr, a1, a2, kl, e3]
  exact ⟨i + 1, by omega, by omega, Le.slots (by simp [Am.look])⟩
 ·obtain rfl : i = 8 := by omega
  have o8 := QaO .i32 (ofK d 8)
  have t8 : (ks .i32 (ofK d 8)).take 16 = ks .i32 (ofK d 8) := List.take_of_length_le (by omega)
  simp (disch := omega) only [rq, simprocAttr, kl, kl0, t8, o8, Q3, ht]
  try simp [kl]
theorem Qvb : ∀ p : List UInt8, isTL (u8 p) = true
 | [] => rfl
 | b :: p => by have := Qvb p; simp only [u8, List.map_cons, isTL, isT, Bool.true_and] at this ⊢; exact this
def QaU : List Int := List.replicate 16 0
def Qfs (p : List UInt8) : AV := if 64 < p.length then .tup [.agg (ks .i32 QaU), .int .i64 2] else .tup [.agg (ks .i32 (ofK (Jb 0 p) 8)), .int .i64 0]
theorem Qui (p : List UInt8) : isD (Qfs p) = true := by unfold Qfs; split <;> simp [isD, isDL, Zk]
def QsQ (P : Prg) (f : Nat) : Prop := ∀ p : List UInt8, VC P f [.str p] (Qfs p)
theorem Qq4 {P : Prg} {f fS fO t0 : Nat} (bd : Body P f 22 [.cell 2 t0, .tmp 3] (Qb4 fS fO t0)) (hS : QoO P fS) (hO : QsT P fO) (ht : Z6 P t0 = some (some 16)) : QsQ P f := by
 intro p
 refine VC.of_acall rfl (Qui p) (ACall.of_body bd (by simp) ?_)
 unfold Qb4
 have z : ([.int .i32 0, .int .i32 0, .int .i32 0, .int .i32 0, .int .i32 0, .int .i32 0, .int .i32 0, .int .i32 0, .int .i32 0, .int .i32 0, .int .i32 0, .int .i32 0, .int .i32 0, .int .i32 0, .int .i32 0, .int .i32 0] : List AV) = ks .i32 QaU := rfl
 rw [z]
 have ol := QaO .i32 QaU
 have kl0 : (ks .i32 QaU).length = 16 := rfl
 have t0' : (ks .i32 QaU).take 16 = ks .i32 QaU := rfl
 by_cases hp : 64 < p.length
 ·have e9 : Qfs p = .tup [.agg (ks .i32 QaU), .int .i64 2] := by rw [Qfs, if_pos hp]
  simp (disch := omega) only [rq, simprocAttr, ol, kl0, Q3, ht, t0', e9]
  rfl
 ·have e9 : Qfs p = .tup [.agg (ks .i32 (ofK (Jb 0 p) 8)), .int .i64 0] := by rw [Qfs, if_neg hp]
  have hS' := hS p
  rw [if_neg (by omega)] at hS'
  have hO' := hO (Jb 0 p) (Qh8 (by decide))
  have o8 := QaO .i32 (ofK (Jb 0 p) 8)
  have kl : (ks .i32 (ofK (Jb 0 p) 8)).length = 16 := by rw [Qi, QdZ]
  have t8 : (ks .i32 (ofK (Jb 0 p) 8)).take 16 = ks .i32 (ofK (Jb 0 p) 8) := List.take_of_length_le (by omega)
  have tp := Qvb p
  rw [bs] at hS'
  simp (disch := omega) only [rq, simprocAttr, ol, kl0]
  refine Qc.flat 1 hS' rfl (by simp [QO, Qz, frzL, Qv, frzL_T _ tp]) ?_
  simp (disch := omega) only [rq, simprocAttr]
  refine Qc.vc hO' ?_
  have zl : QaU.length = 16 := rfl
  have zd : (ks .i32 QaU).drop 16 = [] := rfl
  simp (disch := omega) only [rq, simprocAttr, o8, kl, t8, Q3, ht, e9, zl, zd, List.append_nil]
  try simp [kl]
theorem QvW {L n j : Nat} (hn : 1 ≤ n) (hL : 1 ≤ L) (hj : j < (Q5 L n).length) : 1 ≤ (Q5 L n).getD j 0 := by
 rw [List.getD_eq_getElem?_getD, List.getElem?_eq_getElem hj, Option.getD_some]
 have hm := List.getElem_mem hj
 unfold Q5 at hm
 simp only [List.mem_append, List.mem_replicate, List.mem_singleton] at hm
 unfold Q5
 rcases hm with hm | hm
 ·rw [hm.2]; omega
 ·rw [hm]
  have g0 : (n - 1) / L * L ≤ n - 1 := Nat.div_mul_le_self _ _
  clear hm
  generalize (n - 1) / L * L = w at *
  omega
theorem Qwo {c x : Int} {l p : List Int} (h : QcN c x l = 0) (hs : ∀ v ∈ p, v ∈ l) (hp : 1 ≤ p.length) (hl : p.length ≤ l.length) (hc : (p.length : Int) % c = 0) : QcN c x p = 0 := by
 unfold QcN at h ⊢
 split at h
 ·cases h
 rename_i h1
 split at h
 ·rename_i h2; exact absurd h h2
 rename_i h2
 have h2' : QE x l = 0 := by simpa using h2
 have h3 : QE x p = 0 := by
  unfold QE at h2' ⊢
  split at h2'
  ·cases h2'
  rename_i a1
  split at h2'
  ·cases h2'
  rename_i a2
  split at h2'
  ·rename_i a3
   rw [if_neg a1, if_neg (by omega), if_pos (List.all_eq_true.2 fun v hv => List.all_eq_true.1 a3 v (hs v hv))]
  ·cases h2'
 rw [if_neg h1, if_neg (by rw [h3]; simp), if_neg (by omega)]
theorem Qdm {c x r : Int} {l : List Int} (h : QN c x r l = 0) : ∀ p ∈ Q4 c r l, QcN c x p = 0 ∧ p.length ≤ 4000 ∧ 1 ≤ p.length := by
 have ha : QcN c x l = 0 := by
  have h2 := Qdy (c := c) (x := x) (r := r) (l := l)
  rw [h] at h2
  by_cases h3 : QcN c x l = 0 ∧ ZH c x r (l.length / c) = 0
  ·exact h3.1
  ·rw [if_neg h3] at h2; cases h2
 obtain ⟨k, n, rfl, k1, k2, hlen, ⟨o1, o2, o3, o4, o5⟩, h4⟩ := Qae h
 intro p hp
 unfold Q4 at hp
 rw [Int.toNat_natCast, hlen, Nat.mul_div_cancel _ (by omega)] at hp
 obtain ⟨j, hj, rfl⟩ := List.mem_map.1 hp
 rw [List.mem_range] at hj
 have hL1 : 1 ≤ (QJ r).toNat := by have := Xt r; omega
 obtain ⟨m, p1, p2, p3, p4, p5, p6, p7⟩ := Qhe (j := j) hlen (by omega) hL1 hj
 have hm1 := QvW (n := n) (by omega) hL1 hj
 rw [p1] at hm1
 have hlen2 : (JO ((QJ r).toNat * k) l j).length = m * k := by
  rw [p6, List.length_take, List.length_drop, hlen]
  omega
 have hmk : 1 ≤ m * k := Nat.mul_pos (by omega) k1
 have hmn : m * k ≤ n * k := Nat.mul_le_mul_right _ p2
 refine ⟨Qwo ha (fun v hv => ?_) (by rw [hlen2]; exact hmk) (by rw [hlen2, hlen]; exact hmn) ?_, by rw [hlen2]; omega, by rw [hlen2]; exact hmk⟩
 ·rw [p6] at hv
  exact List.mem_of_mem_drop (List.mem_of_mem_take hv)
 ·rw [hlen2, Int.natCast_mul, Int.mul_emod_left]
def Qo (c x r : Int) (l : List Int) (t : List Int) : List (List UInt8) := (Q4 c r l).map (Qix c.toNat x t)
def JT (c x r : Int) (l : List Int) (p : List UInt8) : AV :=
 if QN c x r l ≠ 0 then .tup [bss [], .int .i64 8] else if 64 < p.length then .tup [bss [], .int .i64 2] else .tup [bss (Qo c x r l (ofK (Jb 0 p) 8)), .int .i64 0]
theorem QmH (c x r : Int) (l : List Int) (p : List UInt8) : isD (JT c x r l p) = true := by unfold JT; split <;> (try split) <;> simp [isD, isDL, QmJ]
theorem Qwx (d k : Nat) : I32 (ofK d k) := fun x hx => by
 unfold ofK at hx
 obtain ⟨i, _, rfl⟩ := List.mem_map.1 hx
 split
 ·have := QwR (d / 2 ^ (8 * i)); omega
 ·omega
def Qjq (P : Prg) (f : Nat) : Prop := ∀ (c x r : Int) (l : List Int) (p : List UInt8), I32 l → l.length ≤ 1000000 → VC P f [clA c x r l, .str p] (JT c x r l p)
set_option maxHeartbeats 1000000 in
theorem Qne {P : Prg} {f fC fT fP fS fE fA g t0 t1 t2 t3 t4 ti : Nat} (b : Qs8 P f 45 [.cell 4 t1, .cell 5 t2] (QaH fC fT fP fS fE t0 t1 t2 t3 t4)) (hC : Zv P fC) (hT : QsQ P fT) (hP : Qgh g P fP) (hI : Qgg ti P g) (bG : Body P g 43 [] (XC fA)) (hS : X9 P fS) (hE : Qww P fE)
  (ht1 : Z6 P t1 = some none) (ht2 : Z6 P t2 = some none) (h0 : t0 ≠ ti) (h1 : t1 ≠ ti) (h2 : t2 ≠ ti) (h3 : t3 ≠ ti) (h4 : t4 ≠ ti) : Qjq P f := by
 intro c x r l p hI32 hl
 refine VC.of_walk 2 (by simp [isDL, isD, Q8, clA]) (QmH _ _ _ _ _) (ACall.of_rangeC b (by simp) ?_)
 have hC' := hC c x r l hI32 hl
 rw [il] at hC'
 have tl := Qy .i32 l
 have z : ([.int .i32 0, .int .i32 0, .int .i32 0, .int .i32 0, .int .i32 0, .int .i32 0, .int .i32 0, .int .i32 0, .int .i32 0, .int .i32 0, .int .i32 0, .int .i32 0, .int .i32 0, .int .i32 0, .int .i32 0, .int .i32 0] : List AV) = ks .i32 QaU := rfl
 unfold QaH
 rw [z]
 have ol := QaO .i32 QaU
 have kl0 : (ks .i32 QaU).length = 16 := rfl
 rcases Qbb c x r l with h | h
 ·rw [h] at hC'
  have hT' := hT p
  simp (disch := omega) only [rq, simprocAttr, clA, il, Qcb, QdN, QaP, Qhl, QfJ, Qu9]
  refine Qc.vc hC' ?_
  simp (disch := omega) only [rq, simprocAttr, QaP, Qhl, Qcb, QdN]
  refine Qc.vc hT' ?_
  by_cases hp : 64 < p.length
  ·have e9 : JT c x r l p = .tup [bss [], .int .i64 2] := by rw [JT, if_neg (by omega), if_pos hp]
   have e8 : Qfs p = .tup [.agg (ks .i32 QaU), .int .i64 2] := by rw [Qfs, if_pos hp]
   have t0' : (ks .i32 QaU).take 16 = ks .i32 QaU := rfl
   have zl : QaU.length = 16 := rfl
   have zd : (ks .i32 QaU).drop 16 = [] := rfl
   rw [e8]
   simp (disch := omega) only [rq, simprocAttr, QaP, Qhl, Qcb, QdN, ol, kl0, t0', zl, zd, List.append_nil, e9, Q3, ht1, ht2]
   simp [QO, Qz, frzL, Qv, isDL, isD, bss]
  ·have e9 : JT c x r l p = .tup [bss (Qo c x r l (ofK (Jb 0 p) 8)), .int .i64 0] := by rw [JT, if_neg (by omega), if_neg hp]
   have e8 : Qfs p = .tup [.agg (ks .i32 (ofK (Jb 0 p) 8)), .int .i64 0] := by rw [Qfs, if_neg hp]
   obtain ⟨T, hTe⟩ : ∃ T, ofK (Jb 0 p) 8 = T := ⟨_, rfl⟩
   have hTl : T.length = 16 := by rw [← hTe, QdZ]
   have hTI : I32 T := by rw [← hTe]; exact Qwx _ _
   have oT := QaO .i32 T
   have kT : (ks .i32 T).length = 16 := by rw [Qi, hTl]
   have tT : (ks .i32 T).take 16 = ks .i32 T := List.take_of_length_le (by omega)
   have zl : QaU.length = 16 := rfl
   have zd : (ks .i32 QaU).drop 16 = [] := rfl
   rw [hTe] at e8 e9
   have hparts := Qdm h
   obtain ⟨k, n, rfl, k1, k2, hlen, hok, h4'⟩ := Qae h
   have hP' := hP k x r l
   have hI' := hI k n x r l k1 k2 hlen hok
   rw [clA] at hP'
   rw [il] at hP' hI'
   have hS' := hS k x r l
   rw [shA, il] at hS'
   rw [e8]
   simp (disch := omega) only [rq, simprocAttr, QaP, Qhl, Qcb, QdN, ol, kl0, oT, kT, zl, zd, List.append_nil]
   refine Qc.vc hP' ?_
   simp (disch := omega) only [rq, simprocAttr, QfJ]
   obtain ⟨Lc, hLc⟩ : ∃ Lc, (QJ r).toNat * k = Lc := ⟨_, rfl⟩
   rw [hLc] at hI'
   have hcnt : (Q5 (QJ r).toNat n).length ≤ 1000 := by have := hok.2.2.2.2; rwa [Int.toNat_natCast] at this
   obtain ⟨cnt, hcn⟩ : ∃ cnt, (Q5 (QJ r).toNat n).length = cnt := ⟨_, rfl⟩
   have hpo : Q4 k r l = (List.finRange cnt).map (fun j => JO Lc l j.1) := by
    unfold Q4
    rw [Int.toNat_natCast, hlen, Nat.mul_div_cancel _ (by omega), hcn, hLc]
    apply List.ext_getElem <;> simp
   rw [hcn] at hI' hcnt
   refine ⟨cnt, g, _, [ti], _, [(27, .fn (.func g) [] [.cell [.int .i64 k, .int .i64 x, .int .i64 r, .list l.length (ks .i32 l)]]), (2, .ref 0 1 0), (4, .ref 1 1 0), (5, .ref 2 1 0), (7, .ref 3 1 0), (9, .ref 4 1 0)],
    fun pre => [⟨t0, 4, 1, [.int .i64 k, .int .i64 x, .int .i64 r, .list l.length (ks .i32 l)], 0⟩, ⟨t1, 1, 1, [.list 0 []], 0⟩, ⟨t2, 1, 1, [.int .i64 0], 0⟩, ⟨t3, 16, 1, ks .i32 T, 0⟩, ⟨t1, 1, 1, [.own 5 pre.length], 0⟩, ⟨t4, 1, pre.length, pre.map (fun j => bs (Qix k x T (JO Lc l j.1))), 0⟩], ?_, rfl, bG.ent, by simp [isDL, isD, Zk], hI', by omega, by omega, rfl, ?_, ?_, ?_⟩
   ·refine Le.trans (Le.virtF (p := 4) (ty := t4) (sz := 1) (by omega) rfl rfl) (Le.drop 6 2 (by omega) rfl (by simp [Am.look, Qz, frzL, Qv, frzL_T _ tl]) ?_)
    intro i z hz
    match i, hz with
    | 0, hz => cases hz; exact ⟨_, rfl, by simp [Qz, frzL, Qv, frzL_T _ tl]⟩
    | 1, hz => cases hz; exact ⟨_, rfl, by simp [Qz, frzL, Qv]⟩
    | 2, hz => cases hz; exact ⟨_, rfl, by simp [Qz, frzL, Qv]⟩
    | 3, hz => cases hz; exact ⟨_, rfl, by simp [Qz, frzL_T _ (Qy .i32 T)]⟩
    | 4, hz => cases hz; exact ⟨_, rfl, by simp [Qz, frzL, Qv]⟩
    | 5, hz => cases hz; exact ⟨_, rfl, by simp [Qz, frzL, Qv]⟩
    | i + 6, hz => simp at hz
   ·intro pre x hx
    simp only [List.mem_cons, List.not_mem_nil, or_false] at hx ⊢
    rcases hx with rfl | rfl | rfl | rfl | rfl | rfl
    ·exact h0
    ·exact h1
    ·exact h2
    ·exact h3
    ·exact h1
    ·exact h4
   ·intro pre y hpl
    have hmem : JO Lc l y.1 ∈ Q4 k r l := by rw [hpo]; exact List.mem_map.2 ⟨y, List.mem_finRange _, rfl⟩
    obtain ⟨q1, q2, q3⟩ := hparts _ hmem
    have hqI : I32 (JO Lc l y.1) := fun v hv => hI32 v (by
     unfold JO at hv
     exact List.mem_of_mem_drop (List.mem_of_mem_take hv))
    have hE' := hE k x T (JO Lc l y.1) hTl hTI hqI
    rw [Qw9, if_neg (by omega), Int.toNat_natCast] at hE'
    obtain ⟨w1, w2⟩ := Qr9 (t := T) hqI q1
    rw [Int.toNat_natCast] at w1 w2
    have hpm : (pre.map (fun j => bs (Qix k x T (JO Lc l j.1)))).length = pre.length := by simp
    obtain ⟨Y, hYe⟩ : ∃ Y, Qix k x T (JO Lc l y.1) = Y := ⟨_, rfl⟩
    rw [hYe] at hE' w1 w2
    obtain ⟨Z, hZ⟩ : ∃ Z, JO Lc l y.1 = Z := ⟨_, rfl⟩
    rw [hZ] at hE' hqI q1 q2 q3 hYe ⊢
    rw [shA, il, bs] at hE'
    have tZ := Qy .i32 Z
    have tT2 := Qy .i32 T
    rw [il]
    simp (disch := omega) only [rq, simprocAttr, tT, kT]
    refine ZN.vc hS' ?_
    simp (disch := omega) only [rq, simprocAttr, tT, kT]
    refine ZN.vc hE' ?_
    simp (disch := omega) only [rq, simprocAttr, hpm]
    refine Le.drop 6 2 (by omega) rfl (by simp) ?_
    intro i z hz
    match i, hz with
    | 0, hz => cases hz; exact ⟨_, rfl, by simp [Qz, frzL, Qv, frzL_T _ tl]⟩
    | 1, hz => cases hz; exact ⟨_, rfl, by simp [Qz, frzL, Qv]⟩
    | 2, hz => cases hz; exact ⟨_, rfl, by simp [Qz, frzL, Qv]⟩
    | 3, hz => cases hz; exact ⟨_, rfl, by simp [Qz, frzL_T _ tT2]⟩
    | 4, hz => cases hz; exact ⟨_, rfl, by simp [Qz, frzL, Qv]⟩
    | 5, hz =>
     cases hz
     have e : (pre ++ [y]).map (fun j => bs (Qix k x T (JO Lc l j.1))) = pre.map (fun j => bs (Qix k x T (JO Lc l j.1))) ++ [.list Y.length (u8 Y)] := by
      simp only [List.map_append, List.map_cons, List.map_nil, hZ, hYe]
      rfl
     rw [e]
     refine ⟨_, rfl, frzL_T _ ?_⟩
     rw [← e]
     have := Qe5 ((pre ++ [y]).map (fun j => Qix k x T (JO Lc l j.1)))
     rwa [List.map_map] at this
    | i + 6, hz => simp at hz
   ·have hfl : (List.finRange cnt).length = cnt := by simp
    have hpi : (List.finRange cnt).map (fun j => bs (Qix k x T (JO Lc l j.1))) = (Qo k x r l T).map bs := by
     unfold Qo
     rw [hpo, List.map_map, List.map_map, Int.toNat_natCast]
     rfl
    dsimp only
    rw [hpi, hfl, e9]
    have hpl : (Qo k x r l T).length = cnt := by unfold Qo; rw [hpo]; simp
    have tp := Qe5 (Qo k x r l T)
    generalize hPP : (Qo k x r l T).map bs = PP at *
    simp (disch := omega) only [rq, simprocAttr, Q3, ht1, ht2]
    simp [QO, Qz, frzL, Qv, isDL, isD, bss, hpl, hPP, frzL_T _ tp]
 ·rw [h] at hC'
  have e9 : JT c x r l p = .tup [bss [], .int .i64 8] := by rw [JT, if_pos (by omega)]
  simp (disch := omega) only [rq, simprocAttr, clA, il, Qcb, QdN, QaP, Qhl, QfJ, Qu9]
  refine Qc.vc hC' ?_
  simp (disch := omega) only [rq, simprocAttr, QaP, Qhl, Qcb, QdN, e9, Q3, ht1, ht2]
  simp [QO, Qz, frzL, Qv, isDL, isD, bss]
theorem Qvk {L : List (List UInt8)} {k : Nat} (h : k < L.length) : (L.map bs).drop k = bs (L.getD k []) :: (L.map bs).drop (k + 1) := by
 rw [List.drop_eq_getElem_cons (by simpa using h)]
 simp [List.getD_eq_getElem?_getD, List.getElem?_eq_getElem h]
theorem Qv9 {c x r n : Int} (h : ZH c x r n = 0) : okA r n ∧ Zg c x = 0 ∧ 1 ≤ n ∧ n ≤ 4000 / c := by
 unfold ZH at h
 split at h
 ·cases h
 rename_i a1
 split at h
 ·cases h
 rename_i a2
 split at h
 ·cases h
 rename_i a3
 split at h
 ·cases h
 rename_i a4
 have a5 : Zg c x = 0 := by simpa using a1
 have a6 : QgS r n = 0 := by simpa using a4
 refine ⟨?_, a5, by omega, by omega⟩
 unfold QgS at a6
 split at a6
 ·cases a6
 split at a6
 ·cases a6
 split at a6
 ·cases a6
 rename_i b1 b2 b3
 refine ⟨by omega, by omega, by omega, by omega, ?_⟩
 have hlong : 1 ≤ QJ r := Xt r
 obtain ⟨L, hLe⟩ : ∃ L : Nat, QJ r = L := ⟨(QJ r).toNat, by omega⟩
 obtain ⟨m, rfl⟩ : ∃ m : Nat, n = m := ⟨n.toNat, by omega⟩
 rw [hLe, Int.toNat_natCast, Int.toNat_natCast, Z8]
 rw [hLe] at b3
 have h1 : (m : Int) + (L : Int) - 1 = ((m - 1 + L : Nat) : Int) := by omega
 rw [h1, ← Int.natCast_ediv, Nat.add_div_right _ (by omega)] at b3
 omega
theorem RepL.split {X : Cx} : ∀ {cs bs : List AV} {vs : List Value}, RepL X (cs ++ bs) vs → ∃ us ws, vs = us ++ ws ∧ RepL X cs us ∧ RepL X bs ws
 | [], bs, vs, h => ⟨[], vs, rfl, by simp [RepL], h⟩
 | a :: cs, bs, vs, h => by
  simp only [List.cons_append, RepL] at h
  obtain ⟨v, rest, rfl, h1, h2⟩ := h
  obtain ⟨us, ws, rfl, h3, h4⟩ := RepL.split h2
  exact ⟨v :: us, ws, rfl, by simp only [RepL]; exact ⟨v, us, rfl, h1, h3⟩, h4⟩
def ph3 : Ob := ⟨1, 1, 0, [], 0⟩
theorem Held.fill {B : Nat} {w : World} {ob : List Ob} {be : List (Option (Nat × Nat))} {C : Nat → Nat → Prop} {o : Nat} (g : Held B ⟨w, ob, be, C⟩) (ho : ob[o]? = some ph2) :
  Held B ⟨w, ob.set o ph3, be.set o none, C⟩ ∧ Moves ⟨w, ob, be, C⟩ ⟨w, ob.set o ph3, be.set o none, C⟩ := by
 have hol : o < ob.length := (List.getElem?_eq_some_iff.1 ho).1
 have hlen : be.length = ob.length := g.len
 have hav : ∀ b k, (Cx.mk w (ob.set o ph3) (be.set o none) C).av b k → (Cx.mk w ob be C).av b k := by
  rintro b k (h | ⟨o', x, c, h1, h2, h3⟩)
  ·exact .inl h
  ·simp only [List.getElem?_set] at h1 h2
   by_cases e : o = o'
   ·subst e; simp [hlen, hol] at h2
   ·simp [e] at h1 h2
    exact .inr ⟨o', x, c, h1, h2, h3⟩
 have m : Moves ⟨w, ob, be, C⟩ ⟨w, ob.set o ph3, be.set o none, C⟩ := by
  refine ⟨fun b k v hc ha => ⟨hc, fun h => ha (hav b k h)⟩, fun o' x hx => ?_, fun b hb hf => ⟨rfl, fun o' c h => ?_⟩⟩
  ·by_cases e : o = o'
   ·subst e
    have hx' : ob[o]? = some x := hx
    rw [ho] at hx'; cases hx'
    exact ⟨ph3, by simp [hol], Nat.le_refl _, fun h => absurd rfl h⟩
   ·exact ⟨x, by simp only [List.getElem?_set, e, if_false]; exact hx, Nat.le_refl _, fun h => ⟨h, fun _ => by simp only [List.getElem?_set, e, if_false]⟩⟩
  ·simp only [List.getElem?_set] at h
   by_cases e : o = o'
   ·subst e; simp [hlen, hol] at h
   ·simp [e] at h; exact hf o' c h
 refine ⟨⟨by simp [hlen], fun o' x e' hx he => ?_, fun o1 o2 b c c' q1 q2 => ?_, fun o1 b c q => ?_, g.bnd, g.size⟩, m⟩
 ·simp only [List.getElem?_set] at hx he
  by_cases e : o = o'
  ·subst e
   simp [hlen, hol] at hx he
   subst hx; subst he
   exact ⟨rfl, rfl⟩
  ·simp [e] at hx he
   exact (g.ok o' x e' hx he).move m fun _ _ _ => rfl
 ·simp only [List.getElem?_set] at q1 q2
  by_cases e : o = o1
  ·subst e; simp [hlen, hol] at q1
  ·by_cases e2 : o = o2
   ·subst e2; simp [hlen, hol] at q2
   ·simp [e] at q1; simp [e2] at q2
    exact g.inj o1 o2 b c c' q1 q2
 ·simp only [List.getElem?_set] at q
  by_cases e : o = o1
  ·subst e; simp [hlen, hol] at q
  ·simp [e] at q; exact g.base o1 b c q
theorem ACall.fill {P : Prg} {f : FuncId} {avs : List AV} {r : AV} {ob : List Ob} {o : Nat} (ho : ob[o]? = some ph2) (h : ACall P f avs ob (fun r' ob' => r' = r ∧ ob' = ob)) : ACall P f avs ob (fun r' ob' => r' = r ∧ ob' = ob.set o ph3) := by
 obtain ⟨hE, h⟩ := h
 refine ⟨hE, fun B w be C vs g hG hr => (h B w be C vs g hG hr).mono ?_⟩
 rintro e w' ⟨v, r', ob', be', rfl, hb, hh, hm, hv, rfl, rfl⟩
 obtain ⟨g1, m1⟩ := hh.fill ho
 exact ⟨v, r', _, _, rfl, hb, g1, hm.trans m1, Rep.move m1 _ _ hv, rfl, rfl⟩
theorem ZN.own {P : Prg} {B : Nat} {Q : Exit → St → Prop} {f : FuncId} {avs : List AV} {r : AV} {ob : List Ob} (o : Nat) (he : Enters P f) (h : ∀ ob', ob'[o]? = some ph2 → ACall P f avs ob' (fun r' ob'' => r' = r ∧ ob'' = ob')) (ho : ob[o]? = some ph2)
  {xs : List It} {fr : List (Nat × AV)} {dst : Option Nat} (hK : QaV P B xs Q ⟨Zr fr dst r, ob.set o ph3⟩) : ZN P B false f avs xs Q fr ob dst := by
 refine ZN.at (r := r) o ph3 he (fun ob' h' => ACall.fill h' (h ob' h')) ho (by decide) ?_
 simp only [app, if_pos (List.getElem?_eq_some_iff.1 ho).1]
 exact hK
def Qyh (L : List (List UInt8)) : Prop := L.length ≤ 1000000 ∧ ∀ j, (L.getD j []).length ≤ 1000000
def QnW (P : Prg) (f : Nat) : Prop := VC P f [] (.bool true)
theorem QrR {c x r : Int} {l : List Int} {p : List UInt8} (h : QN c x r l = 0) (hp : ¬ 64 < p.length) : JT c x r l p = .tup [bss (Qo c x r l (ofK (Jb 0 p) 8)), .int .i64 0] := by rw [JT, if_neg (by omega), if_neg hp]
theorem QbW (c x r : Int) (l T : List Int) : (Qo c x r l T).length = (Q4 c r l).length := by unfold Qo; simp
theorem callE.vo {P : Prg} {B : Nat} {Q : Exit → St → Prop} {f : FuncId} {ds : List AV} {r : AV} {x : Ob} (h : VO P f ds r x) {ob : List Ob} (o : Nat) (ho : ob[o]? = some ph2) {xs : List It} {fr : List (Nat × AV)} {dst : Option Nat} (hK : QaV P B xs Q ⟨Zr fr dst (shr o r), ob.set o x⟩) : ZN P B true f ds xs Q fr ob dst := by
 have hl : o < ob.length := (List.getElem?_eq_some_iff.1 ho).1
 have ha : app ob (some (o, x)) = ob.set o x := by simp [app, hl]
 refine ⟨shr o r, some (o, x), ?_, by rw [ha]; exact hK⟩
 unfold Qbu
 rw [if_pos rfl]
 refine ⟨ACall.of_vo_at h ho ⟨rfl, by rw [ha]⟩, fun o' y e => ?_⟩
 cases e
 exact ⟨ph2, ho, by simp [ph2, ph]⟩
theorem QpU {c x r : Int} {l : List Int} (h : QN c x r l = 0) : QcN c x l = 0 ∧ ZH c x r (l.length / c) = 0 := by
 have h' := Qdy (c := c) (x := x) (r := r) (l := l)
 rw [h] at h'
 by_cases h9 : QcN c x l = 0 ∧ ZH c x r (l.length / c) = 0
 ·exact h9
 ·rw [if_neg h9] at h'; cases h'
theorem QtY {c x r : Int} {l : List Int} (h : QN c x r l = 0) (hI : I32 l) (j : Nat) : I32 ((Q4 c r l).getD j []) := fun v hv => by
 rcases Nat.lt_or_ge j (Q4 c r l).length with hj | hj
 ·refine hI v ?_
  rw [← QdV h]
  refine List.mem_flatten.2 ⟨_, ?_, hv⟩
  rw [List.getD_eq_getElem?_getD, List.getElem?_eq_getElem hj]
  exact List.getElem_mem _
 ·rw [List.getD_eq_getElem?_getD, List.getElem?_eq_none hj] at hv
  simp at hv
theorem QrT {c x r : Int} {l T : List Int} {j : Nat} (hj : j < (Q4 c r l).length) : (Qo c x r l T).getD j [] = Qix c.toNat x T ((Q4 c r l).getD j []) := by
 unfold Qo
 rw [List.getD_eq_getElem?_getD, List.getD_eq_getElem?_getD, List.getElem?_map, List.getElem?_eq_getElem hj]
 rfl
theorem QrS {c x r : Int} {l T : List Int} (h : QN c x r l = 0) (hI : I32 l) : Qyh (Qo c x r l T) := by
 have h1 := QbW c x r l T
 have h2 := QdW h
 refine ⟨by omega, fun j => ?_⟩
 rcases Nat.lt_or_ge j (Q4 c r l).length with hj | hj
 ·rw [QrT hj]
  have hmem : (Q4 c r l).getD j [] ∈ Q4 c r l := by rw [List.getD_eq_getElem?_getD, List.getElem?_eq_getElem hj]; exact List.getElem_mem _
  have := (Qr9 (t := T) (QtY h hI j) (Qdm h _ hmem).1).1
  omega
 ·rw [List.getD_eq_getElem?_getD, List.getElem?_eq_none (by omega)]; exact Nat.zero_le _
theorem Qko {c x r : Int} {l : List Int} (h : QN c x r l = 0) (hI : I32 l) : ∀ q ∈ Q4 c r l, I32 q := fun q hq v hv => hI v (by rw [← QdV h]; exact List.mem_flatten.2 ⟨q, hq, hv⟩)
def Qly (P : Prg) (f : Nat) : Prop := ∀ (c x r : Int) (l : List Int) (p : List UInt8), I32 l → VC P f [clA c x r l, .str p] (.bool true)
def QnQ (P : Prg) (f : Nat) : Prop := ∀ p : List UInt8, VC P f [.str p] (if 64 < p.length then .tup [.int .u64 0, .int .i64 2] else .tup [.int .u64 (Jb 0 p), .int .i64 0])
theorem Qsh {P : Prg} {f fS : Nat} (bd : Body P f 16 [.tmp 2, .tmp 3] (Qak fS)) (hS : QoO P fS) : QnQ P f := by
 intro p
 refine VC.of_acall rfl (by split <;> rfl) (ACall.of_body bd (by simp) ?_)
 by_cases h : 64 < p.length
 ·rw [if_pos h]
  simp (disch := omega) only [rq, simprocAttr, Qak]
 ·have hS' := hS p
  rw [if_neg (by omega)] at hS'
  rw [if_neg h]
  rw [bs] at hS'
  simp (disch := omega) only [rq, simprocAttr, Qak]
  refine Qc.vc hS' ?_
  simp (disch := omega) only [rq, simprocAttr]
def QwB (p : List UInt8) : AV := if 64 < p.length then .tup [.list 0 [], .int .i64 2] else .tup [bs (leB (Jb 0 p) 8), .int .i64 0]
theorem Qv4 (p : List UInt8) : isD (QwB p) = true := by unfold QwB; split <;> simp [isD, isDL, QR]
def Qeh (P : Prg) (f : Nat) : Prop := ∀ p : List UInt8, VC P f [.str p] (QwB p)
theorem QkY {P : Prg} {f fO fB : Nat} (bd : Body P f 18 [.tmp 2, .tmp 3] (XB fO fB)) (hO : QnQ P fO) (hB : Xd P fB) : Qeh P f := by
 intro p
 refine VC.of_walk 1 rfl (Qv4 p) (ACall.of_body bd (by simp) ?_)
 have hO' := hO p
 by_cases h : 64 < p.length
 ·rw [if_pos h] at hO'
  rw [QwB, if_pos h]
  simp (disch := omega) only [rq, simprocAttr, XB]
  refine Qc.vc hO' ?_
  simp (disch := omega) only [rq, simprocAttr]
  simp [QO, Qz, frzL, Qv]
 ·rw [if_neg h] at hO'
  have hB' := hB (Jb 0 p) 8 (by omega) (by omega) (Qh8 (by decide))
  have tb := QC (leB (Jb 0 p) 8)
  rw [QwB, if_neg h]
  simp only [bs] at hB' ⊢
  simp (disch := omega) only [rq, simprocAttr, XB]
  refine Qc.vc hO' ?_
  simp (disch := omega) only [rq, simprocAttr]
  refine Qc.vc hB' ?_
  simp (disch := omega) only [rq, simprocAttr]
  simp [QO, Qz, frzL, Qv, frzL_T _ tb]
def Qn8 : Int → List Int → Prop
 | _, [] => True
 | m, n :: l => 5 ≤ n ∧ n ≤ m ∧ Qn8 (m - n) l
instance decSk : ∀ (m : Int) (l : List Int), Decidable (Qn8 m l)
 | _, [] => isTrue trivial
 | m, n :: l => by
  unfold Qn8
  have := decSk (m - n) l
  exact inferInstance
def skN (l : List Int) : Int := if l.length = 0 ∨ 1000 < l.length then 8 else if Qn8 100000 l then 0 else 8
def skL (m : Int) (l : List Int) : Nat → Int
 | 0 => m
 | k + 1 => skL m l k - l.getD k 0
theorem Qn7 (l : List Int) : ∀ (m : Int) , Qn8 m l ↔ ∀ k, k < l.length → 5 ≤ l.getD k 0 ∧ l.getD k 0 ≤ skL m l k := by
 induction l with
 | nil => intro m; simp [Qn8]
 | cons n l ih =>
  intro m
  have e : ∀ k, skL m (n :: l) (k + 1) = skL (m - n) l k := fun k => by
   induction k with
   | zero => simp [skL]
   | succ k ih2 =>
    show skL m (n :: l) (k + 1) - (n :: l).getD (k + 1) 0 = skL (m - n) l k - l.getD k 0
    rw [ih2]; rfl
  rw [Qn8, ih]
  constructor
  ·rintro ⟨h1, h2, h3⟩ k hk
   match k with
   | 0 => exact ⟨h1, h2⟩
   | k + 1 =>
    rw [e]
    exact h3 k (by simpa using hk)
  ·intro h
   refine ⟨(h 0 (by simp)).1, (h 0 (by simp)).2, fun k hk => ?_⟩
   have := h (k + 1) (by simpa using hk)
   rw [e] at this
   exact this
def Qgb (P : Prg) (f : Nat) : Prop := ∀ l : List Int, l.length ≤ 1000000 → (∀ v ∈ l, -9223372036854775808 ≤ v ∧ v ≤ 9223372036854775807) → VC P f [QlD l] (.int .i64 (skN l))
theorem Qmf {P : Prg} {f : Nat} (bd : Body P f 31 [.tmp 2] Xa) : Qgb P f := by
 intro l hl hv
 refine VC.of_acall (by simp [isDL, Qe6]) rfl (ACall.of_body bd (by simp) ?_)
 by_cases h1 : l.length = 0 ∨ 1000 < l.length
 ·have e8 : skN l = 8 := by rw [skN, if_pos h1]
  rw [e8]
  rcases h1 with h1 | h1
  ·simp (disch := omega) only [rq, simprocAttr, Xa, QlD]
  ·by_cases h0 : l.length = 0
   ·omega
   ·simp (disch := omega) only [rq, simprocAttr, Xa, QlD]
 have e8 : skN l = if Qn8 100000 l then 0 else 8 := by rw [skN, if_neg h1]
 rw [e8]
 clear e8
 have hiff := Qn7 l 100000
 have kl : (ks .i64 l).length = l.length := Qi _ _
 have h0 : ¬ l.length = 0 := by omega
 simp (disch := omega) only [rq, simprocAttr, Xa, QlD]
 refine QL.by (ι := Nat) (fun k => ⟨[(16, .int .i64 k), (15, .int .i64 l.length), (14, .list l.length (ks .i64 l)), (3, .int .i64 (skL 100000 l k))], []⟩) (fun k => k ≤ l.length ∧ (∀ j, j < k → 5 ≤ l.getD j 0 ∧ l.getD j 0 ≤ skL 100000 l j) ∧ 0 ≤ skL 100000 l k ∧ skL 100000 l k ≤ 100000) (fun k => l.length - k) 0 (Le.slots (by simp [Am.look, skL])) ⟨by omega, by omega, by simp [skL], by simp [skL]⟩ ?_
 rintro k ⟨hk, ha, hb, hc⟩
 by_cases hlt : k < l.length
 ·have e1 : (ks .i64 l).drop k = .int .i64 (l.getD k 0) :: (ks .i64 l).drop (k + 1) := by
   have h := Qin (K := .i64) (l := l) (i := k) hlt
   rw [← Qa6] at h
   exact h
  have hr := hv (l.getD k 0) (by rw [List.getD_eq_getElem?_getD, List.getElem?_eq_getElem hlt]; exact List.getElem_mem _)
  have hs : skL 100000 l (k + 1) = skL 100000 l k - l.getD k 0 := rfl
  by_cases g1 : l.getD k 0 < 5
  ·have hn : ¬ Qn8 100000 l := fun h => by have := (hiff.1 h k hlt).1; omega
   rw [if_neg hn]
   generalize l.getD k 0 = v at *
   simp (disch := omega) only [rq, simprocAttr, e1, kl]
  ·by_cases g2 : skL 100000 l k < l.getD k 0
   ·have hn : ¬ Qn8 100000 l := fun h => by have := (hiff.1 h k hlt).2; omega
    rw [if_neg hn]
    generalize l.getD k 0 = v at *
    simp (disch := omega) only [rq, simprocAttr, e1, kl]
   ·have ha' : ∀ j, j < k + 1 → 5 ≤ l.getD j 0 ∧ l.getD j 0 ≤ skL 100000 l j := fun j hj => by
     by_cases e : j = k
     ·subst e; omega
     ·exact ha j (by omega)
    generalize l.getD k 0 = v at *
    generalize skL 100000 l k = m at *
    simp (disch := omega) only [rq, simprocAttr, e1, kl]
    refine ⟨k + 1, ⟨by omega, ha', by omega, by omega⟩, by omega, ?_⟩
    simp only [hs]
    exact Le.slots (by simp [Am.look])
 ·have ek : k = l.length := by omega
  subst ek
  rw [if_pos (hiff.2 ha)]
  simp (disch := omega) only [rq, simprocAttr]
def Qbz (l : List Int) : List UInt8 := (l.map fun n => leB n.toNat 4).flatten
theorem QqD (l : List Int) (k : Nat) (h : k < l.length) : Qbz (l.take (k + 1)) = Qbz (l.take k) ++ leB (l.getD k 0).toNat 4 := by
 unfold Qbz
 rw [List.take_succ_eq_append_getElem h, List.map_append, List.flatten_append]
 simp [List.getD_eq_getElem?_getD, List.getElem?_eq_getElem h]
theorem Qn0 (l : List Int) : (Qbz l).length = 4 * l.length := by
 unfold Qbz
 induction l with
 | nil => rfl
 | cons a l ih => simp only [List.map_cons, List.flatten_cons, List.length_append, Qa, ih, List.length_cons]; omega
def skA (l : List Int) : AV := if skN l = 0 then .tup [bs (Jd (Qbz l)), .int .i64 0] else .tup [.list 0 [], .int .i64 (skN l)]
theorem Qv0 (l : List Int) : isD (skA l) = true := by unfold skA; split <;> simp [isD, isDL, QR]
theorem Qka (l : List Int) : skN l = 8 ∨ skN l = 0 ∧ 1 ≤ l.length ∧ l.length ≤ 1000 ∧ ∀ k, k < l.length → 5 ≤ l.getD k 0 ∧ l.getD k 0 ≤ 100000 := by
 by_cases h : l.length = 0 ∨ 1000 < l.length
 ·exact .inl (by rw [skN, if_pos h])
 ·by_cases h2 : Qn8 100000 l
  ·refine .inr ⟨by rw [skN, if_neg h, if_pos h2], by omega, by omega, fun k hk => ?_⟩
   have h3 := (Qn7 l 100000).1 h2
   have hm : ∀ k, k ≤ l.length → skL 100000 l k ≤ 100000 := fun k => by
    induction k with
    | zero => simp [skL]
    | succ k ih =>
     intro hk
     have := ih (by omega)
     have := (h3 k (by omega)).1
     simp only [skL]
     omega
   have := h3 k hk
   have := hm k (by omega)
   omega
  ·exact .inl (by rw [skN, if_neg h, if_neg h2])
def Qga (P : Prg) (f : Nat) : Prop := ∀ l : List Int, l.length ≤ 1000000 → (∀ v ∈ l, -9223372036854775808 ≤ v ∧ v ≤ 9223372036854775807) → VC P f [QlD l] (skA l)
theorem Qme {P : Prg} {f fC fP fS fB t0 tb : Nat} (bd : Body P f 38 [.tmp 2, .tmp 3] (XZ fC fP fS t0)) (hC : Qgb P fC) (bP : Body P fP 13 [] (Xg fB tb)) (hB : Xd P fB) (hS : Qlz P fS) : Qga P f := by
 intro l hl hv
 refine VC.of_walk 1 (by simp [isDL, Qe6]) (Qv0 l) (ACall.of_cut 3 bd (by simp) ?_)
 have hC' := hC l hl hv
 rw [QlD] at hC' ⊢
 rcases Qka l with h | ⟨h, n1, n2, hr⟩
 ·rw [h] at hC'
  rw [skA, if_neg (by omega), h]
  simp (disch := omega) only [rq, simprocAttr, XZ, QdL]
  refine Qc.vc hC' ?_
  simp (disch := omega) only [rq, simprocAttr, QdL]
  simp [QO, Qz, frzL, Qv]
 rw [h] at hC'
 rw [skA, if_pos h]
 have kl : (ks .i64 l).length = l.length := Qi _ _
 have tl := Qy .i64 l
 have tB := fun m => QC (Qbz (l.take m))
 have hpl : ∀ m, (Qbz (l.take m)).length ≤ 4000 := fun m => by rw [Qn0, List.length_take]; omega
 simp (disch := omega) only [rq, simprocAttr, XZ, QdL]
 refine Qc.vc hC' ?_
 simp (disch := omega) only [rq, simprocAttr, QdL]
 refine ⟨_, Le.virtF 0 tb 1 (by decide) rfl rfl, ?_⟩
 simp (disch := omega) only [rq, simprocAttr, QdL]
 refine QL.by (ι := Nat) (fun k => ⟨[(19, .int .i64 k), (18, .int .i64 l.length), (17, .list l.length (ks .i64 l)), (6, .fn (.func fP) [] [.ref 0 1 0]), (5, .ref 0 1 0)], [⟨t0, 1, 1, [.own 1 (Qbz (l.take k)).length], 0⟩, ⟨tb, 1, (Qbz (l.take k)).length, u8 (Qbz (l.take k)), 0⟩]⟩) (fun k => k ≤ l.length) (fun k => l.length - k) 0 (Le.slots (by simp [Am.look, Qbz, u8])) (by omega) ?_
 intro k hk
 have hpk := hpl k
 by_cases hlt : k < l.length
 ·have e1 : (ks .i64 l).drop k = .int .i64 (l.getD k 0) :: (ks .i64 l).drop (k + 1) := by
   have h := Qin (K := .i64) (l := l) (i := k) hlt
   rw [← Qa6] at h
   exact h
  have hs := QqD l k hlt
  have hrk := hr k hlt
  generalize hz : l.getD k 0 = z at *
  obtain ⟨z, rfl⟩ : ∃ m : Nat, z = m := ⟨z.toNat, by omega⟩
  rw [Int.toNat_natCast] at hs
  have hB' := hB z 4 (by omega) (by omega) (by simp; omega)
  rw [bs, Qa] at hB'
  have hul : (u8 (leB z 4)).length = 4 := by rw [Qr, Qa]
  have hcat : u8 (Qbz (l.take k)) ++ u8 (leB z 4) = u8 (Qbz (l.take (k + 1))) := by rw [hs]; simp [u8]
  have hlen : (Qbz (l.take k)).length + 4 = (Qbz (l.take (k + 1))).length := by rw [hs, List.length_append, Qa]
  generalize hB1 : Qbz (l.take (k + 1)) = B1 at *
  generalize Qbz (l.take k) = B0 at *
  simp (disch := omega) only [rq, simprocAttr, QdL, kl, e1]
  refine ACall.of_body bP (by simp) ?_
  simp (disch := omega) only [rq, simprocAttr, Xg]
  refine Qc.vc hB' ?_
  simp (disch := omega) only [rq, simprocAttr, hul, hcat, hlen]
  refine ⟨k + 1, by omega, by omega, ?_⟩
  simp only [hB1]
  exact Le.slots (by simp [Am.look])
 ·have ek : k = l.length := by omega
  subst ek
  rw [List.take_length] at hpk ⊢
  have tB := QC (Qbz l)
  have hS' := hS (Qbz l)
  rw [if_neg (by omega)] at hS'
  have hsm : Qdg (Qbz l) < 4294967296 := by unfold Qdg; omega
  rw [← Qdg, bs] at hS'
  have hB' := hB (Qdg (Qbz l)) 4 (by omega) (by omega) (by simpa using hsm)
  rw [bs, Qa] at hB'
  have hul : (u8 (leB (Qdg (Qbz l)) 4)).length = 4 := by rw [Qr, Qa]
  have hcat : u8 (Qbz l) ++ u8 (leB (Qdg (Qbz l)) 4) = u8 (Jd (Qbz l)) := by simp [u8, Jd]
  have hlen : (Qbz l).length + 4 = (Jd (Qbz l)).length := by rw [Jd, List.length_append, Qa]
  have tS := QC (Jd (Qbz l))
  rw [bs]
  generalize Jd (Qbz l) = B1 at *
  generalize Qdg (Qbz l) = sm at *
  generalize Qbz l = B0 at *
  simp (disch := omega) only [rq, simprocAttr, QdL, kl]
  refine Qc.still 1 [1] hS' (by simp [QO, Qz, frzL, Qv, frzL_T _ tB]) ?_
  simp (disch := omega) only [rq, simprocAttr, QdL, Qq]
  refine ACall.of_body bP (by simp) ?_
  simp (disch := omega) only [rq, simprocAttr, Xg]
  refine Qc.vc hB' ?_
  simp (disch := omega) only [rq, simprocAttr, hul, hcat, hlen, QdL]
  simp [QO, Qz, frzL, Qv, frzL_T _ tS]
def hdA (f c b r n : Int) : AV := .agg [.int .i64 f, .int .i64 c, .int .i64 b, .int .i64 r, .int .i64 n]
def shP (f c b r n : Int) : Prop := (b = 8 ∨ b = 16 ∨ b = 24) ∧ (f = 1 ∨ f = 2) ∧ 1 ≤ c ∧ c ≤ 6 ∧ 1 ≤ r ∧ r ≤ 1048576 ∧ 1 ≤ n
instance decShP (f c b r n : Int) : Decidable (shP f c b r n) := by unfold shP; exact inferInstance
def Qjl (P : Prg) (g : Nat) : Prop := ∀ f c b r n : Int, VC P g [hdA f c b r n] (.bool (decide (shP f c b r n)))
theorem Qip {P : Prg} {g t0 : Nat} (bd : Body P g 44 [.tmp 2] (QB t0)) : Qjl P g := by
 intro f c b r n
 refine VC.of_acall rfl rfl (ACall.of_body bd (by simp) ?_)
 by_cases hb : b = 8 ∨ b = 16 ∨ b = 24
 case neg =>
  have hn : decide (shP f c b r n) = false := decide_eq_false fun h => hb h.1
  rw [hn]
  simp (disch := omega) only [rq, simprocAttr, QB, hdA]
 by_cases hf : f = 1 ∨ f = 2
 case neg =>
  have hn : decide (shP f c b r n) = false := decide_eq_false fun h => hf h.2.1
  rw [hn]
  rcases hb with rfl | rfl | rfl <;> simp (disch := omega) only [rq, simprocAttr, QB, hdA]
 by_cases hc1 : 1 ≤ c
 case neg =>
  have hn : decide (shP f c b r n) = false := decide_eq_false fun h => hc1 h.2.2.1
  rw [hn]
  rcases hb with rfl | rfl | rfl <;> rcases hf with rfl | rfl <;> simp (disch := omega) only [rq, simprocAttr, QB, hdA]
 by_cases hc2 : c ≤ 6
 case neg =>
  have hn : decide (shP f c b r n) = false := decide_eq_false fun h => hc2 h.2.2.2.1
  rw [hn]
  rcases hb with rfl | rfl | rfl <;> rcases hf with rfl | rfl <;> simp (disch := omega) only [rq, simprocAttr, QB, hdA]
 by_cases hr1 : 1 ≤ r
 case neg =>
  have hn : decide (shP f c b r n) = false := decide_eq_false fun h => hr1 h.2.2.2.2.1
  rw [hn]
  rcases hb with rfl | rfl | rfl <;> rcases hf with rfl | rfl <;> simp (disch := omega) only [rq, simprocAttr, QB, hdA]
 by_cases hr2 : r ≤ 1048576
 case neg =>
  have hn : decide (shP f c b r n) = false := decide_eq_false fun h => hr2 h.2.2.2.2.2.1
  rw [hn]
  rcases hb with rfl | rfl | rfl <;> rcases hf with rfl | rfl <;> simp (disch := omega) only [rq, simprocAttr, QB, hdA]
 by_cases hn1 : 1 ≤ n
 case neg =>
  have hn : decide (shP f c b r n) = false := decide_eq_false fun h => hn1 h.2.2.2.2.2.2
  rw [hn]
  rcases hb with rfl | rfl | rfl <;> rcases hf with rfl | rfl <;> simp (disch := omega) only [rq, simprocAttr, QB, hdA]
 have hn : decide (shP f c b r n) = true := decide_eq_true ⟨hb, hf, hc1, hc2, hr1, hr2, hn1⟩
 rw [hn]
 rcases hb with rfl | rfl | rfl <;> rcases hf with rfl | rfl <;> simp (disch := omega) only [rq, simprocAttr, QB, hdA]
def Qtg (c r n : Int) : Prop := n ≤ 4000 / c ∧ QgS r n = 0
instance decFitP (c r n : Int) : Decidable (Qtg c r n) := by unfold Qtg; exact inferInstance
theorem Qsm {r n : Int} (h : QgS r n = 0) : ∃ k : Int, QfR r n = .tup [.int .i64 k, .int .i64 0] ∧ 0 ≤ k ∧ k ≤ 1000 := by
 unfold QgS at h
 unfold QfR
 split at h
 ·cases h
 rename_i a1
 split at h
 ·cases h
 rename_i a2
 split at h
 ·cases h
 rename_i a3
 rw [if_neg a1, if_neg a2, if_neg a3]
 have := Xt r
 exact ⟨_, rfl, Int.ediv_nonneg (by omega) (by omega), by omega⟩
def QsW (P : Prg) (g : Nat) : Prop := ∀ f c b r n : Int, 1 ≤ c → c ≤ 6 → VC P g [hdA f c b r n] (.bool (decide (Qtg c r n)))
theorem QmM {P : Prg} {g fC t0 : Nat} (bd : Body P g 25 [.tmp 2] (Xb fC t0)) (hC : Ja P fC) : QsW P g := by
 intro f c b r n c1 c2
 refine VC.of_acall rfl rfl (ACall.of_body bd (by simp) ?_)
 have hC' := hC r n
 have q0 : ¬ c = 0 := by omega
 have q1 : (4000 : Int).tdiv c = 4000 / c := Int.tdiv_eq_ediv_of_nonneg (by omega)
 have q2 : 0 ≤ 4000 / c := Int.ediv_nonneg (by omega) (by omega)
 have q3 : 4000 / c ≤ 4000 := Int.ediv_le_self _ (by omega)
 by_cases h1 : n ≤ 4000 / c
 case neg =>
  have hn : decide (Qtg c r n) = false := decide_eq_false fun h => h1 h.1
  rw [hn]
  generalize hQ : 4000 / c = Q at *
  have hw : IntKind.i64.wrap Q = Q := wrap_i64 (by omega) (by omega)
  simp (disch := omega) only [rq, simprocAttr, Xb, hdA, q1, hQ, hw]
 by_cases h2 : QgS r n = 0
 ·have hn : decide (Qtg c r n) = true := decide_eq_true ⟨h1, h2⟩
  rw [hn]
  obtain ⟨k, e, k1, k2⟩ := Qsm h2
  rw [e] at hC'
  generalize hQ : 4000 / c = Q at *
  have hw : IntKind.i64.wrap Q = Q := wrap_i64 (by omega) (by omega)
  simp (disch := omega) only [rq, simprocAttr, Xb, hdA, q1, hQ, hw]
  refine Qc.vc hC' ?_
  simp (disch := omega) only [rq, simprocAttr]
 ·have hn : decide (Qtg c r n) = false := decide_eq_false fun h => h2 h.2
  rw [hn]
  obtain ⟨k, e⟩ := QiG r n
  rw [e] at hC'
  generalize hQ : 4000 / c = Q at *
  have hw : IntKind.i64.wrap Q = Q := wrap_i64 (by omega) (by omega)
  generalize QgS r n = E at *
  simp (disch := omega) only [rq, simprocAttr, Xb, hdA, q1, hQ, hw]
  refine Qc.vc hC' ?_
  simp (disch := omega) only [rq, simprocAttr]
def hdN (f c b r n : Int) : Int := if shP f c b r n ∧ Qtg c r n then 0 else 8
def Qgm (P : Prg) (g : Nat) : Prop := ∀ f c b r n : Int, VC P g [hdA f c b r n] (.int .i64 (hdN f c b r n))
theorem QkE {P : Prg} {g fS fF t0 : Nat} (bd : Body P g 11 [.tmp 2] (ZQ fS fF t0)) (hS : Qjl P fS) (hF : QsW P fF) : Qgm P g := by
 intro f c b r n
 refine VC.of_acall rfl rfl (ACall.of_body bd (by simp) ?_)
 have hS' := hS f c b r n
 by_cases h1 : shP f c b r n
 case neg =>
  have e : hdN f c b r n = 8 := by rw [hdN, if_neg fun h => h1 h.1]
  rw [decide_eq_false h1] at hS'
  rw [e]
  rw [hdA] at hS' ⊢
  simp (disch := omega) only [rq, simprocAttr, ZQ]
  refine Qc.vc hS' ?_
  simp (disch := omega) only [rq, simprocAttr]
 have hF' := hF f c b r n h1.2.2.1 h1.2.2.2.1
 rw [decide_eq_true h1] at hS'
 by_cases h2 : Qtg c r n
 ·have e : hdN f c b r n = 0 := by rw [hdN, if_pos ⟨h1, h2⟩]
  rw [decide_eq_true h2] at hF'
  rw [e]
  rw [hdA] at hS' hF' ⊢
  simp (disch := omega) only [rq, simprocAttr, ZQ]
  refine Qc.vc hS' ?_
  simp (disch := omega) only [rq, simprocAttr]
  refine Qc.vc hF' ?_
  simp (disch := omega) only [rq, simprocAttr]
 ·have e : hdN f c b r n = 8 := by rw [hdN, if_neg fun h => h2 h.2]
  rw [decide_eq_false h2] at hF'
  rw [e]
  rw [hdA] at hS' hF' ⊢
  simp (disch := omega) only [rq, simprocAttr, ZQ]
  refine Qc.vc hS' ?_
  simp (disch := omega) only [rq, simprocAttr]
  refine Qc.vc hF' ?_
  simp (disch := omega) only [rq, simprocAttr]
def mkA (c x r : Int) (l : List Int) (p : List UInt8) : AV := if QN c x r l ≠ 0 then .tup [hdA 0 0 0 0 0, .int .i64 8] else if 64 < p.length then .tup [hdA 0 0 0 0 0, .int .i64 2] else .tup [hdA (if p = [] then 1 else 2) c x r (l.length / c), .int .i64 0]
theorem Qv1 (c x r : Int) (l : List Int) (p : List UInt8) : isD (mkA c x r l p) = true := by
 unfold mkA
 repeat' split
 all_goals rfl
def Qjp (P : Prg) (g : Nat) : Prop := ∀ (c x r : Int) (l : List Int) (p : List UInt8), I32 l → l.length ≤ 1000000 → VC P g [clA c x r l, .str p] (mkA c x r l p)
theorem QmN {P : Prg} {g fC t0 t1 : Nat} (bd : Body P g 35 [.cell 4 t1, .tmp 5] (ZA fC t0 t1)) (hC : Zv P fC) (ht : Z6 P t1 = some (some 5)) : Qjp P g := by
 intro c x r l p hI hl
 refine VC.of_acall (by simp [isDL, isD, Q8, clA]) (Qv1 _ _ _ _ _) (ACall.of_body bd (by simp) ?_)
 have hC' := hC c x r l hI hl
 rw [il] at hC'
 rcases Qbb c x r l with h | h
 case inr =>
  rw [h] at hC'
  rw [mkA, if_pos (by omega)]
  simp (disch := omega) only [rq, simprocAttr, ZA, clA, il]
  refine Qc.vc hC' ?_
  simp (disch := omega) only [rq, simprocAttr, Q3, ht, QU, hdA]
 rw [h] at hC'
 rw [mkA, if_neg (by omega)]
 by_cases hp : 64 < p.length
 ·rw [if_pos hp]
  simp (disch := omega) only [rq, simprocAttr, ZA, clA, il]
  refine Qc.vc hC' ?_
  simp (disch := omega) only [rq, simprocAttr, Q3, ht, QU, hdA]
 rw [if_neg hp]
 obtain ⟨k, n, rfl, k1, k2, hlen, hok, h4⟩ := Qae h
 have hk0 : (l.length : Int) / (k : Int) = n := by rw [hlen, Int.natCast_mul, Int.mul_ediv_cancel _ (by omega)]
 have hk3 : ((l.length : Int)).tdiv (k : Int) = n := by rw [Int.tdiv_eq_ediv_of_nonneg (by omega), hk0]
 have hq0 : (k : Int) ≠ 0 := by omega
 have hn4 : n ≤ 4000 := by have := hok.2.2.2.1; omega
 rw [hk0]
 by_cases hn : p = []
 ·subst hn
  simp (disch := omega) only [rq, simprocAttr, ZA, clA, il]
  refine Qc.vc hC' ?_
  simp (disch := omega) only [rq, simprocAttr, Q3, ht, QU, hdA, QjC, hk0, hk3]
 ·have hs : QjC .neq p [] = some (.bool true) := by simp [QjC, hn]
  have h2 : (if p = [] then (1 : Int) else 2) = 2 := if_neg hn
  rw [h2]
  simp (disch := omega) only [rq, simprocAttr, ZA, clA, il]
  refine Qc.vc hC' ?_
  simp (disch := omega) only [rq, simprocAttr, Q3, ht, QU, hdA, hs, hk0, hk3]
def QxF : List AV := [.int .i64 2, .int .i64 2, .int .i64 2, .int .i64 4, .int .i64 4]
def hdP (f c b r n : Nat) : Nat → List UInt8
 | 0 => [84, 84, 65, 49]
 | 1 => [84, 84, 65, 49] ++ leB f 2
 | 2 => [84, 84, 65, 49] ++ leB f 2 ++ leB c 2
 | 3 => [84, 84, 65, 49] ++ leB f 2 ++ leB c 2 ++ leB b 2
 | 4 => [84, 84, 65, 49] ++ leB f 2 ++ leB c 2 ++ leB b 2 ++ leB r 4
 | _ => [84, 84, 65, 49] ++ leB f 2 ++ leB c 2 ++ leB b 2 ++ leB r 4 ++ leB n 4
def hdB (f c b r n : Nat) : List UInt8 := Jd (hdP f c b r n 5)
theorem QrM {f c b r n : Int} (h : hdN f c b r n = 0) : ∃ f' c' b' r' n' : Nat, f = f' ∧ c = c' ∧ b = b' ∧ r = r' ∧ n = n' ∧ f' ≤ 2 ∧ c' ≤ 6 ∧ b' ≤ 24 ∧ r' ≤ 1048576 ∧ n' ≤ 4000 := by
 unfold hdN at h
 split at h
 case isFalse => cases h
 rename_i h1
 obtain ⟨⟨a1, a2, a3, a4, a5, a6, a7⟩, b1, b2⟩ := h1
 have q3 : 4000 / c ≤ 4000 := Int.ediv_le_self _ (by omega)
 exact ⟨f.toNat, c.toNat, b.toNat, r.toNat, n.toNat, by omega, by omega, by omega, by omega, by omega, by omega, by omega, by omega, by omega, by omega⟩
def hwA (f c b r n : Int) : AV := if hdN f c b r n = 0 then .tup [bs (hdB f.toNat c.toNat b.toNat r.toNat n.toNat), .int .i64 0] else .tup [.list 0 [], .int .i64 8]
theorem Qv2 (f c b r n : Int) : isD (hwA f c b r n) = true := by unfold hwA; split <;> simp [isD, isDL, QR]
theorem QrN (f c b r n : Int) : hdN f c b r n = 0 ∨ hdN f c b r n = 8 := by unfold hdN; split <;> simp
def Qgl (P : Prg) (g : Nat) : Prop := ∀ f c b r n : Int, VC P g [hdA f c b r n] (hwA f c b r n)
set_option maxHeartbeats 2000000 in
theorem QkD {P : Prg} {g fC fB fS t0 t1 g0 : Nat} (bd : Body P g 63 [.tmp 2, .tmp 3] (Xz fC fB fS t0 t1 g0)) (hC : Qgm P fC) (hB : Xd P fB) (hS : Qlz P fS) (h0 : P.G.lookup g0 = some QxF) : Qgl P g := by
 intro f c b r n
 refine VC.of_walk 1 rfl (Qv2 _ _ _ _ _) (ACall.of_body bd (by simp) ?_)
 have hC' := hC f c b r n
 have g0' : Qqe P.G g0 = .cell QxF := by simp [Qqe, h0]
 rcases QrN f c b r n with h | h
 case inr =>
  rw [h] at hC'
  rw [hwA, if_neg (by omega)]
  rw [hdA] at hC' ⊢
  simp (disch := omega) only [rq, simprocAttr, Xz]
  refine Qc.vc hC' ?_
  simp (disch := omega) only [rq, simprocAttr]
  simp [QO, Qz, frzL, Qv]
 rw [h] at hC'
 rw [hwA, if_pos h]
 obtain ⟨f, c, b, r, n, rfl, rfl, rfl, rfl, rfl, a1, a2, a3, a4, a5⟩ := QrM h
 simp only [Int.toNat_natCast]
 rw [hdA] at hC' ⊢
 have B1 := hB f 2 (by omega) (by omega) (by simp; omega)
 have B2 := hB c 2 (by omega) (by omega) (by simp; omega)
 have B3 := hB b 2 (by omega) (by omega) (by simp; omega)
 have B4 := hB r 4 (by omega) (by omega) (by simp; omega)
 have B5 := hB n 4 (by omega) (by omega) (by simp; omega)
 rw [bs, Qa] at B1 B2 B3 B4 B5
 have u2 : ∀ m, (u8 (leB m 2)).length = 2 := fun m => by rw [Qr, Qa]
 have u4 : ∀ m, (u8 (leB m 4)).length = 4 := fun m => by rw [Qr, Qa]
 have c0 : u8 (hdP f c b r n 0) ++ u8 (leB f 2) = u8 (hdP f c b r n 1) := by simp [hdP, u8]
 have c1 : u8 (hdP f c b r n 1) ++ u8 (leB c 2) = u8 (hdP f c b r n 2) := by simp [hdP, u8]
 have c2 : u8 (hdP f c b r n 2) ++ u8 (leB b 2) = u8 (hdP f c b r n 3) := by simp [hdP, u8]
 have c3 : u8 (hdP f c b r n 3) ++ u8 (leB r 4) = u8 (hdP f c b r n 4) := by simp [hdP, u8]
 have c4 : u8 (hdP f c b r n 4) ++ u8 (leB n 4) = u8 (hdP f c b r n 5) := by simp [hdP, u8]
 have l0 : (hdP f c b r n 0).length = 4 := rfl
 have l1 : (hdP f c b r n 1).length = 6 := by simp [hdP, Qa]
 have l2 : (hdP f c b r n 2).length = 8 := by simp [hdP, Qa]
 have l3 : (hdP f c b r n 3).length = 10 := by simp [hdP, Qa]
 have l4 : (hdP f c b r n 4).length = 14 := by simp [hdP, Qa]
 have l5 : (hdP f c b r n 5).length = 18 := by simp [hdP, Qa]
 have e0 : u8 (hdP f c b r n 0) = [.int .u8 84, .int .u8 84, .int .u8 65, .int .u8 49] := rfl
 have hcat : u8 (hdP f c b r n 5) ++ u8 (leB (Qdg (hdP f c b r n 5)) 4) = u8 (hdB f c b r n) := by simp [u8, hdB, Jd]
 have hlen : (hdB f c b r n).length = 22 := by rw [hdB, Jd, List.length_append, Qa, l5]
 have hS' := hS (hdP f c b r n 5)
 rw [if_neg (by omega), ← Qdg, bs, l5] at hS'
 have hsm : Qdg (hdP f c b r n 5) < 4294967296 := by unfold Qdg; omega
 have B6 := hB (Qdg (hdP f c b r n 5)) 4 (by omega) (by omega) (by simpa using hsm)
 rw [bs, Qa] at B6
 have t5 := QC (hdP f c b r n 5)
 have tb := QC (hdB f c b r n)
 rw [bs, hlen]
 obtain ⟨H, hH⟩ : ∃ H, H = hdP f c b r n := ⟨_, rfl⟩
 rw [← hH] at c0 c1 c2 c3 c4 l0 l1 l2 l3 l4 l5 e0 hcat hS' hsm B6 t5
 generalize Qdg (H 5) = sm at *
 generalize hdB f c b r n = D at *
 have g0'' : Qqe P.G g0 = .cell [.int .i64 2, .int .i64 2, .int .i64 2, .int .i64 4, .int .i64 4] := g0'
 simp (disch := omega) only [rq, simprocAttr, Xz]
 refine Qc.vc hC' ?_
 simp (disch := omega) only [rq, simprocAttr]
 refine QL.by (ι := Nat) (fun j => ⟨[(32, .int .i64 j), (31, .agg [.int .i64 f, .int .i64 c, .int .i64 b, .int .i64 r, .int .i64 n]), (5, .own 1 (H j).length)], [⟨t0, 5, 1, [.int .i64 f, .int .i64 c, .int .i64 b, .int .i64 r, .int .i64 n], 0⟩, ⟨t1, 1, (H j).length, u8 (H j), 1⟩]⟩) (fun j => j ≤ 5) (fun j => 5 - j) 0 ?_ (by omega) ?_
 ·simp only [e0, l0]
  exact Le.slots (by simp [Am.look])
 intro j hj
 have hj5 : j = 0 ∨ j = 1 ∨ j = 2 ∨ j = 3 ∨ j = 4 ∨ j = 5 := by omega
 rcases hj5 with rfl | rfl | rfl | rfl | rfl | rfl
 ·simp (disch := omega) only [rq, simprocAttr, g0'', l0]
  refine Qc.vc B1 ?_
  simp (disch := omega) only [rq, simprocAttr, u2, c0]
  exact ⟨1, by omega, by omega, by rw [l1]; exact Le.slots (by simp [Am.look])⟩
 ·simp (disch := omega) only [rq, simprocAttr, g0'', l1]
  refine Qc.vc B2 ?_
  simp (disch := omega) only [rq, simprocAttr, u2, c1]
  exact ⟨2, by omega, by omega, by rw [l2]; exact Le.slots (by simp [Am.look])⟩
 ·simp (disch := omega) only [rq, simprocAttr, g0'', l2]
  refine Qc.vc B3 ?_
  simp (disch := omega) only [rq, simprocAttr, u2, c2]
  exact ⟨3, by omega, by omega, by rw [l3]; exact Le.slots (by simp [Am.look])⟩
 ·simp (disch := omega) only [rq, simprocAttr, g0'', l3]
  refine Qc.vc B4 ?_
  simp (disch := omega) only [rq, simprocAttr, u4, c3]
  exact ⟨4, by omega, by omega, by rw [l4]; exact Le.slots (by simp [Am.look])⟩
 ·simp (disch := omega) only [rq, simprocAttr, g0'', l4]
  refine Qc.vc B5 ?_
  simp (disch := omega) only [rq, simprocAttr, u4, c4]
  exact ⟨5, by omega, by omega, by rw [l5]; exact Le.slots (by simp [Am.look])⟩
 ·simp (disch := omega) only [rq, simprocAttr, l5]
  refine Qc.flat 1 hS' rfl (by simp [QO, Qz, frzL, Qv, frzL_T _ t5]) ?_
  simp (disch := omega) only [rq, simprocAttr]
  refine Qc.vc B6 ?_
  simp (disch := omega) only [rq, simprocAttr, u4, hcat]
  simp [QO, Qz, frzL, Qv, frzL_T _ tb]
def QbF (L : List (List UInt8)) : List Int := L.map fun b => (b.length : Int)
theorem Qe4 (L : List (List UInt8)) : (QbF L).length = L.length := by simp [QbF]
def QsU (P : Prg) (f : Nat) : Prop := ∀ b : List UInt8, VC P f [bs b] (.int .i64 b.length)
theorem Qiw {P : Prg} {f : Nat} (bd : Body P f 5 [.tmp 2] Jn) : QsU P f := by
 intro b
 refine VC.of_acall (by simp [isDL, QR]) rfl (ACall.of_body bd (by simp) ?_)
 simp (disch := omega) only [rq, simprocAttr, Jn, bs]
def QsZ (g : Nat) (P : Prg) (f : Nat) : Prop := ∀ L : List (List UInt8), L.length ≤ 1000000 → (∀ j, (L.getD j []).length ≤ 1000000) → VC P f [bss L, .fn (.func g) [] []] (QlD (QbF L))
theorem QmX {P : Prg} {f g t0 : Nat} (bd : Body P f 26 [.tmp 4] (Zt t0)) (hg : QsU P g) : QsZ g P f := by
 intro L hL hL2
 refine VC.of_walk 1 (by simp [isDL, isD, QmJ]) (Qe6 _) (ACall.of_body bd (by simp) ?_)
 have hmb : (L.map bs).length = L.length := by simp
 have hz : Qe [.int .i64 0] L.length = ks .i64 ((QbF L).take 0 ++ List.replicate (L.length - 0) 0) := by rw [Qre]; simp
 have tl := Qy .i64 (QbF L)
 have hll := Qe4 L
 rw [QlD, hll, bss]
 simp (disch := omega) only [rq, simprocAttr, Zt, hz]
 refine QL.by (ι := Nat) (fun k => ⟨[(13, .int .i64 k), (12, .int .i64 L.length), (11, .list L.length (L.map bs)), (5, .own 0 L.length), (1, .fn (.func g) [] [])], [⟨t0, 1, L.length, ks .i64 ((QbF L).take k ++ List.replicate (L.length - k) 0), 0⟩]⟩) (fun k => k ≤ L.length) (fun k => L.length - k) 0 (Le.slots (by simp [Am.look])) (by omega) ?_
 intro k hk
 have hkl : (ks .i64 ((QbF L).take k ++ List.replicate (L.length - k) 0)).length = L.length := by rw [Qi, List.length_append, List.length_take, hll, List.length_replicate]; omega
 by_cases hlt : k < L.length
 ·have e1 := Qvk (L := L) (k := k) hlt
  have hg' := hg (L.getD k [])
  have hst : (ks .i64 ((QbF L).take k ++ List.replicate (L.length - k) 0)).take k ++ .int .i64 ((L.getD k []).length : Int) :: (ks .i64 ((QbF L).take k ++ List.replicate (L.length - k) 0)).drop (k + 1) = ks .i64 ((QbF L).take (k + 1) ++ List.replicate (L.length - (k + 1)) 0) := by
   have hq : (QbF L)[k]? = some ((L.getD k []).length : Int) := by simp [QbF, List.getD_eq_getElem?_getD, List.getElem?_eq_getElem hlt]
   have htk : (QbF L).take (k + 1) = (QbF L).take k ++ [((L.getD k []).length : Int)] := by rw [List.take_add_one, hq]; rfl
   have hl1 : ((QbF L).take k).length = k := by rw [List.length_take, hll]; omega
   rw [QrF, Qa6, htk, List.take_append_of_le_length (by omega), List.take_of_length_le (by omega), List.drop_append, List.drop_eq_nil_of_le (by omega), hl1, List.drop_replicate, List.nil_append]
   simp only [ks, List.map_append, List.map_cons, List.map_nil, List.append_assoc, List.cons_append, List.nil_append]
   rw [show L.length - k - (k + 1 - k) = L.length - (k + 1) by omega]
  have hst2 : (ks .i64 ((QbF L).take k ++ List.replicate (L.length - k) 0)).take k ++ [.int .i64 ((L.getD k []).length : Int)] ++ (ks .i64 ((QbF L).take k ++ List.replicate (L.length - k) 0)).drop (k + 1) = ks .i64 ((QbF L).take (k + 1) ++ List.replicate (L.length - (k + 1)) 0) := by rw [← hst]; simp
  rw [bs] at e1 hg'
  have hl2 := hL2 k
  generalize L.getD k [] = b at *
  simp (disch := omega) only [rq, simprocAttr, e1, hmb, hkl]
  refine Qc.vc hg' ?_
  simp (disch := omega) only [rq, simprocAttr, hkl, hst, hst2]
  exact ⟨k + 1, by omega, by omega, Le.slots (by simp [Am.look])⟩
 ·have ek : k = L.length := by omega
  subst ek
  have e0 : (QbF L).take L.length ++ List.replicate (L.length - L.length) (0 : Int) = QbF L := by rw [← hll, List.take_length]; simp
  rw [e0]
  simp (disch := omega) only [rq, simprocAttr]
  simp [QO, Qz, frzL, Qv, frzL_T _ tl]
def QnN (P : Prg) (f : Nat) : Prop := ∀ L : List (List UInt8), L.length ≤ 1000000 → L.flatten.length ≤ 1000000 → VC P f [bss L] (bs L.flatten)
theorem QmW {P : Prg} {f t0 : Nat} (bd : Body P f 17 [.tmp 2] (QaD t0)) : QnN P f := by
 intro L hL hF
 refine VC.of_walk 1 (by simp [isDL, QmJ]) (QR _) (ACall.of_cut 2 bd (by simp) ?_)
 have hmb : (L.map bs).length = L.length := by simp
 rw [bs, bss]
 simp (disch := omega) only [rq, simprocAttr, QaD, QdL]
 refine ⟨_, Le.virt 3 t0 1 (by decide) rfl, ?_⟩
 simp (disch := omega) only [rq, simprocAttr, QdL]
 refine QL.by (ι := Nat) (fun k => ⟨[(8, .int .i64 k), (7, .int .i64 L.length), (6, .list L.length (L.map bs)), (3, .own 0 (L.take k).flatten.length)], [⟨t0, 1, (L.take k).flatten.length, u8 (L.take k).flatten, 0⟩]⟩) (fun k => k ≤ L.length) (fun k => L.length - k) 0 (Le.slots (by simp [Am.look, u8])) (by omega) ?_
 intro k hk
 have hle : (L.take k).flatten.length ≤ L.flatten.length := by
  conv => rhs; rw [← List.take_append_drop k L, List.flatten_append, List.length_append]
  omega
 by_cases hlt : k < L.length
 ·have e1 := Qvk (L := L) (k := k) hlt
  have hs : (L.take (k + 1)).flatten = (L.take k).flatten ++ L.getD k [] := by
   rw [List.take_succ_eq_append_getElem hlt, List.flatten_append]
   simp [List.getD_eq_getElem?_getD, List.getElem?_eq_getElem hlt]
  have hle2 : (L.take (k + 1)).flatten.length ≤ L.flatten.length := by
   conv => rhs; rw [← List.take_append_drop (k + 1) L, List.flatten_append, List.length_append]
   omega
  rw [hs, List.length_append] at hle2
  have hcat : u8 (L.take k).flatten ++ u8 (L.getD k []) = u8 (L.take (k + 1)).flatten := by rw [hs]; simp [u8]
  have hlen : (L.take k).flatten.length + (L.getD k []).length = (L.take (k + 1)).flatten.length := by rw [hs, List.length_append]
  have hbl : (u8 (L.getD k [])).length = (L.getD k []).length := Qr _
  rw [bs] at e1
  generalize hY : (L.take (k + 1)).flatten = Y at *
  generalize L.getD k [] = b at *
  generalize (L.take k).flatten = X at *
  simp (disch := omega) only [rq, simprocAttr, QdL, e1, hmb, hbl, hcat, hlen]
  refine ⟨k + 1, by omega, by omega, ?_⟩
  simp only [hY]
  exact Le.slots (by simp [Am.look])
 ·have ek : k = L.length := by omega
  subst ek
  have tF := QC L.flatten
  rw [List.take_length]
  simp (disch := omega) only [rq, simprocAttr, QdL]
  simp [QO, Qz, frzL, Qv, frzL_T _ tF]
theorem Qn6 : ∀ {l : List Int} {m : Int}, Qn8 m l → l.sum ≤ m ∨ l = []
 | [], _, _ => .inr rfl
 | n :: l, m, h => by
  obtain ⟨h1, h2, h3⟩ := h
  rcases Qn6 h3 with h4 | h4
  ·left; rw [List.sum_cons]; omega
  ·left; subst h4; simp; omega
theorem Qh4 : ∀ L : List (List UInt8), (QbF L).sum = (L.flatten.length : Int)
 | [] => rfl
 | b :: L => by
  have h := Qh4 L
  simp only [QbF, List.map_cons, List.sum_cons, List.flatten_cons, List.length_append] at h ⊢
  omega
def QjH (p : List UInt8) : Int := if p = [] then 1 else 2
theorem Qov {c x r : Int} {l : List Int} (p : List UInt8) (h : QN c x r l = 0) : hdN (QjH p) c x r (l.length / c) = 0 := by
 obtain ⟨h1, h2⟩ := QpU h
 obtain ⟨⟨o1, o2, o3, o4, o5⟩, he, hn1, hn2⟩ := Qv9 h2
 have hce : QgS r (l.length / c) = 0 := by
  rw [QfL] at h2
  by_cases h9 : Qbf c x (l.length / c) = 0 ∧ QgS r (l.length / c) = 0
  ·exact h9.2
  ·rw [if_neg h9] at h2; cases h2
 have hc : ZL x ≠ 0 ∧ 1 ≤ c ∧ c ≤ 6 := by
  rcases Zf c x with q | ⟨q, a, b, d⟩
  ·omega
  ·exact ⟨by omega, by omega, by omega⟩
 have hx := (Qas x).1 hc.1
 rw [hdN, if_pos ⟨⟨hx, by unfold QjH; split <;> simp, hc.2.1, hc.2.2, o1, o2, hn1⟩, hn2, hce⟩]
def Qwz (p : List UInt8) : List UInt8 := if p = [] then [] else leB (Jb 0 p) 8
def QfN (c x r : Int) (l : List Int) (p : List UInt8) : List UInt8 :=
 hdB (QjH p).toNat c.toNat x.toNat r.toNat (l.length / c.toNat) ++ (Qwz p ++ (Jd (Qbz (QbF (Qo c x r l (ofK (Jb 0 p) 8)))) ++ (Qo c x r l (ofK (Jb 0 p) 8)).flatten))
def QbX (c x r : Int) (l : List Int) (p : List UInt8) : AV :=
 if QN c x r l ≠ 0 then .tup [.list 0 [], .int .i64 8] else if 64 < p.length then .tup [.list 0 [], .int .i64 2] else if skN (QbF (Qo c x r l (ofK (Jb 0 p) 8))) ≠ 0 then .tup [.list 0 [], .int .i64 8] else .tup [bs (QfN c x r l p), .int .i64 0]
theorem Qot (c x r : Int) (l : List Int) (p : List UInt8) : isD (QbX c x r l p) = true := by
 unfold QbX
 repeat' split
 all_goals simp [isD, isDL, QR]
def Qeg (P : Prg) (f : Nat) : Prop := ∀ (c x r : Int) (l : List Int) (p : List UInt8), I32 l → l.length ≤ 1000000 → VC P f [clA c x r l, .str p] (QbX c x r l p)
set_option maxHeartbeats 2000000 in
theorem QmZ {P : Prg} {f fM fF fW fD fE fg fS fJ t0 t1 t2 : Nat} (bd : Body P f 62 [.tmp 4, .tmp 5] (Q0 fM fF fW fD fE fg fS fJ t0 t1 t2)) (hM : Qjp P fM) (hF : Qjq P fF) (hW : Qgl P fW) (hD : Qeh P fD) (hE : QsZ fg P fE) (hS : Qga P fS) (hJ : QnN P fJ) : Qeg P f := by
 intro c x r l p hI hl
 refine VC.of_walk 1 (by simp [isDL, isD, Q8, clA]) (Qot _ _ _ _ _) (ACall.of_body bd (by simp) ?_)
 have hM' := hM c x r l p hI hl
 have tl := Qy .i32 l
 rcases Qbb c x r l with h | h
 case inr =>
  rw [mkA, if_pos (by omega), hdA] at hM'
  rw [QbX, if_pos (by omega)]
  rw [clA, il] at hM' ⊢
  simp (disch := omega) only [rq, simprocAttr, Q0]
  refine Qc.vc hM' ?_
  simp (disch := omega) only [rq, simprocAttr]
  simp [QO, Qz, frzL, Qv]
 rw [mkA, if_neg (by omega)] at hM'
 rw [QbX, if_neg (by omega)]
 by_cases hp : 64 < p.length
 ·rw [if_pos hp, hdA] at hM'
  rw [if_pos hp]
  rw [clA, il] at hM' ⊢
  simp (disch := omega) only [rq, simprocAttr, Q0]
  refine Qc.vc hM' ?_
  simp (disch := omega) only [rq, simprocAttr]
  simp [QO, Qz, frzL, Qv]
 rw [if_neg hp, ← QjH] at hM'
 rw [if_neg hp]
 have hF' := hF c x r l p hI hl
 rw [QrR h hp] at hF'
 have hW' := hW (QjH p) c x r (l.length / c)
 rw [hwA, if_pos (Qov p h)] at hW'
 have hD' := hD p
 rw [QwB, if_neg hp] at hD'
 have hfr := QrS (T := ofK (Jb 0 p) 8) h hI
 have hfl := QbW c x r l (ofK (Jb 0 p) 8)
 have hple := QdW h
 obtain ⟨k, n, rfl, k1, k2, hlen, hok, h4⟩ := Qae h
 have hk0 : (l.length : Int) / (k : Int) = n := by rw [hlen, Int.natCast_mul, Int.mul_ediv_cancel _ (by omega)]
 have hk1 : l.length / k = n := by rw [hlen, Nat.mul_div_cancel _ (by omega)]
 simp only [QfN, Int.toNat_natCast, hk0, hk1] at hM' hW' ⊢
 have hE' := hE (Qo k x r l (ofK (Jb 0 p) 8)) hfr.1 hfr.2
 have hv : ∀ v ∈ QbF (Qo k x r l (ofK (Jb 0 p) 8)), -9223372036854775808 ≤ v ∧ v ≤ 9223372036854775807 := fun v hv => by
  obtain ⟨b, hb, rfl⟩ := List.mem_map.1 hv
  obtain ⟨i, hi, rfl⟩ := List.mem_iff_getElem.1 hb
  have := hfr.2 i
  rw [List.getD_eq_getElem?_getD, List.getElem?_eq_getElem hi] at this
  simp only [Option.getD_some] at this
  omega
 have hS' := hS (QbF (Qo k x r l (ofK (Jb 0 p) 8))) (by rw [Qe4]; omega) hv
 have hff := Qh4 (Qo k x r l (ofK (Jb 0 p) 8))
 have hll := Qe4 (Qo k x r l (ofK (Jb 0 p) 8))
 have htl := Qn0 (QbF (Qo k x r l (ofK (Jb 0 p) 8)))
 have hJ0 := fun A B C hx hy => hJ (A :: B :: C :: Qo k x r l (ofK (Jb 0 p) 8)) hx hy
 generalize Qo k x r l (ofK (Jb 0 p) 8) = FF at *
 generalize hHd : hdB (QjH p).toNat k x.toNat r.toNat n = HD at *
 have hHl : HD.length = 22 := by
  rw [← hHd, hdB, Jd, List.length_append, Qa]
  simp [hdP, Qa]
 rw [QlD, hll] at hE' hS'
 have hmf : (FF.map bs).length = FF.length := by simp
 have tF := Qe5 FF
 have kn : (ks .i64 (QbF FF)).length = FF.length := by rw [Qi, hll]
 rw [bss] at hF' hE'
 simp only [clA, il, hdA] at hM' hF' hW' ⊢
 rcases Qka (QbF FF) with hs | ⟨hs, s1, s2, s3⟩
 ·rw [skA, if_neg (by omega), hs] at hS'
  rw [if_pos (by omega)]
  by_cases hn : p = []
  ·have hf : QjH p = 1 := by rw [QjH, if_pos hn]
   rw [hf] at hM' hW'
   simp (disch := omega) only [rq, simprocAttr, Q0]
   refine Qc.vc hM' ?_
   simp (disch := omega) only [rq, simprocAttr]
   refine Qc.vc hF' ?_
   simp (disch := omega) only [rq, simprocAttr]
   refine Qc.vc hW' ?_
   simp (disch := omega) only [rq, simprocAttr]
   refine Qc.vc hE' ?_
   simp (disch := omega) only [rq, simprocAttr]
   refine Qc.vc hS' ?_
   simp (disch := omega) only [rq, simprocAttr]
   simp [QO, Qz, frzL, Qv]
  ·have hf : QjH p = 2 := by rw [QjH, if_neg hn]
   rw [hf] at hM' hW'
   simp (disch := omega) only [rq, simprocAttr, Q0]
   refine Qc.vc hM' ?_
   simp (disch := omega) only [rq, simprocAttr]
   refine Qc.vc hF' ?_
   simp (disch := omega) only [rq, simprocAttr]
   refine Qc.vc hW' ?_
   simp (disch := omega) only [rq, simprocAttr]
   refine Qc.vc hD' ?_
   simp (disch := omega) only [rq, simprocAttr]
   refine Qc.vc hE' ?_
   simp (disch := omega) only [rq, simprocAttr]
   refine Qc.vc hS' ?_
   simp (disch := omega) only [rq, simprocAttr]
   simp [QO, Qz, frzL, Qv]
 ·rw [skA, if_pos hs] at hS'
  rw [if_neg (by omega)]
  have hsum : FF.flatten.length ≤ 100000 := by
   have hok2 : Qn8 100000 (QbF FF) := by
    unfold skN at hs
    split at hs
    ·cases hs
    split at hs
    ·assumption
    ·cases hs
   rcases Qn6 hok2 with q | q
   ·rw [hff] at q; omega
   ·rw [q] at s1; simp at s1
  have hTb : (Jd (Qbz (QbF FF))).length ≤ 5000 := by rw [Jd, List.length_append, Qa, htl]; omega
  have tH := QC HD
  have tT := QC (Jd (Qbz (QbF FF)))
  generalize Jd (Qbz (QbF FF)) = TB at *
  by_cases hn : p = []
  ·have hf : QjH p = 1 := by rw [QjH, if_pos hn]
   have hsb : Qwz p = [] := by rw [Qwz, if_pos hn]
   rw [hf] at hM' hW'
   rw [hsb, List.nil_append]
   have hJ' := hJ0 HD [] TB (by simp only [List.length_cons]; omega) (by simp only [List.flatten_cons, List.length_append, List.length_nil]; omega)
   simp only [List.flatten_cons, List.nil_append] at hJ'
   have tX := QC (HD ++ (TB ++ FF.flatten))
   generalize HD ++ (TB ++ FF.flatten) = XX at *
   simp only [bss, bs, List.map_cons, List.length_cons, Qep, List.length_nil] at hJ' hW' hS' ⊢
   simp (disch := omega) only [rq, simprocAttr, Q0]
   refine Qc.vc hM' ?_
   simp (disch := omega) only [rq, simprocAttr]
   refine Qc.vc hF' ?_
   simp (disch := omega) only [rq, simprocAttr]
   refine Qc.vc hW' ?_
   simp (disch := omega) only [rq, simprocAttr]
   refine Qc.vc hE' ?_
   simp (disch := omega) only [rq, simprocAttr]
   refine Qc.vc hS' ?_
   simp (disch := omega) only [rq, simprocAttr, hmf]
   refine Qc.still 1 [2] hJ' (by simp [QO, Qz, frzL, Qv, frzL_T _ tH, frzL_T _ tT, frzL_T _ tF]; omega) ?_
   simp (disch := omega) only [rq, simprocAttr]
   simp [QO, Qz, frzL, Qv, frzL_T _ tX]
  ·have hf : QjH p = 2 := by rw [QjH, if_neg hn]
   have hsb : Qwz p = leB (Jb 0 p) 8 := by rw [Qwz, if_neg hn]
   rw [hf] at hM' hW'
   rw [hsb]
   have hJ' := hJ0 HD (leB (Jb 0 p) 8) TB (by simp only [List.length_cons]; omega) (by simp only [List.flatten_cons, List.length_append, Qa]; omega)
   simp only [List.flatten_cons] at hJ'
   have tX := QC (HD ++ (leB (Jb 0 p) 8 ++ (TB ++ FF.flatten)))
   have tS := QC (leB (Jb 0 p) 8)
   have l8 : (leB (Jb 0 p) 8).length = 8 := Qa _ _
   generalize HD ++ (leB (Jb 0 p) 8 ++ (TB ++ FF.flatten)) = XX at *
   generalize leB (Jb 0 p) 8 = SB at *
   simp only [bss, bs, List.map_cons, List.length_cons] at hJ' hW' hS' hD' ⊢
   simp (disch := omega) only [rq, simprocAttr, Q0]
   refine Qc.vc hM' ?_
   simp (disch := omega) only [rq, simprocAttr]
   refine Qc.vc hF' ?_
   simp (disch := omega) only [rq, simprocAttr]
   refine Qc.vc hW' ?_
   simp (disch := omega) only [rq, simprocAttr]
   refine Qc.vc hD' ?_
   simp (disch := omega) only [rq, simprocAttr]
   refine Qc.vc hE' ?_
   simp (disch := omega) only [rq, simprocAttr]
   refine Qc.vc hS' ?_
   simp (disch := omega) only [rq, simprocAttr, hmf]
   refine Qc.still 1 [2] hJ' (by simp [QO, Qz, frzL, Qv, frzL_T _ tH, frzL_T _ tT, frzL_T _ tF, frzL_T _ tS]; omega) ?_
   simp (disch := omega) only [rq, simprocAttr]
   simp [QO, Qz, frzL, Qv, frzL_T _ tX]
def QtD (c x r : Int) (l : List Int) (p : List UInt8) : AV := match QbX c x r l p with
 | .tup [.list n _, e] => .tup [.int .i64 n, e]
 | v => v
theorem Qfx (c x r : Int) (l : List Int) (p : List UInt8) : ∃ (b : List UInt8) (e : Int), QbX c x r l p = .tup [bs b, .int .i64 e] ∧ QtD c x r l p = .tup [.int .i64 b.length, .int .i64 e] := by
 unfold QtD QbX
 split
 ·exact ⟨[], 8, rfl, rfl⟩
 split
 ·exact ⟨[], 2, rfl, rfl⟩
 split
 ·exact ⟨[], 8, rfl, rfl⟩
 ·exact ⟨_, 0, rfl, rfl⟩
def Qjv (P : Prg) (f : Nat) : Prop := ∀ (c x r : Int) (l : List Int) (p : List UInt8), I32 l → l.length ≤ 1000000 → VC P f [clA c x r l, .str p] (QtD c x r l p)
theorem QmY {P : Prg} {f fF t0 : Nat} (bd : Body P f 17 [.tmp 4, .tmp 5] (QaE fF t0)) (hF : Qeg P fF) : Qjv P f := by
 intro c x r l p hI hl
 obtain ⟨b, e, h1, h2⟩ := Qfx c x r l p
 rw [h2]
 refine VC.of_acall (by simp [isDL, isD, Q8, clA]) rfl (ACall.of_body bd (by simp) ?_)
 have hF' := hF c x r l p hI hl
 rw [h1] at hF'
 rw [clA, il] at hF' ⊢
 rw [bs] at hF'
 simp (disch := omega) only [rq, simprocAttr, QaE]
 refine Qc.vc hF' ?_
 simp (disch := omega) only [rq, simprocAttr]
theorem Qwe {c x : Int} {t l : List Int} (hL : I32 l) (h : QcN c x l = 0) : (Qix c.toNat x t l).length ≤ 11 * l.length + 5 := by
 obtain ⟨k, m, rfl, hkM, hx, e1, e2, e3, e4, e5, e6⟩ := QnD hL h
 have hvl := QhA k x t l
 obtain ⟨_, q2, _⟩ := Qcm (c := k) (QlM k x t l) (QuV k x t l).length
 rw [Int.toNat_natCast, Qix, Qke, Qiq]
 unfold nB
 omega
theorem QqW : ∀ (l : List Int) (m : Int), (∀ v ∈ l, 5 ≤ v) → l.sum ≤ m → Qn8 m l
 | [], _, _, _ => trivial
 | n :: l, m, h, hs => by
  have h1 := h n List.mem_cons_self
  rw [List.sum_cons] at hs
  have hn : 0 ≤ l.sum := by
   have : ∀ l : List Int, (∀ v ∈ l, 5 ≤ v) → 0 ≤ l.sum := fun l => by
    induction l with
    | nil => intro _; simp
    | cons a l ih =>
     intro h
     have := h a List.mem_cons_self
     have := ih fun v hv => h v (List.mem_cons_of_mem _ hv)
     rw [List.sum_cons]; omega
   exact this l fun v hv => h v (List.mem_cons_of_mem _ hv)
  exact ⟨h1, by omega, QqW l (m - n) (fun v hv => h v (List.mem_cons_of_mem _ hv)) (by omega)⟩
theorem Qr2 {c x : Int} {T : List Int} : ∀ S : List (List Int), (∀ q ∈ S, I32 q ∧ QcN c x q = 0) → ((S.map (Qix c.toNat x T)).flatten.length ≤ 11 * S.flatten.length + 5 * S.length)
 | [], _ => by simp
 | q :: S, h => by
  have h1 := Qr2 (T := T) S fun p hp => h p (List.mem_cons_of_mem _ hp)
  obtain ⟨h2, h3⟩ := h q List.mem_cons_self
  have h4 := Qwe (t := T) h2 h3
  rw [List.map_cons, List.flatten_cons, List.flatten_cons, List.length_append, List.length_append, List.length_cons]
  omega
theorem QqV {c x r : Int} {l T : List Int} (h : QN c x r l = 0) (hI : I32 l) : skN (QbF (Qo c x r l T)) = 0 ∧ (Qo c x r l T).flatten.length ≤ 49000 := by
 have hple := QdW h
 have hfl := QbW c x r l T
 have hpl := QfB c r l
 have hf := Qr2 (T := T) (Q4 c r l) fun q hq => ⟨Qko h hI q hq, (Qdm h q hq).1⟩
 rw [QdV h] at hf
 have h4 : l.length ≤ 4000 := by obtain ⟨_, _, _, _, _, _, _, h4⟩ := Qae h; exact h4
 have hfr : (Qo c x r l T).flatten.length ≤ 49000 := by
  show ((Q4 c r l).map (Qix c.toNat x T)).flatten.length ≤ 49000
  omega
 have hll := Qe4 (Qo c x r l T)
 have h1 : 1 ≤ (Qo c x r l T).length := by rw [hfl, hpl, Z8]; exact Nat.le_add_left 1 _
 refine ⟨?_, hfr⟩
 rw [skN, if_neg (by omega), if_pos]
 refine QqW _ _ (fun v hv => ?_) (by rw [Qh4]; omega)
 obtain ⟨b, hb, rfl⟩ := List.mem_map.1 hv
 obtain ⟨q, hq, rfl⟩ := List.mem_map.1 (show b ∈ (Q4 c r l).map (Qix c.toNat x T) from hb)
 have := (Qr9 (t := T) (Qko h hI q hq) (Qdm h q hq).1).2
 omega
def rdF (b : List UInt8) (o k : Nat) : Nat := leN ((b.drop o).take k)
def Qxx : List UInt8 := [84, 84, 65, 49]
def hrN (b : List UInt8) : Int :=
 if b.take 4 ≠ Qxx.take b.length then 12
 else if b.length < 22 then 24
 else if Qdg (b.take 18) ≠ rdF b 18 4 then 22
 else if ¬ shP (rdF b 4 2) (rdF b 6 2) (rdF b 8 2) (rdF b 10 4) (rdF b 14 4) then 12
 else if ¬ Qtg (rdF b 6 2) (rdF b 10 4) (rdF b 14 4) then 4 else 0
def hrA (b : List UInt8) : AV := if hrN b = 0 then .tup [hdA (rdF b 4 2) (rdF b 6 2) (rdF b 8 2) (rdF b 10 4) (rdF b 14 4), .int .i64 0] else .tup [hdA 0 0 0 0 0, .int .i64 (hrN b)]
theorem Qhc {A B C : List UInt8} {o k n : Nat} (h : A.length = o) (hn : n < 256 ^ k) (e : B = leB n k) : rdF (A ++ (B ++ C)) o k = n := by
 subst h e
 rw [rdF, List.drop_left, List.take_append_of_le_length (by rw [Qa]; omega), List.take_of_length_le (by rw [Qa]; omega), Qik _ _ hn]
theorem Qv8 {f c b r n : Int} (h : hdN f c b r n = 0) (R : List UInt8) : hrA (hdB f.toNat c.toNat b.toNat r.toNat n.toNat ++ R) = .tup [hdA f c b r n, .int .i64 0] := by
 have hh : shP f c b r n ∧ Qtg c r n := by
  unfold hdN at h
  split at h
  ·assumption
  ·cases h
 obtain ⟨f, c, b, r, n, rfl, rfl, rfl, rfl, rfl, a1, a2, a3, a4, a5⟩ := QrM h
 simp only [Int.toNat_natCast]
 have l5 : (hdP f c b r n 5).length = 18 := by simp [hdP, Qa]
 have hsm : Qdg (hdP f c b r n 5) < 4294967296 := by unfold Qdg; omega
 have e0 : hdB f c b r n ++ R = [84, 84, 65, 49] ++ (leB f 2 ++ (leB c 2 ++ (leB b 2 ++ (leB r 4 ++ (leB n 4 ++ (leB (Qdg (hdP f c b r n 5)) 4 ++ R)))))) := by
  simp only [hdB, Jd, hdP, List.append_assoc]
 have lX : (hdB f c b r n ++ R).length = 22 + R.length := by rw [hdB, Jd, List.length_append, List.length_append, Qa, l5]
 have e1 : rdF (hdB f c b r n ++ R) 4 2 = f := by
  rw [e0]
  exact Qhc rfl (by omega) rfl
 have e2 : rdF (hdB f c b r n ++ R) 6 2 = c := by
  rw [e0, ← List.append_assoc]
  exact Qhc (by simp [Qa]) (by omega) rfl
 have e3 : rdF (hdB f c b r n ++ R) 8 2 = b := by
  rw [e0, ← List.append_assoc, ← List.append_assoc]
  exact Qhc (by simp [Qa]) (by omega) rfl
 have e4 : rdF (hdB f c b r n ++ R) 10 4 = r := by
  rw [e0, ← List.append_assoc, ← List.append_assoc, ← List.append_assoc]
  exact Qhc (by simp [Qa]) (by omega) rfl
 have e5 : rdF (hdB f c b r n ++ R) 14 4 = n := by
  rw [e0, ← List.append_assoc, ← List.append_assoc, ← List.append_assoc, ← List.append_assoc]
  exact Qhc (by simp [Qa]) (by omega) rfl
 have e6 : rdF (hdB f c b r n ++ R) 18 4 = Qdg (hdP f c b r n 5) := by
  rw [hdB, Jd, List.append_assoc]
  exact Qhc l5 (by simpa using hsm) rfl
 have e7 : (hdB f c b r n ++ R).take 18 = hdP f c b r n 5 := by
  rw [hdB, Jd, List.append_assoc, ← l5, List.take_left]
 have e8 : (hdB f c b r n ++ R).take 4 = Qxx.take (hdB f c b r n ++ R).length := by
  rw [lX, List.take_of_length_le (l := Qxx) (by simp [Qxx]; omega), e0]
  rfl
 have h0 : hrN (hdB f c b r n ++ R) = 0 := by
  unfold hrN
  rw [if_neg (by rw [e8]; simp), if_neg (by omega), if_neg (by rw [e6, e7]; simp), e1, e2, e3, e4, e5, if_neg (fun q => q hh.1), if_neg (fun q => q hh.2)]
 rw [hrA, if_pos h0, e1, e2, e3, e4, e5]
def QwG (c x r : Int) (l : List Int) (p : List UInt8) : List UInt8 := Qwz p ++ (Jd (Qbz (QbF (Qo c x r l (ofK (Jb 0 p) 8)))) ++ (Qo c x r l (ofK (Jb 0 p) 8)).flatten)
theorem QkQ {c x r : Int} {l : List Int} (p : List UInt8) (h : QN c x r l = 0) : QfN c x r l p = hdB (QjH p).toNat c.toNat x.toNat r.toNat (((l.length : Int) / c).toNat) ++ QwG c x r l p ∧ hrA (QfN c x r l p) = .tup [hdA (QjH p) c x r (l.length / c), .int .i64 0] := by
 have hd := Qov p h
 obtain ⟨k, n, rfl, _⟩ := Qae h
 have e1 : (((l.length : Int) / (k : Int)).toNat) = l.length / (k : Int).toNat := by
  rw [Int.toNat_natCast, ← Int.natCast_ediv, Int.toNat_natCast]
 have e2 : QfN k x r l p = hdB (QjH p).toNat (k : Int).toNat x.toNat r.toNat (((l.length : Int) / (k : Int)).toNat) ++ QwG k x r l p := by rw [e1]; rfl
 exact ⟨e2, by rw [e2]; exact Qv8 hd _⟩
theorem Qwc {c x r : Int} {l : List Int} {p : List UInt8} (h : QN c x r l = 0) : (QfN c x r l [] == QfN c x r l p) = (p == []) := by
 by_cases hp : p = []
 ·subst hp; simp
 ·have h1 := (QkQ [] h).2
  have h2 := (QkQ p h).2
  rw [beq_eq_false_iff_ne.2 hp]
  refine beq_eq_false_iff_ne.2 fun he => ?_
  rw [he, h2] at h1
  simp [hdA, QjH, hp] at h1
def QsY (P : Prg) (f : Nat) : Prop := VC P f [] (clA 1 8 8000 [0])
theorem Qil {P : Prg} {f t0 t1 : Nat} (bd : Body P f 3 [.cell 0 t0] (Zu t0 t1)) (ht : Z6 P t0 = some (some 4)) : QsY P f := by
 refine VC.of_walk 1 rfl (by simp [clA, isD, isDL, Q8]) (ACall.of_body bd (by simp) ?_)
 simp (maxSteps := 4000000) (disch := omega) only [rq, simprocAttr, Zu, Q3, ht, QU]
 simp [QO, Qz, frzL, Qv, isDL, isD, clA, il, ks]
def fEx : List UInt8 := QfN 1 8 8000 [0] []
theorem Qw7 : QbX 1 8 8000 [0] [] = .tup [bs fEx, .int .i64 0] := by
 have h1 : QN 1 8 8000 [0] = 0 := by decide +kernel
 have h2 : skN (QbF (Qo 1 8 8000 [0] (ofK (Jb 0 []) 8))) = 0 := (QqV h1 (by intro v hv; simp at hv; omega)).1
 rw [QbX, if_neg (by omega), if_neg (by simp), if_neg (by omega)]
 rfl
theorem Qwd : fEx.length = 36 ∧ fEx.take 4 = [84, 84, 65, 49] ∧ (fEx.drop 22).take 4 = [6, 0, 0, 0] := by decide +kernel
theorem Qma {c x r : Int} {l : List Int} {p b : List UInt8} {e : Int} (h : QbX c x r l p = .tup [bs b, .int .i64 e]) : QtD c x r l p = .tup [.int .i64 b.length, .int .i64 e] := by
 obtain ⟨b', e', h1, h2⟩ := Qfx c x r l p
 rw [h] at h1
 simp only [bs, AV.tup.injEq, List.cons.injEq, AV.list.injEq, AV.int.injEq, true_and, and_true] at h1
 rw [h2, h1.1.1, h1.2]
theorem QmG {P : Prg} {f fX fF fS : Nat} (bd : Body P f 42 [.tmp 0] (ZW fX fF fS)) (hX : QsY P fX) (hF : Qeg P fF) (hS : Qjv P fS) : QnW P f := by
 refine VC.of_acall rfl rfl (ACall.of_body bd (by simp) ?_)
 have i1 : I32 [0] := by intro v hv; simp at hv; omega
 have hX' : VC P fX [] (.agg [.int .i64 1, .int .i64 8, .int .i64 8000, .list 1 [.int .i32 0]]) := hX
 have hF0 := hF 1 8 8000 [0] [] i1 (by simp)
 have hS0 := hS 1 8 8000 [0] [] i1 (by simp)
 rw [Qma Qw7] at hS0
 rw [Qw7] at hF0
 obtain ⟨l1, l2, l3⟩ := Qwd
 have u1 : (u8 fEx).take 4 = u8 [84, 84, 65, 49] := by rw [Ql4, l2]
 have u2 : ((u8 fEx).drop 22).take 4 = u8 [6, 0, 0, 0] := by rw [Qh3, Ql4, l3]
 rw [bs, l1] at hF0
 rw [l1] at hS0
 generalize fEx = F at *
 have hF' : VC P fF [.agg [.int .i64 1, .int .i64 8, .int .i64 8000, .list 1 [.int .i32 0]], .str []] (.tup [.list 36 (u8 F), .int .i64 0]) := hF0
 have hS' : VC P fS [.agg [.int .i64 1, .int .i64 8, .int .i64 8000, .list 1 [.int .i32 0]], .str []] (.tup [.int .i64 36, .int .i64 0]) := hS0
 have d1 := Qba [84, 84, 65, 49]
 have d2 := Qba [6, 0, 0, 0]
 simp (maxSteps := 4000000) (disch := omega) only [rq, simprocAttr, ZW]
 refine Qc.vc hX' ?_
 simp (maxSteps := 4000000) (disch := omega) only [rq, simprocAttr]
 refine Qc.vc hF' ?_
 simp (maxSteps := 4000000) (disch := omega) only [rq, simprocAttr]
 refine Qc.vc hX' ?_
 simp (maxSteps := 4000000) (disch := omega) only [rq, simprocAttr]
 refine Qc.vc hS' ?_
 simp (maxSteps := 4000000) (disch := omega) only [rq, simprocAttr, u1, u2, d1, d2, QjC, l1]
theorem Quc {l : List Int} (h : (decide (300 < l.length) && decide (l.length ≤ 4000) || decide (4010 < l.length)) = false) : l.length ≤ 4010 := by
 simp only [Bool.or_eq_false_iff, decide_eq_false_iff_not] at h
 omega
def ewA (b p : List UInt8) : AV := match QeI b with
 | .inl e => .tup [.list 0 [], .int .i64 e]
 | .inr (c, x, r, l) => QbX c x r l p
theorem Qv3 (b p : List UInt8) : isD (ewA b p) = true := by
 unfold ewA
 split
 ·simp [isD, isDL]
 ·exact Qot _ _ _ _ _
def Qs0 (P : Prg) (f : Nat) : Prop := ∀ b p : List UInt8, b.length < 140737488355328 → VC P f [bs b, .str p] (ewA b p)
theorem QpD {P : Prg} {f fR fF t0 : Nat} (bd : Body P f 21 [.tmp 4, .tmp 5] (JA fR fF t0)) (hR : Qf9 P fR) (hF : Qeg P fF) : Qs0 P f := by
 intro b p hb
 refine VC.of_walk 1 (by simp [isDL, QR, isD]) (Qv3 b p) (ACall.of_body bd (by simp) ?_)
 have hR' := hR b hb
 unfold ewA
 cases h : QeI b with
 | inl e =>
  rw [h, bs] at hR'
  have he := Qrg h
  simp only
  rw [bs]
  simp (disch := omega) only [rq, simprocAttr, JA]
  refine Qc.vc hR' ?_
  simp (disch := omega) only [rq, simprocAttr, XH, clA, il, ks]
  simp [QO, Qz, frzL, Qv]
 | inr q =>
  obtain ⟨c, x, r, l⟩ := q
  rw [h, bs] at hR'
  obtain ⟨h0, hI, h4⟩ := QtS h
  have hF' := hF c x r l p hI (by omega)
  obtain ⟨o, y, e1, _⟩ := Qfx c x r l p
  simp only
  rw [e1] at hF' ⊢
  simp only [clA, il, bs] at hF' ⊢
  simp (disch := omega) only [rq, simprocAttr, JA]
  refine Qc.vc hR' ?_
  simp (disch := omega) only [rq, simprocAttr, XH, clA, il]
  refine Qc.vc hF' ?_
  simp (disch := omega) only [rq, simprocAttr]
  simp [QO, Qz, frzL, Qv, frzL_T _ (QC _)]
theorem QfM {c x r : Int} {l : List Int} {p : List UInt8} (h : QN c x r l = 0) (hI : I32 l) (hp : ¬ 64 < p.length) : QbX c x r l p = .tup [bs (QfN c x r l p), .int .i64 0] := by
 have h2 := (QqV (T := ofK (Jb 0 p) 8) h hI).1
 rw [QbX, if_neg (by omega), if_neg hp, if_neg (by omega)]
theorem QoA {c x r : Int} {l : List Int} {p : List UInt8} (h : QN c x r l = 8) : QbX c x r l p = .tup [bs [], .int .i64 8] := by
 rw [QbX, if_pos (by omega)]; rfl
set_option maxHeartbeats 2000000 in
theorem QeJ {P : Prg} {f fA fL fF fS fC fW fE t0 : Nat} (bd : Body P f 135 [.tmp 4] (Qs fA fL fF fS fC fW fE t0)) (hA : QnW P fA) (hL : Qgj P fL) (hF : Qeg P fF) (hS : Qjv P fS) (hC : Zv P fC) (hW : Qee P fW) (hE : Qs0 P fE) : Qly P f := by
 intro c x r l p hI
 refine VC.of_acall (by simp [isDL, isD, Q8, clA]) rfl (ACall.of_body bd (by simp) ?_)
 have hA' : VC P fA [] (.bool true) := hA
 have hL' := hL c x r l
 rw [clA, il] at hL'
 cases hg : (decide (300 < l.length) && decide (l.length ≤ 4000) || decide (4010 < l.length)) with
 | true =>
  rw [hg] at hL'
  simp (maxSteps := 4000000) (disch := omega) only [rq, simprocAttr, Qs, clA, il]
  refine Qc.vc hA' ?_
  simp (maxSteps := 4000000) (disch := omega) only [rq, simprocAttr]
  refine Qc.vc hL' ?_
  simp (maxSteps := 4000000) (disch := omega) only [rq, simprocAttr]
 | false =>
 rw [hg] at hL'
 have h4 := Quc hg
 by_cases hp : 64 < p.length
 ·simp (maxSteps := 4000000) (disch := omega) only [rq, simprocAttr, Qs, clA, il]
  refine Qc.vc hA' ?_
  simp (maxSteps := 4000000) (disch := omega) only [rq, simprocAttr]
  refine Qc.vc hL' ?_
  simp (maxSteps := 4000000) (disch := omega) only [rq, simprocAttr]
 have hF' := hF c x r l p hI (by omega)
 have hS' := hS c x r l p hI (by omega)
 have hC' := hC c x r l hI (by omega)
 rw [il] at hC'
 rcases Qbb c x r l with h | h
 case inr =>
  rw [h] at hC'
  rw [Qma (QoA h)] at hS'
  rw [QoA h] at hF'
  simp only [clA, il, bs] at hF' hS'
  simp (maxSteps := 4000000) (disch := omega) only [rq, simprocAttr, Qs, clA, il]
  refine Qc.vc hA' ?_
  simp (maxSteps := 4000000) (disch := omega) only [rq, simprocAttr]
  refine Qc.vc hL' ?_
  simp (maxSteps := 4000000) (disch := omega) only [rq, simprocAttr]
  refine Qc.vc hF' ?_
  simp (maxSteps := 4000000) (disch := omega) only [rq, simprocAttr]
  refine Qc.vc hF' ?_
  simp (maxSteps := 4000000) (disch := omega) only [rq, simprocAttr]
  refine Qc.vc hS' ?_
  simp (maxSteps := 4000000) (disch := omega) only [rq, simprocAttr]
  refine Qc.vc hC' ?_
  simp (maxSteps := 4000000) (disch := omega) only [rq, simprocAttr]
 rw [h] at hC'
 have hF0 := hF c x r l [] hI (by omega)
 have hW' := hW c x r l hI (by omega)
 rw [Qwy, if_neg (by omega)] at hW'
 have hwl := Qto h
 have hE' := hE (Qs9 c x r l) p (by omega)
 obtain ⟨c', x', r', q1, q2, q3, q4⟩ := Qmv h
 have e0 : ewA (Qs9 c x r l) p = QbX c x r l p := by
  unfold ewA
  rw [q4, q1, q2, q3]
 rw [e0] at hE'
 rw [Qma (QfM h hI hp)] at hS'
 rw [QfM h hI hp] at hF' hE'
 rw [QfM h hI (by simp)] at hF0
 have hne := Qwc (p := p) h
 generalize QfN c x r l p = A at *
 generalize QfN c x r l [] = B at *
 generalize Qs9 c x r l = W at *
 have hd1 := Qba A
 have hd2 := Qba B
 have hs1 : QjC .eql A A = some (.bool true) := by simp [QjC]
 have hs2 : QjC .eql B A = some (.bool (p == [])) := by rw [QjC, hne]
 have hs3 : QjC .eql p [] = some (.bool (p == [])) := rfl
 simp only [clA, il, bs] at hF' hS' hF0 hW' hE'
 simp (maxSteps := 4000000) (disch := omega) only [rq, simprocAttr, Qs, clA, il]
 refine Qc.vc hA' ?_
 simp (maxSteps := 4000000) (disch := omega) only [rq, simprocAttr]
 refine Qc.vc hL' ?_
 simp (maxSteps := 4000000) (disch := omega) only [rq, simprocAttr]
 refine Qc.vc hF' ?_
 simp (maxSteps := 4000000) (disch := omega) only [rq, simprocAttr]
 refine Qc.vc hF' ?_
 simp (maxSteps := 4000000) (disch := omega) only [rq, simprocAttr]
 refine Qc.vc hS' ?_
 simp (maxSteps := 4000000) (disch := omega) only [rq, simprocAttr]
 refine Qc.vc hW' ?_
 simp (maxSteps := 4000000) (disch := omega) only [rq, simprocAttr]
 refine Qc.vc hE' ?_
 simp (maxSteps := 4000000) (disch := omega) only [rq, simprocAttr]
 refine Qc.vc hF0 ?_
 cases hpe : (p == [])
 all_goals
  rw [hpe] at hs2 hs3
  simp (maxSteps := 4000000) (disch := omega) only [rq, simprocAttr, hd1, hd2, hs1, hs2, hs3]
def QxZ : Sh := .tuple [.int .i64, .int .i64, .int .i64, .slice (.int .i32)]
theorem Qr4 {cs0 : List AV} (h : Qbt QxZ cs0) : ∃ (c x r : Int) (l : List Int), cs0 = [.int .i64 c, .int .i64 x, .int .i64 r, il l] ∧ I32 l := by
 simp only [QxZ, Qbt, FitsL] at h
 obtain ⟨_, _, rfl, ⟨c, rfl, _⟩, _, _, rfl, ⟨x, rfl, _⟩, _, _, rfl, ⟨r, rfl, _⟩, _, _, rfl, ⟨L, rfl, _, h2⟩, rfl⟩ := h
 obtain ⟨l, _, e2, hi⟩ := QkM (L := L) (fun c hc => by simp only [Qbt]; exact h2 c hc)
 exact ⟨c, x, r, l, by simp [e2], hi⟩
end Go.Am
