/- What the functions that the law reaches return, for every program that has their code; the conditions stand in each statement. -/
import Derived.Lib.ItoaLen
import Derived.Test.YthckgihcbjpjeabGreatDoorLinesFilesL1
set_option linter.unusedSectionVars false
set_option linter.unusedSimpArgs false
set_option linter.unusedVariables false
namespace Go.Am
open Go.RowKit
def Qre (P : Prg) (f : Nat) : Prop := ∀ x y : Nat, x ≤ 65535 → y ≤ 65535 → VC P f [.int .u64 x, .int .u64 y] (.tup [.int .u64 0, .int .u64 ((x * y : Nat) : Int)])
theorem Qqt {P : Prg} {f : Nat} (bd : Body P f 51 [.tmp 4, .tmp 5] Z4) : Qre P f := by
 intro x y hx hy
 refine QJ rfl rfl bd ?_
 have hxy : x * y ≤ 65535 * 65535 := j6 hx hy
 have hm : (x : Int) * (y : Int) = ((x * y : Nat) : Int) := by simp
 have an : ∀ a : Nat, a ≤ 4294967295 → IntKind.u64.wrap (BitVec.ofInt IntKind.u64.bits (a : Int) &&& BitVec.ofInt IntKind.u64.bits 4294967295).toNat = (a : Int) := by
  intro a ha
  have := Qoz a 4294967295 (by omega) (by decide)
  rw [show (4294967295 : Nat) = 2 ^ 32 - 1 from rfl, yX, qV (by omega)] at this
  exact this
 have sh : ∀ a : Nat, a ≤ 4294967295 → Ql false .u64 (a : Int) 32 = some (.int .u64 0) := by
  intro a ha
  have := Qnw (K := .u64) (n := a) (k := 32) (by decide)
  rw [jw (by omega)] at this
  exact this
 have a1 := an x (by omega)
 have a2 := an y (by omega)
 have a3 : IntKind.u64.wrap (BitVec.ofInt IntKind.u64.bits 0 &&& BitVec.ofInt IntKind.u64.bits 4294967295).toNat = 0 := by decide
 have s1 := sh x (by omega)
 have s2 := sh y (by omega)
 have s3 := sh (x * y) (by omega)
 have s4 : Ql false .u64 0 32 = some (.int .u64 0) := sh 0 (by omega)
 generalize x * y = z at *
 simp (disch := omega) only [rq, simprocAttr, Z4, a1, a2, a3, s1, s2, s3, s4, hm, Int.zero_mul, Int.mul_zero, Yp, Int.zero_add]
theorem Qvp {P : Prg} {f f32 f64 : Nat} (bd : Body P f 30 [.tmp 4, .tmp 5] (XE f32 f64)) (h64 : Qre P f64) : Qre P f := by
 intro x y hx hy
 refine QJ rfl rfl bd ?_
 have h := h64 x y hx hy
 generalize x * y = z at *
 simp (disch := omega) only [rq, simprocAttr, XE]
 refine Qa h ?_
 simp (disch := omega) only [rq, simprocAttr]
def rpL (v : Int) (m c : Nat) : List Int := List.replicate m v ++ List.replicate (c - m) 0
theorem Qzf {v : Int} {m c : Nat} (h : m ≤ c) : (rpL v m c).length = c := by simp [rpL]; omega
def QhL (t : Nat) (P : Prg) (f : Nat) : Prop := ∀ (v : Int) (c : Nat), c ≤ 1000 → VO P f [nl [v], .int .i64 c] (.own 0 c) ⟨t, 1, c, ks .i64 (List.replicate c v), 0⟩
theorem Qh9 {P : Prg} {f fM t0 : Nat} (bd : Body P f 48 [.tmp 4] (Q3 fM t0)) (hM : Qre P fM) : QhL t0 P f := by
 intro v c hc
 refine VO.of_walk (by simp [isDL, Qtb, isD]) (Zf _ _) (by simp [okr]) (Qb bd (by simp) ?_)
 have hM' := hM 1 c (by omega) (by omega)
 rw [jp] at hM'
 have hM2 : VC P fM [.int .u64 1, .int .u64 c] (.tup [.int .u64 0, .int .u64 c]) := hM'
 have e1 : nl [v] = .list 1 [.int .i64 v] := rfl
 have er : Qo [.int .i64 0] c = ks .i64 (List.replicate c 0) := Qsp .i64 c
 have hl : (ks .i64 (List.replicate c 0)).length = c := by simp [Qc]
 rw [e1]
 simp (disch := omega) only [rq, simprocAttr, Q3]
 refine Qa hM2 ?_
 by_cases h0 : c = 0
 ·subst h0
  simp (disch := omega) only [rq, simprocAttr, er]
  refine Qj (ι := Nat) (fun _ => ⟨[(8, .int .i64 0), (7, .own 0 0)], [⟨t0, 1, 0, [], 0⟩]⟩) (fun _ => True) (fun _ => 0) 0 (QB (by simp [Am.look, ks])) trivial ?_
  intro _ _
  simp (disch := omega) only [rq, simprocAttr]
  exact ⟨0, rfl, rfl⟩
 ·have hmn : Nat.min 1 c = 1 := qG (by omega)
  have hst : (1 : Int) < (c : Int) ∨ c = 1 := by omega
  simp (disch := omega) only [rq, simprocAttr, er, hl, hmn]
  refine Qj (ι := Nat) (fun m => ⟨[(8, .int .i64 m), (7, .own 0 c)], [⟨t0, 1, c, ks .i64 (rpL v m c), 0⟩]⟩) (fun m => 1 ≤ m ∧ m ≤ c) (fun m => c - m) 1 ?_ (by omega) ?_
  ·have : [AV.int .i64 v] ++ (ks .i64 (List.replicate c 0)).drop 1 = ks .i64 (rpL v 1 c) := by simp [rpL, ks]
   rw [← this]
   exact Qe
  intro m hm
  obtain ⟨hm1, hm2⟩ := hm
  have hkl : (ks .i64 (rpL v m c)).length = c := by rw [Qc, Qzf hm2]
  by_cases hlt : m < c
  ·obtain ⟨q, hq⟩ : ∃ q, q = Nat.min m (c - m) := ⟨_, rfl⟩
   have hq1 : q ≤ m := by rw [hq]; exact Yd _ _
   have hq2 : q ≤ c - m := by rw [hq]; exact Nat.min_le_right _ _
   have hq3 : 1 ≤ q := by rw [hq]; exact Nat.le_min.2 ⟨hm1, by omega⟩
   have hmc : min m c = m := qG hm2
   have hal : ((ks .i64 (rpL v m c)).take m).all AV.one = true := by
    rw [qW]
    intro x hx
    exact qW.1 (Jl .i64 (rpL v m c)) x (qP hx)
   have e1 : (rpL v m c).take m = List.replicate m v := by unfold rpL; rw [jB (by simp)]
   have e2 : (rpL v m c).drop (m + q) = List.replicate (c - (m + q)) 0 := by
    unfold rpL
    rw [jP, j2 (by simp), jl, List.drop_replicate, yO]
    congr 1
    omega
   have hcs : (ks .i64 (rpL v m c)).take m ++ (((ks .i64 (rpL v m c)).take m).take q ++ (ks .i64 (rpL v m c)).drop (m + q)) = ks .i64 (rpL v (m + q) c) := by
    have k1 : ∀ l n, (ks .i64 l).take n = ks .i64 (l.take n) := fun l n => by simp [ks, jc]
    have k2 : ∀ l n, (ks .i64 l).drop n = ks .i64 (l.drop n) := fun l n => by simp [ks, jf]
    have k3 : ∀ a b, ks .i64 a ++ ks .i64 b = ks .i64 (a ++ b) := fun a b => by simp [ks]
    rw [k1, e1, k1, k2, e2, List.take_replicate, qG hq1, k3, k3, ← qz, List.replicate_append_replicate]
    rfl
   have hcs2 : (ks .i64 (rpL v m c)).take m ++ ((ks .i64 (rpL v m c)).take m).take q ++ (ks .i64 (rpL v m c)).drop (m + q) = ks .i64 (rpL v (m + q) c) := by rw [qz]; exact hcs
   simp (disch := omega) only [rq, simprocAttr, hkl, h0, yW, hmc, hal, ← hq, jD, hcs2, hcs]
   refine ⟨m + q, ⟨by omega, by omega⟩, by omega, ?_⟩
   exact Qe
  ·obtain rfl : m = c := by omega
   have : rpL v m m = List.replicate m v := by simp [rpL]
   rw [this]
   simp (disch := omega) only [rq, simprocAttr]
   exact ⟨0, rfl, rfl⟩
def Qun (t : Nat) (P : Prg) (f : Nat) : Prop := ∀ a b : List Int, 0 < a.length + b.length → a.length + b.length ≤ 1000000 → VO P f [nl a, nl b] (.own 0 (a.length + b.length)) ⟨t, 1, a.length + b.length, ks .i64 (a ++ b), 0⟩
theorem Qid {P : Prg} {f fC t0 t1 : Nat} (bd : Body P f 9 [.tmp 4] (Xs fC t1)) (hC : QhR t0 P fC) : Qun t0 P f := by
 intro a b h0 h1
 refine VO.of_walk (by simp [isDL, Qtb]) (Zf _ _) (by simp [okr]) (Qb bd (by simp) ?_)
 have hC' := hC [a, b] (by simp) (by simpa using h0) (by simpa using h1)
 have e1 : nls [a, b] = .list 2 [nl a, nl b] := rfl
 have e2 : [a, b].flatten = a ++ b := by simp
 rw [e1, e2, qt] at hC'
 have ta := Qp .i64 a
 have tb := Qp .i64 b
 simp only [nl] at hC' ⊢
 simp (disch := omega) only [rq, simprocAttr, Xs]
 refine Qdj.vo_still 1 [0] hC' (by simp [QK, Qx, frzL, Qu, frzL_T _ ta, frzL_T _ tb]) ?_
 simp (disch := omega) only [rq, simprocAttr, Qg, shr]
 exact ⟨1, rfl, rfl⟩
def okA (r n : Int) : Prop := 1 ≤ r ∧ r ≤ 1048576 ∧ 1 ≤ n ∧ n ≤ 4000 ∧ (Zl (Q5 r).toNat n.toNat).length ≤ 1000
def QpR (t : Nat) (P : Prg) (f : Nat) : Prop := ∀ r n : Int, okA r n → VO P f [.int .i64 r, .int .i64 n] (.tup [.own 0 (Zl (Q5 r).toNat n.toNat).length, .int .i64 0]) ⟨t, 1, (Zl (Q5 r).toNat n.toNat).length, ks .i64 (Zl (Q5 r).toNat n.toNat), 0⟩
theorem QnR {P : Prg} {f fC fL fR fB t0 : Nat} (bd : Body P f 39 [.tmp 4, .tmp 5] (JC fC fL fR fB t0)) (hC : QeL P fC) (hL : QgA P fL) (hR : QhL t0 P fR) (hB : Qun t0 P fB) : QpR t0 P f := by
 intro r n ⟨a1, a2, a3, a4, a5⟩
 refine VO.of_walk rfl (Zf _ _) (by simp [okr, flat]) (Qb bd (by simp) ?_)
 have hlong : 1 ≤ Q5 r := by unfold Q5; split <;> omega
 obtain ⟨L, hLe⟩ : ∃ L : Nat, Q5 r = L := ⟨(Q5 r).toNat, by omega⟩
 obtain ⟨m, rfl⟩ : ∃ m : Nat, n = m := ⟨n.toNat, by omega⟩
 rw [hLe, qw, qw] at a5 ⊢
 rw [Qaq] at a5
 obtain ⟨q, hq⟩ : ∃ q, q = (m - 1) / L := ⟨_, rfl⟩
 have hql : (Zl L m).length = q + 1 := by rw [Qaq, hq]
 rw [← hq] at a5
 have hcd : ((m : Int) + (L : Int) - 1) / (L : Int) = ((q + 1 : Nat) : Int) := by
  have h1 : (m : Int) + (L : Int) - 1 = ((m - 1 + L : Nat) : Int) := by omega
  rw [h1, ← jv, Nat.add_div_right _ (by omega), ← hq]
 have hk : Qmr r m = .tup [.int .i64 ((q + 1 : Nat) : Int), .int .i64 0] := by
  rw [Qmr, qe (by omega), qe (by omega), hLe, hcd, qe (by omega)]
 have hC' := hC r m
 rw [hk] at hC'
 have hL' := hL r
 rw [Qg6, qe (by omega), hLe] at hL'
 have hR' := hR L q (by omega)
 have hB' := hB (List.replicate q (L : Int)) [(m : Int) - ((q * L : Nat) : Int)] (by simp) (by simp; omega)
 have e1 : List.replicate q (L : Int) ++ [(m : Int) - ((q * L : Nat) : Int)] = Zl L m := by unfold Zl; rw [hq]
 rw [e1] at hB'
 have e2 : (List.replicate q (L : Int)).length + [(m : Int) - ((q * L : Nat) : Int)].length = q + 1 := by simp
 rw [e2] at hB'
 have e3 : nl [(L : Int)] = .list 1 [.int .i64 (L : Int)] := rfl
 have e4 : nl [(m : Int) - ((q * L : Nat) : Int)] = .list 1 [.int .i64 ((m : Int) - ((q * L : Nat) : Int))] := rfl
 rw [e3] at hR'
 rw [e4] at hB'
 have tr := Qp .i64 (List.replicate q (L : Int))
 have hqL : (q : Int) * (L : Int) = ((q * L : Nat) : Int) := by simp
 have hle : q * L ≤ m := by
  have := Nat.div_mul_le_self (m - 1) L
  rw [← hq] at this
  omega
 simp only [nl, yO] at hB'
 rw [hql]
 generalize ks .i64 (Zl L m) = LL at *
 generalize ks .i64 (List.replicate q (L : Int)) = RR at *
 generalize q * L = w at *
 simp only [yU, Int.cast_ofNat_Int] at hC'
 have hq1 : (q : Int) + 1 - 1 = (q : Int) := by omega
 simp (disch := omega) only [rq, simprocAttr, JC]
 refine Qa hC' ?_
 simp (disch := omega) only [rq, simprocAttr]
 refine Qa hL' ?_
 simp (disch := omega) only [rq, simprocAttr, hq1]
 refine Qdj.vo_still 1 [0] hR' (by simp [QK, Qx, frzL, Qu]) ?_
 simp (disch := omega) only [rq, simprocAttr, Qg, shr, hq1, hqL]
 refine Qdj.vo_still 1 [1, 2] hB' (by simp [QK, Qx, frzL, Qu, frzL_T _ tr]) ?_
 simp (disch := omega) only [rq, simprocAttr, Qg, shr]
 exact ⟨3, rfl, rfl⟩
def Qb8 (Lc : Nat) (l : List Int) (j : Nat) : List Int := (l.drop (j * Lc)).take Lc
def QeG (t : Nat) (P : Prg) (f : Nat) : Prop := ∀ (k n : Nat) (x r : Int) (l : List Int), 1 ≤ k → k ≤ 1000 → l.length = n * k → okA r n →
 Quq P f [.int .i64 k, .int .i64 x, .int .i64 r, il l] [t] (cnt := (Zl (Q5 r).toNat n).length) (fun j => il (Qb8 ((Q5 r).toNat * k) l j.1))
theorem Qcv {X : Cx} {a : Act} : ∀ i, Rep X (look [] i) (a.tmps.getD i undef) := fun i => by simp only [look, Rep]
theorem QX {X : Cx} {a : Act} {fr : List (Nat × AV)} {j : Nat} {v : AV} (h : Rep X v (a.tmps.getD j undef)) (g : ∀ i, Rep X (look fr i) (a.tmps.getD i undef)) : ∀ i, Rep X (look ((j, v) :: fr) i) (a.tmps.getD i undef) := fun i => by
 simp only [look]
 split
 ·rename_i e; subst e; exact h
 ·exact g i
theorem QAE {N : Nat} {fr : List (Nat × AV)} {a : Act} {W : World} (hd : a.defers = []) (hz : a.tmps.size = N) (h : ∀ i, Rep ⟨W, [], [], fun _ _ => False⟩ (look fr i) (a.tmps.getD i undef)) : Sim ⟨W.heap.size, ⟨W, [], [], fun _ _ => False⟩, N, []⟩ ⟨fr, []⟩ a W :=
 ⟨hd, hz, Below.refl _ _, [], ⟨rfl, by simp, by simp, by simp, fun _ _ h => h.elim, qj _⟩, Moves.refl _, h⟩
theorem Qat {W W' : World} (h : Below W.heap.size W W') : W.grownBy W' none := ⟨h.os, h.tape, h.output, h.size, fun k hk _ => h.block k hk⟩
theorem Qqr {k n L j : Nat} {l : List Int} (hl : l.length = n * k) (hn : 1 ≤ n) (hL : 1 ≤ L) (hj : j < (Zl L n).length) :
  ∃ m : Nat, (Zl L n).getD j 0 = m ∧ m ≤ n ∧ min (j * (L * k)) (n * k) = j * (L * k) ∧ j * (L * k) ≤ n * k ∧ min ((j + 1) * (L * k)) (n * k) = j * (L * k) + m * k ∧ Qb8 (L * k) l j = (l.drop (j * (L * k))).take (m * k) ∧ j * (L * k) + m * k ≤ n * k := by
 rw [Qaq] at hj
 have g0 : (n - 1) / L * L ≤ n - 1 := Nat.div_mul_le_self _ _
 have g2 : n - 1 < (n - 1) / L * L + L := Nat.lt_div_mul_add (by omega)
 have g1 : j * L ≤ (n - 1) / L * L := qJ _ (by omega)
 have e0 : j * (L * k) = j * L * k := by rw [ja]
 have e1 : (j + 1) * (L * k) = (j * L + L) * k := by rw [← ja, yG, jp]
 have h3 : j * L * k ≤ n * k := qJ _ (by omega)
 by_cases hq : j < (n - 1) / L
 ·have g3 : (j + 1) * L ≤ (n - 1) / L * L := qJ _ (by omega)
  rw [yG, jp] at g3
  have h7 : j * L + L ≤ n := qX g3 (qX g0 (Nat.sub_le _ _))
  have h4 : (j * L + L) * k ≤ n * k := qJ _ h7
  refine ⟨L, ?_, by omega, by rw [e0]; exact qG h3, by rw [e0]; exact h3, by rw [e1, e0, qG h4, yG], rfl, by rw [e0, ← yG]; exact h4⟩
  unfold Zl
  rw [qd, qp (by simpa using hq), List.getElem?_replicate, qh hq]
  rfl
 ·have hjq : j = (n - 1) / L := by omega
  have h7 : n ≤ j * L + L := by rw [hjq]; generalize (n - 1) / L * L = w at *; omega
  have h8 : n - j * L ≤ L := by omega
  have h4 : n * k ≤ (j * L + L) * k := qJ _ h7
  have h5 : j * L * k + (n - j * L) * k = n * k := by rw [← yG]; congr 1; omega
  refine ⟨n - j * L, ?_, Nat.sub_le _ _, by rw [e0]; exact qG h3, by rw [e0]; exact h3, by rw [e1, e0, jS h4, h5], ?_, by rw [e0, h5]; exact qj _⟩
  ·unfold Zl
   rw [qd, yl (by simp; omega)]
   simp only [yO, ← hjq, Yo, yF, yE]
   omega
  ·unfold Qb8
   have h6 : (l.drop (j * (L * k))).length = (n - j * L) * k := by rw [qr, hl, e0]; omega
   rw [qi (by rw [h6]; exact qJ _ h8), qi (by rw [h6]; exact qj _)]
theorem Qtq {m j : Nat} (h : j < m) : (List.finRange m).take (j + 1) = (List.finRange m).take j ++ [⟨j, h⟩] := by
 rw [qm (by simpa using h)]
 simp
theorem Qvt (L n : Nat) : 1 ≤ (Zl L n).length := by rw [Qaq]; exact Nat.le_add_left 1 _
set_option maxHeartbeats 1000000 in
theorem Qog {P : Prg} {f fA t0 : Nat} (bd : Body P f 43 [] (Xi fA)) (hA : QpR t0 P fA) : QeG t0 P f := by
 intro k n x r l hk1 hk2 hl hok
 obtain ⟨L, hL⟩ : ∃ L, (Q5 r).toNat = L := ⟨_, rfl⟩
 have hL1 : 1 ≤ L := by have := Qcc r; omega
 obtain ⟨a1, a2, a3, a4, a5⟩ := hok
 have hn1 : 1 ≤ n := by omega
 have hn2 : n ≤ 4000 := by omega
 have hA' := hA r n ⟨a1, a2, a3, a4, a5⟩
 rw [hL, qw] at hA' a5
 rw [hL]
 refine ⟨fun j => Qar _, fun w C v1 hv1 hex hG => ?_⟩
 have hv1' := hv1
 simp only [Rep] at hv1
 obtain ⟨b, o, vs, hv1e, hat, hvs⟩ := hv1
 simp only [RepL] at hvs
 obtain ⟨u0, q0, rfl, hu0, u1, q1, rfl, hu1, u2, q2, rfl, hu2, u3, q3, rfl, hu3, rfl⟩ := hvs
 have hu0' := hu0
 have hu3' := hu3
 simp only [Rep] at hu0 hu1 hu2
 rw [il] at hu3
 simp only [Rep] at hu3
 obtain ⟨sa, cap, ws, e3, hcap, hws, hwr⟩ := hu3
 rw [hl] at hcap
 obtain ⟨atN, hatN⟩ : ∃ atN : Nat → Nat, ∀ j, atN j = min (j * (L * k)) (n * k) := ⟨_, fun _ => rfl⟩
 obtain ⟨cnt, hcnt⟩ : ∃ cnt, (Zl L n).length = cnt := ⟨_, rfl⟩
 have hnk : n * k ≤ 4000000 := j6 hn2 hk2
 rw [hcnt] at hA' a5 ⊢
 have hcnt1 : 1 ≤ cnt := by rw [← hcnt]; exact Qvt _ _
 have pf : ∀ j, j < cnt → ∃ m : Nat, (Zl L n).getD j 0 = m ∧ m ≤ n ∧ atN j = j * (L * k) ∧ atN (j + 1) = atN j + m * k ∧ Qb8 (L * k) l j = (l.drop (atN j)).take (m * k) ∧ atN j + m * k ≤ n * k := fun j hj => by
  obtain ⟨m, h1, h2, h3, h4, h5, h6, h7⟩ := Qqr (j := j) hl hn1 hL1 (by rw [hcnt]; exact hj)
  refine ⟨m, h1, h2, by rw [hatN]; exact h3, by rw [hatN, hatN, h3]; exact h5, by rw [hatN, h3]; exact h6, by rw [hatN, h3]; exact h7⟩
 have hun : ∀ {W' : World}, (∀ (b k : Nat) (v : Value), ¬ C b k → w.cell? ⟨b, k, none⟩ = some v → W'.cell? ⟨b, k, none⟩ = some v) → ∀ (c : AV) (v : Value), isD c = true → Rep ⟨w, [], [], C⟩ c v → Rep ⟨W', [], [], fun _ _ => False⟩ c v := fun h c v hd hr =>
  Rep.data (X := ⟨w, [], [], C⟩) (Y := ⟨_, [], [], fun _ _ => False⟩) (fun b k v hc ha => ⟨h b k v (fun h => ha (.inl h)) hc, fun h => by
   rcases h with h | ⟨o, x, c, h1, _⟩
   ·exact h.elim
   ·simp at h1⟩) c v hd hr
 have hlit : ∀ {W' : World}, (∀ (b k : Nat) (v : Value), ¬ C b k → w.cell? ⟨b, k, none⟩ = some v → W'.cell? ⟨b, k, none⟩ = some v) → Rep ⟨W', [], [], fun _ _ => False⟩ (.cell [.int .i64 k, .int .i64 x, .int .i64 r, .lit u3]) v1 := fun {W'} h => by
  have h1 : Rep ⟨w, [], [], C⟩ (.cell [.int .i64 k, .int .i64 x, .int .i64 r, .lit u3]) v1 := by
   simp only [Rep]
   exact ⟨b, o, _, hv1e, hat, by simp only [RepL, Rep]; exact ⟨u0, _, rfl, hu0, u1, _, rfl, hu1, u2, _, rfl, hu2, u3, _, rfl, rfl, rfl⟩⟩
  exact hun h _ _ rfl h1
 refine ⟨fun j => .slice (if cap = atN j.1 then sa else sa.map (·.add (atN j.1 * 1))) (atN (j.1 + 1) - atN j.1) (cap - atN j.1), fun j => ?rep, ?seq⟩
 case rep =>
  obtain ⟨m, h1, h2, h3, h4, h5, h6⟩ := pf j.1 j.2
  have g : Held 0 ⟨w, [], [], fun _ _ => False⟩ := ⟨rfl, by simp, by simp, by simp, fun _ _ h => h.elim, yd _⟩
  have e4 : ((atN (j.1 + 1) : Nat) - (atN j.1 : Nat) : Int).toNat = m * k := by omega
  have e5 : (Qb8 (L * k) l j.1).length = m * k := by rw [h5, qu, qr, hl]; omega
  have hs : Qgg [] 1 (il l) (atN j.1 : Nat) (atN (j.1 + 1) : Nat) = some (il (Qb8 (L * k) l j.1)) := by
   simp only [Qgg, il]
   rw [qh (by omega), qh (by rw [hl]; simp [ks]; omega), e4, e5, h5]
   simp [ks, jc, jf]
  have hr := QnC (X := ⟨w, [], [], fun b k => C b k ∧ b < w.heap.size⟩) (B := w.heap.size) ⟨rfl, by simp, by simp, by simp, fun _ _ h => h.2, qj _⟩ (η := fun _ => .any) (ρ := fun _ => undef) (fun _ => by simp only [Rep]) (sz := 1) (n := l.length) (cs := ks .i32 l) (a := sa) (cap := cap) (m := cap) (by
   rw [← e3]
   exact Rep.data (X := ⟨w, [], [], C⟩) (Y := ⟨w, [], [], fun b k => C b k ∧ b < w.heap.size⟩) (fun b k v hc ha => ⟨hc, fun h => ha (by
    rcases h with h | ⟨o, x, c, h1, _⟩
    ·exact .inl h.1
    ·simp at h1)⟩) _ _ (Qar l) hu3') rfl hs (by omega) (.inl (qj _))
  have hr2 := hr.2.2.2
  simp only [qw] at hr2
  exact Rep.data (X := ⟨w, [], [], fun b k => C b k ∧ b < w.heap.size⟩) (Y := ⟨w, [], [], C⟩) (fun b k v hc ha => ⟨hc, fun h => ha (by
   rcases h with h | ⟨o, x, c, h1, _⟩
   ·exact .inl ⟨h, World.block_lt_of_cell? w _ hc⟩
   ·simp at h1)⟩) _ _ (Qar _) hr2
 case seq =>
  intro ll J Jx W hW hJ hJx hY hJ0
  have hkw : ∀ (b k : Nat) (v : Value), ¬ C b k → w.cell? ⟨b, k, none⟩ = some v → W.cell? ⟨b, k, none⟩ = some v := fun b k v _ hc => (hW.cell (p := ⟨b, k, none⟩) (World.block_lt_of_cell? w _ hc)).trans hc
  obtain ⟨fn, hf, hnm, hN, hrl, hc'⟩ := bd
  obtain ⟨c, hb, hc⟩ := qg.1 hc'
  refine callsIn_of_wp hf hb trivial ?_ rfl
  rw [hN]
  unfold Xi at hc
  obtain ⟨c1, r1, rfl, hc1, hr1⟩ := QC hc
  obtain ⟨c2, r2, rfl, hc2, hr2⟩ := QC hr1
  obtain ⟨c3, c4, rfl, hc3, hc4⟩ := QC hr2
  obtain ⟨c5, rfl, hc5⟩ := Xe hc4
  obtain ⟨c6, rfl, hc6⟩ := QcB hc5
  obtain ⟨d1, s1, rfl, hd1, hs1⟩ := QC hc6
  obtain ⟨d2, s2, rfl, hd2, hs2⟩ := QC hs1
  obtain ⟨y1, y2, rfl, hy1, hy2⟩ := Xn hd2
  obtain rfl := Jt hy1
  obtain rfl := Qi1 hy2
  obtain ⟨d3, d9, rfl, hd3, hd9⟩ := QC hs2
  obtain ⟨d4, rfl, hd4⟩ := Xe hd3
  obtain ⟨d5, s5, rfl, hd5, hs5⟩ := QC hd4
  obtain ⟨d6, s6, rfl, hd6, hs6⟩ := QC hs5
  obtain ⟨s7, d8, rfl, hs7, hd8⟩ := QC hs6
  obtain ⟨d7, dc, rfl, hd7, hdc⟩ := QC hs7
  obtain ⟨y3, y4, rfl, hy3, hy4⟩ := Xn hdc
  obtain rfl := Qeb hy3
  obtain rfl := Jt hy4
  obtain ⟨id7, ops, rfl, hm7⟩ := Qcf hd7
  obtain ⟨l5, l3, hops, hm5, hm3⟩ := QdZ (q1 := [_, _, _, _, _]) hm7
  obtain ⟨oS, l2, rfl, hoS, hm2⟩ := QdX hm3
  obtain ⟨oY, l1, rfl, hoY, hm1⟩ := QdX hm2
  generalize hyv : (Value.func (.yield ll) #[] #[]) = yv at *
  let a0 : Act := { tmps := #[yv] ++ #[v1] ++ Array.replicate (43 - (#[yv] ++ #[v1]).size) undef, defers := [] }
  show Code.wpIn _ _ _ _ _ a0 _
  have z0 : a0.tmps.size = 43 := by simp [a0]
  have t00 : a0.tmps.getD 0 undef = yv := by simp [a0]
  have t01 : a0.tmps.getD 1 undef = v1 := by simp [a0]
  let C0 : Nat → Nat → Prop := fun b k => C b k ∧ b < W.heap.size
  have g0 : Held W.heap.size ⟨W, [ph2], [none], C0⟩ := by
   have g := (Held.empty (B := W.heap.size) (X := ⟨W, [], [], C0⟩) ⟨rfl, by simp, by simp, by simp, fun _ _ h => h.2, qj _⟩ 1 0).1
   exact g
  have hC0 : ∀ c v, isD c = true → Rep ⟨w, [], [], C⟩ c v → Rep ⟨W, [ph2], [none], C0⟩ c v := fun c v hd hr =>
   Rep.data (X := ⟨w, [], [], C⟩) (Y := ⟨W, [ph2], [none], C0⟩) (fun b k v hc ha => ⟨hkw b k v (fun h => ha (.inl h)) hc, fun h => by
    rcases h with h | ⟨o, x, c, h1, h2, _⟩
    ·exact ha (.inl h.1)
    ·rcases o with _ | o <;> simp at h2⟩) c v hd hr
  let Γ0 : Ctx := ⟨W.heap.size, ⟨W, [ph2], [none], C0⟩, 43, []⟩
  have hs0 : Sim Γ0 ⟨[(0, .lit yv), (1, .cell [.int .i64 k, .int .i64 x, .int .i64 r, il l])], [ph2]⟩ a0 W :=
   ⟨rfl, z0, Below.refl _ _, [none], g0, Moves.refl _, QX (by rw [t00]; simp only [Rep]) (QX (by rw [t01]; exact hC0 _ _ (by simp [isD, isDL, Qar]) hv1') Qcv)⟩
  have hF0 : Fit P 43 Γ0 := ⟨rfl, fun q cs hq => hC0 _ _ (by simp only [isD]; exact P.gd q cs hq) (hG q cs hq)⟩
  refine wpIn_seq ?_
  have hk0 : ((n * k : Nat) : Int) / (k : Int) = n := by
   rw [Yk, Int.mul_ediv_cancel _ (by omega)]
  have hk3 : ((n * k : Nat) : Int).tdiv (k : Int) = n := by rw [ym (by omega), hk0]
  refine QtD (Q := fun _ st' => st'.ob = [⟨t0, 1, cnt, ks .i64 (Zl L n), 0⟩] ∧ look st'.fr 0 = .lit yv ∧ look st'.fr 3 = .own 0 cnt) hF0 hc1 1 (by rfl) t01 ?_ hs0 ?_
  ·simp only [il]
   simp (disch := omega) only [rq, simprocAttr, hl, hk3, hk0]
   refine ⟨shr 0 (.tup [.own 0 cnt, .int .i64 0]), some (0, ⟨t0, 1, cnt, ks .i64 (Zl L n), 0⟩), ?_, ?_⟩
   ·unfold Jv
    rw [qh rfl]
    exact ⟨ACall.of_vo_at hA' rfl ⟨rfl, rfl⟩, fun o x' e => by cases e; exact ⟨ph2, rfl, by simp [ph2, ph]⟩⟩
   ·simp (disch := omega) only [rq, simprocAttr, shr]
  ·intro st1 a1 W1 ⟨hob1, h10, h13⟩ hs1 t11
   show (Code.seq c2 _).wpIn Fence.wide 4 _ _ a1 W1
   let row : Ob := ⟨t0, 1, cnt, ks .i64 (Zl L n), 0⟩
   have hs1' : Sim Γ0 ⟨[(0, .lit yv), (3, .own 0 cnt)], [row]⟩ a1 W1 := by
    have h : st1 = ⟨st1.fr, [row]⟩ := by rw [← hob1]
    rw [h] at hs1
    exact QB (M := 1) (by simp [h10, h13]) Γ0 a1 W1 rfl hs1
   refine wpIn_seq ?_
   refine Ze (Q := fun _ st' => st' = ⟨[(5, .int .i64 0), (0, .lit yv), (3, .own 0 cnt)], [row]⟩) hF0 hc2 [(1, v1)] (by simp only [qH]; rintro _ rfl; exact ⟨rfl, t11⟩) (by simp (disch := omega) only [rq, simprocAttr]) hs1' ?_
   rintro _ a2 W2 rfl hs2 t2
   show (Code.seq c3 _).wpIn Fence.wide 4 _ _ a2 W2
   refine wpIn_seq ?_
   refine Ze (Q := fun _ st' => st' = ⟨[(23, .int .i64 0), (22, .int .i64 cnt), (21, .own 0 cnt), (5, .int .i64 0), (0, .lit yv), (3, .own 0 cnt)], [row]⟩) hF0 hc3 [(1, v1)] (by simp only [qH]; rintro _ rfl; exact ⟨rfl, t2 _ (by simp)⟩) (by simp (disch := omega) only [rq, simprocAttr, row]) hs2 ?_
   rintro _ a3 W3 rfl hs3 t3
   show (Code.block 0 (.loop _)).wpIn Fence.wide 4 _ _ a3 W3
   obtain ⟨f1, f2, f3, be, f4, f5, f6⟩ := hs3
   have f1' : a3.defers = [] := f1
   have f2' : a3.tmps.size = 43 := f2
   obtain ⟨e, he, hoke⟩ := f4.get (o := 0) (x := row) rfl
   have f21 := f6 21
   simp only [look, Nat.reduceEqDiff, yC, yo, Rep] at f21
   obtain ⟨⟨rw', hrw, _, _, hown⟩, _⟩ := f21
   have hrw' : row = rw' := by simpa using hrw
   subst hrw'
   have hown' := hown rfl
   have he' : be[0]? = some e := he
   simp only [he'] at hown'
   cases e with
   | none => exact absurd hoke.1 (by simp only [row]; omega)
   | some p =>
   obtain ⟨br, capr⟩ := p
   obtain ⟨cur, ⟨frz, hblk, _⟩, hcs, hnc, _, hcl, hcr, hone⟩ := hoke
   simp only [OwnV] at hown'
   have hblk' : W3.heap[br]? = some (.cells cur t0 frz) := hblk
   obtain ⟨sv, hsv⟩ : ∃ sv, sv = Value.slice (some ⟨br, 0, none⟩) cnt capr := ⟨_, rfl⟩
   have hcr' : ∀ {Y : Cx}, RepL Y (ks .i64 (Zl L n)) (cur.toList.take cnt) := fun {Y} => by
    have h := RepL.flat (Y := Y) (by simp [row, ks, flat]) hcr
    have e : row.cs.length = cnt := by simp [row, ks, hcnt]
    rw [e] at h
    exact h
   have hrowR : ∀ {W' : World}, W'.heap[br]? = some (.cells cur t0 frz) → Rep ⟨W', [], [], fun _ _ => False⟩ (.list cnt (ks .i64 (Zl L n))) sv := fun {W'} h => by
    simp only [Rep]
    refine ⟨_, _, cur.toList.take cnt, hsv, hnc, .inr ⟨br, 0, rfl, fun i v hv => ?_⟩, hcr'⟩
    rw [yQ] at hv
    split at hv
    ·have hv2 : cur[i]? = some v := by simpa using hv
     refine ⟨⟨by simp [World.cell?, h, hv2], fun h => ?_⟩, hone v (by
      obtain ⟨h1, h2⟩ := qn.1 hv2
      rw [← h2]; simp)⟩
     rcases h with h | ⟨o, x, c, h1, _⟩
     ·exact h.elim
     ·simp at h1
    ·cases hv
   have hJ3 : J [] W3 := hJ _ W W3 none hJ0 (Qat f3) (fun r h => by cases h)
   refine wpIn_block ?_
   refine wpIn_loop (fun a W' => ∃ j, j ≤ cnt ∧ a.defers = [] ∧ a.tmps.size = 43 ∧ a.tmps.getD 0 undef = yv ∧ a.tmps.getD 1 undef = v1 ∧ a.tmps.getD 5 undef = .int .i64 (atN j : Nat) ∧ a.tmps.getD 21 undef = sv ∧ a.tmps.getD 22 undef = .int .i64 cnt ∧ a.tmps.getD 23 undef = .int .i64 j ∧
     W'.heap[br]? = some (.cells cur t0 frz) ∧ (∀ (b k : Nat) (v : Value), ¬ C b k → w.cell? ⟨b, k, none⟩ = some v → W'.cell? ⟨b, k, none⟩ = some v) ∧ J ((List.finRange cnt).take j) W')
    (fun a _ => match a.tmps.getD 23 undef with | .int _ z => cnt - z.toNat | _ => 0) ?_ ?_
   ·refine ⟨0, yd _, f1', f2', ?_, t3 (1, v1) (by simp), ?_, by rw [hsv]; exact hown', ?_, ?_, hblk', ?_, hJ3⟩
    ·have h := f6 0
     simpa [look, Rep] using h
    ·have h := f6 5
     have e0 : atN 0 = 0 := by rw [hatN]; simp
     simpa [look, Rep, e0] using h
    ·have h := f6 22
     simpa [look, Rep] using h
    ·have h := f6 23
     simpa [look, Rep] using h
    ·intro b k v hc hv
     have h := hkw b k v hc hv
     exact (f3.cell (p := ⟨b, k, none⟩) (World.block_lt_of_cell? W _ h)).trans h
   intro a Wj ⟨j, hj, i1, i2, i3, i4, i5, i6, i7, i8, i9, i10, i11⟩
   let ΓW : World → Ctx := fun W' => ⟨W'.heap.size, ⟨W', [], [], fun _ _ => False⟩, 43, []⟩
   have hF : ∀ {W' : World}, (∀ (b k : Nat) (v : Value), ¬ C b k → w.cell? ⟨b, k, none⟩ = some v → W'.cell? ⟨b, k, none⟩ = some v) → Fit P 43 (ΓW W') := fun {W'} h => ⟨rfl, fun q cs hq => hun h _ _ (by simp only [isD]; exact P.gd q cs hq) (hG q cs hq)⟩
   have hsA : Sim (ΓW Wj) ⟨[(0, .lit yv), (1, .cell [.int .i64 k, .int .i64 x, .int .i64 r, .lit u3]), (5, .int .i64 (atN j : Nat)), (21, .list cnt (ks .i64 (Zl L n))), (22, .int .i64 cnt), (23, .int .i64 j)], []⟩ a Wj :=
    QAE i1 i2 (QX (by rw [i3]; simp only [Rep]) (QX (by rw [i4]; exact hlit i10) (QX (by rw [i5]; simp only [Rep]) (QX (by rw [i6]; exact hrowR i9) (QX (by rw [i7]; simp only [Rep]) (QX (by rw [i8]; simp only [Rep]) Qcv))))))
   have hI : ∀ {qs : List AO} {a : Act}, Qbt 1 qs = true → Qbt 21 qs = true → a.tmps.getD 1 undef = v1 → a.tmps.getD 21 undef = sv → ∀ p ∈ [(1, v1), (21, sv)], Qbt p.1 qs = true ∧ a.tmps.getD p.1 undef = p.2 := fun h1 h2 h3 h4 p hp => by
    simp only [qx, q9, or_false] at hp
    rcases hp with rfl | rfl
    ·exact ⟨h1, h3⟩
    ·exact ⟨h2, h4⟩
   refine wpIn_seq ?_
   refine Ze (Q := fun _ st' => st' = ⟨[(24, .bool (decide ((j : Int) < cnt))), (0, .lit yv), (1, .cell [.int .i64 k, .int .i64 x, .int .i64 r, .lit u3]), (5, .int .i64 (atN j : Nat)), (21, .list cnt (ks .i64 (Zl L n))), (22, .int .i64 cnt), (23, .int .i64 j)], []⟩) (hF i10) hd1 [(1, v1), (21, sv)] (hI rfl rfl i4 i6) (by simp (disch := omega) only [rq, simprocAttr]) hsA ?_
   rintro _ aB WB rfl hsB tB
   have bW : Below Wj.heap.size Wj WB := hsB.2.2.1
   show (Code.seq (.cond _ .skip (.exit 0)) _).wpIn Fence.wide 4 _ _ aB WB
   have h24 : aB.eval (.tmp 24) = .bool (decide ((j : Int) < cnt)) := by
    obtain ⟨_, _, _, _, _, _, h⟩ := hsB
    have h : Rep _ (.bool _) (aB.tmps.getD 24 undef) := h 24
    simp only [Rep] at h
    exact h
   refine wpIn_seq ?_
   by_cases hjc : j < cnt
   ·have e24 : decide ((j : Int) < cnt) = true := by simp; omega
    rw [e24] at h24 hsB
    obtain ⟨m, p1, p2, p3, p4, p5, p6⟩ := pf j hjc
    have la : (ks .i64 (Zl L n)).drop j = .int .i64 m :: (ks .i64 (Zl L n)).drop (j + 1) := by
     have h := Qbu (K := .i64) (l := Zl L n) (i := j) (by omega)
     rw [p1, ← Jr] at h
     exact h
    refine wpIn_cond_true h24 (wpIn_skip ?_)
    show (Code.seq (.block 1 (.seq d5 _)) _).wpIn Fence.wide 4 _ _ aB WB
    obtain ⟨mk, hmk⟩ : ∃ mk, m * k = mk := ⟨_, rfl⟩
    rw [hmk] at p4 p5 p6
    have emk : (m : Int) * (k : Int) = mk := by rw [← hmk]; simp
    have e8 : ((atN j : Nat) : Int) + (mk : Int) = ((atN (j + 1) : Nat) : Int) := by omega
    obtain ⟨nk, hnk'⟩ : ∃ nk, n * k = nk := ⟨_, rfl⟩
    rw [hnk'] at p6 hnk hcap hl
    have hm4 : (m : Int) ≤ 4000 := by omega
    refine wpIn_seq (wpIn_block (wpIn_seq ?_))
    refine Ze (Q := fun _ st' => Le 0 st' ⟨[(7, .int .i64 m), (0, .lit yv), (1, .cell [.int .i64 k, .int .i64 x, .int .i64 r, .lit u3]), (5, .int .i64 (atN j : Nat)), (21, .list cnt (ks .i64 (Zl L n))), (22, .int .i64 cnt), (23, .int .i64 j)], []⟩) (hF i10) hd5 [(1, v1), (21, sv)] (hI rfl rfl (tB (1, v1) (by simp)) (tB (21, sv) (by simp)))
     (by simp (disch := omega) only [rq, simprocAttr, la, Qc]; exact Qe) hsB ?_
    intro st5 a5 W5 hle5 hs5' t5
    have hs5 := hle5 _ _ _ rfl hs5'
    show (Code.seq d6 _).wpIn Fence.wide 4 _ _ a5 W5
    refine wpIn_seq ?_
    refine Ze (Q := fun _ st' => Le 0 st' ⟨[(8, .int .i64 (atN (j + 1) : Nat)), (0, .lit yv), (1, .cell [.int .i64 k, .int .i64 x, .int .i64 r, .lit u3]), (5, .int .i64 (atN j : Nat)), (21, .list cnt (ks .i64 (Zl L n))), (22, .int .i64 cnt), (23, .int .i64 j)], []⟩) (hF i10) hd6 [(1, v1), (21, sv)] (hI rfl rfl (t5 (1, v1) (by simp)) (t5 (21, sv) (by simp)))
     (by simp (disch := omega) only [rq, simprocAttr, emk, e8]; exact Qe) hs5 ?_
    intro st6 a6 W6 hle6 hs6' t6
    have hs6 := hle6 _ _ _ rfl hs6'
    show (Code.seq (.seq (.region id7 ops false) _) d8).wpIn Fence.wide 4 _ _ a6 W6
    refine wpIn_seq (wpIn_seq (wpIn_region_list ?_))
    rw [hops]
    refine XP l5 _ a6 W6 (Qn ?_ _ _ _ (Xb (Q := fun _ st' => Le 0 st' ⟨[(33, .lit yv), (0, .lit yv), (35, .lit u3), (36, .int .i64 (atN j : Nat)), (37, .int .i64 (atN (j + 1) : Nat)), (8, .int .i64 (atN (j + 1) : Nat)), (22, .int .i64 cnt), (23, .int .i64 j)], []⟩) (hF i10) hm5 [(1, v1), (21, sv)] (hI rfl rfl (t6 (1, v1) (by simp)) (t6 (21, sv) (by simp)))
     (by simp (disch := omega) only [rq, simprocAttr]; exact Qe) hs6))
    rintro _ a7 W7 ⟨rfl, st7, hle7, hs7', t7⟩
    have hs7 := hle7 _ _ _ rfl hs7'
    show wpListIn Fence.wide 4 _ _ _ (oS :: oY :: l1) a7 W7
    have W7b : Below Wj.heap.size Wj W7 := hs7.2.2.1
    have hd7 : a7.defers = [] := hs7.1
    have hz7 : a7.tmps.size = 43 := hs7.2.1
    have f7 : ∀ {i : Nat} {v : Value}, Rep ⟨W7, [], [], fun _ _ => False⟩ (.lit v) (a7.tmps.getD i undef) → a7.tmps.getD i undef = v := fun h => by simpa only [Rep] using h
    have f33 : a7.tmps.getD 33 undef = yv := by obtain ⟨_, _, _, _, _, _, h⟩ := hs7; have h : Rep _ (.lit yv) (a7.tmps.getD 33 undef) := h 33; simpa only [Rep] using h
    have f35 : a7.tmps.getD 35 undef = u3 := by obtain ⟨_, _, _, _, _, _, h⟩ := hs7; have h : Rep _ (.lit u3) (a7.tmps.getD 35 undef) := h 35; simpa only [Rep] using h
    have f8 : a7.tmps.getD 8 undef = .int .i64 (atN (j + 1) : Nat) := by obtain ⟨_, _, _, _, _, _, h⟩ := hs7; have h : Rep _ (.int .i64 _) (a7.tmps.getD 8 undef) := h 8; simpa only [Rep] using h
    have f22 : a7.tmps.getD 22 undef = .int .i64 cnt := by obtain ⟨_, _, _, _, _, _, h⟩ := hs7; have h : Rep _ (.int .i64 _) (a7.tmps.getD 22 undef) := h 22; simpa only [Rep] using h
    have f23 : a7.tmps.getD 23 undef = .int .i64 j := by obtain ⟨_, _, _, _, _, _, h⟩ := hs7; have h : Rep _ (.int .i64 _) (a7.tmps.getD 23 undef) := h 23; simpa only [Rep] using h
    obtain ⟨be7, g7, _, hη, _⟩ := hs7.eta (hF i10).2
    obtain ⟨cS, dS, _, gS⟩ := Zi hoS
    obtain ⟨tS, eS, opS, uS, zS⟩ := QtV (Qi2 cS (by intro h; cases h))
    have gS' : oS.guard = none := by
     rcases gS with ⟨h, _⟩ | ⟨_, _, _, _, _, h⟩
     ·exact h
     ·cases h
    have ex : a7.eval (.tmp 35) = .slice sa nk cap := by rw [← hl]; exact f35.trans e3
    have hrun := Qnt (X := ⟨W7, [], be7, fun _ _ => False⟩) g7 hη opS uS zS ex (l := (atN j : Nat)) (h := (atN (j + 1) : Nat)) (by simp [loA, opd, look]) (by simp [hiA, opd, look]) (by omega) (by omega) (by omega)
    simp only [qw] at hrun
    unfold wpListIn
    rw [qh (by simp [Region.wanted, gS'])]
    unfold Oper.wpIn
    refine ⟨fun _ _ => trivial, ?_⟩
    rw [Qzb, hrun]
    show wpListIn Fence.wide 4 _ _ _ (oY :: l1) (a7.put oS.dst _) W7
    rw [← dS]
    obtain ⟨cY, dY, _, gY⟩ := Zi hoY
    obtain ⟨cl, opY, calY, argY⟩ := JN cY
    have gY' : oY.guard = none := by
     rcases gY with ⟨h, _⟩ | ⟨_, _, _, _, _, h⟩
     ·exact h
     ·cases h
    have argY' : cl.args = #[.tmp 38] := ye argY.symm
    unfold wpListIn
    rw [qh (by simp [Region.wanted, gY'])]
    have hJ7 : J ((List.finRange cnt).take j) W7 := hJ _ Wj W7 none i11 (Qat W7b) (fun r h => by cases h)
    have hlen : ((List.finRange cnt).take j).length < cnt := by simp; omega
    obtain ⟨vj, hvj⟩ : ∃ vj : Value, vj = .slice (if cap = atN j then sa else sa.map (·.add (atN j * 1))) (atN (j + 1) - atN j) (cap - atN j) := ⟨_, rfl⟩
    have hY' := hY ((List.finRange cnt).take j) ⟨j, hjc⟩ W7 hJ7 hlen
    simp only at hY'
    rw [← hvj] at hY' ⊢
    have p38 : (a7.put (some 38) vj).tmps.getD 38 undef = vj := by simp [Act.put, hz7]
    have p33 : (a7.put (some 38) vj).tmps.getD 33 undef = .func (.yield ll) #[] #[] := by rw [Z9 (by simp), f33]; exact hyv.symm
    refine QeP opY calY argY' p33 p38 hY' ?_
    rw [← dY]
    have z8 : ∀ bb : Bool, ((a7.put (some 38) vj).put (some 39) (.bool bb)).tmps.size = 43 := fun bb => by rw [Xm, Xm]; exact hz7
    have p39 : ∀ bb : Bool, ((a7.put (some 38) vj).put (some 39) (.bool bb)).tmps.getD 39 undef = .bool bb := fun bb => by simp [Act.put, hz7]
    have pO : ∀ (bb : Bool) (i : Nat), i ≠ 38 → i ≠ 39 → ((a7.put (some 38) vj).put (some 39) (.bool bb)).tmps.getD i undef = a7.tmps.getD i undef := fun bb i h1 h2 => by
     rw [Z9 (by simpa using fun h => h2 h.symm), Z9 (by simpa using fun h => h1 h.symm)]
    have d8' : ∀ bb : Bool, ((a7.put (some 38) vj).put (some 39) (.bool bb)).defers = [] := fun bb => by rw [Jq, Jq]; exact hd7
    have hI3 : ∀ {qs : List AO} {a : Act}, Qbt 0 qs = true → Qbt 1 qs = true → Qbt 21 qs = true → a.tmps.getD 0 undef = yv → a.tmps.getD 1 undef = v1 → a.tmps.getD 21 undef = sv → ∀ p ∈ [(0, yv), (1, v1), (21, sv)], Qbt p.1 qs = true ∧ a.tmps.getD p.1 undef = p.2 := fun h1 h2 h3 h4 h5 h6 p hp => by
     simp only [qx, q9, or_false] at hp
     rcases hp with rfl | rfl | rfl
     ·exact ⟨h1, h4⟩
     ·exact ⟨h2, h5⟩
     ·exact ⟨h3, h6⟩
    have f0 : a7.tmps.getD 0 undef = yv := by obtain ⟨_, _, _, _, _, _, h⟩ := hs7; have h : Rep _ (.lit yv) (a7.tmps.getD 0 undef) := h 0; simpa only [Rep] using h
    have q0 : ∀ bb : Bool, _ := fun bb => (pO bb 0 (by omega) (by omega)).trans f0
    have q1 : ∀ bb : Bool, _ := fun bb => (pO bb 1 (by omega) (by omega)).trans (t7 (1, v1) (by simp))
    have q21 : ∀ bb : Bool, _ := fun bb => (pO bb 21 (by omega) (by omega)).trans (t7 (21, sv) (by simp))
    rintro e W8 (⟨rfl, hJ8, hK8⟩ | ⟨rfl, hX8⟩)
    ·refine ⟨true, rfl, ?_⟩
     have hbr7 : W7.heap[br]? = some (.cells cur t0 frz) := (W7b.block br (qn.1 i9).1).trans i9
     have hbr8 : W8.heap[br]? = some (.cells cur t0 frz) := (hK8.1 br cur t0 frz hbr7 (by simp)).trans hbr7
     have hk8 : ∀ (b k : Nat) (v : Value), ¬ C b k → w.cell? ⟨b, k, none⟩ = some v → W8.cell? ⟨b, k, none⟩ = some v := fun b k v hc hv => by
      have h1 := i10 b k v hc hv
      exact hK8.2 b k v hc ((W7b.cell (p := ⟨b, k, none⟩) (World.block_lt_of_cell? Wj _ h1)).trans h1)
     have hs8 : Sim (ΓW W8) ⟨[(39, .bool true), (8, .int .i64 (atN (j + 1) : Nat)), (22, .int .i64 cnt), (23, .int .i64 j)], []⟩ ((a7.put (some 38) vj).put (some 39) (.bool true)) W8 :=
      QAE (d8' true) (z8 true) (QX (by rw [p39]; simp only [Rep]) (QX (by rw [pO true 8 (by omega) (by omega), f8]; simp only [Rep]) (QX (by rw [pO true 22 (by omega) (by omega), f22]; simp only [Rep]) (QX (by rw [pO true 23 (by omega) (by omega), f23]; simp only [Rep]) Qcv))))
     refine Qn ?_ _ _ _ (Xb (Q := fun _ st' => Le 0 st' ⟨[(40, .bool false), (8, .int .i64 (atN (j + 1) : Nat)), (22, .int .i64 cnt), (23, .int .i64 j)], []⟩) (hF hk8) hm1 [(0, yv), (1, v1), (21, sv)] (hI3 rfl rfl rfl (q0 true) (q1 true) (q21 true))
      (by simp (disch := omega) only [rq, simprocAttr, yq]; exact Qe) hs8)
     rintro _ a9 W9 ⟨rfl, st9, hle9, hs9', t9⟩
     have hs9 := hle9 _ _ _ rfl hs9'
     show (Code.cond _ .ret .skip).wpIn Fence.wide 4 _ _ a9 W9
     have h40 : a9.eval (.tmp 40) = .bool false := by obtain ⟨_, _, _, _, _, _, h⟩ := hs9; have h : Rep _ (.bool _) (a9.tmps.getD 40 undef) := h 40; simp only [Rep] at h; exact h
     refine wpIn_cond_false h40 (wpIn_skip ?_)
     show d8.wpIn Fence.wide 4 _ _ a9 W9
     refine Ze (Q := fun _ st' => Le 0 st' ⟨[(5, .int .i64 (atN (j + 1) : Nat)), (22, .int .i64 cnt), (23, .int .i64 j)], []⟩) (hF hk8) hd8 [(0, yv), (1, v1), (21, sv)] (hI3 rfl rfl rfl (t9 (0, yv) (by simp)) (t9 (1, v1) (by simp)) (t9 (21, sv) (by simp)))
      (by simp (disch := omega) only [rq, simprocAttr]; exact Qe) hs9 ?_
     intro stA aA WA hleA hsA' tA
     have hsA2 := hleA _ _ _ rfl hsA'
     show d9.wpIn Fence.wide 4 _ _ aA WA
     refine Ze (Q := fun _ st' => Le 0 st' ⟨[(5, .int .i64 (atN (j + 1) : Nat)), (22, .int .i64 cnt), (23, .int .i64 ((j + 1 : Nat) : Int))], []⟩) (hF hk8) hd9 [(0, yv), (1, v1), (21, sv)] (hI3 rfl rfl rfl (tA (0, yv) (by simp)) (tA (1, v1) (by simp)) (tA (21, sv) (by simp)))
      (by simp (disch := omega) only [rq, simprocAttr]; exact Qe) hsA2 ?_
     intro stC aC WC hleC hsC' tC
     have hsC := hleC _ _ _ rfl hsC'
     have WCb : Below W8.heap.size W8 WC := hsC.2.2.1
     obtain ⟨h1, h2, _, _, _, _, hC⟩ := hsC
     have c5 : aC.tmps.getD 5 undef = .int .i64 (atN (j + 1) : Nat) := by have h : Rep _ (.int .i64 _) (aC.tmps.getD 5 undef) := hC 5; simpa only [Rep] using h
     have c22 : aC.tmps.getD 22 undef = .int .i64 cnt := by have h : Rep _ (.int .i64 _) (aC.tmps.getD 22 undef) := hC 22; simpa only [Rep] using h
     have c23 : aC.tmps.getD 23 undef = .int .i64 ((j + 1 : Nat) : Int) := by have h : Rep _ (.int .i64 _) (aC.tmps.getD 23 undef) := hC 23; simpa only [Rep] using h
     refine ⟨⟨j + 1, by omega, h1, h2, tC (0, yv) (by simp), tC (1, v1) (by simp), c5, tC (21, sv) (by simp), c22, c23, (WCb.block br (qn.1 hbr8).1).trans hbr8, fun b k v hc hv => ?_, ?_⟩, ?_⟩
     ·have h := hk8 b k v hc hv
      exact (WCb.cell (p := ⟨b, k, none⟩) (World.block_lt_of_cell? W8 _ h)).trans h
     ·rw [Qtq hjc]
      exact hJ _ W8 WC none hJ8 (Qat WCb) (fun r h => by cases h)
     ·simp only [c23, i8, qw]
      omega
    ·refine ⟨false, rfl, ?_⟩
     have hs8 : Sim (ΓW W8) ⟨[(39, .bool false)], []⟩ ((a7.put (some 38) vj).put (some 39) (.bool false)) W8 :=
      QAE (d8' false) (z8 false) (QX (by rw [p39]; simp only [Rep]) Qcv)
     let P0 : Prg := ⟨P.prog, [], fun _ _ h => by cases h⟩
     refine Qn ?_ _ _ _ (Xb (P := P0) (N := 43) (Γ := ΓW W8) (Q := fun _ st' => Le 0 st' ⟨[(40, .bool true)], []⟩) ⟨rfl, fun _ _ h => by cases h⟩ hm1 [] (fun p hp => by cases hp)
      (by simp (disch := omega) only [rq, simprocAttr, yJ]; exact Qe) hs8)
     rintro _ a9 W9 ⟨rfl, st9, hle9, hs9', t9⟩
     have hs9 := hle9 _ _ _ rfl hs9'
     show (Code.cond _ .ret .skip).wpIn Fence.wide 4 _ _ a9 W9
     have h40 : a9.eval (.tmp 40) = .bool true := by obtain ⟨_, _, _, _, _, _, h⟩ := hs9; have h : Rep _ (.bool _) (a9.tmps.getD 40 undef) := h 40; simp only [Rep] at h; exact h
     refine wpIn_cond_true h40 (wpIn_ret ?_)
     have hX9 := hJx _ W8 W9 none hX8 (Qat hs9.2.2.1) (fun r h => by cases h)
     exact ⟨hs9.1, .tuple #[], results_none (ye hrl) _ _ _, ⟨_, rfl⟩, .inr ⟨_, trivial, hX9⟩⟩
   ·have e24 : decide ((j : Int) < cnt) = false := by simp; omega
    rw [e24] at h24
    refine wpIn_cond_false h24 (wpIn_exit ?_)
    have hjc' : j = cnt := by omega
    rw [hjc', qi (by simp)] at i11
    have hJB : J (List.finRange cnt) WB := hJ _ Wj WB none i11 (Qat bW) (fun r h => by cases h)
    have hdB : aB.defers = [] := hsB.1
    exact ⟨hdB, .tuple #[], results_none (ye hrl) _ _ _, ⟨_, rfl⟩, .inl ⟨_, rfl, hJB⟩⟩
def QeH (g : Nat) (P : Prg) (f : Nat) : Prop := ∀ (c x r : Int) (l : List Int), VC P f [clA c x r l] (.fn (.func g) [] [.cell [.int .i64 c, .int .i64 x, .int .i64 r, il l]])
theorem QqZ {P : Prg} {f g t0 : Nat} (b : Body P f 4 [.tmp 2] (QbH g t0)) : QeH g P f := by
 intro c x r l
 refine Qi 1 (by simp [isDL, isD, Qar, clA]) (by simp [isD, isDL, Qar]) (Qb b (by simp) ?_)
 simp (disch := omega) only [rq, simprocAttr, QbH, clA, il]
 simp [QK, Qx, frzL, Qu, isDL, isD, frzL_T _ (Qp .i32 _)]
def Qan (c r : Int) (l : List Int) : List (List Int) := (List.range (Zl (Q5 r).toNat (l.length / c.toNat)).length).map (Qb8 ((Q5 r).toNat * c.toNat) l)
theorem Qwe {c x r : Int} {l : List Int} (h : Qwf c x r l = 0) : ∃ k n : Nat, c = k ∧ 1 ≤ k ∧ k ≤ 1000 ∧ l.length = n * k ∧ okA r n ∧ l.length ≤ 4000 := by
 unfold Qwf at h
 split at h
 ·cases h
 rename_i h1
 split at h
 ·cases h
 rename_i h2
 split at h
 ·cases h
 rename_i h3
 have h3' : Qx6 c x r (l.length / c) = 0 := by simpa using h3
 have h2' : (l.length : Int) % c = 0 := by simpa using h2
 obtain ⟨k, rfl⟩ : ∃ k : Nat, c = k := ⟨c.toNat, by omega⟩
 have e1 : (l.length : Int) / (k : Int) = ((l.length / k : Nat) : Int) := by simp
 have e2 : l.length % k = 0 := by exact_mod_cast h2'
 rw [e1] at h3'
 have e3 := Yi l.length k
 rw [e2, yI, yi] at e3
 unfold Qx6 at h3'
 split at h3'
 ·cases h3'
 rename_i a1
 split at h3'
 ·cases h3'
 rename_i a2
 split at h3'
 ·cases h3'
 rename_i a3
 split at h3'
 ·cases h3'
 rename_i a4
 obtain ⟨n, hn⟩ : ∃ n, l.length / k = n := ⟨_, rfl⟩
 rw [hn] at e3 a2 a3 a4
 have a5 : QbM k x = 0 := by simpa using a1
 have a6 : QtL r n = 0 := by simpa using a4
 rcases Qce (k : Int) x with h4 | ⟨_, h5, h6, h7⟩
 ·omega
 have hle : n * k ≤ 4000 := by
  have h8 : (n : Int) ≤ 4000 / (k : Int) := by omega
  have h9 := Int.mul_le_of_le_ediv (a := (n : Int)) (b := 4000) (c := (k : Int)) (by omega) h8
  have h10 : ((n * k : Nat) : Int) ≤ 4000 := by rw [Yk]; exact h9
  omega
 have hn4 : n ≤ 4000 := qX (jY n (by omega)) hle
 refine ⟨k, n, rfl, by omega, by omega, e3.symm, ?_, by omega⟩
 unfold QtL at a6
 split at a6
 ·cases a6
 split at a6
 ·cases a6
 split at a6
 ·cases a6
 rename_i b1 b2 b3
 refine ⟨by omega, by omega, by omega, by omega, ?_⟩
 have hlong : 1 ≤ Q5 r := Qcc r
 obtain ⟨L, hLe⟩ : ∃ L : Nat, Q5 r = L := ⟨(Q5 r).toNat, by omega⟩
 rw [hLe, qw, qw, Qaq]
 rw [hLe] at b3
 have h1 : (n : Int) + (L : Int) - 1 = ((n - 1 + L : Nat) : Int) := by omega
 rw [h1, ← jv, Nat.add_div_right _ (by omega)] at b3
 omega
def QuZ (c : Nat) : Nat := (2 * c) % 18446744073709551616 ^^^ (if 9223372036854775808 ≤ c then 4823603603198064275 else 0)
def Qgi : Nat → Nat → Nat
 | 0, c => c
 | k + 1, c => Qgi k (QuZ c)
theorem Qr8 (c : Nat) : QuZ c < 18446744073709551616 := by
 unfold QuZ
 have : (if 9223372036854775808 ≤ c then 4823603603198064275 else 0) < 2 ^ 64 := by split <;> decide
 exact yH (n := 64) (yc _ (by decide)) this
theorem QjD : ∀ (k : Nat) {c : Nat}, c < 18446744073709551616 → Qgi k c < 18446744073709551616
 | 0, _, h => h
 | k + 1, c, _ => QjD k (Qr8 c)
theorem QlE : ∀ (k c : Nat), Qgi (k + 1) c = QuZ (Qgi k c)
 | 0, _ => rfl
 | k + 1, c => by rw [Qgi, QlE k, Qgi]
theorem QwP (c : Nat) (h : c < 18446744073709551616) : (9223372036854775808 ≤ c) ↔ c.testBit 63 = true := by
 constructor
 ·intro h2
  rw [Nat.testBit_eq_decide_div_mod_eq]
  have : c / 2 ^ 63 = 1 := by omega
  rw [this]; rfl
 ·intro h2
  exact Nat.ge_two_pow_of_testBit h2
theorem QuY {x l : Nat} (hx : x < 18446744073709551616) (hl : l < 9223372036854775808) : QuZ (x ^^^ l) = QuZ x ^^^ 2 * l := by
 have hxl : x ^^^ l < 18446744073709551616 := yH (n := 64) hx (by omega)
 have e1 : (9223372036854775808 ≤ x ^^^ l) ↔ (9223372036854775808 ≤ x) := by
  rw [QwP _ hxl, QwP _ hx, jG, Nat.testBit_lt_two_pow (show l < 2 ^ 63 from hl), Bool.xor_false]
 have e2 : (2 * (x ^^^ l)) % 18446744073709551616 = (2 * x) % 18446744073709551616 ^^^ 2 * l := by
  apply jM
  intro i
  rw [show (18446744073709551616 : Nat) = 2 ^ 64 from rfl, jZ, jG, jZ]
  rw [show 2 * (x ^^^ l) = 2 ^ 1 * (x ^^^ l) from rfl, show 2 * x = 2 ^ 1 * x from rfl, show 2 * l = 2 ^ 1 * l from rfl, yp, yp, yp, jG]
  by_cases h : i < 64
  ·by_cases h1 : 1 ≤ i <;> simp [h, h1]
  ·have h2 : l.testBit (i - 1) = false := Nat.testBit_lt_two_pow (yg (show l < 2 ^ 63 from hl) (qy (by decide) (by omega)))
   simp [h, h2]
 unfold QuZ
 rw [e2]
 by_cases h : 9223372036854775808 ≤ x
 ·rw [qh h, qh (e1.2 h), je, je, jo (2 * l)]
 ·rw [qe h, qe (fun h2 => h (e1.1 h2)), je, je, jo (2 * l)]
theorem Qo8 : ∀ (k : Nat) {x l : Nat}, k ≤ 64 → x < 18446744073709551616 → l < 2 ^ (64 - k) → Qgi k (x ^^^ l) = Qgi k x ^^^ 2 ^ k * l
 | 0, x, l, _, _, _ => by simp [Qgi]
 | k + 1, x, l, hk, hx, hl => by
  have h1 : l < 9223372036854775808 := yg hl (qy (by omega) (by omega : 64 - (k + 1) ≤ 63))
  have h2 : 2 * l < 2 ^ (64 - k) := by
   rw [show 64 - k = (64 - (k + 1)) + 1 by omega, yV]; omega
  rw [Qgi, QuY hx h1, Qo8 k (by omega) (Qr8 x) h2, Qgi, yV, ja]
def Qza (s b : Nat) : Nat := Qgi 8 (s ^^^ b * 72057594037927936)
theorem QwY {s b : Nat} (hs : s < 18446744073709551616) : s ^^^ b * 72057594037927936 = (s / 72057594037927936 ^^^ b) * 72057594037927936 ^^^ s % 72057594037927936 := by
 have h := Qk2 s 56
 rw [show (2 : Nat) ^ 56 = 72057594037927936 from rfl] at h
 have e : (s / 72057594037927936 ^^^ b) * 72057594037927936 = s / 72057594037927936 * 72057594037927936 ^^^ b * 72057594037927936 := by
  apply jM
  intro i
  rw [jG, show (72057594037927936 : Nat) = 2 ^ 56 from rfl, yi _ (2 ^ 56), yi _ (2 ^ 56), yi b, yp, yp, yp, jG]
  by_cases h : 56 ≤ i <;> simp [h]
 rw [e, jo (s / 72057594037927936 * 72057594037927936), je, yi (s / 72057594037927936), jo (72057594037927936 * _), ← h, jo]
theorem Qqf {s b : Nat} (hs : s < 18446744073709551616) (hb : b < 256) : Qza s b = s * 256 % 18446744073709551616 ^^^ Qgi 8 ((s / 72057594037927936 ^^^ b) * 72057594037927936) := by
 have h0 : (s / 72057594037927936 ^^^ b) < 2 ^ 8 := yH (by omega) hb
 rw [Qza, QwY hs, Qo8 8 (by omega) (by omega) (by show s % 72057594037927936 < 2 ^ 56; exact yc _ (by decide)), jo]
 congr 1
 omega
theorem Qxj {s b : Nat} (hs : s < 18446744073709551616) (hb : b < 256) : Qza s b < 18446744073709551616 := QjD 8 (yH (n := 64) hs (by omega))
def Qbn (s : Nat) (l : List UInt8) : Nat := l.foldl (fun s b => Qza s b.toNat) s
theorem Qr9 {s : Nat} {l : List UInt8} {k : Nat} (h : k < l.length) : Qbn s (l.take (k + 1)) = Qza (Qbn s (l.take k)) (l[k]).toNat := by
 rw [qm h, Qbn, j3]; rfl
theorem QjE : ∀ {l : List UInt8} {s : Nat}, s < 18446744073709551616 → Qbn s l < 18446744073709551616
 | [], _, h => h
 | b :: l, s, h => QjE (l := l) (Qxj h (UInt8.toNat_lt b))
def Qjy (i : Nat) : List Int := (List.range 256).map fun j => if j < i then ((Qgi 8 (j * 72057594037927936) : Nat) : Int) else 0
theorem XL (i : Nat) : (Qjy i).length = 256 := by simp [Qjy]
theorem Qgf {i j : Nat} (h : j < 256) : (Qjy i)[j]'(by rw [XL]; exact h) = if j < i then ((Qgi 8 (j * 72057594037927936) : Nat) : Int) else 0 := by simp [Qjy]
theorem QuN {i : Nat} (h : i < 256) : (Qjy i).set i ((Qgi 8 (i * 72057594037927936) : Nat) : Int) = Qjy (i + 1) := by
 refine yK (by simp [XL]) fun j h1 h2 => ?_
 have hj : j < 256 := by simpa [XL] using h2
 rw [j9, Qgf hj]
 split
 ·rename_i e; subst e; rw [Qgf hj, qh (by omega)]
 ·rename_i e; rw [Qgf hj]
  by_cases h3 : j < i
  ·rw [qh h3, qh (by omega)]
  ·rw [qe h3, qe (by omega)]
theorem Qxo (c : Nat) : Ql true .u64 (c : Int) 1 = some (.int .u64 (((2 * c) % 18446744073709551616 : Nat) : Int)) := by
 have h3 : ¬ ((1 : Int) < 0) := by omega
 simp only [Ql, qe h3, yo]
 have h5 : (min (1 : Int).toNat IntKind.u64.bits) = 1 := rfl
 rw [h5, Z7]
 congr 2
 omega
theorem Qsb (c : Nat) : Ql true .u64 (c : Int) 8 = some (.int .u64 ((c * 256 % 18446744073709551616 : Nat) : Int)) := by
 have h3 : ¬ ((8 : Int) < 0) := by omega
 simp only [Ql, qe h3, yo]
 have h5 : (min (8 : Int).toNat IntKind.u64.bits) = 8 := rfl
 rw [h5, Z7]
 congr 2
def Qky (P : Prg) (f : Nat) : Prop := VC P f [] (.cell (ks .u64 (Qjy 256)))
set_option maxRecDepth 40000 in
theorem Qod {P : Prg} {f t0 : Nat} (bd : Body P f 25 [.tmp 0] (JF t0)) : Qky P f := by
 refine Qi 1 rfl (by simp [isD, QwM (Qp _ _)]) (Qb bd (by simp) ?_)
 unfold JF
 simp (disch := omega) only [rq, simprocAttr]
 refine Qj (ι := Nat) (fun i => ⟨[(5, .int .i64 i), (1, .ref 0 1 0)], [⟨t0, 256, 1, ks .u64 (Qjy i), 0⟩]⟩) (fun i => i ≤ 256) (fun i => 256 - i) 0 (Qe) (by omega) ?_
 intro i hi
 by_cases hlt : i < 256
 ·have s0 : Ql true .u64 (i : Int) 56 = some (.int .u64 ((i * 72057594037927936 : Nat) : Int)) := by
   have := Qu4 (K := .u64) rfl (c := i) (s := 56) (by decide) (by show i * 2 ^ 56 < 2 ^ 64; omega)
   exact this
  have w0 : IntKind.u64.wrap (i : Int) = i := wrap_u64 (by omega) (by omega)
  simp (disch := omega) only [rq, simprocAttr, s0, w0]
  refine Qj (ι := Nat) (fun j => ⟨[(11, .int .i64 j), (3, .int .u64 (Qgi j (i * 72057594037927936))), (5, .int .i64 i), (2, .int .i64 i), (1, .ref 0 1 0)], [⟨t0, 256, 1, ks .u64 (Qjy i), 0⟩]⟩) (fun j => j ≤ 8) (fun j => 8 - j) 0 (QB (by simp [Am.look, Qgi])) (by omega) ?_
  intro j hj
  by_cases hjl : j < 8
  ·have hc := QjD j (c := i * 72057594037927936) (by omega)
   have hn := QlE j (i * 72057594037927936)
   generalize Qgi j (i * 72057594037927936) = c at *
   have a1 := Qxo c
   have a2 : Ql false .u64 (c : Int) 63 = some (.int .u64 ((c / 9223372036854775808 : Nat) : Int)) := Qnw (K := .u64) (n := c) (k := 63) (by decide)
   have hm := yc (2 * c) (show 0 < 18446744073709551616 by decide)
   by_cases h2 : 9223372036854775808 ≤ c
   ·have a3 : IntKind.u64.wrap (BitVec.ofInt IntKind.u64.bits ((2 * c % 18446744073709551616 : Nat) : Int) ^^^ BitVec.ofInt IntKind.u64.bits 4823603603198064275).toNat = ((Qgi (j + 1) (i * 72057594037927936) : Nat) : Int) := by
     rw [hn, QuZ, qh h2]
     exact Quu (K := .u64) rfl (a := 2 * c % 18446744073709551616) (b := 4823603603198064275) hm (by decide)
    have a4 : c / 9223372036854775808 = 1 := by omega
    rw [a4] at a2
    generalize 2 * c % 18446744073709551616 = d at *
    simp (disch := omega) only [rq, simprocAttr, a1, a2, a3]
    exact ⟨j + 1, by omega, by omega, Qe⟩
   ·have a3 : IntKind.u64.wrap (BitVec.ofInt IntKind.u64.bits ((2 * c % 18446744073709551616 : Nat) : Int) ^^^ BitVec.ofInt IntKind.u64.bits 0).toNat = ((Qgi (j + 1) (i * 72057594037927936) : Nat) : Int) := by
     rw [hn, QuZ, qe h2]
     exact Quu (K := .u64) rfl (a := 2 * c % 18446744073709551616) (b := 0) hm (by decide)
    have a4 : c / 9223372036854775808 = 0 := by omega
    rw [a4] at a2
    generalize 2 * c % 18446744073709551616 = d at *
    simp (disch := omega) only [rq, simprocAttr, a1, a2, a3]
    exact ⟨j + 1, by omega, by omega, Qe⟩
  ·obtain rfl : j = 8 := by omega
   have e1 := XL i
   have e2 := Qc .u64 (Qjy i)
   have e3 : (ks .u64 (Qjy i)).take i ++ [.int .u64 (Qgi 8 (i * 72057594037927936))] ++ (ks .u64 (Qjy i)).drop (i + 1) = ks .u64 (Qjy (i + 1)) := by
    rw [← QuN hlt, yr, qh (by rw [XL]; exact hlt)]; simp [ks, jc, jf]
   simp (disch := omega) only [rq, simprocAttr, e1, e2, e3]
   exact ⟨i + 1, by omega, by omega, Qe⟩
 ·obtain rfl : i = 256 := by omega
  simp (disch := omega) only [rq, simprocAttr]
  simp [QK, Qx, frzL, Qu, frzL_T _ (Qp _ _)]
def QhT (P : Prg) (f : Nat) : Prop := ∀ (s : Nat) (l : List UInt8), s < 18446744073709551616 → l.length ≤ 1000000 → VC P f [.cell (ks .u64 (Qjy 256)), .int .u64 s, bs l] (.int .u64 (Qbn s l : Nat))
set_option maxRecDepth 40000 in
theorem Qmq {P : Prg} {f : Nat} (bd : Body P f 29 [.tmp 6] Jb) : QhT P f := by
 intro s l hs hl
 refine QJ (by simp [isDL, isD, QM, Zf]) rfl bd ?_
 have t0 := Qc .u64 (Qjy 256)
 rw [XL] at t0
 simp (disch := omega) only [rq, simprocAttr, Jb, bs]
 refine Qj (ι := Nat) (fun k => ⟨[(11, .int .i64 k), (10, .int .i64 l.length), (9, .list l.length (u8 l)), (0, .cell (ks .u64 (Qjy 256))), (1, .int .u64 (Qbn s (l.take k)))], []⟩) (fun k => k ≤ l.length) (fun k => l.length - k) 0 (QB (by simp [Am.look, Qbn])) (by omega) ?_
 intro k hk
 have hc := QjE (l := l.take k) hs
 by_cases hlt : k < l.length
 ·have e1 := Qfm hlt
  have hn := Qr9 (s := s) hlt
  generalize Qbn s (l.take k) = c at *
  have hb := (l[k]).toNat_lt
  rw [Qqf hc hb] at hn
  have h0 : (c / 72057594037927936 ^^^ (l[k]).toNat) < 256 := yH (n := 8) (by omega) hb
  have h1 := QjD 8 (c := (c / 72057594037927936 ^^^ (l[k]).toNat) * 72057594037927936) (by omega)
  have a1 : Ql false .u64 (c : Int) 56 = some (.int .u64 ((c / 72057594037927936 : Nat) : Int)) := Qnw (K := .u64) (n := c) (k := 56) (by decide)
  have a0 := Qsb c
  have a2 : IntKind.u8.wrap ((c / 72057594037927936 : Nat) : Int) = ((c / 72057594037927936 : Nat) : Int) := by rw [ZP]; omega
  have a3 : IntKind.u8.wrap (BitVec.ofInt IntKind.u8.bits ((c / 72057594037927936 : Nat) : Int) ^^^ BitVec.ofInt IntKind.u8.bits ((l[k]).toNat : Int)).toNat = ((c / 72057594037927936 ^^^ (l[k]).toNat : Nat) : Int) :=
   Quu (K := .u8) rfl (a := c / 72057594037927936) (b := (l[k]).toNat) (by show c / 72057594037927936 < 256; omega) hb
  have hm := yc (c * 256) (show 0 < 18446744073709551616 by decide)
  have a4 : IntKind.u64.wrap (BitVec.ofInt IntKind.u64.bits ((c * 256 % 18446744073709551616 : Nat) : Int) ^^^ BitVec.ofInt IntKind.u64.bits ((Qgi 8 ((c / 72057594037927936 ^^^ (l[k]).toNat) * 72057594037927936) : Nat) : Int)).toNat = ((Qbn s (l.take (k + 1)) : Nat) : Int) := by
   rw [hn]; exact Quu (K := .u64) rfl hm h1
  generalize c * 256 % 18446744073709551616 = d at *
  generalize c / 72057594037927936 ^^^ (l[k]).toNat = x at *
  have e2 : (ks .u64 (Qjy 256)).drop x = .int .u64 ((Qgi 8 (x * 72057594037927936) : Nat) : Int) :: ks .u64 ((Qjy 256).drop (x + 1)) := by
   rw [Jr, qK (by rw [XL]; exact h0), Qdh, Qgf h0, qh h0]
  generalize c / 72057594037927936 = q at *
  simp (disch := omega) only [rq, simprocAttr, e1, a0, a1, a2, a3, a4, e2, t0]
  exact ⟨k + 1, by omega, by omega, Qe⟩
 ·have ek : k = l.length := by omega
  subst ek
  rw [yn]
  simp (disch := omega) only [rq, simprocAttr]
def QoM (P : Prg) (f : Nat) : Prop := ∀ (s : Nat) (l : List UInt8), s < 18446744073709551616 → VC P f [.int .u64 s, bs l] (if 100000 < l.length then .tup [.int .u64 0, .int .i64 4] else .tup [.int .u64 (Qbn s l), .int .i64 0])
theorem QqU {P : Prg} {f fT fB : Nat} (bd : Body P f 13 [.tmp 4, .tmp 5] (Jc fT fB)) (hT : Qky P fT) (hB : QhT P fB) : QoM P f := by
 intro s l hs
 refine QJ (by simp [isDL, isD, QM]) (by split <;> rfl) bd ?_
 by_cases hl : 100000 < l.length
 ·rw [qh hl]
  simp (disch := omega) only [rq, simprocAttr, Jc, bs]
 ·rw [qe hl]
  have hB' := hB s l hs (by omega)
  rw [bs] at hB'
  have hT' : VC P fT [] _ := hT
  simp (disch := omega) only [rq, simprocAttr, Jc, bs]
  iterate 2 (refine Qa (by assumption) ?_; simp (disch := omega) only [rq, simprocAttr])
def QpP (P : Prg) (f : Nat) : Prop := ∀ (l : List UInt8), VC P f [bs l] (if 100000 < l.length then .tup [.int .u64 0, .int .i64 4] else .tup [.int .u64 (Qbn 0 l), .int .i64 0])
theorem QtI {P : Prg} {f fN : Nat} (bd : Body P f 8 [.tmp 2, .tmp 3] (JR fN)) (hN : QoM P fN) : QpP P f := by
 intro l
 refine QJ (by simp [isDL, isD, QM]) (by split <;> rfl) bd ?_
 have hN' := hN 0 l (by decide)
 rw [bs] at hN'
 by_cases hl : 100000 < l.length
 ·rw [qh hl] at hN' ⊢
  simp (disch := omega) only [rq, simprocAttr, JR, bs]
  refine Qa hN' ?_
  simp (disch := omega) only [rq, simprocAttr]
 ·rw [qe hl] at hN' ⊢
  simp (disch := omega) only [rq, simprocAttr, JR, bs]
  refine Qa hN' ?_
  simp (disch := omega) only [rq, simprocAttr]
def sb8 (x : Nat) : Int := if 127 < x % 256 then ((x % 256 : Nat) : Int) - 256 else ((x % 256 : Nat) : Int)
theorem Qze (x : Nat) : -128 ≤ sb8 x ∧ sb8 x ≤ 127 := by unfold sb8; split <;> omega
def ofK (d k : Nat) : List Int := (List.range 16).map fun i => if i < k then sb8 (d / 2 ^ (8 * i)) else 0
theorem Qdf (d k : Nat) : (ofK d k).length = 16 := by simp [ofK]
theorem QxI {d k : Nat} (h : k < 16) : (ofK d k).set k (sb8 (d / 2 ^ (8 * k))) = ofK d (k + 1) := by
 refine yK (by simp [Qdf]) fun j h1 h2 => ?_
 have hj : j < 16 := by simpa [Qdf] using h2
 rw [j9]
 simp only [ofK, List.getElem_map, List.getElem_range]
 split
 ·rename_i e; subst e; rw [qh (by omega)]
 ·by_cases h3 : j < k
  ·rw [qh h3, qh (by omega)]
  ·rw [qe h3, qe (by omega)]
theorem Qw1 (x : Nat) : IntKind.i8.wrap (x : Int) = sb8 x := by
 unfold sb8
 simp only [IntKind.wrap, IntKind.bits, IntKind.signed]
 simp
 split <;> split <;> omega
def Qug (P : Prg) (f : Nat) : Prop := ∀ d : Nat, d < 18446744073709551616 → VC P f [.int .u64 d] (.agg (ks .i32 (ofK d 8)))
theorem Qxw {P : Prg} {f t0 : Nat} (bd : Body P f 18 [.cell 2 t0] (QcD t0)) (ht : Zq P t0 = some (some 16)) : Qug P f := by
 intro d hd
 refine QJ rfl (by simp [isD, Zf]) bd ?_
 unfold QcD
 have z : (z3L : List AV) = ks .i32 (ofK 0 0) := rfl
 have z0 : ks .i32 (ofK 0 0) = ks .i32 (ofK d 0) := rfl
 rw [z]
 have ol := Jl .i32 (ofK 0 0)
 have kl0 : (ks .i32 (ofK 0 0)).length = 16 := rfl
 simp (disch := omega) only [rq, simprocAttr, ol, kl0]
 refine Qj (ι := Nat) (fun i => ⟨[(5, .int .i64 i), (0, .int .u64 d), (3, .ref 1 1 0), (2, .ref 0 1 0)], [⟨t0, 16, 1, ks .i32 (ofK 0 0), 0⟩, ⟨t0, 16, 1, ks .i32 (ofK d i), 0⟩]⟩) (fun i => i ≤ 8) (fun i => 8 - i) 0 (Qe) (by omega) ?_
 intro i hi
 have kl : (ks .i32 (ofK d i)).length = 16 := by rw [Qc, Qdf]
 by_cases hlt : i < 8
 ·have a1 : Ql false .u64 (d : Int) (8 * (i : Int)) = some (.int .u64 ((d / 2 ^ (8 * i) : Nat) : Int)) := by
   have := Qnw (K := .u64) (n := d) (k := 8 * i) (by show 8 * i ≤ 64; omega)
   simpa using this
  have a2 := Qw1 (d / 2 ^ (8 * i))
  have a3 := Qze (d / 2 ^ (8 * i))
  have e3 : (ks .i32 (ofK d i)).take i ++ [.int .i32 (sb8 (d / 2 ^ (8 * i)))] ++ (ks .i32 (ofK d i)).drop (i + 1) = ks .i32 (ofK d (i + 1)) := by
   rw [← QxI (by omega), yr, qh (by rw [Qdf]; omega)]; simp [ks, jc, jf]
  generalize d / 2 ^ (8 * i) = q at *
  generalize sb8 q = y at *
  simp (disch := omega) only [rq, simprocAttr, a1, a2, kl, e3]
  exact ⟨i + 1, by omega, by omega, Qe⟩
 ·obtain rfl : i = 8 := by omega
  have o8 := Jl .i32 (ofK d 8)
  have t8 : (ks .i32 (ofK d 8)).take 16 = ks .i32 (ofK d 8) := qi (by omega)
  simp (disch := omega) only [rq, simprocAttr, kl, kl0, t8, o8, QP, ht]
  try simp [kl]
theorem QwL : ∀ p : List UInt8, isTL (u8 p) = true
 | [] => rfl
 | b :: p => by have := QwL p; simp only [u8, qF, isTL, isT, Bool.true_and] at this ⊢; exact this
def Jf : List Int := List.replicate 16 0
def Qjx (p : List UInt8) : AV := if 64 < p.length then .tup [.agg (ks .i32 Jf), .int .i64 2] else .tup [.agg (ks .i32 (ofK (Qbn 0 p) 8)), .int .i64 0]
theorem QvH (p : List UInt8) : isD (Qjx p) = true := by unfold Qjx; split <;> simp [isD, isDL, Zf]
def QpN (P : Prg) (f : Nat) : Prop := ∀ p : List UInt8, VC P f [.str p] (Qjx p)
theorem Qsf {P : Prg} {f fS fO t0 : Nat} (bd : Body P f 22 [.cell 2 t0, .tmp 3] (QaO fS fO t0)) (hS : QpP P fS) (hO : Qug P fO) (ht : Zq P t0 = some (some 16)) : QpN P f := by
 intro p
 refine QJ rfl (QvH p) bd ?_
 unfold QaO
 have z : (z3L : List AV) = ks .i32 Jf := rfl
 rw [z]
 have ol := Jl .i32 Jf
 have kl0 : (ks .i32 Jf).length = 16 := rfl
 have t0' : (ks .i32 Jf).take 16 = ks .i32 Jf := rfl
 by_cases hp : 64 < p.length
 ·have e9 : Qjx p = .tup [.agg (ks .i32 Jf), .int .i64 2] := by rw [Qjx, qh hp]
  simp (disch := omega) only [rq, simprocAttr, ol, kl0, QP, ht, t0', e9]
  rfl
 ·have e9 : Qjx p = .tup [.agg (ks .i32 (ofK (Qbn 0 p) 8)), .int .i64 0] := by rw [Qjx, qe hp]
  have hS' := hS p
  rw [qe (by omega)] at hS'
  have hO' := hO (Qbn 0 p) (QjE (by decide))
  have o8 := Jl .i32 (ofK (Qbn 0 p) 8)
  have kl : (ks .i32 (ofK (Qbn 0 p) 8)).length = 16 := by rw [Qc, Qdf]
  have t8 : (ks .i32 (ofK (Qbn 0 p) 8)).take 16 = ks .i32 (ofK (Qbn 0 p) 8) := qi (by omega)
  have tp := QwL p
  rw [bs] at hS'
  simp (disch := omega) only [rq, simprocAttr, ol, kl0]
  refine Qq3 1 hS' rfl (by simp [QK, Qx, frzL, Qu, frzL_T _ tp]) ?_
  simp (disch := omega) only [rq, simprocAttr]
  refine Qa hO' ?_
  have zl : Jf.length = 16 := rfl
  have zd : (ks .i32 Jf).drop 16 = [] := rfl
  simp (disch := omega) only [rq, simprocAttr, o8, kl, t8, QP, ht, e9, zl, zd, yA]
  try simp [kl]
theorem Qus (d k : Nat) : I32 (ofK d k) := fun x hx => by
 unfold ofK at hx
 obtain ⟨i, _, rfl⟩ := qO.1 hx
 split
 ·have := Qze (d / 2 ^ (8 * i)); omega
 ·omega
def QpJ : List AV → List Int
 | .int _ n :: r => n :: QpJ r
 | _ => []
def avP : AV → List Int
 | .tup (.list _ cs :: _) => QpJ cs
 | _ => []
def avE : AV → Int
 | .tup [_, .int _ e] => e
 | _ => 0
theorem Qt7 (l : List Int) : QpJ (ks .i32 l) = l := by
 induction l with
 | nil => rfl
 | cons x l ih => simp only [Qdh, QpJ, ih]
def Qym (c x : Int) (t : List Int) (n : Int) (b : List UInt8) : List Int := avP (QuB c x t n b)
def Qv7 (c x : Int) (t : List Int) (n : Int) (b : List UInt8) : Int := avE (QuB c x t n b)
theorem Qx8 (x : Int) : QaU x ≤ 8388608 := by
 unfold QaU
 repeat' split
 all_goals omega
def okQ (x : Int) (l : List Int) : Prop := l.length ≤ 4000 ∧ ∀ v ∈ l, inR x v = true
theorem Qvc (x : Int) (l : List Int) : ∃ (p : List Int) (e : Int), Qrg x l = .tup [il p, .int .i64 e] ∧ okQ x p := by
 unfold Qrg
 by_cases h : ZF x l = 0
 ·rw [qe (by omega)]
  refine ⟨l, 0, rfl, ?_⟩
  unfold ZF at h
  split at h
  ·cases h
  split at h
  ·cases h
  split at h
  ·rename_i h1 h2 h3
   exact ⟨by omega, qW.1 h3⟩
  ·cases h
 ·rw [qh h]
  exact ⟨[], _, rfl, by simp [okQ]⟩
theorem Qj4 (x e : Int) : ∃ (p : List Int) (e' : Int), erA e = .tup [il p, .int .i64 e'] ∧ okQ x p := ⟨[], e, rfl, by simp [okQ]⟩
theorem QzT (c x : Int) (t : List Int) (n : Int) (b : List UInt8) : ∃ (p : List Int) (e : Int), QuB c x t n b = .tup [il p, .int .i64 e] ∧ okQ x p := by
 unfold QuB
 split
 ·exact Qj4 _ _
 split
 ·exact Qj4 _ _
 unfold Qyk
 split
 ·exact Qj4 _ _
 split
 ·exact Qj4 _ _
 ·exact Qvc _ _
theorem Qyl (c x : Int) (t : List Int) (n : Int) (b : List UInt8) : QuB c x t n b = .tup [il (Qym c x t n b), .int .i64 (Qv7 c x t n b)] ∧ okQ x (Qym c x t n b) := by
 obtain ⟨p, e, h1, h2⟩ := QzT c x t n b
 have hp : Qym c x t n b = p := by rw [Qym, h1]; simp only [avP, il, Qt7]
 have he : Qv7 c x t n b = e := by rw [Qv7, h1]; rfl
 rw [hp, he]
 exact ⟨h1, h2⟩
theorem QAc {x : Int} {l : List Int} (h : okQ x l) : I32 l := fun v hv => by
 have h1 := h.2 v hv
 simp only [inR, ql, qv] at h1
 have := Qx8 x
 omega
theorem QuO (L n : Nat) : (Zl L n).sum = (n : Int) := by
 unfold Zl
 have hr : ∀ k : Nat, (List.replicate k (L : Int)).sum = (k * L : Nat) := fun k => by
  induction k with
  | zero => simp
  | succ k ih => rw [ju, jd, ih, Nat.succ_mul]; omega
 rw [jF, hr]
 simp
 omega
def QoP (P : Prg) (f : Nat) : Prop := ∀ p : List UInt8, VC P f [.str p] (if 64 < p.length then .tup [.int .u64 0, .int .i64 2] else .tup [.int .u64 (Qbn 0 p), .int .i64 0])
theorem QtE {P : Prg} {f fS : Nat} (bd : Body P f 16 [.tmp 2, .tmp 3] (QaP fS)) (hS : QpP P fS) : QoP P f := by
 intro p
 refine QJ rfl (by split <;> rfl) bd ?_
 by_cases h : 64 < p.length
 ·rw [qh h]
  simp (disch := omega) only [rq, simprocAttr, QaP]
 ·have hS' := hS p
  rw [qe (by omega)] at hS'
  rw [qe h]
  rw [bs] at hS'
  simp (disch := omega) only [rq, simprocAttr, QaP]
  refine Qa hS' ?_
  simp (disch := omega) only [rq, simprocAttr]
def Qyj (p : List UInt8) : AV := if 64 < p.length then .tup [.list 0 [], .int .i64 2] else .tup [bs (leB (Qbn 0 p) 8), .int .i64 0]
theorem Qx3 (p : List UInt8) : isD (Qyj p) = true := by unfold Qyj; split <;> simp [isD, isDL, QM]
def Qfc (P : Prg) (f : Nat) : Prop := ∀ p : List UInt8, VC P f [.str p] (Qyj p)
theorem Qmn {P : Prg} {f fO fB : Nat} (bd : Body P f 18 [.tmp 2, .tmp 3] (Ja fO fB)) (hO : QoP P fO) (hB : QeD P fB) : Qfc P f := by
 intro p
 refine Qi 1 rfl (Qx3 p) (Qb bd (by simp) ?_)
 have hO' := hO p
 by_cases h : 64 < p.length
 ·rw [qh h] at hO'
  rw [Qyj, qh h]
  simp (disch := omega) only [rq, simprocAttr, Ja]
  refine Qa hO' ?_
  simp (disch := omega) only [rq, simprocAttr]
  simp [QK, Qx, frzL, Qu]
 ·rw [qe h] at hO'
  have hB' := hB (Qbn 0 p) 8 (by omega) (by omega) (QjE (by decide))
  have tb := Zx (leB (Qbn 0 p) 8)
  rw [Qyj, qe h]
  simp only [bs] at hB' ⊢
  simp (disch := omega) only [rq, simprocAttr, Ja]
  iterate 2 (refine Qa (by assumption) ?_; simp (disch := omega) only [rq, simprocAttr])
  simp [QK, Qx, frzL, Qu, frzL_T _ tb]
def Qo7 : Int → List Int → Prop
 | _, [] => True
 | m, n :: l => 5 ≤ n ∧ n ≤ m ∧ Qo7 (m - n) l
instance decSk : ∀ (m : Int) (l : List Int), Decidable (Qo7 m l)
 | _, [] => isTrue trivial
 | m, n :: l => by
  unfold Qo7
  have := decSk (m - n) l
  exact inferInstance
def skN (l : List Int) : Int := if l.length = 0 ∨ 1000 < l.length then 8 else if Qo7 100000 l then 0 else 8
def skL (m : Int) (l : List Int) : Nat → Int
 | 0 => m
 | k + 1 => skL m l k - l.getD k 0
theorem QuW (l : List Int) : ∀ (m : Int) , Qo7 m l ↔ ∀ k, k < l.length → 5 ≤ l.getD k 0 ∧ l.getD k 0 ≤ skL m l k := by
 induction l with
 | nil => intro m; simp [Qo7]
 | cons n l ih =>
  intro m
  have e : ∀ k, skL m (n :: l) (k + 1) = skL (m - n) l k := fun k => by
   induction k with
   | zero => simp [skL]
   | succ k ih2 =>
    show skL m (n :: l) (k + 1) - (n :: l).getD (k + 1) 0 = skL (m - n) l k - l.getD k 0
    rw [ih2]; rfl
  rw [Qo7, ih]
  constructor
  ·rintro ⟨h1, h2, h3⟩ k hk
   match k with
   | 0 => exact ⟨h1, h2⟩
   | k + 1 =>
    rw [e]
    exact h3 k (by simpa using hk)
  ·intro h
   refine ⟨(h 0 (by simp)).1, (h 0 (by simp)).2, fun k hk => ?_⟩
   have := h (k + 1) (by simpa using hk)
   rw [e] at this
   exact this
def Qco (P : Prg) (f : Nat) : Prop := ∀ l : List Int, l.length ≤ 1000000 → (∀ v ∈ l, -9223372036854775808 ≤ v ∧ v ≤ 9223372036854775807) → VC P f [Q6 l] (.int .i64 (skN l))
theorem QnA {P : Prg} {f : Nat} (bd : Body P f 31 [.tmp 2] ZY) : Qco P f := by
 intro l hl hv
 refine QJ (by simp [isDL, XX]) rfl bd ?_
 by_cases h1 : l.length = 0 ∨ 1000 < l.length
 ·have e8 : skN l = 8 := by rw [skN, qh h1]
  rw [e8]
  rcases h1 with h1 | h1
  ·simp (disch := omega) only [rq, simprocAttr, ZY, Q6]
  ·by_cases h0 : l.length = 0
   ·omega
   ·simp (disch := omega) only [rq, simprocAttr, ZY, Q6]
 have e8 : skN l = if Qo7 100000 l then 0 else 8 := by rw [skN, qe h1]
 rw [e8]
 clear e8
 have hiff := QuW l 100000
 have kl : (ks .i64 l).length = l.length := Qc _ _
 have h0 : ¬ l.length = 0 := by omega
 simp (disch := omega) only [rq, simprocAttr, ZY, Q6]
 refine Qj (ι := Nat) (fun k => ⟨[(16, .int .i64 k), (15, .int .i64 l.length), (14, .list l.length (ks .i64 l)), (3, .int .i64 (skL 100000 l k))], []⟩) (fun k => k ≤ l.length ∧ (∀ j, j < k → 5 ≤ l.getD j 0 ∧ l.getD j 0 ≤ skL 100000 l j) ∧ 0 ≤ skL 100000 l k ∧ skL 100000 l k ≤ 100000) (fun k => l.length - k) 0 (QB (by simp [Am.look, skL])) ⟨by omega, by omega, by simp [skL], by simp [skL]⟩ ?_
 rintro k ⟨hk, ha, hb, hc⟩
 by_cases hlt : k < l.length
 ·have e1 : (ks .i64 l).drop k = .int .i64 (l.getD k 0) :: (ks .i64 l).drop (k + 1) := by
   have h := Qbu (K := .i64) (l := l) (i := k) hlt
   rw [← Jr] at h
   exact h
  have hr := hv (l.getD k 0) (by rw [qd, qc hlt]; exact qS _)
  have hs : skL 100000 l (k + 1) = skL 100000 l k - l.getD k 0 := rfl
  by_cases g1 : l.getD k 0 < 5
  ·have hn : ¬ Qo7 100000 l := fun h => by have := (hiff.1 h k hlt).1; omega
   rw [qe hn]
   generalize l.getD k 0 = v at *
   simp (disch := omega) only [rq, simprocAttr, e1, kl]
  ·by_cases g2 : skL 100000 l k < l.getD k 0
   ·have hn : ¬ Qo7 100000 l := fun h => by have := (hiff.1 h k hlt).2; omega
    rw [qe hn]
    generalize l.getD k 0 = v at *
    simp (disch := omega) only [rq, simprocAttr, e1, kl]
   ·have ha' : ∀ j, j < k + 1 → 5 ≤ l.getD j 0 ∧ l.getD j 0 ≤ skL 100000 l j := fun j hj => by
     by_cases e : j = k
     ·subst e; omega
     ·exact ha j (by omega)
    generalize l.getD k 0 = v at *
    generalize skL 100000 l k = m at *
    simp (disch := omega) only [rq, simprocAttr, e1, kl]
    refine ⟨k + 1, ⟨by omega, ha', by omega, by omega⟩, by omega, ?_⟩
    simp only [hs]
    exact Qe
 ·have ek : k = l.length := by omega
  subst ek
  rw [qh (hiff.2 ha)]
  simp (disch := omega) only [rq, simprocAttr]
def hdA (f c b r n : Int) : AV := .agg [.int .i64 f, .int .i64 c, .int .i64 b, .int .i64 r, .int .i64 n]
def shP (f c b r n : Int) : Prop := (b = 8 ∨ b = 16 ∨ b = 24) ∧ (f = 1 ∨ f = 2) ∧ 1 ≤ c ∧ c ≤ 6 ∧ 1 ≤ r ∧ r ≤ 1048576 ∧ 1 ≤ n
instance decShP (f c b r n : Int) : Decidable (shP f c b r n) := by unfold shP; exact inferInstance
def Qgw (P : Prg) (g : Nat) : Prop := ∀ f c b r n : Int, VC P g [hdA f c b r n] (.bool (decide (shP f c b r n)))
theorem Qj2 {P : Prg} {g t0 : Nat} (bd : Body P g 44 [.tmp 2] (QH t0)) : Qgw P g := by
 intro f c b r n
 refine QJ rfl rfl bd ?_
 by_cases hb : b = 8 ∨ b = 16 ∨ b = 24
 case neg =>
  have hn : decide (shP f c b r n) = false := decide_eq_false fun h => hb h.1
  rw [hn]
  simp (disch := omega) only [rq, simprocAttr, QH, hdA]
 by_cases hf : f = 1 ∨ f = 2
 case neg =>
  have hn : decide (shP f c b r n) = false := decide_eq_false fun h => hf h.2.1
  rw [hn]
  rcases hb with rfl | rfl | rfl <;> simp (disch := omega) only [rq, simprocAttr, QH, hdA]
 by_cases hc1 : 1 ≤ c
 case neg =>
  have hn : decide (shP f c b r n) = false := decide_eq_false fun h => hc1 h.2.2.1
  rw [hn]
  rcases hb with rfl | rfl | rfl <;> rcases hf with rfl | rfl <;> simp (disch := omega) only [rq, simprocAttr, QH, hdA]
 by_cases hc2 : c ≤ 6
 case neg =>
  have hn : decide (shP f c b r n) = false := decide_eq_false fun h => hc2 h.2.2.2.1
  rw [hn]
  rcases hb with rfl | rfl | rfl <;> rcases hf with rfl | rfl <;> simp (disch := omega) only [rq, simprocAttr, QH, hdA]
 by_cases hr1 : 1 ≤ r
 case neg =>
  have hn : decide (shP f c b r n) = false := decide_eq_false fun h => hr1 h.2.2.2.2.1
  rw [hn]
  rcases hb with rfl | rfl | rfl <;> rcases hf with rfl | rfl <;> simp (disch := omega) only [rq, simprocAttr, QH, hdA]
 by_cases hr2 : r ≤ 1048576
 case neg =>
  have hn : decide (shP f c b r n) = false := decide_eq_false fun h => hr2 h.2.2.2.2.2.1
  rw [hn]
  rcases hb with rfl | rfl | rfl <;> rcases hf with rfl | rfl <;> simp (disch := omega) only [rq, simprocAttr, QH, hdA]
 by_cases hn1 : 1 ≤ n
 case neg =>
  have hn : decide (shP f c b r n) = false := decide_eq_false fun h => hn1 h.2.2.2.2.2.2
  rw [hn]
  rcases hb with rfl | rfl | rfl <;> rcases hf with rfl | rfl <;> simp (disch := omega) only [rq, simprocAttr, QH, hdA]
 have hn : decide (shP f c b r n) = true := decide_eq_true ⟨hb, hf, hc1, hc2, hr1, hr2, hn1⟩
 rw [hn]
 rcases hb with rfl | rfl | rfl <;> rcases hf with rfl | rfl <;> simp (disch := omega) only [rq, simprocAttr, QH, hdA]
def QqH (c r n : Int) : Prop := n ≤ 4000 / c ∧ QtL r n = 0
instance decFitP (c r n : Int) : Decidable (QqH c r n) := by unfold QqH; exact inferInstance
theorem QtK {r n : Int} (h : QtL r n = 0) : ∃ k : Int, Qmr r n = .tup [.int .i64 k, .int .i64 0] ∧ 0 ≤ k ∧ k ≤ 1000 := by
 unfold QtL at h
 unfold Qmr
 split at h
 ·cases h
 rename_i a1
 split at h
 ·cases h
 rename_i a2
 split at h
 ·cases h
 rename_i a3
 rw [qe a1, qe a2, qe a3]
 have := Qcc r
 exact ⟨_, rfl, Ye (by omega) (by omega), by omega⟩
def QpQ (P : Prg) (g : Nat) : Prop := ∀ f c b r n : Int, 1 ≤ c → c ≤ 6 → VC P g [hdA f c b r n] (.bool (decide (QqH c r n)))
theorem QnV {P : Prg} {g fC t0 : Nat} (bd : Body P g 25 [.tmp 2] (ZZ fC t0)) (hC : QeL P fC) : QpQ P g := by
 intro f c b r n c1 c2
 refine QJ rfl rfl bd ?_
 have hC' := hC r n
 have q0 : ¬ c = 0 := by omega
 have q1 : (4000 : Int).tdiv c = 4000 / c := ym (by omega)
 have q2 : 0 ≤ 4000 / c := Ye (by omega) (by omega)
 have q3 : 4000 / c ≤ 4000 := jQ _ (by omega)
 by_cases h1 : n ≤ 4000 / c
 case neg =>
  have hn : decide (QqH c r n) = false := decide_eq_false fun h => h1 h.1
  rw [hn]
  generalize hQ : 4000 / c = Q at *
  have hw : IntKind.i64.wrap Q = Q := Xk (by omega) (by omega)
  simp (disch := omega) only [rq, simprocAttr, ZZ, hdA, q1, hQ, hw]
 by_cases h2 : QtL r n = 0
 ·have hn : decide (QqH c r n) = true := decide_eq_true ⟨h1, h2⟩
  rw [hn]
  obtain ⟨k, e, k1, k2⟩ := QtK h2
  rw [e] at hC'
  generalize hQ : 4000 / c = Q at *
  have hw : IntKind.i64.wrap Q = Q := Xk (by omega) (by omega)
  simp (disch := omega) only [rq, simprocAttr, ZZ, hdA, q1, hQ, hw]
  refine Qa hC' ?_
  simp (disch := omega) only [rq, simprocAttr]
 ·have hn : decide (QqH c r n) = false := decide_eq_false fun h => h2 h.2
  rw [hn]
  obtain ⟨k, e⟩ := Qwd r n
  rw [e] at hC'
  generalize hQ : 4000 / c = Q at *
  have hw : IntKind.i64.wrap Q = Q := Xk (by omega) (by omega)
  generalize QtL r n = E at *
  simp (disch := omega) only [rq, simprocAttr, ZZ, hdA, q1, hQ, hw]
  refine Qa hC' ?_
  simp (disch := omega) only [rq, simprocAttr]
def hdN (f c b r n : Int) : Int := if shP f c b r n ∧ QqH c r n then 0 else 8
def QhP (P : Prg) (g : Nat) : Prop := ∀ f c b r n : Int, VC P g [hdA f c b r n] (.int .i64 (hdN f c b r n))
theorem Ql7 {P : Prg} {g fS fF t0 : Nat} (bd : Body P g 11 [.tmp 2] (ZH fS fF t0)) (hS : Qgw P fS) (hF : QpQ P fF) : QhP P g := by
 intro f c b r n
 refine QJ rfl rfl bd ?_
 have hS' := hS f c b r n
 by_cases h1 : shP f c b r n
 case neg =>
  have e : hdN f c b r n = 8 := by rw [hdN, qe fun h => h1 h.1]
  rw [decide_eq_false h1] at hS'
  rw [e]
  rw [hdA] at hS' ⊢
  simp (disch := omega) only [rq, simprocAttr, ZH]
  refine Qa hS' ?_
  simp (disch := omega) only [rq, simprocAttr]
 have hF' := hF f c b r n h1.2.2.1 h1.2.2.2.1
 rw [decide_eq_true h1] at hS'
 by_cases h2 : QqH c r n
 ·have e : hdN f c b r n = 0 := by rw [hdN, qh ⟨h1, h2⟩]
  rw [decide_eq_true h2] at hF'
  rw [e]
  rw [hdA] at hS' hF' ⊢
  simp (disch := omega) only [rq, simprocAttr, ZH]
  iterate 2 (refine Qa (by assumption) ?_; simp (disch := omega) only [rq, simprocAttr])
 ·have e : hdN f c b r n = 8 := by rw [hdN, qe fun h => h2 h.2]
  rw [decide_eq_false h2] at hF'
  rw [e]
  rw [hdA] at hS' hF' ⊢
  simp (disch := omega) only [rq, simprocAttr, ZH]
  iterate 2 (refine Qa (by assumption) ?_; simp (disch := omega) only [rq, simprocAttr])
def QAw : List AV := [.int .i64 2, .int .i64 2, .int .i64 2, .int .i64 4, .int .i64 4]
def hdP (f c b r n : Nat) : Nat → List UInt8
 | 0 => [84, 84, 65, 49]
 | 1 => [84, 84, 65, 49] ++ leB f 2
 | 2 => [84, 84, 65, 49] ++ leB f 2 ++ leB c 2
 | 3 => [84, 84, 65, 49] ++ leB f 2 ++ leB c 2 ++ leB b 2
 | 4 => [84, 84, 65, 49] ++ leB f 2 ++ leB c 2 ++ leB b 2 ++ leB r 4
 | _ => [84, 84, 65, 49] ++ leB f 2 ++ leB c 2 ++ leB b 2 ++ leB r 4 ++ leB n 4
def hdB (f c b r n : Nat) : List UInt8 := QAG (hdP f c b r n 5)
theorem Qth (f c b r n : Int) : hdN f c b r n = 0 ∨ hdN f c b r n = 8 := by unfold hdN; split <;> simp
def QBz (p : List UInt8) : Int := if p = [] then 1 else 2
def Qfq (b p : List UInt8) : AV := if 64 < p.length ∨ b.length ≠ 8 then .tup [.bool false, .int .i64 2] else .tup [.bool (b == leB (Qbn 0 p) 8), .int .i64 0]
theorem Qs9 (b p : List UInt8) : isD (Qfq b p) = true := by unfold Qfq; split <;> rfl
def QeK (P : Prg) (f : Nat) : Prop := ∀ b p : List UInt8, b.length ≤ 1000000 → VC P f [bs b, .str p] (Qfq b p)
theorem Qmm {P : Prg} {f fB fE : Nat} (bd : Body P f 25 [.tmp 4, .tmp 5] (Xh fB fE)) (hB : Qfc P fB) (hE : QaR P fE) : QeK P f := by
 intro b p hb
 refine QJ (by simp [isDL, QM, isD]) (Qs9 b p) bd ?_
 have hB' := hB p
 have hE' := hE b (leB (Qbn 0 p) 8)
 rw [bs, bs, QY] at hE'
 rw [bs]
 by_cases h : 64 < p.length
 ·rw [Qyj, qh h] at hB'
  rw [Qfq, qh (.inl h)]
  simp (disch := omega) only [rq, simprocAttr, Xh]
  refine Qa hB' ?_
  simp (disch := omega) only [rq, simprocAttr]
 ·rw [Qyj, qe h, bs, QY] at hB'
  by_cases h8 : b.length = 8
  ·rw [Qfq, qe (by omega)]
   rw [h8] at hE' ⊢
   simp (disch := omega) only [rq, simprocAttr, Xh]
   iterate 2 (refine Qa (by assumption) ?_; simp (disch := omega) only [rq, simprocAttr])
  ·rw [Qfq, qh (.inr h8)]
   simp (disch := omega) only [rq, simprocAttr, Xh]
   refine Qa hB' ?_
   simp (disch := omega) only [rq, simprocAttr]
def Qtf (f c b r n : Int) : AV := if hdN f c b r n = 0 then .tup [Q6 (Zl (Q5 r).toNat n.toNat), .int .i64 0] else .tup [.list 0 [], .int .i64 8]
theorem Qx1 (f c b r n : Int) : isD (Qtf f c b r n) = true := by unfold Qtf; split <;> simp [isD, isDL, XX]
theorem Qpy {f c b r n : Int} (h : hdN f c b r n = 0) : ∃ m : Nat, n = m ∧ okA r m := by
 unfold hdN at h
 split at h
 case isFalse => cases h
 rename_i h1
 obtain ⟨⟨a1, a2, a3, a4, a5, a6, a7⟩, b1, b2⟩ := h1
 have q3 : 4000 / c ≤ 4000 := jQ _ (by omega)
 obtain ⟨m, rfl⟩ : ∃ m : Nat, n = m := ⟨n.toNat, by omega⟩
 refine ⟨m, rfl, by omega, by omega, by omega, by omega, ?_⟩
 unfold QtL at b2
 rw [qe (by omega), qe (by omega)] at b2
 split at b2
 ·cases b2
 rename_i b3
 have hlong : 1 ≤ Q5 r := Qcc r
 obtain ⟨L, hLe⟩ : ∃ L : Nat, Q5 r = L := ⟨(Q5 r).toNat, by omega⟩
 rw [hLe, qw, qw, Qaq]
 rw [hLe] at b3
 have h1 : (m : Int) + (L : Int) - 1 = ((m - 1 + L : Nat) : Int) := by omega
 rw [h1, ← jv, Nat.add_div_right _ (by omega)] at b3
 omega
def Ju (P : Prg) (g : Nat) : Prop := ∀ f c b r n : Int, VC P g [hdA f c b r n] (Qtf f c b r n)
theorem Qj3 {P : Prg} {g fC fL t0 ti : Nat} (bd : Body P g 17 [.tmp 2, .tmp 3] (ZV fC fL t0)) (hC : QhP P fC) (hL : QpR ti P fL) : Ju P g := by
 intro f c b r n
 refine Qi 1 rfl (Qx1 _ _ _ _ _) (Qb bd (by simp) ?_)
 have hC' := hC f c b r n
 rw [hdA] at hC' ⊢
 rcases Qth f c b r n with h | h
 ·rw [h] at hC'
  rw [Qtf, qh h]
  obtain ⟨m, rfl, hok⟩ := Qpy h
  have hL' := hL r m hok
  have tl := Qp .i64 (Zl (Q5 r).toNat m)
  rw [qw] at hL' ⊢
  rw [Q6]
  generalize Zl (Q5 r).toNat m = LL at *
  simp (disch := omega) only [rq, simprocAttr, ZV]
  refine Qa hC' ?_
  simp (disch := omega) only [rq, simprocAttr]
  refine Qdj.vo hL' ?_
  simp (disch := omega) only [rq, simprocAttr, shr]
  simp [QK, Qx, frzL, Qu, frzL_T _ tl]
 ·rw [h] at hC'
  rw [Qtf, qe (by omega)]
  simp (disch := omega) only [rq, simprocAttr, ZV]
  refine Qa hC' ?_
  simp (disch := omega) only [rq, simprocAttr]
  simp [QK, Qx, frzL, Qu]
def rdF (b : List UInt8) (o k : Nat) : Nat := leN ((b.drop o).take k)
def QsW : List UInt8 := [84, 84, 65, 49]
def hrN (b : List UInt8) : Int :=
 if b.take 4 ≠ QsW.take b.length then 12
 else if b.length < 22 then 24
 else if QkZ (b.take 18) ≠ rdF b 18 4 then 22
 else if ¬ shP (rdF b 4 2) (rdF b 6 2) (rdF b 8 2) (rdF b 10 4) (rdF b 14 4) then 12
 else if ¬ QqH (rdF b 6 2) (rdF b 10 4) (rdF b 14 4) then 4 else 0
def hrA (b : List UInt8) : AV := if hrN b = 0 then .tup [hdA (rdF b 4 2) (rdF b 6 2) (rdF b 8 2) (rdF b 10 4) (rdF b 14 4), .int .i64 0] else .tup [hdA 0 0 0 0 0, .int .i64 (hrN b)]
theorem Qx0 (b : List UInt8) : isD (hrA b) = true := by unfold hrA; split <;> rfl
theorem QdP (b : List UInt8) (o k : Nat) : rdF b o k < 2 ^ (8 * k) := by
 have h1 := QiS ((b.drop o).take k)
 have h2 : 2 ^ (8 * ((b.drop o).take k).length) ≤ 2 ^ (8 * k) := qy (by omega) (by rw [qu]; omega)
 rw [rdF]; omega
theorem Qte (b : List UInt8) : hrN b = 0 ∨ hrN b = 4 ∨ hrN b = 12 ∨ hrN b = 22 ∨ hrN b = 24 := by
 unfold hrN
 repeat' split
 all_goals simp
def QhM (P : Prg) (f : Nat) : Prop := ∀ s t : List UInt8, s.length ≤ 1000000 → t.length ≤ 1000000 → VC P f [.str s, .str t] (.bool (s.take t.length == t))
theorem QlA {P : Prg} {f : Nat} (bd : Body P f 18 [.tmp 4] Qy) : QhM P f := by
 intro s t hs ht
 refine QJ rfl rfl bd ?_
 by_cases h : t.length ≤ s.length
 ·have hs1 : Qa4 .eql (s.take t.length) t = some (.bool (s.take t.length == t)) := rfl
  simp (disch := omega) only [rq, simprocAttr, Qy, hs1]
 ·have : (s.take t.length == t) = false := yh.2 fun e => by
   have := congrArg List.length e
   rw [qu] at this
   omega
  rw [this]
  simp (disch := omega) only [rq, simprocAttr, Qy]
theorem QeT {P : Prg} {f fS : Nat} (bd : Body P f 8 [.tmp 4] (ZB fS)) (hS : QhM P fS) : QhM P f := by
 intro s t hs ht
 refine QJ rfl rfl bd ?_
 have hS' := hS s t hs ht
 simp (disch := omega) only [rq, simprocAttr, ZB]
 refine Qa hS' ?_
 simp (disch := omega) only [rq, simprocAttr]
def hrC (a b c d e : Nat) : Nat → List AV
 | 0 => [.int .i64 0, .int .i64 0, .int .i64 0, .int .i64 0, .int .i64 0]
 | 1 => [.int .i64 a, .int .i64 0, .int .i64 0, .int .i64 0, .int .i64 0]
 | 2 => [.int .i64 a, .int .i64 b, .int .i64 0, .int .i64 0, .int .i64 0]
 | 3 => [.int .i64 a, .int .i64 b, .int .i64 c, .int .i64 0, .int .i64 0]
 | 4 => [.int .i64 a, .int .i64 b, .int .i64 c, .int .i64 d, .int .i64 0]
 | _ => [.int .i64 a, .int .i64 b, .int .i64 c, .int .i64 d, .int .i64 e]
def hrT : Nat → Nat
 | 0 => 4
 | 1 => 6
 | 2 => 8
 | 3 => 10
 | 4 => 14
 | _ => 18
def QeJ (P : Prg) (g : Nat) : Prop := ∀ b : List UInt8, b.length ≤ 1000000 → VC P g [bs b] (hrA b)
set_option maxHeartbeats 2000000 in
theorem QnW {P : Prg} {g fP fA fS fH fF t0 t1 g0 : Nat} (bd : Body P g 86 [.cell 2 t0, .tmp 3] (Zu fP fA fS fH fF t0 t1 g0)) (hP : QhM P fP) (hA : QhI P fA) (hS : QmT P fS) (hH : Qgw P fH) (hF : QpQ P fF) (ht : Zq P t0 = some (some 5)) (h0 : P.G.lookup g0 = some QAw) : QeJ P g := by
 intro b hb
 refine QJ (by simp [isDL, QM]) (Qx0 b) bd ?_
 have hP' := hP QsW (b.take 4) (by simp [QsW]) (by rw [qu]; omega)
 have hpre : (QsW.take (b.take 4).length == b.take 4) = decide (b.take 4 = QsW.take b.length) := by
  rw [qu]
  have : QsW.take (min 4 b.length) = QsW.take b.length := by
   rcases Nat.le_total 4 b.length with h | h
   ·rw [qG h, qi (by simp [QsW]), qi (by simp [QsW]; omega)]
   ·rw [jS h]
  rw [this, Yj, beq_iff_eq, qv]
  exact ⟨fun h => h.symm, fun h => h.symm⟩
 rw [hpre] at hP'
 have hP0 : VC P fP [.str [84, 84, 65, 49], .str (b.take 4)] (.bool (decide (b.take 4 = QsW.take b.length))) := hP'
 clear hP'
 have hmin : min 4 b.length = (b.take 4).length := by rw [qu]
 have hu4 : (u8 b).take (min 4 b.length) = u8 (b.take 4) := by
  rcases Nat.le_total 4 b.length with h | h
  ·rw [qG h, Z1]
  ·rw [jS h, Z1, qi (l := b) (by omega), qi (l := b) (by omega)]
 have hd4 := Qbx (b.take 4)
 have hmi : (if (b.length : Int) < 4 then (b.length : Int) else 4) = ((min 4 b.length : Nat) : Int) := by split <;> omega
 have hm1 : min 4 b.length ≤ b.length := Nat.min_le_right _ _
 clear hmin
 obtain ⟨mm, hm4⟩ : ∃ m, min 4 b.length = m := ⟨_, rfl⟩
 rw [hm4] at hmi hu4 hm1
 have hm2 : min mm b.length = mm := qG hm1
 by_cases c1 : b.take 4 = QsW.take b.length
 case neg =>
  have e : hrN b = 12 := by rw [hrN, qh c1]
  rw [decide_eq_false c1] at hP0
  rw [hrA, qe (by omega), e]
  rw [bs]
  simp (disch := omega) only [rq, simprocAttr, Zu, hmi, hu4, hd4, yW, hm2, hm4]
  refine Qa hP0 ?_
  simp (disch := omega) only [rq, simprocAttr, QP, ht, Qr, hdA]
 rw [decide_eq_true c1] at hP0
 by_cases c2 : b.length < 22
 ·have e : hrN b = 24 := by rw [hrN, qe (by simpa using c1), qh c2]
  rw [hrA, qe (by omega), e]
  rw [bs]
  simp (disch := omega) only [rq, simprocAttr, Zu, hmi, hu4, hd4, yW, hm2, hm4]
  refine Qa hP0 ?_
  simp (disch := omega) only [rq, simprocAttr, QP, ht, Qr, hdA]
 obtain rfl : mm = 4 := by omega
 have hA' := fun (a w : Nat) (h1 : 1 ≤ w) (h2 : w ≤ 8) (h3 : a + w ≤ 22) => by
  have := hA b a w (by omega) h1 h2 (by omega)
  rw [qh (by omega), bs, ← rdF] at this
  exact this
 have A18 := hA' 18 4 (by omega) (by omega) (by omega)
 have A0 := hA' 4 2 (by omega) (by omega) (by omega)
 have A1 := hA' 6 2 (by omega) (by omega) (by omega)
 have A2 := hA' 8 2 (by omega) (by omega) (by omega)
 have A3 := hA' 10 4 (by omega) (by omega) (by omega)
 have A4 := hA' 14 4 (by omega) (by omega) (by omega)
 have r18 := QdP b 18 4
 have r0 := QdP b 4 2
 have r1 := QdP b 6 2
 have r2 := QdP b 8 2
 have r3 := QdP b 10 4
 have r4 := QdP b 14 4
 have hl18 : (b.take 18).length = 18 := by rw [qu]; omega
 have hS' := hS (b.take 18)
 rw [qe (by omega), ← QkZ, bs, hl18] at hS'
 have hsm : QkZ (b.take 18) < 4294967296 := by unfold QkZ; omega
 have hu18 : (u8 b).take 18 = u8 (b.take 18) := Z1 _ _
 have hH' := hH (rdF b 4 2) (rdF b 6 2) (rdF b 8 2) (rdF b 10 4) (rdF b 14 4)
 have hF' := hF (rdF b 4 2) (rdF b 6 2) (rdF b 8 2) (rdF b 10 4) (rdF b 14 4)
 have g0' : Qx9 P.G g0 = .cell [.int .i64 2, .int .i64 2, .int .i64 2, .int .i64 4, .int .i64 4] := by simp [Qx9, h0, QAw]
 by_cases c3 : QkZ (b.take 18) = rdF b 18 4
 case neg =>
  have e : hrN b = 22 := by rw [hrN, qe (by simpa using c1), qe c2, qh c3]
  rw [hrA, qe (by omega), e]
  generalize rdF b 18 4 = R18 at *
  generalize QkZ (b.take 18) = SM at *
  have c3' : ¬ (SM : Int) = (R18 : Int) := by omega
  rw [bs]
  simp (disch := omega) only [rq, simprocAttr, Zu, hmi, hu4, hd4, yW, hm2, hm4]
  refine Qa hP0 ?_
  simp (disch := omega) only [rq, simprocAttr]
  refine Qa A18 ?_
  simp (disch := omega) only [rq, simprocAttr, hu18]
  refine Qa hS' ?_
  simp (disch := omega) only [rq, simprocAttr, QP, ht, Qr, hdA]
 have hN : hrN b = if ¬ shP (rdF b 4 2) (rdF b 6 2) (rdF b 8 2) (rdF b 10 4) (rdF b 14 4) then 12
   else if ¬ QqH (rdF b 6 2) (rdF b 10 4) (rdF b 14 4) then 4 else 0 := by rw [hrN, qe (by simpa using c1), qe c2, qe (by simpa using c3)]
 rw [hrA, hN]
 rw [← c3] at A18
 clear hN hA'
 generalize rdF b 4 2 = v0 at *
 generalize rdF b 6 2 = v1 at *
 generalize rdF b 8 2 = v2 at *
 generalize rdF b 10 4 = v3 at *
 generalize rdF b 14 4 = v4 at *
 generalize QkZ (b.take 18) = SM at *
 rw [bs]
 rw [hdA] at hH' hF'
 generalize hE : (if ¬ shP v0 v1 v2 v3 v4 then (12 : Int) else if ¬ QqH v1 v3 v4 then 4 else 0) = E
 simp (disch := omega) only [rq, simprocAttr, Zu, hmi, hu4, hd4, yW, hm2, hm4]
 refine Qa hP0 ?_
 simp (disch := omega) only [rq, simprocAttr]
 refine Qa A18 ?_
 simp (disch := omega) only [rq, simprocAttr, hu18]
 refine Qa hS' ?_
 simp (disch := omega) only [rq, simprocAttr, g0']
 refine Qj (ι := Nat) (fun j => ⟨[(45, .int .i64 j), (44, .agg [.int .i64 2, .int .i64 2, .int .i64 2, .int .i64 4, .int .i64 4]), (9, .int .i64 (hrT j)), (8, .ref 1 1 0), (2, .ref 0 1 0), (0, .list b.length (u8 b))], [⟨t0, 5, 1, [.int .i64 0, .int .i64 0, .int .i64 0, .int .i64 0, .int .i64 0], 0⟩, ⟨t1, 5, 1, hrC v0 v1 v2 v3 v4 j, 0⟩]⟩) (fun j => j ≤ 5) (fun j => 5 - j) 0 (QB (by simp [Am.look, hrT, hrC])) (by omega) ?_
 intro j hj
 have hj5 : j = 0 ∨ j = 1 ∨ j = 2 ∨ j = 3 ∨ j = 4 ∨ j = 5 := by omega
 rcases hj5 with rfl | rfl | rfl | rfl | rfl | rfl
 ·simp (disch := omega) only [rq, simprocAttr, hrT, hrC]
  refine Qa A0 ?_
  simp (disch := omega) only [rq, simprocAttr]
  exact ⟨1, by omega, by omega, QB (by simp [Am.look, hrT])⟩
 ·simp (disch := omega) only [rq, simprocAttr, hrT, hrC]
  refine Qa A1 ?_
  simp (disch := omega) only [rq, simprocAttr]
  exact ⟨2, by omega, by omega, QB (by simp [Am.look, hrT])⟩
 ·simp (disch := omega) only [rq, simprocAttr, hrT, hrC]
  refine Qa A2 ?_
  simp (disch := omega) only [rq, simprocAttr]
  exact ⟨3, by omega, by omega, QB (by simp [Am.look, hrT])⟩
 ·simp (disch := omega) only [rq, simprocAttr, hrT, hrC]
  refine Qa A3 ?_
  simp (disch := omega) only [rq, simprocAttr]
  exact ⟨4, by omega, by omega, QB (by simp [Am.look, hrT])⟩
 ·simp (disch := omega) only [rq, simprocAttr, hrT, hrC]
  refine Qa A4 ?_
  simp (disch := omega) only [rq, simprocAttr]
  exact ⟨5, by omega, by omega, QB (by simp [Am.look, hrT])⟩
 ·by_cases d1 : shP v0 v1 v2 v3 v4
  case neg =>
   rw [qh d1] at hE
   subst hE
   rw [qe (by omega)]
   rw [decide_eq_false d1] at hH'
   simp (disch := omega) only [rq, simprocAttr, hrT, hrC]
   refine Qa hH' ?_
   simp (disch := omega) only [rq, simprocAttr, QP, ht, Qr, hdA]
  rw [qe (fun q => q d1)] at hE
  rw [decide_eq_true d1] at hH'
  have hF2 := hF' d1.2.2.1 d1.2.2.2.1
  by_cases d2 : QqH v1 v3 v4
  ·rw [qe (fun q => q d2)] at hE
   subst hE
   rw [qh rfl]
   rw [decide_eq_true d2] at hF2
   simp (disch := omega) only [rq, simprocAttr, hrT, hrC]
   refine Qa hH' ?_
   simp (disch := omega) only [rq, simprocAttr]
   refine Qa hF2 ?_
   simp (disch := omega) only [rq, simprocAttr, QP, ht, Qr, hdA]
  ·rw [qh d2] at hE
   subst hE
   rw [qe (by omega)]
   rw [decide_eq_false d2] at hF2
   simp (disch := omega) only [rq, simprocAttr, hrT, hrC]
   refine Qa hH' ?_
   simp (disch := omega) only [rq, simprocAttr]
   refine Qa hF2 ?_
   simp (disch := omega) only [rq, simprocAttr, QP, ht, Qr, hdA]
def Qui (P : Prg) (f : Nat) : Prop := ∀ b p : List UInt8, VC P f [bs b, .str p] (.bool true)
def QmR (P : Prg) (f : Nat) : Prop := ∀ s t : List UInt8, s.length ≤ 1000000 → t.length ≤ 1000000 → VC P f [bs s, bs t] (.bool (s.take t.length == t))
theorem Qho {P : Prg} {f fE : Nat} (bd : Body P f 18 [.tmp 4] (Z6 fE)) (hE : QaR P fE) : QmR P f := by
 intro s t hs ht
 refine QJ (by simp [isDL, QM]) rfl bd ?_
 by_cases h : t.length ≤ s.length
 ·have hE' := hE (s.take t.length) t
  have hl : (s.take t.length).length = t.length := by rw [qu]; omega
  have hu : (u8 s).take t.length = u8 (s.take t.length) := Z1 _ _
  rw [bs, bs, hl] at hE'
  simp only [bs]
  simp (disch := omega) only [rq, simprocAttr, Z6, hu, yW]
  refine Qa hE' ?_
  simp (disch := omega) only [rq, simprocAttr]
 ·have : (s.take t.length == t) = false := yh.2 fun e => by
   have := congrArg List.length e
   rw [qu] at this
   omega
  rw [this]
  simp only [bs]
  simp (disch := omega) only [rq, simprocAttr, Z6]
def QoH (g : Nat) (P : Prg) (f : Nat) : Prop := ∀ b : List UInt8, VC P f [bs b] (.fn (.func g) [] [.cell [bs b]])
theorem Qqb {P : Prg} {f g t0 : Nat} (bd : Body P f 4 [.tmp 2] (QbD g t0)) : QoH g P f := by
 intro b
 refine Qi 1 (by simp [isDL, QM]) (by simp [isD, isDL, QM]) (Qb bd (by simp) ?_)
 have tb := Zx b
 simp (disch := omega) only [rq, simprocAttr, QbD, bs]
 simp [QK, Qx, frzL, Qu, frzL_T _ tb]
def hdC (p : List UInt8) (c x r : Int) (n d : Nat) (F : AV) (y z : Nat) : List AV := [.int .i64 (QBz p), .int .i64 c, .int .i64 x, .int .i64 r, .int .i64 n, .int .i64 0, .int .i64 22, .int .i64 ((22 + d : Nat) : Int), .int .i64 y, .int .i64 z, F]
section
variable {P : Prg} {c x r : Int} {l NL : List Int} {p B : List UInt8} {FF : List (List UInt8)} {n d : Nat}
end
def pcs (c : UInt8) : List UInt8 → List (List UInt8)
 | [] => [[]]
 | b :: l => if b = c then [] :: pcs c l else match pcs c l with | [] => [[b]] | p :: r => (b :: p) :: r
theorem QlP (c : UInt8) : ∀ s, pcs c s ≠ []
 | [] => by simp [pcs]
 | b :: l => by unfold pcs; split <;> (try split) <;> simp
theorem Qtc (b c : UInt8) (l : List UInt8) : Lib.index (b :: l) [c] = if b = c then 0 else if Lib.index l [c] = -1 then -1 else Lib.index l [c] + 1 := by
 show (if [c].isPrefixOf (b :: l) then 0 else if Lib.index l [c] == -1 then -1 else Lib.index l [c] + 1) = _
 have e : [c].isPrefixOf (b :: l) = decide (b = c) := by
  simp only [List.isPrefixOf, Bool.and_true]
  by_cases h : b = c
  ·simp [h]
  ·simp [h]
   exact fun h' => h h'.symm
 rw [e]
 by_cases h : b = c <;> simp [h]
theorem Qb7 (c : UInt8) : ∀ s, (Lib.index s [c] = -1 ∧ pcs c s = [s]) ∨ ∃ i : Nat, Lib.index s [c] = i ∧ i < s.length ∧ pcs c s = s.take i :: pcs c (s.drop (i + 1))
 | [] => .inl ⟨rfl, rfl⟩
 | b :: l => by
  rw [Qtc]
  by_cases h : b = c
  ·refine .inr ⟨0, by simp [h], by simp, ?_⟩
   simp [pcs, h]
  ·rw [qe h]
   rcases Qb7 c l with ⟨h1, h2⟩ | ⟨i, h1, h2, h3⟩
   ·refine .inl ⟨by rw [qh h1], ?_⟩
    rw [pcs, qe h, h2]
   ·refine .inr ⟨i + 1, by rw [h1, qe (by omega)]; omega, by simp; omega, ?_⟩
    rw [pcs, qe h, h3]
    simp
def QhK (c : UInt8) (ty : Nat) (P : Prg) (f : Nat) : Prop := QyN P f ty [c] (pcs c)
section
variable {br cap ty : Nat}
def ΓS (br cap ty : Nat) (W : World) (r : List UInt8) (N : Nat) : Ctx := ⟨0, ⟨W, [bx ty r], [some (br, cap)], fun _ _ => False⟩, N, []⟩
theorem QAD {N : Nat} {fr : List (Nat × AV)} {a : Act} {W : World} {r : List UInt8} (hb : Jj W br cap ty r) (hd : a.defers = []) (hz : a.tmps.size = N) (h : ∀ i, Rep ⟨W, [bx ty r], [some (br, cap)], fun _ _ => False⟩ (look fr i) (a.tmps.getD i undef)) : Sim (ΓS br cap ty W r N) ⟨fr, [bx ty r]⟩ a W := by
 refine ⟨hd, hz, Below.refl _ _, [some (br, cap)], ⟨rfl, fun o x e hx he => ?_, fun o o' b c c' h1 h2 => ?_, fun _ _ _ _ => yd _, fun _ _ h => h.elim, yd _⟩, Moves.refl _, h⟩
 ·rcases o with _ | o
  ·simp only [ΓS, yF, qf] at hx he
   subst hx he
   obtain ⟨cur, q1, q2, q3, q4, q5, q6⟩ := hb
   refine ⟨cur, ⟨(0, 0), q1, .inl rfl⟩, by simp [bx, q2], q3, q4, rfl, ?_, q6⟩
   simp only [bx, qo, qC]
   rw [q5]
   simp only [RepL, Rep]
   exact ⟨_, _, rfl, rfl, rfl⟩
  ·simp [ΓS] at hx
 ·rcases o with _ | o <;> rcases o' with _ | o'
  ·rfl
  all_goals simp [ΓS] at h1 h2
theorem QdL {N : Nat} {fr : List (Nat × AV)} {a : Act} {W W' : World} {r r' : List UInt8} (hb : Jj W br cap ty r) (h : Sim (ΓS br cap ty W r N) ⟨fr, [bx ty r']⟩ a W') :
  QwW br cap ty W W' ∧ Jj W' br cap ty r' ∧ (∀ (b k : Nat) (v : Value), b ≠ br → W.cell? ⟨b, k, none⟩ = some v → W'.cell? ⟨b, k, none⟩ = some v) := by
 obtain ⟨_, _, bel, be, g, m, _⟩ := h
 have hbe : be[0]? = some (some (br, cap)) := by
  obtain ⟨y, hy, _, hyp⟩ := m.ob 0 (bx ty r) rfl
  have hy' : [bx ty r'][0]? = some y := hy
  simp only [yF, qf] at hy'
  subst hy'
  exact (hyp (by simp [bx])).2 rfl
 have hbox : Jj W' br cap ty r' := Held.boxAt g rfl hbe
 have hblk : ∀ k, k < W.heap.size → k ≠ br → W'.heap[k]? = W.heap[k]? := fun k hk hne => (m.blk k hk fun o c he => by
  rcases o with _ | o
  ·simp only [ΓS, yF, qf, yz] at he
   exact hne he.1.symm
  ·simp [ΓS] at he).1
 refine ⟨⟨some br, ⟨bel.os, bel.tape, bel.output, bel.size, fun k hk hne => hblk k hk fun e => hne (by rw [e])⟩, fun q e => by cases e; exact ⟨rfl, ⟨r, hb⟩, ⟨r', hbox⟩⟩⟩, hbox, fun b k v hne hc => ?_⟩
 rw [World.cell?_of_block (w := W) (hblk b (World.block_lt_of_cell? W _ hc) hne)]
 exact hc
end
noncomputable def QA4 (br cap ty : Nat) (W : World) : Nat := by
 classical exact if h : ∃ r, Jj W br cap ty r then (Classical.choose h).length else 0
theorem Qt0 {br cap ty : Nat} {W : World} {r : List UInt8} (h : Jj W br cap ty r) : QA4 br cap ty W = r.length := by
 unfold QA4
 have h' : ∃ r, Jj W br cap ty r := ⟨r, h⟩
 rw [dif_pos h', (Classical.choose_spec h').uniq h]
set_option maxHeartbeats 1000000 in
theorem QeS {P : Prg} {f fD fX : Nat} {c : UInt8} {ty : Nat} (bd : Body P f 52 [] (Zn fD fX)) (hX : S_StrIndex P fX) : QhK c ty P f := by
 intro s w C v1 v3 br cap hsl hv1 hv3 hbx hCbr hex hG ll J Jx W hW hJ hJx hY hJ0
 obtain ⟨cnt, hcnt⟩ : ∃ cnt, (pcs c s).length = cnt := ⟨_, rfl⟩
 have hbr0 : br < w.heap.size := hbx.lt
 have hne : ∀ {b k : Nat}, ¬ C b k → b ≠ br := fun h e => h (e ▸ hCbr _)
 obtain ⟨KC, hKC⟩ : ∃ KC : World → Prop, ∀ W', KC W' = ∀ (b k : Nat) (v : Value), ¬ C b k → w.cell? ⟨b, k, none⟩ = some v → W'.cell? ⟨b, k, none⟩ = some v := ⟨_, fun _ => rfl⟩
 have hkw : KC W := by rw [hKC]; exact fun b k v _ hc => (hW.cell (p := ⟨b, k, none⟩) (World.block_lt_of_cell? w _ hc)).trans hc
 have hKs : ∀ {A B : World}, KC A → (∀ (b k : Nat) (v : Value), b ≠ br → A.cell? ⟨b, k, none⟩ = some v → B.cell? ⟨b, k, none⟩ = some v) → KC B := fun {A B} h1 h2 => by
  rw [hKC] at h1 ⊢
  exact fun b k v hc hv => h2 b k v (hne hc) (h1 b k v hc hv)
 have hun : ∀ {W' : World} {r : List UInt8}, KC W' → ∀ (c : AV) (v : Value), isD c = true → Rep ⟨w, [], [], C⟩ c v → Rep ⟨W', [bx ty r], [some (br, cap)], fun _ _ => False⟩ c v := fun {W' r} h c v hd hr =>
  Rep.data (X := ⟨w, [], [], C⟩) (Y := ⟨W', [bx ty r], [some (br, cap)], fun _ _ => False⟩) (fun b k v hc ha => ⟨by rw [hKC] at h; exact h b k v (fun h => ha (.inl h)) hc, fun h => by
   rcases h with h | ⟨o, x, c, h1, h2, _⟩
   ·exact h.elim
   ·rcases o with _ | o
    ·simp only [yF, qf, yz] at h2
     exact hne (fun h => ha (.inl h)) h2.1.symm
    ·simp at h2⟩) c v hd hr
 obtain ⟨fn, hf, hnm, hN, hrl, hc'⟩ := bd
 obtain ⟨cc, hb, hc⟩ := qg.1 hc'
 refine callsIn_of_wp hf hb trivial ?_ rfl
 rw [hN]
 unfold Zn at hc
 obtain ⟨c1, r1, rfl, hc1, hr1⟩ := QC hc
 obtain ⟨d0, dA, rfl, hd0, hdA⟩ := QC hc1
 obtain ⟨y1, y2, rfl, hy1, hy2⟩ := Xn hdA
 obtain rfl := Jt hy2
 obtain ⟨c2, d9, rfl, hc2, hd9⟩ := QC hr1
 obtain ⟨c3, rfl, hc3⟩ := Xe hc2
 obtain ⟨c4, rfl, hc4⟩ := QcB hc3
 obtain ⟨c5, rfl, hc5⟩ := Xe hc4
 obtain ⟨d1, s1, rfl, hd1, hs1⟩ := QC hc5
 obtain ⟨s2, s3, rfl, hs2, hs3⟩ := QC hs1
 obtain ⟨d2, dB, rfl, hd2, hdB⟩ := QC hs2
 obtain ⟨y3, y4, rfl, hy3, hy4⟩ := Xn hdB
 obtain rfl := Qi1 hy3
 obtain rfl := Jt hy4
 obtain ⟨d3, s4, rfl, hd3, hs4⟩ := QC hs3
 obtain ⟨s5, d5, rfl, hs5, hd5⟩ := QC hs4
 obtain ⟨d4, dC, rfl, hd4, hdC⟩ := QC hs5
 obtain ⟨y5, y6, rfl, hy5, hy6⟩ := Xn hdC
 obtain rfl := Qeb hy5
 obtain rfl := Jt hy6
 obtain ⟨id4, ops4, rfl, hm4⟩ := Qcf hd4
 obtain ⟨l2, l3, hops4, hm2, hm3⟩ := QdZ (q1 := [_, _]) hm4
 obtain ⟨oY, l1, rfl, hoY, hm1⟩ := QdX hm3
 obtain ⟨id9, ops9, rfl, hm9⟩ := Qcf hd9
 obtain ⟨k2, k3, hops9, hk2, hk3⟩ := QdZ (q1 := [_, _]) hm9
 obtain ⟨oZ, k1, rfl, hoZ, hk1⟩ := QdX hk3
 have hk1' : k1 = [] := by
  cases k1 with
  | nil => rfl
  | cons a b => simp [yf, qg] at hk1
 subst hk1'
 obtain ⟨v2, hv2⟩ : ∃ v2, v2 = Value.pointer (some ⟨br, 0, none⟩) := ⟨_, rfl⟩
 rw [← hv2]
 obtain ⟨yv, hyv⟩ : ∃ yv, yv = (Value.func (.yield ll) #[] #[]) := ⟨_, rfl⟩
 rw [← hyv]
 let a0 : Act := { tmps := #[yv] ++ #[v1, v2, v3] ++ Array.replicate (52 - (#[yv] ++ #[v1, v2, v3]).size) undef, defers := [] }
 show Code.wpIn _ _ _ _ _ a0 _
 let SL : Act → Prop := fun a => a.defers = [] ∧ a.tmps.size = 52 ∧ a.tmps.getD 0 undef = yv ∧ a.tmps.getD 1 undef = v1 ∧ a.tmps.getD 2 undef = v2 ∧ a.tmps.getD 3 undef = v3
 have hSL0 : SL a0 := ⟨rfl, by simp [a0], by simp [a0], by simp [a0], by simp [a0], by simp [a0]⟩
 let I4 : List (Nat × Value) := [(0, yv), (1, v1), (2, v2), (3, v3)]
 have hI : ∀ {qs : List AO} {a : Act}, (Qbt 0 qs && Qbt 1 qs && Qbt 2 qs && Qbt 3 qs) = true → SL a → ∀ p ∈ I4, Qbt p.1 qs = true ∧ a.tmps.getD p.1 undef = p.2 := fun h1 h2 p hp => by
  simp only [ql] at h1
  obtain ⟨_, _, e0, e1, e2, e3⟩ := h2
  simp only [I4, qx, q9, or_false] at hp
  rcases hp with rfl | rfl | rfl | rfl
  ·exact ⟨h1.1.1.1, e0⟩
  ·exact ⟨h1.1.1.2, e1⟩
  ·exact ⟨h1.1.2, e2⟩
  ·exact ⟨h1.2, e3⟩
 let base : List (Nat × AV) := [(0, .lit yv), (1, .cell [.str [c]]), (2, .ref 0 1 0), (3, .cell [.int .i64 0])]
 have hrep : ∀ {W' : World} {r : List UInt8} {a : Act}, KC W' → SL a → ∀ i, Rep ⟨W', [bx ty r], [some (br, cap)], fun _ _ => False⟩ (look base i) (a.tmps.getD i undef) := fun {W' r a} hk h => by
  obtain ⟨_, _, e0, e1, e2, e3⟩ := h
  refine ZQ (by rw [e0]; simp only [Rep]) (ZQ (by rw [e1]; exact hun hk _ _ rfl hv1) (ZQ ?_ (ZQ (by rw [e3]; exact hun hk _ _ rfl hv3) QjI)))
  rw [e2, hv2]
  simp only [Rep]
  exact ⟨⟨bx ty r, rfl, by simp [bx], qj _, fun _ => ⟨br, cap, rfl, rfl⟩⟩, rfl⟩
 have hslN : ∀ {W' : World} {r r' : List UInt8} {fr : List (Nat × AV)} {a : Act} {W2 : World}, Sim (ΓS br cap ty W' r 52) ⟨fr, [bx ty r']⟩ a W2 → (∀ p ∈ I4, a.tmps.getD p.1 undef = p.2) → SL a := fun h1 h2 =>
  ⟨h1.1, h1.2.1, h2 (0, yv) (by simp [I4]), h2 (1, v1) (by simp [I4]), h2 (2, v2) (by simp [I4]), h2 (3, v3) (by simp [I4])⟩
 have hF : ∀ {W' : World} {r : List UInt8}, KC W' → Fit P 52 (ΓS br cap ty W' r 52) := fun {W' r} h => ⟨rfl, fun q cs hq => hun h _ _ (by simp only [isD]; exact P.gd q cs hq) (hG q cs hq)⟩
 have hbW : Jj W br cap ty s := hbx.same (hW.block br hbr0)
 refine wpIn_seq (wpIn_seq ?_)
 refine Ze (Q := fun _ st' => Le 1 st' ⟨(11, .bool false) :: base, [bx ty s]⟩) (hF hkw) hd0 I4 (hI rfl hSL0) (by simp (disch := omega) only [rq, simprocAttr, base, bx]; exact Qe) (QAD hbW hSL0.1 hSL0.2.1 (hrep hkw hSL0)) ?_
 intro st0 a1 W1 hle1 hs1' t1
 have hs1 := hle1 _ _ _ rfl hs1'
 have hSL1 := hslN hs1 t1
 obtain ⟨q1, hbW1, hk1c⟩ := QdL hbW hs1
 have hkW1 := hKs hkw hk1c
 have hJ1 := hJ _ _ _ hJ0 q1
 show (Code.cond _ y1 .skip).wpIn Fence.wide 4 _ _ a1 W1
 have h11 : a1.eval (.tmp 11) = .bool false := by
  obtain ⟨_, _, _, _, _, _, h⟩ := hs1
  have h : Rep _ (.bool _) (a1.tmps.getD 11 undef) := h 11
  simp only [Rep] at h
  exact h
 refine wpIn_cond_false h11 (wpIn_skip ?_)
 show (Code.seq (.block 2 _) _).wpIn Fence.wide 4 _ _ a1 W1
 refine wpIn_seq (wpIn_block ?_)
 refine wpIn_loop (fun a W' => ∃ (j : Nat) (r : List UInt8), j < cnt ∧ SL a ∧ KC W' ∧ Jj W' br cap ty r ∧ r.length ≤ s.length ∧ pcs c r = (pcs c s).drop j ∧ J ((List.finRange (pcs c s).length).take j) W') (fun _ W' => QA4 br cap ty W') ?_ ?_
 ·exact ⟨0, s, by rw [← hcnt]; exact List.length_pos_iff.2 (QlP c s), hSL1, hkW1, hbW1, qj _, rfl, hJ1⟩
 intro a Wj ⟨j, r, hj, sl, kc, hb, hrs, hp, hJj⟩
 have hX' := hX r [c] (by omega)
 have getB : ∀ {fr : List (Nat × AV)} {r' : List UInt8} {W' W2 : World} {a : Act} {i : Nat} {b : Bool}, Sim (ΓS br cap ty W' r 52) ⟨fr, [bx ty r']⟩ a W2 → look fr i = .bool b → a.eval (.tmp i) = .bool b := fun {fr r' W' W2 a i b} h e => by
  obtain ⟨_, _, _, _, _, _, h⟩ := h
  have h := h i
  simp only [e, Rep] at h
  exact h
 have fin : ∀ (k : Nat) (hk : k < cnt), (List.finRange (pcs c s).length).take (k + 1) = (List.finRange (pcs c s).length).take k ++ [⟨k, by rw [hcnt]; exact hk⟩] := fun k hk => by
  rw [qm (by simpa [hcnt] using hk)]
  simp
 show (Code.block 3 _).wpIn Fence.wide 4 _ _ a Wj
 refine wpIn_block (wpIn_seq ?_)
 refine Ze (Q := fun _ st' => Le 1 st' ⟨(7, .int .i64 (Lib.index r [c])) :: base, [bx ty r]⟩) (hF kc) hd1 I4 (hI rfl sl) (by simp (disch := omega) only [rq, simprocAttr, base, bx]; refine Qa hX' ?_; simp (disch := omega) only [rq, simprocAttr]; exact Qe) (QAD hb sl.1 sl.2.1 (hrep kc sl)) ?_
 intro st1 aA WA hleA hsA' tA
 have hsA := hleA _ _ _ rfl hsA'
 have slA := hslN hsA tA
 show (Code.seq (.seq d2 _) _).wpIn Fence.wide 4 _ _ aA WA
 refine wpIn_seq (wpIn_seq ?_)
 refine Ze (Q := fun _ st' => Le 1 st' ⟨(33, .bool (decide (Lib.index r [c] < 0))) :: (7, .int .i64 (Lib.index r [c])) :: base, [bx ty r]⟩) (hF kc) hd2 I4 (hI rfl slA) (by simp (disch := omega) only [rq, simprocAttr, base, bx]; exact Qe) hsA ?_
 intro st2 aB WB hleB hsB' tB
 have hsB := hleB _ _ _ rfl hsB'
 have slB := hslN hsB tB
 obtain ⟨qB, hbB, hkB⟩ := QdL hb hsB
 have kcB := hKs kc hkB
 have hJB := hJ _ _ _ hJj qB
 have h33 := getB hsB (i := 33) rfl
 show (Code.cond _ (.exit 2) .skip).wpIn Fence.wide 4 _ _ aB WB
 rcases Qb7 c r with ⟨e1, e2⟩ | ⟨i, e1, e2, e3⟩
 ·rw [e1] at h33
  refine wpIn_cond_true h33 (wpIn_exit ?_)
  show (Code.region id9 ops9 false).wpIn Fence.wide 4 _ _ aB WB
  have hLj : (pcs c s).drop j = [r] := by rw [← hp, e2]
  have hj1 : j + 1 = cnt := by have := congrArg List.length hLj; rw [qr, hcnt] at this; simp at this; omega
  have hgj : (pcs c s)[j]'(by omega) = r := by
   have : (pcs c s)[j]? = some r := by have h := congrArg (·[0]?) hLj; simpa using h
   exact (qb.1 this).2
  refine wpIn_region_list ?_
  rw [hops9]
  refine XP k2 _ aB WB (Qn ?_ _ _ _ (Xb (Q := fun _ st' => Le 1 st' ⟨[(49, .lit yv), (50, .str r)], [bx ty r]⟩) (hF kc) hk2 [] (fun p hp => by cases hp) (by simp (disch := omega) only [rq, simprocAttr, base, bx]; exact Qe) hsB))
  rintro _ a7 W7 ⟨rfl, st7, hle7, hs7', _⟩
  have hs7 := hle7 _ _ _ rfl hs7'
  obtain ⟨q7, hb7, hk7⟩ := QdL hb hs7
  have hJ7 := hJ _ _ _ hJj q7
  show wpListIn Fence.wide 4 _ _ _ [oZ] a7 W7
  have hd7 : a7.defers = [] := hs7.1
  have hz7 : a7.tmps.size = 52 := hs7.2.1
  have f49 : a7.tmps.getD 49 undef = yv := by obtain ⟨_, _, _, _, _, _, h⟩ := hs7; have h : Rep _ (.lit yv) (a7.tmps.getD 49 undef) := h 49; simpa only [Rep] using h
  have f50 : a7.tmps.getD 50 undef = .string ⟨r.toArray⟩ := by obtain ⟨_, _, _, _, _, _, h⟩ := hs7; have h : Rep _ (.str r) (a7.tmps.getD 50 undef) := h 50; simpa only [Rep] using h
  obtain ⟨cY, dY, _, gY⟩ := Zi hoZ
  obtain ⟨cl, opY, calY, argY⟩ := JN cY
  have gY' : oZ.guard = none := by
   rcases gY with ⟨h, _⟩ | ⟨_, _, _, _, _, h⟩
   ·exact h
   ·cases h
  have argY' : cl.args = #[.tmp 50] := ye argY.symm
  have hY' := hY ((List.finRange (pcs c s).length).take j) ⟨j, by omega⟩ W7 hJ7 (by simp; omega)
  simp only [Fin.getElem_fin, hgj] at hY'
  unfold wpListIn
  rw [qh (by simp [Region.wanted, gY'])]
  refine QeP opY calY argY' (f49.trans hyv) f50 hY' ?_
  rintro e W8 (⟨rfl, hJ8, _⟩ | ⟨rfl, hX8⟩)
  ·refine ⟨true, rfl, ?_⟩
   refine ⟨by rw [Jq]; exact hd7, .tuple #[], results_none (ye hrl) _ _ _, ⟨_, rfl⟩, .inl ⟨_, rfl, ?_⟩⟩
   have h1 := fin j hj
   rw [hj1, qi (by simp; omega)] at h1
   rw [h1]
   exact hJ8
  ·refine ⟨false, rfl, ?_⟩
   exact ⟨by rw [Jq]; exact hd7, .tuple #[], results_none (ye hrl) _ _ _, ⟨_, rfl⟩, .inr ⟨_, trivial, hX8⟩⟩
 ·rw [e1, decide_eq_false (by omega)] at h33
  refine wpIn_cond_false h33 (wpIn_skip ?_)
  show (Code.seq d3 _).wpIn Fence.wide 4 _ _ aB WB
  have hLj : (pcs c s).drop j = r.take i :: pcs c (r.drop (i + 1)) := by rw [← hp, e3]
  have hj1 : j + 1 < cnt := by
   have := congrArg List.length hLj
   rw [qr, hcnt] at this
   have h2 := List.length_pos_iff.2 (QlP c (r.drop (i + 1)))
   simp only [qo] at this
   omega
  have hgj : (pcs c s)[j]'(by omega) = r.take i := by
   have : (pcs c s)[j]? = some (r.take i) := by have h := congrArg (·[0]?) hLj; simpa using h
   exact (qb.1 this).2
  have hdj : pcs c (r.drop (i + 1)) = (pcs c s).drop (j + 1) := by
   have h := congrArg (List.drop 1) hLj
   rw [jy] at h
   simpa using h.symm
  rw [e1] at hsB
  refine wpIn_seq ?_
  refine Ze (Q := fun _ st' => Le 1 st' ⟨(8, .str (r.take i)) :: (7, .int .i64 i) :: base, [bx ty r]⟩) (hF kc) hd3 I4 (hI rfl slB) (by simp (disch := omega) only [rq, simprocAttr, base, bx]; exact Qe) hsB ?_
  intro st3 aC WC hleC hsC' tC
  have hsC := hleC _ _ _ rfl hsC'
  have slC := hslN hsC tC
  show (Code.seq (.seq (.region id4 ops4 false) _) d5).wpIn Fence.wide 4 _ _ aC WC
  refine wpIn_seq (wpIn_seq (wpIn_region_list ?_))
  rw [hops4]
  refine XP l2 _ aC WC (Qn ?_ _ _ _ (Xb (Q := fun _ st' => Le 1 st' ⟨(39, .lit yv) :: (40, .str (r.take i)) :: (7, .int .i64 i) :: base, [bx ty r]⟩) (hF kc) hm2 I4 (hI rfl slC) (by simp (disch := omega) only [rq, simprocAttr, base, bx]; exact Qe) hsC))
  rintro _ a7 W7 ⟨rfl, st7, hle7, hs7', t7⟩
  have hs7 := hle7 _ _ _ rfl hs7'
  have sl7 := hslN hs7 t7
  obtain ⟨q7, hb7, hk7⟩ := QdL hb hs7
  have kc7 := hKs kc hk7
  have hJ7 := hJ _ _ _ hJj q7
  show wpListIn Fence.wide 4 _ _ _ (oY :: l1) a7 W7
  have hd7 : a7.defers = [] := hs7.1
  have hz7 : a7.tmps.size = 52 := hs7.2.1
  have f39 : a7.tmps.getD 39 undef = yv := by obtain ⟨_, _, _, _, _, _, h⟩ := hs7; have h : Rep _ (.lit yv) (a7.tmps.getD 39 undef) := h 39; simpa only [Rep] using h
  have f40 : a7.tmps.getD 40 undef = .string ⟨(r.take i).toArray⟩ := by obtain ⟨_, _, _, _, _, _, h⟩ := hs7; have h : Rep _ (.str (r.take i)) (a7.tmps.getD 40 undef) := h 40; simpa only [Rep] using h
  have f7 : a7.tmps.getD 7 undef = .int .i64 i := by obtain ⟨_, _, _, _, _, _, h⟩ := hs7; have h : Rep _ (.int .i64 i) (a7.tmps.getD 7 undef) := h 7; simpa only [Rep] using h
  obtain ⟨cY, dY, _, gY⟩ := Zi hoY
  obtain ⟨cl, opY, calY, argY⟩ := JN cY
  have gY' : oY.guard = none := by
   rcases gY with ⟨h, _⟩ | ⟨_, _, _, _, _, h⟩
   ·exact h
   ·cases h
  have argY' : cl.args = #[.tmp 40] := ye argY.symm
  have hY' := hY ((List.finRange (pcs c s).length).take j) ⟨j, by omega⟩ W7 hJ7 (by simp; omega)
  simp only [Fin.getElem_fin, hgj] at hY'
  unfold wpListIn
  rw [qh (by simp [Region.wanted, gY'])]
  refine QeP opY calY argY' (f39.trans hyv) f40 hY' ?_
  rw [← dY]
  have p41 : ∀ bb : Bool, (a7.put (some 41) (.bool bb)).tmps.getD 41 undef = .bool bb := fun bb => by simp [Act.put, hz7]
  have pO : ∀ (bb : Bool) (i : Nat), i ≠ 41 → (a7.put (some 41) (.bool bb)).tmps.getD i undef = a7.tmps.getD i undef := fun bb i h => Z9 (by simpa using fun h' => h h'.symm)
  have slY : ∀ bb : Bool, SL (a7.put (some 41) (.bool bb)) := fun bb => by
   obtain ⟨g1, g2, g3, g4, g5, g6⟩ := sl7
   exact ⟨by rw [Jq]; exact g1, by rw [Xm]; exact g2, by rw [pO bb 0 (by omega)]; exact g3, by rw [pO bb 1 (by omega)]; exact g4, by rw [pO bb 2 (by omega)]; exact g5, by rw [pO bb 3 (by omega)]; exact g6⟩
  rintro e W8 (⟨rfl, hJ8, hK8⟩ | ⟨rfl, hX8⟩)
  ·refine ⟨true, rfl, ?_⟩
   have hb8 : Jj W8 br cap ty r := hK8.1 r hb7
   have kc8 : KC W8 := by
    rw [hKC] at kc7 ⊢
    exact fun b k v hc hv => hK8.2 b k v hc (kc7 b k v hc hv)
   have hs8 : Sim (ΓS br cap ty W8 r 52) ⟨(41, .bool true) :: (7, .int .i64 i) :: base, [bx ty r]⟩ (a7.put (some 41) (.bool true)) W8 :=
    QAD hb8 (slY true).1 (slY true).2.1 (ZQ (by rw [p41]; simp only [Rep]) (ZQ (by rw [pO true 7 (by omega), f7]; simp only [Rep]) (hrep kc8 (slY true))))
   refine Qn ?_ _ _ _ (Xb (Q := fun _ st' => Le 1 st' ⟨(42, .bool false) :: (7, .int .i64 i) :: base, [bx ty r]⟩) (hF kc8) hm1 I4 (hI rfl (slY true)) (by simp (disch := omega) only [rq, simprocAttr, base, bx, yq]; exact Qe) hs8)
   rintro _ a9 W9 ⟨rfl, st9, hle9, hs9', t9⟩
   have hs9 := hle9 _ _ _ rfl hs9'
   have sl9 := hslN hs9 t9
   show (Code.cond _ .ret .skip).wpIn Fence.wide 4 _ _ a9 W9
   refine wpIn_cond_false (getB hs9 (i := 42) rfl) (wpIn_skip ?_)
   show d5.wpIn Fence.wide 4 _ _ a9 W9
   have hl1 : r.length - (i + 1) ≤ s.length := by omega
   refine Ze (Q := fun _ st' => Le 1 st' ⟨base, [bx ty (r.drop (i + 1))]⟩) (hF kc8) hd5 I4 (hI rfl sl9) (by simp (disch := omega) only [rq, simprocAttr, base, bx]; exact Qe) hs9 ?_
   intro stD aD WD hleD hsD' tD
   have hsD := hleD _ _ _ rfl hsD'
   have slD := hslN hsD tD
   obtain ⟨qD, hbD, hkD⟩ := QdL hb8 hsD
   have hJD := hJ _ _ _ hJ8 qD
   refine ⟨⟨j + 1, r.drop (i + 1), hj1, slD, hKs kc8 hkD, hbD, by rw [qr]; omega, hdj, ?_⟩, ?_⟩
   ·rw [fin j hj]
    exact hJD
   ·rw [Qt0 hb, Qt0 hbD, qr]
    omega
  ·refine ⟨false, rfl, ?_⟩
   have hz8 : (a7.put (some 41) (.bool false)).tmps.size = 52 := (slY false).2.1
   let P0 : Prg := ⟨P.prog, [], fun _ _ h => by cases h⟩
   have hs8 : Sim ⟨W8.heap.size, ⟨W8, [], [], fun _ _ => False⟩, 52, []⟩ ⟨[(41, .bool false)], []⟩ (a7.put (some 41) (.bool false)) W8 :=
    ⟨(slY false).1, hz8, Below.refl _ _, [], ⟨rfl, by simp, by simp, by simp, fun _ _ h => h.elim, qj _⟩, Moves.refl _, ZQ (by rw [p41]; simp only [Rep]) QjI⟩
   refine Qn ?_ _ _ _ (Xb (P := P0) (N := 52) (Γ := ⟨W8.heap.size, ⟨W8, [], [], fun _ _ => False⟩, 52, []⟩) (Q := fun _ st' => Le 0 st' ⟨[(42, .bool true)], []⟩) ⟨rfl, fun _ _ h => by cases h⟩ hm1 [] (fun p hp => by cases hp)
    (by simp (disch := omega) only [rq, simprocAttr, yJ]; exact Qe) hs8)
   rintro _ a9 W9 ⟨rfl, st9, hle9, hs9', t9⟩
   have hs9 := hle9 _ _ _ rfl hs9'
   show (Code.cond _ .ret .skip).wpIn Fence.wide 4 _ _ a9 W9
   have h42 : a9.eval (.tmp 42) = .bool true := by obtain ⟨_, _, _, _, _, _, h⟩ := hs9; have h : Rep _ (.bool _) (a9.tmps.getD 42 undef) := h 42; simp only [Rep] at h; exact h
   refine wpIn_cond_true h42 (wpIn_ret ?_)
   have b9 : Below W8.heap.size W8 W9 := hs9.2.2.1
   have hX9 := hJx _ W8 W9 hX8 ⟨none, ⟨b9.os, b9.tape, b9.output, b9.size, fun k hk _ => b9.block k hk⟩, fun q e => by cases e⟩
   exact ⟨hs9.1, .tuple #[], results_none (ye hrl) _ _ _, ⟨_, rfl⟩, .inr ⟨_, trivial, hX9⟩⟩
def Xc (c : UInt8) : List (List UInt8) → List UInt8
 | [] => []
 | [p] => p
 | p :: q :: r => p ++ c :: Xc c (q :: r)
theorem QiV (c : UInt8) (p : List UInt8) {L : List (List UInt8)} (h : L ≠ []) : Xc c (p :: L) = p ++ c :: Xc c L := by
 cases L with
 | nil => exact absurd rfl h
 | cons q r => rfl
theorem Qd2 (c : UInt8) : ∀ s, Xc c (pcs c s) = s
 | [] => rfl
 | b :: l => by
  have ih := Qd2 c l
  unfold pcs
  split
  ·rename_i h
   rw [QiV c [] (QlP c l), ih, h]
   rfl
  ·split
   ·rename_i h; exact absurd h (QlP c l)
   ·rename_i p r h
    rw [h] at ih
    cases r with
    | nil => simp only [Xc] at ih ⊢; rw [ih]
    | cons q r => simp only [Xc] at ih ⊢; rw [qR, ih]
theorem Qpk {c : UInt8} : ∀ {p : List UInt8}, c ∉ p → pcs c p = [p]
 | [], _ => rfl
 | b :: p, h => by
  simp only [qx, not_or] at h
  rw [pcs, qe fun e => h.1 e.symm, Qpk h.2]
theorem QsB {c : UInt8} : ∀ {p : List UInt8} (s : List UInt8), c ∉ p → pcs c (p ++ c :: s) = p :: pcs c s
 | [], s, _ => by simp [pcs]
 | b :: p, s, h => by
  simp only [qx, not_or] at h
  rw [qR, pcs, qe fun e => h.1 e.symm, QsB s h.2]
theorem QdR {c : UInt8} : ∀ {L : List (List UInt8)}, L ≠ [] → (∀ p ∈ L, c ∉ p) → pcs c (Xc c L) = L
 | [], h, _ => absurd rfl h
 | [p], _, h => Qpk (h p (by simp))
 | p :: q :: r, _, h => by
  rw [Xc, QsB _ (h p (by simp)), QdR (by simp) fun x hx => h x (yj _ hx)]
theorem Qea (c : UInt8) : ∀ (n : Nat) (s : List UInt8), s.length < n → Lib.countFrom [c] n s + 1 = (pcs c s).length
 | 0, _, h => by omega
 | n + 1, s, h => by
  unfold Lib.countFrom
  rcases Qb7 c s with ⟨h1, h2⟩ | ⟨i, h1, h2, h3⟩
  ·rw [h1, h2]; rfl
  ·have h4 := Qea c n (s.drop (i + 1)) (by rw [qr]; omega)
   rw [h1, h3, qe (by simp)]
   simp only [qw, qo, qC, ya]
   omega
theorem QiJ (c : UInt8) : ∀ (k : Nat) (s : List UInt8), k + 1 = (pcs c s).length → Lib.splitK [c] 0 k s = pcs c s
 | 0, s, h => by
  rcases Qb7 c s with ⟨h1, h2⟩ | ⟨i, h1, h2, h3⟩
  ·rw [h2]; rfl
  ·have := List.length_pos_iff.2 (QlP c (s.drop (i + 1)))
   rw [h3] at h
   simp only [qo] at h
   omega
 | k + 1, s, h => by
  unfold Lib.splitK
  rcases Qb7 c s with ⟨h1, h2⟩ | ⟨i, h1, h2, h3⟩
  ·rw [h2] at h; simp at h
  ·rw [h1, h3, qe (by simp)]
   rw [h3] at h
   simp only [qo] at h
   simp only [qw, qo, qC, ya, yI]
   rw [QiJ c k _ (by omega)]
theorem Qlw (c : UInt8) (s : List UInt8) : Lib.split s [c] = pcs c s :=
 QiJ c _ s (Qea c _ s (by omega))
theorem Qe2 (b : UInt8) (l t : List UInt8) : Lib.index (b :: l) t = if t.isPrefixOf (b :: l) then 0 else if Lib.index l t == -1 then -1 else Lib.index l t + 1 := rfl
theorem Qv8 : ∀ (s t : List UInt8) (a b : List UInt8), t ≠ [] → Lib.cut s t = (a, b, true) → s = a ++ t ++ b := by
 have key : ∀ (s t : List UInt8), t ≠ [] → 0 ≤ Lib.index s t → s = s.take (Lib.index s t).toNat ++ t ++ s.drop ((Lib.index s t).toNat + t.length) := by
  intro s t ht
  induction s with
  | nil =>
   intro h
   exfalso
   have : Lib.index [] t = -1 := by
    show (if t.isEmpty then (0 : Int) else -1) = -1
    cases t with
    | nil => exact absurd rfl ht
    | cons a b => rfl
   omega
  | cons b l ih =>
   intro h
   rw [Qe2] at h ⊢
   split
   ·rename_i hp
    obtain ⟨r, hr⟩ := List.isPrefixOf_iff_prefix.1 hp
    simp only [Int.toNat_zero, jx, jl, ya]
    rw [← hr]
    simp
   ·rename_i hp
    rw [qe hp] at h
    split
    ·rename_i h1; rw [qh h1] at h; omega
    ·rename_i h1
     rw [qe h1] at h
     have h2 : Lib.index l t ≠ -1 := by simpa using h1
     have h3 := Lib.index_ge l t
     have e : (Lib.index l t + 1).toNat = (Lib.index l t).toNat + 1 := by omega
     rw [e, jq, show (Lib.index l t).toNat + 1 + t.length = ((Lib.index l t).toNat + t.length) + 1 by omega, yM, qR, qR, ← ih (by omega)]
 intro s t a b ht h
 unfold Lib.cut at h
 split at h
 ·rename_i h0
  cases h
  exact key s t ht h0
 ·cases h
theorem Qyp : ∀ (p s : List UInt8) (x : UInt8) (t : List UInt8), x ∉ p → Lib.cut (p ++ (x :: t) ++ s) (x :: t) = (p, s, true) := by
 have key : ∀ (p s : List UInt8) (x : UInt8) (t : List UInt8), x ∉ p → Lib.index (p ++ (x :: t) ++ s) (x :: t) = p.length := by
  intro p s x t
  induction p with
  | nil =>
   intro _
   show Lib.index (x :: (t ++ s)) (x :: t) = 0
   rw [Qe2, qh (List.isPrefixOf_iff_prefix.2 ⟨s, by simp⟩)]
  | cons b p ih =>
   intro h
   simp only [qx, not_or] at h
   rw [qR, qR, Qe2, qe (by simp [List.isPrefixOf, h.1]), ih h.2, qe (by simp)]
   simp
 intro p s x t h
 unfold Lib.cut
 rw [key p s x t h, qh (by omega)]
 simp only [qw]
 rw [qz, List.take_left, ← qz, show p.length + (x :: t).length = (p ++ (x :: t)).length by simp, List.drop_left]
def QeO (s : List UInt8) : Option Int := match Lib.atoiAll s with | .ok v => if Lib.itoa v = s then some v else none | _ => none
def Qg1 (s : List UInt8) : Int := match Lib.atoiAll s with | .ok v => v | Lib.NumEnd.syntax => 0 | .range => Lib.atoiSat s
theorem QlV {s : List UInt8} {v : Int} (h : QeO s = some v) : Lib.itoa v = s := by
 unfold QeO at h
 split at h
 ·split at h
  ·rename_i e; cases h; exact e
  ·cases h
 ·cases h
theorem Qe4 (u : Nat) : ∀ b ∈ Lib.decDigits u, 48 ≤ b.toNat ∧ b.toNat ≤ 57 := by
 induction u using Nat.strongRecOn with
 | _ u ih =>
  intro b hb
  have e : ∀ k, k < 10 → (UInt8.ofNat (48 + k)).toNat = 48 + k := fun k hk => by simp; omega
  rw [Lib.decDigits] at hb
  split at hb
  ·rename_i h
   simp only [qH] at hb
   rw [hb, e u h]
   omega
  ·rcases qA.1 hb with hb | hb
   ·exact ih (u / 10) (by omega) b hb
   ·simp only [qH] at hb
    rw [hb, e (u % 10) (by omega)]
    omega
theorem QvC (v : Int) (b : UInt8) (h : b ∈ Lib.itoa v) : b.toNat = 45 ∨ 48 ≤ b.toNat ∧ b.toNat ≤ 57 := by
 unfold Lib.itoa at h
 split at h
 ·rcases qx.1 h with rfl | h
  ·exact .inl rfl
  ·exact .inr (Qe4 _ b h)
 ·exact .inr (Qe4 _ b h)
theorem QjX {v : Int} {b : UInt8} (h : b.toNat ≠ 45 ∧ (b.toNat < 48 ∨ 57 < b.toNat)) : b ∉ Lib.itoa v := fun hm => by
 have := QvC v b hm
 omega
theorem QlQ : ∀ (l1 l2 : List UInt8) (a : Nat), Lib.parseUint10 a (l1 ++ l2) = match Lib.parseUint10 a l1 with | .ok b => Lib.parseUint10 b l2 | Lib.NumEnd.syntax => Lib.NumEnd.syntax | .range => .range
 | [], l2, a => rfl
 | c :: l1, l2, a => by
  have h := QlQ l1 l2 (a * 10 + (c.toNat - 48))
  rw [qR]
  simp only [Lib.parseUint10]
  split
  ·split
   ·rfl
   ·split
    ·rfl
    ·exact h
  ·rfl
theorem QsC (u : Nat) (h : u < 9223372036854775808) : Lib.parseUint10 0 (Lib.decDigits u) = .ok u := by
 induction u using Nat.strongRecOn with
 | _ u ih =>
  have e : ∀ k, k < 10 → (UInt8.ofNat (48 + k)).toNat = 48 + k := fun k hk => by simp; omega
  rw [Lib.decDigits]
  split
  ·rename_i h
   simp only [Lib.parseUint10, e u h]
   rw [qh (by omega), qe (by omega), qe (by omega)]
   congr 1
   omega
  ·rw [QlQ, ih (u / 10) (by omega) (by omega)]
   simp only [Lib.parseUint10, e (u % 10) (by omega)]
   rw [qh (by omega), qe (by omega), qe (by omega)]
   congr 1
   omega
theorem QzS (u : Nat) : Lib.decDigits u ≠ [] := by
 rw [Lib.decDigits]
 split <;> simp
theorem Qbs {v : Int} (h0 : 0 ≤ v) (h1 : v < 9223372036854775808) : QeO (Lib.itoa v) = some v := by
 obtain ⟨u, rfl⟩ : ∃ u : Nat, v = u := ⟨v.toNat, by omega⟩
 have e : Lib.itoa (u : Int) = Lib.decDigits u := Lib.itoa_nonneg u
 have ha : Lib.atoiAll (Lib.decDigits u) = .ok (u : Int) := by
  have hd := Qe4 u
  have hp := QsC u (by omega)
  have hn := QzS u
  unfold Lib.atoiAll
  split
  ·rename_i h; exact absurd h hn
  ·rename_i c r h
   have hc := hd c (by rw [h]; simp)
   rw [qe (by omega)]
   have hm : Lib.parseMag (Lib.decDigits u) = .ok u := by unfold Lib.parseMag; rw [qe hn, hp]
   simp only [← h, hm]
   rw [qe (by omega), qe (by omega), qe (by omega)]
 unfold QeO
 rw [e, ha]
 simp only [e, yo]
structure Rp where
 f : Int
 c : Int
 b : Int
 r : Int
 n : Int
 m : Int
 l : List Int
 e : Int
 p : Int
 q : Int
 g : Int
def Rp.av (x : Rp) : AV := .agg [.int .i64 x.f, .int .i64 x.c, .int .i64 x.b, .int .i64 x.r, .int .i64 x.n, .int .i64 x.m, Q6 x.l, .int .i64 x.e, .int .u8 x.p, .int .i64 x.q, .int .i64 x.g]
def Rp.zero : Rp := ⟨0, 0, 0, 0, 0, 0, [], 0, 0, 0, 0⟩
def Qql (x : Rp) : Prop := hdN x.f x.c x.b x.r x.n = 0 ∧ skN x.l = 0 ∧ (Zl (Q5 x.r).toNat x.n.toNat).length = x.l.length ∧ 22 ≤ x.m ∧ x.m ≤ 100000 ∧ 0 ≤ x.e ∧ x.e ≤ 99 ∧ 0 ≤ x.p ∧ x.p ≤ 6 ∧ 0 ≤ x.q ∧ x.q < x.l.length ∧ 0 ≤ x.g ∧ x.g ≤ 12000
instance decRpOk (x : Rp) : Decidable (Qql x) := by unfold Qql; exact inferInstance
def wF1 : List UInt8 := [102, 111, 114, 109, 97, 116]
def wC1 : List UInt8 := [99, 104, 97, 110, 110, 101, 108, 115]
def wB1 : List UInt8 := [98, 105, 116, 115]
def wR1 : List UInt8 := [114, 97, 116, 101]
def wN1 : List UInt8 := [99, 111, 117, 110, 116]
def wF2 : List UInt8 := [102, 114, 97, 109, 101, 115]
def wF3 : List UInt8 := [102, 111, 117, 110, 100]
def ln1 (x : Rp) : List UInt8 := Xc 32 [wF1, Lib.itoa x.f, wC1, Lib.itoa x.c, wB1, Lib.itoa x.b, wR1, Lib.itoa x.r, wN1, Lib.itoa x.n]
def ln2 (x : Rp) : List UInt8 := Xc 32 [wF2, Lib.itoa x.m] ++ [58, 32] ++ Xc 32 (x.l.map Lib.itoa)
def ln3 (x : Rp) : List UInt8 := [102, 111, 117, 110, 100, 32] ++ Xc 32 [Lib.itoa x.e, Lib.itoa x.p, Lib.itoa x.q, Lib.itoa x.g]
def txt (x : Rp) : List UInt8 := Xc 10 [ln1 x, ln2 x, ln3 x, []]
def Qg2 : List (List UInt8) → List (List UInt8) → Option (List Int)
 | [], [] => some []
 | w :: ws, p :: q :: ps => if p = w then match QeO q with | some v => (Qg2 ws ps).map (v :: ·) | none => none else none
 | _, _ => none
def Qf0 (s : List UInt8) : Option (List Int) := (pcs 32 s).mapM QeO
def rdQ (s : List UInt8) : Rp × Bool :=
 match pcs 10 s with
 | [a, b, d, []] =>
  match Qg2 [wF1, wC1, wB1, wR1, wN1] (pcs 32 a) with
  | some [f, c, bb, r, n] =>
   match Lib.cut b [58, 32] with
   | (w, all, true) =>
    match Qg2 [wF2] (pcs 32 w) with
    | some [m] =>
     match Qf0 all with
     | some l =>
      if d.take 6 = [102, 111, 117, 110, 100, 32] then
       match Qf0 (d.drop 6) with
       | some [e, p, q, g] => if 0 ≤ p ∧ p ≤ 6 then (⟨f, c, bb, r, n, m, l, e, p, q, g⟩, true) else (⟨f, c, bb, r, n, m, l, 0, 0, 0, 0⟩, false)
       | _ => (⟨f, c, bb, r, n, m, l, 0, 0, 0, 0⟩, false)
      else (⟨f, c, bb, r, n, m, l, 0, 0, 0, 0⟩, false)
     | none => (⟨f, c, bb, r, n, m, [], 0, 0, 0, 0⟩, false)
    | _ => (⟨f, c, bb, r, n, 0, [], 0, 0, 0, 0⟩, false)
   | _ => (⟨f, c, bb, r, n, 0, [], 0, 0, 0, 0⟩, false)
  | _ => (Rp.zero, false)
 | _ => (Rp.zero, false)
def rdO (s : List UInt8) : Option Rp := if (rdQ s).2 = true then some (rdQ s).1 else none
theorem QlX : ∀ {L : List (List UInt8)} {l : List Int}, L.mapM QeO = some l → L = l.map Lib.itoa
 | [], l, h => by simp at h; subst h; rfl
 | p :: L, l, h => by
  simp only [yf, qN, qq, qg, qf] at h
  obtain ⟨v, hv, r, hr, rfl⟩ := h
  rw [qF, QlV hv, ← QlX hr]
theorem QiO {s : List UInt8} {l : List Int} (h : Qf0 s = some l) : s = Xc 32 (l.map Lib.itoa) := by
 rw [← QlX h, Qd2]
theorem QlU : ∀ {l : List Int}, (∀ v ∈ l, 0 ≤ v ∧ v < 9223372036854775808) → (l.map Lib.itoa).mapM QeO = some l
 | [], _ => rfl
 | v :: l, h => by
  simp only [qF, yf, Qbs (h v (by simp)).1 (h v (by simp)).2, QlU fun u hu => h u (yj _ hu), qN, qq, jR]
theorem Ql3 {l : List Int} (hl : l ≠ []) (h : ∀ v ∈ l, 0 ≤ v ∧ v < 9223372036854775808) : Qf0 (Xc 32 (l.map Lib.itoa)) = some l := by
 unfold Qf0
 rw [QdR (by simpa using hl) (fun p hp => by
  obtain ⟨v, _, rfl⟩ := qO.1 hp
  exact QjX (by decide)), QlU h]
theorem Qca : ∀ {ws ps : List (List UInt8)} {vs : List Int}, Qg2 ws ps = some vs → ps = (List.zipWith (fun w v => [w, Lib.itoa v]) ws vs).flatten ∧ vs.length = ws.length
 | [], [], vs, h => by simp only [Qg2, qf] at h; subst h; exact ⟨rfl, rfl⟩
 | w :: ws, p :: q :: ps, vs, h => by
  simp only [Qg2] at h
  split at h
  case isFalse => cases h
  rename_i e
  split at h
  case h_2 => cases h
  rename_i v hv
  obtain ⟨r, hr, rfl⟩ := qa.1 h
  obtain ⟨h1, h2⟩ := Qca hr
  rw [e, ← QlV hv]
  exact ⟨by simp [← h1], by simp [h2]⟩
 | [], p :: ps, vs, h => by simp [Qg2] at h
 | w :: ws, [], vs, h => by simp [Qg2] at h
 | w :: ws, [p], vs, h => by simp [Qg2] at h
theorem Qzh {s : List UInt8} {x : Rp} (h : rdO s = some x) : txt x = s := by
 unfold rdO at h
 split at h
 case isFalse => cases h
 rename_i hy
 cases h
 generalize hq : rdQ s = y at hy ⊢
 unfold rdQ at hq
 split at hq
 case h_2 => subst hq; cases hy
 rename_i a b d h10
 split at hq
 case h_2 => subst hq; cases hy
 rename_i f c bb r n h1
 split at hq
 case h_2 => subst hq; cases hy
 rename_i w all hcut
 split at hq
 case h_2 => subst hq; cases hy
 rename_i m h2
 split at hq
 case h_2 => subst hq; cases hy
 rename_i l h3
 split at hq
 case isFalse => subst hq; cases hy
 rename_i hf
 split at hq
 case h_2 => subst hq; cases hy
 rename_i e p q g h4
 split at hq
 case isFalse => subst hq; cases hy
 subst hq
 have e1 := (Qca h1).1
 have e2 := (Qca h2).1
 have e3 := QiO h3
 have e4 := QiO h4
 have c1 := Qd2 32 a
 have c2 := Qd2 32 w
 have c3 := Qv8 _ _ _ _ (by simp) hcut
 rw [e1] at c1
 rw [e2] at c2
 have hs := Qd2 10 s
 rw [h10] at hs
 rw [← hs]
 unfold txt
 have k1 : ln1 ⟨f, c, bb, r, n, m, l, e, p, q, g⟩ = a := by rw [← c1]; rfl
 have k2 : ln2 ⟨f, c, bb, r, n, m, l, e, p, q, g⟩ = b := by rw [c3, ← c2, e3]; rfl
 have k3 : ln3 ⟨f, c, bb, r, n, m, l, e, p, q, g⟩ = d := by
  have : d = d.take 6 ++ d.drop 6 := (yD 6 d).symm
  rw [this, hf, e4]
  rfl
 rw [k1, k2, k3]
theorem Qro {c : UInt8} (h : c = 10 ∨ c = 32 ∨ c = 58) : c ∉ wF1 ∧ c ∉ wC1 ∧ c ∉ wB1 ∧ c ∉ wR1 ∧ c ∉ wN1 ∧ c ∉ wF2 ∧ c ∉ wF3 := by
 rcases h with rfl | rfl | rfl <;> decide
theorem Qcy {c b : UInt8} : ∀ {L : List (List UInt8)}, b ∈ Xc c L → b = c ∨ ∃ p ∈ L, b ∈ p
 | [], h => by simp [Xc] at h
 | [p], h => .inr ⟨p, by simp, h⟩
 | p :: q :: r, h => by
  rw [Xc] at h
  rcases qA.1 h with h | h
  ·exact .inr ⟨p, by simp, h⟩
  ·rcases qx.1 h with h | h
   ·exact .inl h
   ·rcases Qcy h with h | ⟨x, hx, h⟩
    ·exact .inl h
    ·exact .inr ⟨x, yj _ hx, h⟩
theorem QuX : ∀ {l : List Int} {m : Int}, Qo7 m l → ∀ v ∈ l, 5 ≤ v ∧ v ≤ m := by
 intro l
 induction l with
 | nil => intro m _ v hv; cases hv
 | cons a l ih =>
  intro m h v hv
  simp only [Qo7] at h
  rcases qx.1 hv with rfl | hv
  ·exact ⟨h.1, h.2.1⟩
  ·have := ih h.2.2 v hv
   omega
theorem Qnu {l : List Int} (h : skN l = 0) : l ≠ [] ∧ l.length ≤ 1000 ∧ ∀ v ∈ l, 5 ≤ v ∧ v ≤ 100000 := by
 unfold skN at h
 split at h
 ·cases h
 rename_i h1
 split at h
 ·rename_i h2
  exact ⟨fun e => h1 (.inl (by rw [e]; rfl)), by omega, fun v hv => QuX h2 v hv⟩
 ·cases h
theorem Qpx {f c b r n : Int} (h : hdN f c b r n = 0) : shP f c b r n ∧ QqH c r n := by
 unfold hdN at h
 split at h
 ·assumption
 ·cases h
theorem Qtg {f c b r n : Int} (h : hdN f c b r n = 0) : 1 ≤ n ∧ n ≤ 4000 := by
 obtain ⟨⟨_, _, h1, h2, _, _, h3⟩, h4, _⟩ := Qpx h
 have : (4000 : Int) / c ≤ 4000 := jQ _ (by omega)
 exact ⟨h3, by omega⟩
theorem QyZ {x : Rp} (h : Qql x) : rdO (txt x) = some x := by
 obtain ⟨h1, h2, h3, h4, h5, h6, h7, h8, h9, h10, h11, h12, h13⟩ := h
 obtain ⟨k1, k2, k3⟩ := Qnu h2
 obtain ⟨⟨s1, s2, s3, s4, s5, s6, s7⟩, _⟩ := Qpx h1
 have s8 := Qtg h1
 have w10 := Qro (c := 10) (.inl rfl)
 have w32 := Qro (c := 32) (.inr (.inl rfl))
 have w58 := Qro (c := 58) (.inr (.inr rfl))
 have nl : ∀ v, (10 : UInt8) ∉ Lib.itoa v := fun v => QjX (by decide)
 have ns : ∀ v, (32 : UInt8) ∉ Lib.itoa v := fun v => QjX (by decide)
 have nc : ∀ v, (58 : UInt8) ∉ Lib.itoa v := fun v => QjX (by decide)
 have p10 : pcs 10 (txt x) = [ln1 x, ln2 x, ln3 x, []] := by
  refine QdR (by simp) fun p hp => ?_
  simp only [qx, q9, or_false] at hp
  rcases hp with rfl | rfl | rfl | rfl
  ·intro hm
   rcases Qcy hm with hm | ⟨p, hp, hm⟩
   ·exact absurd hm (by decide)
   ·simp only [qx, q9, or_false] at hp
    rcases hp with rfl | rfl | rfl | rfl | rfl | rfl | rfl | rfl | rfl | rfl
    ·exact w10.1 hm
    ·exact nl _ hm
    ·exact w10.2.1 hm
    ·exact nl _ hm
    ·exact w10.2.2.1 hm
    ·exact nl _ hm
    ·exact w10.2.2.2.1 hm
    ·exact nl _ hm
    ·exact w10.2.2.2.2.1 hm
    ·exact nl _ hm
  ·intro hm
   unfold ln2 at hm
   rcases qA.1 hm with hm | hm
   ·rcases qA.1 hm with hm | hm
    ·rcases Qcy hm with hm | ⟨p, hp, hm⟩
     ·exact absurd hm (by decide)
     ·simp only [qx, q9, or_false] at hp
      rcases hp with rfl | rfl
      ·exact w10.2.2.2.2.2.1 hm
      ·exact nl _ hm
    ·exact absurd hm (by decide)
   ·rcases Qcy hm with hm | ⟨p, hp, hm⟩
    ·exact absurd hm (by decide)
    ·obtain ⟨v, _, rfl⟩ := qO.1 hp
     exact nl _ hm
  ·intro hm
   unfold ln3 at hm
   rcases qA.1 hm with hm | hm
   ·exact absurd hm (by decide)
   ·rcases Qcy hm with hm | ⟨p, hp, hm⟩
    ·exact absurd hm (by decide)
    ·simp only [qx, q9, or_false] at hp
     rcases hp with rfl | rfl | rfl | rfl <;> exact nl _ hm
  ·simp
 have q1 : pcs 32 (ln1 x) = [wF1, Lib.itoa x.f, wC1, Lib.itoa x.c, wB1, Lib.itoa x.b, wR1, Lib.itoa x.r, wN1, Lib.itoa x.n] := by
  refine QdR (by simp) fun p hp => ?_
  simp only [qx, q9, or_false] at hp
  rcases hp with rfl | rfl | rfl | rfl | rfl | rfl | rfl | rfl | rfl | rfl
  ·exact w32.1
  ·exact ns _
  ·exact w32.2.1
  ·exact ns _
  ·exact w32.2.2.1
  ·exact ns _
  ·exact w32.2.2.2.1
  ·exact ns _
  ·exact w32.2.2.2.2.1
  ·exact ns _
 have q2 : pcs 32 (Xc 32 [wF2, Lib.itoa x.m]) = [wF2, Lib.itoa x.m] := by
  refine QdR (by simp) fun p hp => ?_
  simp only [qx, q9, or_false] at hp
  rcases hp with rfl | rfl
  ·exact w32.2.2.2.2.2.1
  ·exact ns _
 have q3 : Lib.cut (ln2 x) [58, 32] = (Xc 32 [wF2, Lib.itoa x.m], Xc 32 (x.l.map Lib.itoa), true) := by
  refine Qyp _ _ 58 [32] fun hm => ?_
  rcases Qcy hm with hm | ⟨p, hp, hm⟩
  ·exact absurd hm (by decide)
  ·simp only [qx, q9, or_false] at hp
   rcases hp with rfl | rfl
   ·exact w58.2.2.2.2.2.1 hm
   ·exact nc _ hm
 have big : ∀ v ∈ x.l, 0 ≤ v ∧ v < 9223372036854775808 := fun v hv => by have := k3 v hv; omega
 have hlen : (x.l.length : Int) ≤ 1000 := by omega
 have m1 : Qg2 [wF1, wC1, wB1, wR1, wN1] (pcs 32 (ln1 x)) = some [x.f, x.c, x.b, x.r, x.n] := by
  rw [q1]
  simp only [Qg2, yo, Qbs (v := x.f) (by omega) (by omega), Qbs (v := x.c) (by omega) (by omega), Qbs (v := x.b) (by omega) (by omega), Qbs (v := x.r) (by omega) (by omega), Qbs (v := x.n) (by omega) (by omega), yb]
 have m2 : Qg2 [wF2] (pcs 32 (Xc 32 [wF2, Lib.itoa x.m])) = some [x.m] := by
  rw [q2]
  simp only [Qg2, yo, Qbs (v := x.m) (by omega) (by omega), yb]
 have m3 : Qf0 (Xc 32 (x.l.map Lib.itoa)) = some x.l := Ql3 k1 big
 have d3 : (ln3 x).drop 6 = Xc 32 ([x.e, x.p, x.q, x.g].map Lib.itoa) := rfl
 have m4 : Qf0 ((ln3 x).drop 6) = some [x.e, x.p, x.q, x.g] := by
  rw [d3]
  refine Ql3 (by simp) fun v hv => ?_
  simp only [qx, q9, or_false] at hv
  rcases hv with rfl | rfl | rfl | rfl <;> omega
 have d4 : (ln3 x).take 6 = [102, 111, 117, 110, 100, 32] := rfl
 have hr : rdQ (txt x) = (x, true) := by
  unfold rdQ
  simp only [p10, m1, q3, m2, m3, d4, m4, yo]
  rw [qh ⟨h8, h9⟩]
 unfold rdO
 rw [hr]
 rfl
theorem Qvl (s : List UInt8) : -9223372036854775808 ≤ Qg1 s ∧ Qg1 s ≤ 9223372036854775807 := by
 unfold Qg1
 split
 ·rename_i h; exact Lib.atoiAll_bounds h
 ·omega
 ·exact Lib.atoiSat_bounds s
def Qgz (P : Prg) (f : Nat) : Prop := ∀ s : List UInt8, s.length ≤ 1000000 → VC P f [.str s] (.tup [.int .i64 (Qg1 s), .bool (QeO s).isSome])
theorem QlY {P : Prg} {f fA fI : Nat} (bd : Body P f 20 [.tmp 2, .tmp 3] (Qay fA fI)) (hA : S_Atoi P fA) (hI : S_Itoa P fI) : Qgz P f := by
 intro s hs
 refine QJ rfl rfl bd ?_
 simp (disch := omega) only [rq, simprocAttr, Qay]
 refine hA s _ _ hs (fun v hv => ?_) (fun t p hv => ?_) (fun t p hv => ?_)
 ·obtain ⟨b1, b2⟩ := Lib.atoiAll_bounds hv
  have hI' := hI v b1 b2
  have e1 : Qg1 s = v := by unfold Qg1; rw [hv]
  have e2 : (QeO s).isSome = (Lib.itoa v == s) := by
   unfold QeO
   rw [hv]
   by_cases h : Lib.itoa v = s <;> simp [h]
  have hs1 : Qa4 .eql (Lib.itoa v) s = some (.bool (Lib.itoa v == s)) := rfl
  rw [e1, e2]
  simp (disch := omega) only [rq, simprocAttr]
  refine Qa hI' ?_
  simp (disch := omega) only [rq, simprocAttr, hs1]
 ·have e1 : Qg1 s = 0 := by unfold Qg1; rw [hv]
  have e2 : (QeO s).isSome = false := by unfold QeO; rw [hv]; rfl
  rw [e1, e2]
  simp (disch := omega) only [rq, simprocAttr]
 ·have e1 : Qg1 s = Lib.atoiSat s := by unfold Qg1; rw [hv]
  have e2 : (QeO s).isSome = false := by unfold QeO; rw [hv]; rfl
  rw [e1, e2]
  simp (disch := omega) only [rq, simprocAttr]
def QcH (P : Prg) (f : Nat) : Prop := ∀ s t : List UInt8, s.length ≤ 1000000 → t.length ≤ 1000000 → VC P f [.str s, .str t] (if s.take t.length = t then .tup [.str (s.drop t.length), .bool true] else .tup [.str s, .bool false])
theorem QlB {P : Prg} {f fH : Nat} (bd : Body P f 15 [.tmp 4, .tmp 5] (QL fH)) (hH : QhM P fH) : QcH P f := by
 intro s t hs ht
 refine QJ rfl (by split <;> rfl) bd ?_
 have hH' := hH s t hs ht
 by_cases h : s.take t.length = t
 ·have hl : t.length ≤ s.length := by have := congrArg List.length h; rw [qu] at this; omega
  rw [beq_iff_eq.2 h] at hH'
  rw [qh h]
  simp (disch := omega) only [rq, simprocAttr, QL]
  refine Qa hH' ?_
  simp (disch := omega) only [rq, simprocAttr]
 ·rw [yh.2 h] at hH'
  rw [qe h]
  simp (disch := omega) only [rq, simprocAttr, QL]
  refine Qa hH' ?_
  simp (disch := omega) only [rq, simprocAttr]
theorem QeU {P : Prg} {f fH : Nat} (bd : Body P f 11 [.tmp 4, .tmp 5] (ZC fH)) (hH : QcH P fH) : QcH P f := by
 intro s t hs ht
 refine QJ rfl (by split <;> rfl) bd ?_
 have hH' := hH s t hs ht
 by_cases h : s.take t.length = t
 ·rw [qh h] at hH' ⊢
  simp (disch := omega) only [rq, simprocAttr, ZC]
  refine Qa hH' ?_
  simp (disch := omega) only [rq, simprocAttr]
 ·rw [qe h] at hH' ⊢
  simp (disch := omega) only [rq, simprocAttr, ZC]
  refine Qa hH' ?_
  simp (disch := omega) only [rq, simprocAttr]
def Qfa (t0 t1 : Nat) (c : UInt8) (P : Prg) (f : Nat) : Prop := ∃ g, Enters P g ∧ QhK c t0 P g ∧ ∀ (s : List UInt8) (x0 x1 x2 : Ob) (K : AV → List Ob → Prop), K (.fn (.func g) [] [.cell [.str [c]], .ref 3 1 0, .cell [.int .i64 0]]) [x0, x1, x2, bx t0 s, ⟨t0, 1, 1, [.str [c]], 1⟩, ⟨t1, 1, 1, [.int .i64 0], 1⟩] → ACall P f [.str s, .str [c]] [x0, x1, x2] K
def Qdp (t0 t1 : Nat) (c : UInt8) (P : Prg) (f : Nat) : Prop := ∃ g, Enters P g ∧ QhK c t0 P g ∧ ∀ (s : List UInt8) (x0 x1 x2 : Ob) (K : AV → List Ob → Prop), K (.fn (.func g) [] [.cell [.str [c]], .ref 3 1 0, .cell [.int .i64 0]]) [x0, x1, x2, bx t0 s, ⟨t0, 1, 1, [.str [c]], 1⟩, ⟨t1, 1, 1, [.int .i64 0], 1⟩] → ACall P f [.str s, .str [c], .int .i64 0] [x0, x1, x2] K
theorem QfX {P : Prg} {f g t0 t1 fD fX : Nat} {c : UInt8} (bd : Body P f 8 [.tmp 6] (XN g t0 t1)) (bG : Body P g 52 [] (Zn fD fX)) (hX : S_StrIndex P fX) : Qdp t0 t1 c P f := by
 refine ⟨g, bG.ent, QeS bG hX, fun s x0 x1 x2 K hK => ?_⟩
 refine ACall.of_cut 1 bd (by simp) ?_
 simp (disch := omega) only [rq, simprocAttr, Qyo, XN]
 refine ⟨⟨[(4, .cell [.str [c]]), (3, .ref 3 1 0), (5, .cell [.int .i64 0])], _⟩, Le.still [4, 5] 1 (by simp [Am.look, Qx, frzL, Qu, isDL, isD]), ?_⟩
 simp (disch := omega) only [rq, simprocAttr, Qyo, Qg]
 exact hK
theorem QfY {P : Prg} {f fS t0 t1 : Nat} {c : UInt8} (bd : Body P f 8 [.tmp 4] (XO fS)) (hS : Qdp t0 t1 c P fS) : Qfa t0 t1 c P f := by
 obtain ⟨g, h1, h2, h3⟩ := hS
 refine ⟨g, h1, h2, fun s x0 x1 x2 K hK => Qb bd (by simp) ?_⟩
 simp (disch := omega) only [rq, simprocAttr, XO]
 refine h3 s x0 x1 x2 _ ?_
 simp (disch := omega) only [rq, simprocAttr]
 exact hK
def QjQ (s : List UInt8) : AV := match Qf0 s with | some l => .tup [Q6 l, .bool true] | none => .tup [.list 0 [], .bool false]
theorem Qta (s : List UInt8) : isD (QjQ s) = true := by unfold QjQ; split <;> simp [isD, isDL, XX]
def Quh (P : Prg) (f : Nat) : Prop := ∀ s : List UInt8, s.length ≤ 1000000 → VC P f [.str s] (QjQ s)
theorem Qfs {α β : Type} {f : α → Option β} : ∀ {l : List α} {x : α}, x ∈ l → f x = none → l.mapM f = none
 | a :: l, x, hx, h => by
  rw [yf]
  rcases qx.1 hx with rfl | hx
  ·rw [h]; rfl
  ·rw [Qfs hx h]; cases f a <;> rfl
theorem Qg5 {α β : Type} {f : α → Option β} {g : α → β} : ∀ {l : List α}, (∀ x ∈ l, f x = some (g x)) → l.mapM f = some (l.map g)
 | [], _ => rfl
 | a :: l, h => by
  rw [yf, h a (by simp), Qg5 fun x hx => h x (yj _ hx)]
  rfl
theorem QsP {s : List UInt8} {v : Int} (h : QeO s = some v) : Qg1 s = v := by
 unfold QeO at h
 unfold Qg1
 split at h
 ·rename_i h1
  rw [h1]
  split at h
  ·cases h; rfl
  ·cases h
 ·cases h
theorem QjL (c : UInt8) : ∀ s : List UInt8, (pcs c s).length ≤ s.length + 1
 | [] => by simp [pcs]
 | b :: l => by
  have := QjL c l
  unfold pcs
  split
  ·simp; omega
  ·split
   ·simp
   ·rename_i h; rw [h] at this; simp at this ⊢; omega
theorem QdQ (c : UInt8) : ∀ (s : List UInt8), ∀ p ∈ pcs c s, p.length ≤ s.length
 | [], p, hp => by simp [pcs] at hp; simp [hp]
 | b :: l, p, hp => by
  have ih := QdQ c l
  unfold pcs at hp
  split at hp
  ·rcases qx.1 hp with rfl | hp
   ·simp
   ·have := ih p hp; simp; omega
  ·split at hp
   ·simp at hp; simp [hp]
   ·rename_i q r h
    rw [h] at ih
    rcases qx.1 hp with rfl | hp
    ·have := ih q (by simp); simp; omega
    ·have := ih p (yj _ hp); simp; omega
theorem QvX {α β : Type} (L : List α) (f : α → β) : (List.finRange L.length).map (fun x => f L[x]) = L.map f := by
 apply yK <;> simp
theorem QjT {P : Prg} {f fS fN t0 t1 t2 u1 : Nat} (bd : QiB P f 23 [.cell 2 t0, .cell 3 t1] (J0 fS fN t0 t1 t2)) {u0 : Nat} (hS : Qfa u0 u1 32 P fS) (hN : Qgz P fN) (ht0 : Zq P t0 = some none) (ht1 : Zq P t1 = some none) : Quh P f := by
 intro s hs
 refine Qi 2 (by simp [isDL, isD]) (Qta s) (ACall.of_rangeS bd (by simp) ?_)
 obtain ⟨g, gE, gI, gK⟩ := hS
 simp (disch := omega) only [rq, simprocAttr, J0, Qrp, QuG, QqB, QxV, QiU, QxW]
 refine gK s _ _ _ _ ?_
 simp (disch := omega) only [rq, simprocAttr, QiU]
 let L := pcs 32 s
 let val : Fin L.length → Int := fun x => Qg1 L[x]
 let G : List (Fin L.length) → Prop := fun pre => ∀ x ∈ pre, (QeO L[x]).isSome = true
 refine ⟨g, 3, u0, [32], s, pcs 32, [(9, .fn (.func g) [] [.cell [.str [32]], .ref 3 1 0, .cell [.int .i64 0]]), (2, .ref 0 1 0), (3, .ref 1 1 0), (4, .ref 2 1 0)], G,
  fun pre => [⟨t0, 1, 1, [.emp true], 0⟩, ⟨t1, 1, 1, [.bool false], 0⟩, ⟨t0, 1, 1, [.own 6 pre.length], 0⟩, bx u0 [], ⟨u0, 1, 1, [.str [32]], 1⟩, ⟨u1, 1, 1, [.int .i64 0], 1⟩, ⟨t2, 1, pre.length, ks .i64 (pre.map val), 0⟩], fun x hx => (by cases hx), ?_, rfl, gE, hs, gI, by decide, by decide, rfl, fun pre => by simp, ?_, ?_⟩
 ·refine Le.trans (Le.virtC 2 0 t2 1 (by decide) rfl rfl) (Qe)
 ·intro pre x r hG hpl
  have hx : x.1 < L.length := x.2
  have hLx : L[x].length ≤ 1000000 := qX (QdQ 32 s _ (qS x.2)) hs
  have hLl : pre.length ≤ 1000001 := by have := QjL 32 s; omega
  have hN' := hN L[x] hLx
  show wpC P 23 7 _ _ ⟨Za (Za _ (some 10) (.str L[x])) (some 5) (.str L[x]), _⟩
  have hval : val x = Qg1 L[x] := rfl
  have hmem : L[x] ∈ L := qS x.2
  have hGx : (QeO L[x]).isSome = true → G (pre ++ [x]) := fun h y hy => by
   rcases qA.1 hy with hy | hy
   ·exact hG y hy
   ·simp only [qH] at hy; rw [hy]; exact h
  have hnone : QeO L[x] = none → Qf0 s = none := fun h => Qfs hmem h
  generalize L[x] = w at *
  have hpm : (ks .i64 (pre.map val)).length = pre.length := by simp [ks]
  cases ho : QeO w with
  | none =>
   rw [ho] at hN'
   have hr : QjQ s = .tup [.list 0 [], .bool false] := by unfold QjQ; rw [hnone ho]
   simp (disch := omega) only [rq, simprocAttr, bx]
   refine Qa hN' ?_
   simp (disch := omega) only [rq, simprocAttr, yJ, Option.isSome_none]
   refine ⟨[⟨t0, 1, 1, [.emp true], 0⟩, ⟨t1, 1, 1, [.bool false], 0⟩, ⟨t0, 1, 1, [.own 6 pre.length], 0⟩, bx u0 [], ⟨u0, 1, 1, [.str [32]], 1⟩, ⟨u1, 1, 1, [.int .i64 0], 1⟩, ⟨t2, 1, pre.length, ks .i64 (pre.map val), 0⟩], by simp, QB (by simp), fun r' => ?_⟩
   simp (disch := omega) only [rq, simprocAttr, QP, ht0, ht1, Qr]
   rw [hr]
   simp [QK, Qx, frzL, Qu]
  | some v =>
   rw [ho] at hN'
   simp (disch := omega) only [rq, simprocAttr, bx]
   refine Qa hN' ?_
   simp (disch := omega) only [rq, simprocAttr, yq, Option.isSome_some, hpm]
   have e1 : ks .i64 ((pre ++ [x]).map val) = ks .i64 (pre.map val) ++ [.int .i64 (Qg1 w)] := by simp [ks, hval]
   rw [e1]
   refine ⟨hGx (by rw [ho]; rfl), ?_⟩
   refine Le.low (ob := [_, _, _, _, _, _, _]) (J := [_]) (by simp) ?_ (by simp)
   refine Low.cons rfl (Low.cons rfl (Low.cons rfl (Low.cons rfl (Low.cons rfl (Low.cons rfl (Low.cons ?_ Low.nil))))))
   exact lowL_D _ (by rw [← e1]; exact Zf _ _)
 ·intro hG r
  have hall : Qf0 s = some (L.map Qg1) := by
   refine Qg5 fun p hp => ?_
   obtain ⟨i, hi, rfl⟩ := y9.1 hp
   have h := hG ⟨i, hi⟩ (List.mem_finRange _)
   obtain ⟨v, hv⟩ := jV.1 h
   have hv' : QeO (pcs 32 s)[i] = some v := hv
   rw [hv', QsP hv']
  have hfm : (List.finRange L.length).map val = L.map Qg1 := QvX L Qg1
  have hr : QjQ s = .tup [Q6 (L.map Qg1), .bool true] := by unfold QjQ; rw [hall]
  rw [hr, ← hfm]
  have tl : isTL (ks .i64 ((List.finRange (pcs 32 s).length).map val)) = true := Qp _ _
  show wpC P 23 7 _ _ _
  have hcl : (pcs 32 s).length = L.length := rfl
  simp (disch := omega) only [rq, simprocAttr, bx, Q6, jm, List.length_finRange, hcl]
  simp (disch := omega) only [rq, simprocAttr, QP, ht0, ht1, Qr]
  simp [QK, Qx, frzL, Qu, frzL_T _ tl]
  rfl
theorem Qnm {L : List (List UInt8)} {i : Nat} (h : i < L.length) : (L.map AV.str).drop i = .str (L.getD i []) :: (L.map AV.str).drop (i + 1) := by
 rw [qK (by simpa using h)]
 simp [h]
def Qri (ps : List (List UInt8)) (n : Nat) : List Int := (List.range n).map fun k => Qg1 (ps.getD (2 * k + 1) [])
def QnN (ws ps : List (List UInt8)) (k : Nat) : Prop := ps.getD (2 * k) [] = ws.getD k [] ∧ (QeO (ps.getD (2 * k + 1) [])).isSome = true
theorem QsS (p q : List UInt8) (ps : List (List UInt8)) (n : Nat) : Qri (p :: q :: ps) (n + 1) = Qg1 q :: Qri ps n := by
 unfold Qri
 rw [List.range_succ_eq_map, qF, jC]
 simp only [List.cons.injEq]
 exact ⟨by simp, yu fun k _ => by
  show Qg1 ((p :: q :: ps).getD (2 * (k + 1) + 1) []) = _
  rw [show 2 * (k + 1) + 1 = (2 * k + 1) + 1 + 1 by omega, yT, yT]⟩
theorem QiP {w p q : List UInt8} {ws ps : List (List UInt8)} {k : Nat} : QnN (w :: ws) (p :: q :: ps) (k + 1) ↔ QnN ws ps k := by
 unfold QnN
 rw [show 2 * (k + 1) + 1 = (2 * k + 1) + 1 + 1 by omega, show 2 * (k + 1) = (2 * k) + 1 + 1 by omega, yT, yT, yT, yT, yT]
theorem Qpp : ∀ {ws ps : List (List UInt8)}, ps.length = 2 * ws.length → (∀ k, k < ws.length → QnN ws ps k) → Qg2 ws ps = some (Qri ps ws.length)
 | [], [], _, _ => rfl
 | [], p :: ps, h, _ => by simp at h
 | w :: ws, [], h, _ => by simp at h
 | w :: ws, [p], h, _ => by simp at h; omega
 | w :: ws, p :: q :: ps, h, hk => by
  obtain ⟨h1, h2⟩ := hk 0 (by simp)
  have h1 : p = w := h1
  have h2 : (QeO q).isSome = true := h2
  obtain ⟨v, hv⟩ := jV.1 h2
  simp only [Qg2, h1, hv, yo]
  rw [Qpp (ws := ws) (ps := ps) (by simp at h; omega) fun k hk' => QiP.1 (hk (k + 1) (by simp; omega)), qo, QsS, QsP hv]
  rfl
theorem Qpo : ∀ {ws ps : List (List UInt8)} {k : Nat}, k < ws.length → ¬ QnN ws ps k → Qg2 ws ps = none
 | [], _, k, h, _ => by simp at h
 | w :: ws, [], k, h, _ => rfl
 | w :: ws, [p], k, h, _ => rfl
 | w :: ws, p :: q :: ps, k, h, hk => by
  simp only [Qg2]
  split
  ·rename_i h1
   split
   ·rename_i v hv
    cases k with
    | zero => exact absurd ⟨h1, by show (QeO q).isSome = true; rw [hv]; rfl⟩ hk
    | succ k =>
     rw [Qpo (k := k) (by simp at h; omega) fun h' => hk (QiP.2 h')]
     rfl
   ·rfl
  ·rfl
theorem Qpn : ∀ {ws ps : List (List UInt8)}, ps.length ≠ 2 * ws.length → Qg2 ws ps = none
 | [], [], h => absurd rfl h
 | [], p :: ps, _ => rfl
 | w :: ws, [], _ => rfl
 | w :: ws, [p], _ => rfl
 | w :: ws, p :: q :: ps, h => by
  simp only [Qg2]
  split
  ·split
   ·rw [Qpn (by simp at h; omega)]
    rfl
   ·rfl
  ·rfl
def QyQ (ws : List (List UInt8)) (s : List UInt8) : AV := match Qg2 ws (pcs 32 s) with | some l => .tup [Q6 l, .bool true] | none => .tup [.list 0 [], .bool false]
theorem QvM (ws : List (List UInt8)) (s : List UInt8) : isD (QyQ ws s) = true := by unfold QyQ; split <;> simp [isD, isDL, XX]
theorem QvI (l : List (List UInt8)) : isD (strL l) = true := by
 have hD : ∀ l : List (List UInt8), isDL (l.map AV.str) = true := fun l => by
  induction l with
  | nil => rfl
  | cons a l ih => simp only [qF, isDL, isD, ih]; rfl
 simp only [strL, isD]; exact hD _
theorem Ql4 : ∀ l : List (List UInt8), isTL (l.map AV.str) = true
 | [] => rfl
 | a :: l => by simp [isTL, isT, Ql4 l]
theorem Qvf (c : UInt8) (s : List UInt8) (i : Nat) : ((pcs c s).getD i []).length ≤ s.length := by
 rw [qd]
 cases h : (pcs c s)[i]? with
 | none => simp
 | some p => exact QdQ c s p (yk h)
def QoN (P : Prg) (f : Nat) : Prop := ∀ (s : List UInt8) (ws : List (List UInt8)), s.length ≤ 1000000 → ws.length ≤ 1000 → VC P f [.str s, strL ws] (QyQ ws s)
theorem QnP {P : Prg} {f fS fN t0 : Nat} (bd : Body P f 54 [.tmp 4, .tmp 5] (JB fS fN t0)) (hS : S_SplitS P fS) (hN : Qgz P fN) : QoN P f := by
 intro s ws hs hw
 refine Qi 1 (by simp [isDL, isD, QvI]) (QvM ws s) (Qb bd (by simp) ?_)
 have hS' := hS s [32] hs (by simp)
 rw [Qlw, strL] at hS'
 have hpl := QjL 32 s
 have hN' : ∀ i, VC P fN [.str ((pcs 32 s).getD i [])] _ := fun i => hN _ (qX (Qvf 32 s i) hs)
 have hA : QyQ ws s = match Qg2 ws (pcs 32 s) with | some l => .tup [Q6 l, .bool true] | none => .tup [.list 0 [], .bool false] := rfl
 generalize pcs 32 s = ps at *
 have lw : (ws.map AV.str).length = ws.length := by simp
 have lp : (ps.map AV.str).length = ps.length := by simp
 by_cases h0 : ps.length = 2 * ws.length
 case neg =>
  rw [hA, Qpn h0]
  simp (disch := omega) only [rq, simprocAttr, JB, strL]
  refine Qa hS' ?_
  simp (disch := omega) only [rq, simprocAttr]
  simp [QK, Qx, frzL, Qu]
 simp (disch := omega) only [rq, simprocAttr, JB, strL]
 refine Qa hS' ?_
 simp (disch := omega) only [rq, simprocAttr]
 refine Qj (ι := Nat) (fun i => ⟨[(22, .int .i64 i), (21, .int .i64 ws.length), (20, .list ws.length (ws.map .str)), (7, .own 0 i), (6, .list ps.length (ps.map .str))], [⟨t0, 1, i, ks .i64 (Qri ps i), 0⟩]⟩)
  (fun i => i ≤ ws.length ∧ ∀ k, k < i → QnN ws ps k) (fun i => ws.length - i) 0 (Le.trans (Qfe 7 t0 1 (by decide) rfl) (Qe)) ⟨yd _, fun k h => by omega⟩ ?_
 intro i ⟨hi, hk⟩
 have lv : (ks .i64 (Qri ps i)).length = i := by simp [ks, Qri]
 by_cases hi2 : i < ws.length
 ·have a1 := Qnm (L := ws) hi2
  have a2 := Qnm (L := ps) (i := 2 * i + 1) (by omega)
  have a3 := Qnm (L := ps) (i := 2 * i) (by omega)
  have t1 : (2 * (i : Int) + 1).toNat = 2 * i + 1 := by omega
  have t2 : (2 * (i : Int)).toNat = 2 * i := by omega
  by_cases hok : QnN ws ps i
  ·obtain ⟨k1, k2⟩ := hok
   have hN2 := hN' (2 * i + 1)
   rw [k2] at hN2
   have hse : Qa4 .neq (ps.getD (2 * i) []) (ws.getD i []) = some (.bool false) := by
    show some (AV.bool (!(ps.getD (2 * i) [] == ws.getD i []))) = _
    rw [beq_iff_eq.2 k1]
    rfl
   have e1 : ks .i64 (Qri ps (i + 1)) = ks .i64 (Qri ps i) ++ [.int .i64 (Qg1 (ps.getD (2 * i + 1) []))] := by simp [ks, Qri, List.range_succ]
   simp (disch := omega) only [rq, simprocAttr, a1, a2, t1]
   refine Qa hN2 ?_
   simp (disch := omega) only [rq, simprocAttr, yq, a3, t2, hse, lv]
   refine ⟨i + 1, ⟨by omega, fun k hk' => ?_⟩, by omega, ?_⟩
   ·rcases Nat.lt_succ_iff_lt_or_eq.1 hk' with h | h
    ·exact hk k h
    ·rw [h]; exact ⟨k1, k2⟩
   ·rw [e1]
    exact XI [_] (by simp only [qH]; rintro o rfl; rw [← e1]; exact Qp _ _) (by simp [Am.look, Qx, frzL, Qu, strL, frzL_T _ (Ql4 _)])
  ·rw [hA, Qpo hi2 hok]
   have hN2 := hN' (2 * i + 1)
   cases k2 : (QeO (ps.getD (2 * i + 1) [])).isSome with
   | false =>
    rw [k2] at hN2
    simp (disch := omega) only [rq, simprocAttr, a1, a2, t1]
    refine Qa hN2 ?_
    simp (disch := omega) only [rq, simprocAttr, yJ]
    simp [QK, Qx, frzL, Qu]
   | true =>
    rw [k2] at hN2
    have hse : Qa4 .neq (ps.getD (2 * i) []) (ws.getD i []) = some (.bool true) := by
     show some (AV.bool (!(ps.getD (2 * i) [] == ws.getD i []))) = _
     rw [yh.2 fun h => hok ⟨h, k2⟩]
     rfl
    simp (disch := omega) only [rq, simprocAttr, a1, a2, t1]
    refine Qa hN2 ?_
    simp (disch := omega) only [rq, simprocAttr, yq, a3, t2, hse]
    simp [QK, Qx, frzL, Qu]
 ·obtain rfl : i = ws.length := by omega
  rw [hA, Qpp h0 hk]
  simp (disch := omega) only [rq, simprocAttr]
  simp [QK, Qx, frzL, Qu, Q6, frzL_T _ (Qp .i64 (Qri ps ws.length))]
  simp [Qri]
def rpB (x : Rp) : Prop := x.l.length ≤ 1000000 ∧ (∀ v ∈ x.l, -9223372036854775808 ≤ v ∧ v ≤ 9223372036854775807) ∧ 0 ≤ x.p ∧ x.p ≤ 255
def rpN (x : Rp) : Int := if Qql x then 0 else 8
theorem Qha (x : Rp) : isD x.av = true := by simp [Rp.av, isD, isDL, XX]
def QeI (P : Prg) (f : Nat) : Prop := ∀ x : Rp, rpB x → VC P f [x.av] (.int .i64 (rpN x))
theorem QnQ {P : Prg} {f fF fC t0 t1 : Nat} (bd : Body P f 63 [.tmp 2] (QA fF fC t0 t1)) (hF : Ju P fF) (hC : Qco P fC) : QeI P f := by
 intro x ⟨b1, b2, b3, b4⟩
 refine QJ (by simp [isDL, Qha]) rfl bd ?_
 have hF' := hF x.f x.c x.b x.r x.n
 have hC' := hC x.l b1 b2
 have no : ∀ p : Prop, ¬ p → (Qql x → p) → rpN x = 8 := fun p hp h => qe fun hx => hp (h hx)
 rw [hdA] at hF'
 rw [Q6] at hC'
 have kl := Qpy (f := x.f) (c := x.c) (b := x.b) (r := x.r) (n := x.n)
 have hcl : hdN x.f x.c x.b x.r x.n = 0 → (Zl (Q5 x.r).toNat x.n.toNat).length ≤ 1000 := fun h => by
  obtain ⟨m, e, h1⟩ := kl h
  rw [e, qw]
  have := h1.2.2.2.2
  rwa [qw] at this
 by_cases h1 : hdN x.f x.c x.b x.r x.n = 0
 case neg =>
  rw [no _ h1 fun h => h.1]
  rw [Qtf, qe h1] at hF'
  simp (disch := omega) only [rq, simprocAttr, QA, Rp.av, Q6]
  refine Qa hF' ?_
  simp (disch := omega) only [rq, simprocAttr]
 have hcl' := hcl h1
 rw [Qtf, qh h1, Q6] at hF'
 have rok : Qql x ↔ (skN x.l = 0 ∧ (Zl (Q5 x.r).toNat x.n.toNat).length = x.l.length ∧ 22 ≤ x.m ∧ x.m ≤ 100000 ∧ 0 ≤ x.e ∧ x.e ≤ 99 ∧ 0 ≤ x.p ∧ x.p ≤ 6 ∧ 0 ≤ x.q ∧ x.q < x.l.length ∧ 0 ≤ x.g ∧ x.g ≤ 12000) := ⟨fun h => h.2, fun h => ⟨h1, h⟩⟩
 generalize Zl (Q5 x.r).toNat x.n.toNat = Ls at *
 by_cases h2 : skN x.l = 0
 case neg =>
  rw [no _ h2 fun h => h.2.1]
  simp (disch := omega) only [rq, simprocAttr, QA, Rp.av, Q6]
  iterate 2 (refine Qa (by assumption) ?_; simp (disch := omega) only [rq, simprocAttr])
 rw [h2] at hC'
 by_cases h3 : Ls.length = x.l.length
 case neg =>
  rw [no _ h3 fun h => (rok.1 h).2.1]
  simp (disch := omega) only [rq, simprocAttr, QA, Rp.av, Q6]
  iterate 2 (refine Qa (by assumption) ?_; simp (disch := omega) only [rq, simprocAttr])
 have fin : (22 ≤ x.m ∧ x.m ≤ 100000 ∧ 0 ≤ x.e ∧ x.e ≤ 99 ∧ 0 ≤ x.p ∧ x.p ≤ 6 ∧ 0 ≤ x.q ∧ x.q < x.l.length ∧ 0 ≤ x.g ∧ x.g ≤ 12000) → rpN x = 0 := fun h => qh (rok.2 ⟨h2, h3, h⟩)
 have bad : ¬ (22 ≤ x.m ∧ x.m ≤ 100000 ∧ 0 ≤ x.e ∧ x.e ≤ 99 ∧ 0 ≤ x.p ∧ x.p ≤ 6 ∧ 0 ≤ x.q ∧ x.q < x.l.length ∧ 0 ≤ x.g ∧ x.g ≤ 12000) → rpN x = 8 := fun h => qe fun hx => h (rok.1 hx).2.2
 by_cases h4 : 22 ≤ x.m
 case neg =>
  rw [bad fun h => h4 h.1]
  simp (disch := omega) only [rq, simprocAttr, QA, Rp.av, Q6]
  iterate 2 (refine Qa (by assumption) ?_; simp (disch := omega) only [rq, simprocAttr])
 by_cases h5 : x.m ≤ 100000
 case neg =>
  rw [bad fun h => h5 h.2.1]
  simp (disch := omega) only [rq, simprocAttr, QA, Rp.av, Q6]
  iterate 2 (refine Qa (by assumption) ?_; simp (disch := omega) only [rq, simprocAttr])
 by_cases h6 : 0 ≤ x.e
 case neg =>
  rw [bad fun h => h6 h.2.2.1]
  simp (disch := omega) only [rq, simprocAttr, QA, Rp.av, Q6]
  iterate 2 (refine Qa (by assumption) ?_; simp (disch := omega) only [rq, simprocAttr])
 by_cases h7 : x.e ≤ 99
 case neg =>
  rw [bad fun h => h7 h.2.2.2.1]
  simp (disch := omega) only [rq, simprocAttr, QA, Rp.av, Q6]
  iterate 2 (refine Qa (by assumption) ?_; simp (disch := omega) only [rq, simprocAttr])
 by_cases h8 : x.p ≤ 6
 case neg =>
  rw [bad fun h => h8 h.2.2.2.2.2.1]
  simp (disch := omega) only [rq, simprocAttr, QA, Rp.av, Q6]
  iterate 2 (refine Qa (by assumption) ?_; simp (disch := omega) only [rq, simprocAttr])
 by_cases h9 : 0 ≤ x.q
 case neg =>
  rw [bad fun h => h9 h.2.2.2.2.2.2.1]
  simp (disch := omega) only [rq, simprocAttr, QA, Rp.av, Q6]
  iterate 2 (refine Qa (by assumption) ?_; simp (disch := omega) only [rq, simprocAttr])
 by_cases h10 : x.q < x.l.length
 case neg =>
  rw [bad fun h => h10 h.2.2.2.2.2.2.2.1]
  simp (disch := omega) only [rq, simprocAttr, QA, Rp.av, Q6]
  iterate 2 (refine Qa (by assumption) ?_; simp (disch := omega) only [rq, simprocAttr])
 by_cases h11 : 0 ≤ x.g
 case neg =>
  rw [bad fun h => h11 h.2.2.2.2.2.2.2.2.1]
  simp (disch := omega) only [rq, simprocAttr, QA, Rp.av, Q6]
  iterate 2 (refine Qa (by assumption) ?_; simp (disch := omega) only [rq, simprocAttr])
 by_cases h12 : x.g ≤ 12000
 case neg =>
  rw [bad fun h => h12 h.2.2.2.2.2.2.2.2.2]
  simp (disch := omega) only [rq, simprocAttr, QA, Rp.av, Q6]
  iterate 2 (refine Qa (by assumption) ?_; simp (disch := omega) only [rq, simprocAttr])
 rw [fin ⟨h4, h5, h6, h7, b3, h8, h9, h10, h11, h12⟩]
 simp (disch := omega) only [rq, simprocAttr, QA, Rp.av, Q6]
 iterate 2 (refine Qa (by assumption) ?_; simp (disch := omega) only [rq, simprocAttr])
def QyK (P : Prg) (f : Nat) : Prop := ∀ s : List UInt8, s.length ≤ 1000000 → VC P f [.str s] (.tup [(rdQ s).1.av, .bool (rdQ s).2])
theorem QtG (s t : List UInt8) : (Lib.cut s t).1.length ≤ s.length ∧ (Lib.cut s t).2.1.length ≤ s.length := by
 unfold Lib.cut
 split
 ·exact ⟨by simp only [qu]; omega, by simp only [qr]; omega⟩
 ·exact ⟨qj _, yd _⟩
theorem Qqw {P : Prg} {f fS fN fC fM fX t0 t1 : Nat} (bd : Body P f 140 [.cell 2 t0, .tmp 3] (Xr fS fN fC fM fX t0 t1)) (hS : S_SplitS P fS) (hN : QoN P fN) (hC : S_StrCut P fC) (hM : Quh P fM) (hX : QcH P fX) (ht : Zq P t0 = some (some 11)) : QyK P f := by
 intro s hs
 refine Qi 1 rfl (by simp [isD, isDL, Qha]) (Qb bd (by simp) ?_)
 have hS' := hS s [10] hs (by simp)
 rw [Qlw, strL] at hS'
 have hpp := QdQ 10 s
 have hR : rdQ s = rdQ s := rfl
 conv at hR => rhs; unfold rdQ
 generalize pcs 10 s = ps at *
 by_cases hl : ps.length = 4
 case neg =>
  have hR' : rdQ s = (Rp.zero, false) := by
   rw [hR]
   split
   ·exact absurd rfl hl
   ·rfl
  rw [hR']
  by_cases h0 : ps.length < 4
  ·have : ¬ (ps.length : Int) = 4 := by omega
   simp (disch := omega) only [rq, simprocAttr, Xr]
   refine Qa hS' ?_
   simp (disch := omega) only [rq, simprocAttr]
   simp (disch := omega) only [rq, simprocAttr, QP, ht, Qr]
   simp [QK, Qx, frzL, Qu, Rp.av, Rp.zero, Q6, ks]
  ·simp (disch := omega) only [rq, simprocAttr, Xr]
   refine Qa hS' ?_
   simp (disch := omega) only [rq, simprocAttr]
   simp (disch := omega) only [rq, simprocAttr, QP, ht, Qr]
   simp [QK, Qx, frzL, Qu, Rp.av, Rp.zero, Q6, ks]
 match ps, hl with
 | [a, b, d, e4], _ =>
  have la : a.length ≤ 1000000 := qX (hpp a (by simp)) hs
  have lb : b.length ≤ 1000000 := qX (hpp b (by simp)) hs
  have ld : d.length ≤ 1000000 := qX (hpp d (by simp)) hs
  simp only [qo, qC, qF, yY, ya, Nat.reduceAdd] at hS'
  by_cases h4 : e4 = []
  case neg =>
   have hR' : rdQ s = (Rp.zero, false) := by
    rw [hR]
    split
    ·rename_i h; simp at h; exact absurd h.2.2.2 h4
    ·rfl
   have hse : Qa4 .neq e4 [] = some (.bool true) := by
    show some (AV.bool (!(e4 == []))) = _
    rw [yh.2 h4]
    rfl
   rw [hR']
   simp (disch := omega) only [rq, simprocAttr, Xr]
   refine Qa hS' ?_
   simp (disch := omega) only [rq, simprocAttr, hse]
   simp (disch := omega) only [rq, simprocAttr, QP, ht, Qr]
   simp [QK, Qx, frzL, Qu, Rp.av, Rp.zero, Q6, ks]
  subst h4
  simp only at hR
  have hN1 := hN a [wF1, wC1, wB1, wR1, wN1] la (by simp)
  have hC1 := hC b [58, 32] lb
  have hX1 := hX d [102, 111, 117, 110, 100, 32] ld (by simp)
  have hcl := QtG b [58, 32]
  unfold QyQ at hN1
  simp only [strL, qo, qC, qF, yY, ya, Nat.reduceAdd, wF1, wC1, wB1, wR1, wN1] at hN1 hR
  have hse : Qa4 .neq [] [] = some (.bool false) := rfl
  simp (disch := omega) only [rq, simprocAttr, Xr]
  refine Qa hS' ?_
  simp (disch := omega) only [rq, simprocAttr, hse]
  cases h1 : Qg2 [[102, 111, 114, 109, 97, 116], [99, 104, 97, 110, 110, 101, 108, 115], [98, 105, 116, 115], [114, 97, 116, 101], [99, 111, 117, 110, 116]] (pcs 32 a) with
  | none =>
   rw [h1] at hN1 hR
   rw [hR]
   refine Qv 1 [2] hN1 (by simp [QK, Qx, frzL, Qu, isDL, isD]) ?_
   simp (disch := omega) only [rq, simprocAttr, Qg, yJ]
   simp (disch := omega) only [rq, simprocAttr, QP, ht, Qr]
   simp [QK, Qx, frzL, Qu, Rp.av, Rp.zero, Q6, ks]
  | some vs =>
   have hvl := (Qca h1).2
   rw [h1] at hN1 hR
   match vs, hvl with
   | [f, c, bb, r, n], _ =>
    simp only at hR hN1
    rw [Q6] at hN1
    simp only [ks, qo, qC, qF, yY, ya, Nat.reduceAdd] at hN1
    refine Qv 1 [2] hN1 (by simp [QK, Qx, frzL, Qu, isDL, isD]) ?_
    simp (disch := omega) only [rq, simprocAttr, Qg, yq]
    rcases hcut : Lib.cut b [58, 32] with ⟨w, all, fd⟩
    rw [hcut] at hC1 hR hcl
    have lw : w.length ≤ 1000000 := qX hcl.1 lb
    have lal : all.length ≤ 1000000 := qX hcl.2 lb
    simp only at hC1 hR
    cases fd with
    | false =>
     simp only at hR
     rw [hR]
     refine Qa hC1 ?_
     simp (disch := omega) only [rq, simprocAttr, yJ]
     simp (disch := omega) only [rq, simprocAttr, QP, ht, Qr]
     simp [QK, Qx, frzL, Qu, Rp.av, Q6, ks]
    | true =>
     simp only at hR
     have hN2 := hN w [wF2] lw (by simp)
     have hM1 := hM all lal
     unfold QyQ at hN2
     unfold QjQ at hM1
     simp only [strL, qo, qC, qF, yY, ya, wF2] at hN2 hR
     refine Qa hC1 ?_
     simp (disch := omega) only [rq, simprocAttr, yq]
     cases h2 : Qg2 [[102, 114, 97, 109, 101, 115]] (pcs 32 w) with
     | none =>
      rw [h2] at hN2 hR
      rw [hR]
      refine Qv 1 [3] hN2 (by simp [QK, Qx, frzL, Qu, isDL, isD]) ?_
      simp (disch := omega) only [rq, simprocAttr, Qg, yJ]
      simp (disch := omega) only [rq, simprocAttr, QP, ht, Qr]
      simp [QK, Qx, frzL, Qu, Rp.av, Q6, ks]
     | some ms =>
      have hml := (Qca h2).2
      rw [h2] at hN2 hR
      match ms, hml with
      | [m], _ =>
       simp only at hR hN2
       rw [Q6] at hN2
       simp only [ks, qo, qC, qF, yY, ya] at hN2
       refine Qv 1 [3] hN2 (by simp [QK, Qx, frzL, Qu, isDL, isD]) ?_
       simp (disch := omega) only [rq, simprocAttr, Qg, yq]
       cases h3 : Qf0 all with
       | none =>
        rw [h3] at hM1 hR
        rw [hR]
        refine Qa hM1 ?_
        simp (disch := omega) only [rq, simprocAttr, yJ]
        simp (disch := omega) only [rq, simprocAttr, QP, ht, Qr]
        simp [QK, Qx, frzL, Qu, Rp.av, Q6, ks]
       | some l =>
        rw [h3] at hM1 hR
        simp only [Q6] at hM1
        simp only at hR
        refine Qa hM1 ?_
        simp (disch := omega) only [rq, simprocAttr, yq]
        by_cases h5 : d.take 6 = [102, 111, 117, 110, 100, 32]
        case neg =>
         rw [qe h5] at hR
         rw [qe (by simpa using h5)] at hX1
         rw [hR]
         refine Qa hX1 ?_
         simp (disch := omega) only [rq, simprocAttr, yJ]
         simp (disch := omega) only [rq, simprocAttr, QP, ht, Qr]
         simp [QK, Qx, frzL, Qu, Rp.av, Q6, frzL_T _ (Qp .i64 l)]
        rw [qh h5] at hR
        rw [qh (by simpa using h5)] at hX1
        have hM2 := hM (d.drop 6) (by rw [qr]; omega)
        unfold QjQ at hM2
        simp only [qo, qC, ya, Nat.reduceAdd] at hX1
        refine Qa hX1 ?_
        simp (disch := omega) only [rq, simprocAttr, yq]
        cases h6 : Qf0 (d.drop 6) with
        | none =>
         rw [h6] at hM2 hR
         rw [hR]
         refine Qa hM2 ?_
         simp (disch := omega) only [rq, simprocAttr, yJ]
         simp (disch := omega) only [rq, simprocAttr, QP, ht, Qr]
         simp [QK, Qx, frzL, Qu, Rp.av, Q6, frzL_T _ (Qp .i64 l)]
        | some fs =>
         rw [h6] at hM2 hR
         by_cases h7 : fs.length = 4
         case neg =>
          have hR' : rdQ s = (⟨f, c, bb, r, n, m, l, 0, 0, 0, 0⟩, false) := by
           rw [hR]
           split
           ·rename_i h; cases h; exact absurd rfl h7
           ·rfl
          rw [hR']
          simp only [Q6] at hM2
          by_cases h8 : fs.length < 4
          ·have : ¬ (fs.length : Int) = 4 := by omega
           refine Qa hM2 ?_
           simp (disch := omega) only [rq, simprocAttr, yq]
           simp (disch := omega) only [rq, simprocAttr, QP, ht, Qr]
           simp [QK, Qx, frzL, Qu, Rp.av, Q6, frzL_T _ (Qp .i64 l)]
          ·refine Qa hM2 ?_
           simp (disch := omega) only [rq, simprocAttr, yq]
           simp (disch := omega) only [rq, simprocAttr, QP, ht, Qr]
           simp [QK, Qx, frzL, Qu, Rp.av, Q6, frzL_T _ (Qp .i64 l)]
         match fs, h7 with
         | [e, p, q, g], _ =>
          simp only at hR hM2
          rw [Q6] at hM2
          simp only [ks, qo, qC, qF, yY, ya, Nat.reduceAdd] at hM2
          by_cases h8 : 0 ≤ p
          case neg =>
           rw [qe fun h => h8 h.1] at hR
           rw [hR]
           refine Qa hM2 ?_
           simp (disch := omega) only [rq, simprocAttr, yq]
           simp (disch := omega) only [rq, simprocAttr, QP, ht, Qr]
           simp [QK, Qx, frzL, Qu, Rp.av, Q6, frzL_T _ (Qp .i64 l)]
          by_cases h9 : p ≤ 6
          case neg =>
           rw [qe fun h => h9 h.2] at hR
           rw [hR]
           refine Qa hM2 ?_
           simp (disch := omega) only [rq, simprocAttr, yq]
           simp (disch := omega) only [rq, simprocAttr, QP, ht, Qr]
           simp [QK, Qx, frzL, Qu, Rp.av, Q6, frzL_T _ (Qp .i64 l)]
          rw [qh ⟨h8, h9⟩] at hR
          rw [hR]
          refine Qa hM2 ?_
          simp (disch := omega) only [rq, simprocAttr, yq]
          simp (disch := omega) only [rq, simprocAttr, QP, ht, Qr]
          simp [QK, Qx, frzL, Qu, Rp.av, Q6, frzL_T _ (Qp .i64 l)]
theorem Qvk {s : List UInt8} {v : Int} (h : QeO s = some v) : -9223372036854775808 ≤ v ∧ v ≤ 9223372036854775807 := by
 have := Qvl s
 rw [QsP h] at this
 exact this
theorem QdY : ∀ {L : List (List UInt8)} {l : List Int}, L.mapM QeO = some l → l.length = L.length ∧ ∀ v ∈ l, -9223372036854775808 ≤ v ∧ v ≤ 9223372036854775807
 | [], l, h => by simp at h; subst h; exact ⟨rfl, fun v hv => by cases hv⟩
 | p :: L, l, h => by
  simp only [yf, qN, qq, qg, qf] at h
  obtain ⟨v, hv, r, hr, rfl⟩ := h
  obtain ⟨h1, h2⟩ := QdY hr
  refine ⟨by simp [h1], fun u hu => ?_⟩
  rcases qx.1 hu with rfl | hu
  ·exact Qvk hv
  ·exact h2 u hu
theorem Qsq {s : List UInt8} (hs : s.length ≤ 999999) (h : (rdQ s).2 = true) : rpB (rdQ s).1 := by
 have hpp := QdQ 10 s
 generalize hq : rdQ s = y at h ⊢
 unfold rdQ at hq
 split at hq
 case h_2 => subst hq; cases h
 rename_i a b d h10
 have lb : b.length ≤ 999999 := qX (hpp b (by rw [h10]; simp)) hs
 split at hq
 case h_2 => subst hq; cases h
 rename_i f c bb r n h1
 split at hq
 case h_2 => subst hq; cases h
 rename_i w all hcut
 have hcl := (QtG b [58, 32]).2
 rw [hcut] at hcl
 split at hq
 case h_2 => subst hq; cases h
 rename_i m h2
 split at hq
 case h_2 => subst hq; cases h
 rename_i l h3
 split at hq
 case isFalse => subst hq; cases h
 split at hq
 case h_2 => subst hq; cases h
 rename_i e p q g h4
 split at hq
 case isFalse => subst hq; cases h
 rename_i hp
 subst hq
 obtain ⟨k1, k2⟩ := QdY h3
 have := QjL 32 all
 exact ⟨by simp only at hcl ⊢; omega, k2, hp.1, by simp only; omega⟩
def QkM (P : Prg) (f : Nat) : Prop := ∀ s : List UInt8, s.length ≤ 999999 → (∀ x, Qql x → txt x = s → VC P f [.str s] (.tup [x.av, .int .i64 0])) ∧ ((¬ ∃ x, Qql x ∧ txt x = s) → VC P f [.str s] (.tup [Rp.zero.av, .int .i64 12]))
theorem Qqy {P : Prg} {f fR fC t0 : Nat} (bd : Body P f 20 [.cell 2 t0, .tmp 3] (X7 fR fC t0)) (hR : QyK P fR) (hC : QeI P fC) (ht : Zq P t0 = some (some 11)) : QkM P f := by
 intro s hs
 have hR' := hR s (by omega)
 refine ⟨fun x hx htx => ?_, fun hno => ?_⟩
 ·refine Qi 1 rfl (by simp [isD, isDL, Qha]) (Qb bd (by simp) ?_)
  have h1 : rdO s = some x := by rw [← htx]; exact QyZ hx
  unfold rdO at h1
  split at h1
  case isFalse => cases h1
  rename_i h2
  have hb := Qsq hs h2
  cases h1
  have hC' := hC _ hb
  have e0 : rpN (rdQ s).1 = 0 := qh hx
  rw [e0] at hC'
  rw [h2] at hR'
  generalize (rdQ s).1 = x at *
  rw [Rp.av, Q6] at hR' hC' ⊢
  simp (disch := omega) only [rq, simprocAttr, X7]
  refine Qa hR' ?_
  simp (disch := omega) only [rq, simprocAttr, yq]
  refine Qa hC' ?_
  simp (disch := omega) only [rq, simprocAttr]
  simp (disch := omega) only [rq, simprocAttr, QP, ht, Qr]
  simp [QK, Qx, frzL, Qu, frzL_T _ (Qp .i64 x.l)]
 ·refine Qi 1 rfl (by simp [isD, isDL, Qha]) (Qb bd (by simp) ?_)
  cases h2 : (rdQ s).2 with
  | false =>
   rw [h2] at hR'
   generalize (rdQ s).1 = x at *
   rw [Rp.av, Q6] at hR'
   simp (disch := omega) only [rq, simprocAttr, X7]
   refine Qa hR' ?_
   simp (disch := omega) only [rq, simprocAttr, yJ]
   simp (disch := omega) only [rq, simprocAttr, QP, ht, Qr]
   simp [QK, Qx, frzL, Qu, Rp.av, Rp.zero, Q6, ks]
  | true =>
   have hb := Qsq hs h2
   have hC' := hC _ hb
   have hrd : rdO s = some (rdQ s).1 := by unfold rdO; rw [qh h2]
   have e8 : rpN (rdQ s).1 = 8 := qe fun hx => hno ⟨_, hx, Qzh hrd⟩
   rw [e8] at hC'
   rw [h2] at hR'
   generalize (rdQ s).1 = x at *
   rw [Rp.av, Q6] at hR' hC'
   simp (disch := omega) only [rq, simprocAttr, X7]
   refine Qa hR' ?_
   simp (disch := omega) only [rq, simprocAttr, yq]
   refine Qa hC' ?_
   simp (disch := omega) only [rq, simprocAttr]
   simp (disch := omega) only [rq, simprocAttr, QP, ht, Qr]
   simp [QK, Qx, frzL, Qu, Rp.av, Rp.zero, Q6, ks]
def Qul (tB : Nat) (P : Prg) (f : Nat) : Prop := ∀ (ob : List Ob) (p : Nat) (c0 c : AV) (K : AV → List Ob → Prop), (c0 = .lit (.pointer none) ∨ c0 = .ref p 1 0) → ob[p]? = some ⟨tB, 2, 1, [c0, c], 0⟩ → K (.tup []) (ob.set p ⟨tB, 2, 1, [.ref p 1 0, c], 0⟩) → ACall P f [.ref p 1 0] ob K
section
open Go.Shelf Go.Proofs
theorem Qzy {P : Prg} {tB fC : Nat} (hN : CopyNew P.prog tB fC) (hO : CopyOld P.prog fC) (hE : Enters P fC) : Qul tB P fC := fun ob p c0 c K h0 hp hK => by
 rcases h0 with rfl | rfl
 ·exact ACall.copy_fresh hN hE hp hK
 ·refine ACall.copy_used hO hE hp ?_
  have e : ob.set p ⟨tB, 2, 1, [.ref p 1 0, c], 0⟩ = ob := by
   apply yN
   intro i
   rw [qZ]
   split
   ·rename_i e; subst e; split
    ·exact hp.symm
    ·rename_i h; exact absurd (qb.1 hp).1 h
   ·rfl
  rw [e] at hK
  exact hK
end
def QpM (tB tb : Nat) (P : Prg) (f : Nat) : Prop := ∀ (x0 x1 x2 : Ob) (rest : List Ob) (c0 : AV) (l s : List UInt8) (K : AV → List Ob → Prop), (c0 = .lit (.pointer none) ∨ c0 = .ref 3 1 0) → l.length + s.length ≤ 1000000 →
 K (.tup [.int .i64 s.length, .lit .nilIface]) (x0 :: x1 :: x2 :: ⟨tB, 2, 1, [.ref 3 1 0, .own 4 (l.length + s.length)], 0⟩ :: ⟨tb, 1, l.length + s.length, u8 (l ++ s), 0⟩ :: rest) →
 ACall P f [.ref 3 1 0, .str s] (x0 :: x1 :: x2 :: ⟨tB, 2, 1, [c0, .own 4 l.length], 0⟩ :: ⟨tb, 1, l.length, u8 l, 0⟩ :: rest) K
theorem Qhp {P : Prg} {f fC tb tB : Nat} (bd : Body P f 19 [.tmp 4, .tmp 5] (Q2 fC tb)) (hC : Qul tB P fC) : QpM tB tb P f := by
 intro x0 x1 x2 rest c0 l s K h0 hl hK
 refine Qb bd (by simp) ?_
 simp (disch := omega) only [rq, simprocAttr, Q2]
 refine hC _ 3 c0 _ _ h0 rfl ?_
 simp (disch := omega) only [rq, simprocAttr]
 exact hK
def J5 (w : List UInt8) (l : List Int) : List UInt8 := w ++ (l.map fun n => 32 :: Lib.itoa n).flatten
theorem Qbp (w : List UInt8) : ∀ l : List Int, (∀ v ∈ l, -9223372036854775808 ≤ v ∧ v ≤ 9223372036854775807) → (J5 w l).length ≤ w.length + 22 * l.length := by
 intro l
 unfold J5
 rw [qt]
 induction l with
 | nil => intro _; simp
 | cons n l ih =>
  intro h
  have h1 := ih fun v hv => h v (yj _ hv)
  have h2 := Lib.itoa_length_le n (h n (by simp)).1 (h n (by simp)).2
  simp only [qF, jH, qt, qo]
  omega
theorem Qu7 (w : List UInt8) (l : List Int) (n : Int) : J5 w (l ++ [n]) = J5 w l ++ (32 :: Lib.itoa n) := by simp [J5]
def QyI (tB tb ti : Nat) (P : Prg) (f : Nat) : Prop := ∀ (x0 x1 x2 : Ob) (rest : List Ob) (c0 : AV) (l w : List UInt8) (A : AV) (ns : List Int) (K : AV → List Ob → Prop), (c0 = .lit (.pointer none) ∨ c0 = .ref 3 1 0) →
 (A = Q6 ns ∨ ∃ j, A = .own (j + 5) ns.length ∧ rest[j]? = some ⟨ti, 1, ns.length, ks .i64 ns, 0⟩) → (∀ v ∈ ns, -9223372036854775808 ≤ v ∧ v ≤ 9223372036854775807) → l.length + w.length + 22 * ns.length ≤ 1000000 →
 (K (.tup []) (x0 :: x1 :: x2 :: ⟨tB, 2, 1, [.ref 3 1 0, .own 4 (l ++ J5 w ns).length], 0⟩ :: ⟨tb, 1, (l ++ J5 w ns).length, u8 (l ++ J5 w ns), 0⟩ :: rest)) →
 ACall P f [.str w, A, .ref 3 1 0] (x0 :: x1 :: x2 :: ⟨tB, 2, 1, [c0, .own 4 l.length], 0⟩ :: ⟨tb, 1, l.length, u8 l, 0⟩ :: rest) K
theorem QsX {P : Prg} {f fW fI tB tb ti : Nat} (bd : Body P f 20 [] (X6 fW fI)) (hW : QpM tB tb P fW) (hI : S_Itoa P fI) : QyI tB tb ti P f := by
 intro x0 x1 x2 rest c0 l w A ns K h0 hA hb hl hK
 refine Qb bd (by simp) ?_
 have hlen : ∀ i, i ≤ ns.length → (l ++ J5 w (ns.take i)).length + 22 ≤ 1000000 + 22 := fun i hi => by
  have h1 := Qbp w (ns.take i) fun v hv => hb v (qP hv)
  have h2 : (ns.take i).length ≤ i := by simp; omega
  rw [qt]
  omega
 have stp : ∀ i (hi : i < ns.length), l ++ J5 w (ns.take (i + 1)) = (l ++ J5 w (ns.take i)) ++ (32 :: Lib.itoa ns[i]) := fun i hi => by
  rw [qm hi, Qu7, qz]
 have hit : ∀ i (hi : i < ns.length), S_Itoa P fI → VC P fI [.int .i64 ns[i]] (.str (Lib.itoa ns[i])) := fun i hi h => h _ (hb _ (qS hi)).1 (hb _ (qS hi)).2
 let S : Nat → List Ob := fun i => x0 :: x1 :: x2 :: ⟨tB, 2, 1, [.ref 3 1 0, .own 4 (l ++ J5 w (ns.take i)).length], 0⟩ :: ⟨tb, 1, (l ++ J5 w (ns.take i)).length, u8 (l ++ J5 w (ns.take i)), 0⟩ :: rest
 have hnl : ns.length ≤ 1000000 := by omega
 have s0 : J5 w (ns.take 0) = w := by simp [J5]
 have hw : l.length + w.length ≤ 1000000 := by omega
 rcases hA with rfl | ⟨j, rfl, hj⟩
 ·simp (disch := omega) only [rq, simprocAttr, X6, Q6]
  refine hW x0 x1 x2 rest c0 l w _ h0 hw ?_
  simp (disch := omega) only [rq, simprocAttr]
  refine Qj (ι := Nat) (fun i => ⟨[(11, .int .i64 i), (10, .int .i64 ns.length), (9, .list ns.length (ks .i64 ns)), (2, .ref 3 1 0)], S i⟩) (fun i => i ≤ ns.length) (fun i => ns.length - i) 0
   (by simp only [S, s0, qt]; exact Qe) (yd _) ?_
  intro i hi
  by_cases hi2 : i < ns.length
  ·have hI' := hit i hi2 hI
   have la : (ks .i64 ns).drop i = .int .i64 ns[i] :: (ks .i64 ns).drop (i + 1) := by
    have h := Qbu (K := .i64) (l := ns) (i := i) hi2
    rw [← Jr] at h
    simpa [qd, hi2] using h
   have hil := Lib.itoa_length_le ns[i] (hb _ (qS hi2)).1 (hb _ (qS hi2)).2
   have hst := stp i hi2
   have hL := hlen i hi
   have hL1 := hlen (i + 1) hi2
   rw [hst, qt, qo] at hL1
   have hS1 : S (i + 1) = x0 :: x1 :: x2 :: ⟨tB, 2, 1, [.ref 3 1 0, .own 4 ((l ++ J5 w (ns.take i)).length + (32 :: Lib.itoa ns[i]).length)], 0⟩ :: ⟨tb, 1, (l ++ J5 w (ns.take i)).length + (32 :: Lib.itoa ns[i]).length, u8 ((l ++ J5 w (ns.take i)) ++ (32 :: Lib.itoa ns[i])), 0⟩ :: rest := by
    simp only [S]
    rw [hst, @List.length_append _ (l ++ J5 w (ns.take i))]
   have hS0 : S i = x0 :: x1 :: x2 :: ⟨tB, 2, 1, [.ref 3 1 0, .own 4 (l ++ J5 w (ns.take i)).length], 0⟩ :: ⟨tb, 1, (l ++ J5 w (ns.take i)).length, u8 (l ++ J5 w (ns.take i)), 0⟩ :: rest := rfl
   rw [hS0]
   generalize l ++ J5 w (ns.take i) = m at *
   simp (disch := omega) only [rq, simprocAttr, la, Qc]
   refine Qa hI' ?_
   have hsa : Qa4 .add [32] (Lib.itoa ns[i]) = some (.str (32 :: Lib.itoa ns[i])) := by
    simp only [Qa4]
    rw [qh (by simp; omega)]
    rfl
   simp (disch := omega) only [rq, simprocAttr, hsa]
   refine hW x0 x1 x2 rest _ m _ _ (.inr rfl) (by simp only [qo]; omega) ?_
   simp (disch := omega) only [rq, simprocAttr]
   refine ⟨i + 1, hi2, by omega, ?_⟩
   rw [hS1]
   exact Qe
  ·obtain rfl : i = ns.length := by omega
   simp (disch := omega) only [rq, simprocAttr]
   simp only [S, yn]
   exact hK
 ·have hj5 : ∀ a b c d e : Ob, (a :: b :: c :: d :: e :: rest)[j + 5]? = some ⟨ti, 1, ns.length, ks .i64 ns, 0⟩ := fun a b c d e => hj
  simp (disch := omega) only [rq, simprocAttr, X6]
  refine hW x0 x1 x2 rest c0 l w _ h0 hw ?_
  simp (disch := omega) only [rq, simprocAttr, hj5]
  refine Qj (ι := Nat) (fun i => ⟨[(11, .int .i64 i), (10, .int .i64 ns.length), (9, .own (j + 5) ns.length), (2, .ref 3 1 0)], S i⟩) (fun i => i ≤ ns.length) (fun i => ns.length - i) 0
   (by simp only [S, s0, qt]; exact Qe) (yd _) ?_
  intro i hi
  by_cases hi2 : i < ns.length
  ·have hI' := hit i hi2 hI
   have la : (ks .i64 ns).drop i = .int .i64 ns[i] :: (ks .i64 ns).drop (i + 1) := by
    have h := Qbu (K := .i64) (l := ns) (i := i) hi2
    rw [← Jr] at h
    simpa [qd, hi2] using h
   have hil := Lib.itoa_length_le ns[i] (hb _ (qS hi2)).1 (hb _ (qS hi2)).2
   have hst := stp i hi2
   have hL := hlen i hi
   have hL1 := hlen (i + 1) hi2
   rw [hst, qt, qo] at hL1
   have hS1 : S (i + 1) = x0 :: x1 :: x2 :: ⟨tB, 2, 1, [.ref 3 1 0, .own 4 ((l ++ J5 w (ns.take i)).length + (32 :: Lib.itoa ns[i]).length)], 0⟩ :: ⟨tb, 1, (l ++ J5 w (ns.take i)).length + (32 :: Lib.itoa ns[i]).length, u8 ((l ++ J5 w (ns.take i)) ++ (32 :: Lib.itoa ns[i])), 0⟩ :: rest := by
    simp only [S]
    rw [hst, @List.length_append _ (l ++ J5 w (ns.take i))]
   have hS0 : S i = x0 :: x1 :: x2 :: ⟨tB, 2, 1, [.ref 3 1 0, .own 4 (l ++ J5 w (ns.take i)).length], 0⟩ :: ⟨tb, 1, (l ++ J5 w (ns.take i)).length, u8 (l ++ J5 w (ns.take i)), 0⟩ :: rest := rfl
   rw [hS0]
   generalize l ++ J5 w (ns.take i) = m at *
   simp (disch := omega) only [rq, simprocAttr, hj5, la, Qc]
   refine Qa hI' ?_
   have hsa : Qa4 .add [32] (Lib.itoa ns[i]) = some (.str (32 :: Lib.itoa ns[i])) := by
    simp only [Qa4]
    rw [qh (by simp; omega)]
    rfl
   simp (disch := omega) only [rq, simprocAttr, hsa]
   refine hW x0 x1 x2 rest _ m _ _ (.inr rfl) (by simp only [qo]; omega) ?_
   simp (disch := omega) only [rq, simprocAttr]
   refine ⟨i + 1, hi2, by omega, ?_⟩
   rw [hS1]
   exact Qe
  ·obtain rfl : i = ns.length := by omega
   simp (disch := omega) only [rq, simprocAttr]
   simp only [S, yn]
   exact hK
def Quo (tB tb : Nat) (P : Prg) (f : Nat) : Prop := ∀ (ob : List Ob) (p o : Nat) (c : AV) (l : List UInt8) (K : AV → List Ob → Prop), ob[p]? = some ⟨tB, 2, 1, [c, .own o l.length], 0⟩ → ob[o]? = some ⟨tb, 1, l.length, u8 l, 0⟩ → l ≠ [] → K (.str l) (ob.set o ⟨tb, 1, l.length, u8 l, fzAll + l.length⟩) → ACall P f [.ref p 1 0] ob K
section
open Go.Shelf Go.Proofs
theorem Qzz {P : Prg} {ρ : Ren} (L : Lays.n169 P.prog ρ) (X5 : Builder.Extra P.prog ρ) (hE : Enters P (ρ.f 169)) : Quo (ρ.t 72) (ρ.t 5) P (ρ.f 169) := fun ob p o c l K hp ho h0 hK => ACall.bld_string L X5 hE hp ho h0 hK
end
theorem Ql9 : ∀ {l : List Int}, l ≠ [] → (l.map fun n => 32 :: Lib.itoa n).flatten = 32 :: Xc 32 (l.map Lib.itoa)
 | [], h => absurd rfl h
 | [n], _ => by simp [Xc]
 | n :: k :: l, _ => by
  have h := Ql9 (l := k :: l) (by simp)
  rw [qF, jH, h, qF (a := n), QiV 32 _ (by simp)]
  simp
def Qpe (x : Rp) : List UInt8 := J5 wF1 [x.f] ++ J5 (32 :: wC1) [x.c] ++ J5 (32 :: wB1) [x.b] ++ J5 (32 :: wR1) [x.r] ++ J5 (32 :: wN1) [x.n] ++ J5 (10 :: wF2) [x.m] ++ J5 [58] x.l ++ J5 (10 :: wF3) [x.e, x.p, x.q, x.g] ++ [10]
theorem Qxx {x : Rp} (h : x.l ≠ []) : Qpe x = txt x := by
 unfold Qpe txt ln1 ln2 ln3
 simp only [J5, Ql9 h, Xc, qF, yY, jH, List.flatten_nil, yA, qz, qR, jl, wF1, wC1, wB1, wR1, wN1, wF2, wF3]
def Qp7 (x : Rp) : AV := if Qql x then .tup [.str (txt x), .int .i64 0] else .tup [.str [], .int .i64 8]
def QkL (P : Prg) (f : Nat) : Prop := ∀ x : Rp, rpB x → VC P f [x.av] (Qp7 x)
theorem Qqx {P : Prg} {f fC g fW fS t0 t1 t2 t3 t4 tb : Nat} (bd : Body P f 70 [.tmp 2, .tmp 3] (Qad fC g fW fS t0 t1 t2 t3 t4)) (hC : QeI P fC) (hY : QyI t3 tb t4 P g) (hW : QpM t3 tb P fW) (hS : Quo t3 tb P fS) : QkL P f := by
 intro x hb
 have hC' := hC x hb
 refine Qi 1 (by simp [isDL, Qha]) (by unfold Qp7; split <;> rfl) (ACall.of_cuts [false, false, true, false, false, true] bd (by simp) ?_)
 by_cases hx : Qql x
 case neg =>
  have e1 : rpN x = 8 := qe hx
  have e2 : Qp7 x = .tup [.str [], .int .i64 8] := qe hx
  rw [e1] at hC'
  rw [e2]
  rw [Rp.av, Q6] at hC' ⊢
  simp (disch := omega) only [rq, simprocAttr, QcJ, Qad]
  refine Qa hC' ?_
  simp (disch := omega) only [rq, simprocAttr, QcJ]
  simp [QK, Qx, frzL, Qu]
 have e1 : rpN x = 0 := qh hx
 have e2 : Qp7 x = .tup [.str (txt x), .int .i64 0] := qh hx
 rw [e1] at hC'
 obtain ⟨h1, h2, h3, h4, h5, h6, h7, h8, h9, h10, h11, h12, h13⟩ := hx
 obtain ⟨k1, k2, k3⟩ := Qnu h2
 obtain ⟨⟨s1, s2, s3, s4, s5, s6, s7⟩, _⟩ := Qpx h1
 have s8 := Qtg h1
 rw [e2, ← Qxx k1]
 have one : ∀ {v : Int}, -9223372036854775808 ≤ v ∧ v ≤ 9223372036854775807 → ∀ u ∈ [v], -9223372036854775808 ≤ u ∧ u ≤ 9223372036854775807 := fun {v} h u hu => by simp only [qH] at hu; rw [hu]; exact h
 have four : ∀ u ∈ [x.e, x.p, x.q, x.g], -9223372036854775808 ≤ u ∧ u ≤ 9223372036854775807 := fun u hu => by
  simp only [qx, q9, or_false] at hu
  rcases hu with rfl | rfl | rfl | rfl <;> omega
 have lbig : ∀ u ∈ x.l, -9223372036854775808 ≤ u ∧ u ≤ 9223372036854775807 := fun u hu => by have := k3 u hu; omega
 obtain ⟨m1, e1, b1⟩ : ∃ m : List UInt8, m = [] ++ J5 wF1 [x.f] ∧ m.length ≤ 40 := ⟨_, rfl, by have := Qbp wF1 [x.f] (one (by omega)); simp [wF1] at this ⊢; omega⟩
 obtain ⟨m2, e2, b2⟩ : ∃ m : List UInt8, m = m1 ++ J5 (32 :: wC1) [x.c] ∧ m.length ≤ 80 := ⟨_, rfl, by have := Qbp (32 :: wC1) [x.c] (one (by omega)); simp [wC1] at this ⊢; omega⟩
 obtain ⟨m3, e3, b3⟩ : ∃ m : List UInt8, m = m2 ++ J5 (32 :: wB1) [x.b] ∧ m.length ≤ 120 := ⟨_, rfl, by have := Qbp (32 :: wB1) [x.b] (one (by omega)); simp [wB1] at this ⊢; omega⟩
 obtain ⟨m4, e4, b4⟩ : ∃ m : List UInt8, m = m3 ++ J5 (32 :: wR1) [x.r] ∧ m.length ≤ 160 := ⟨_, rfl, by have := Qbp (32 :: wR1) [x.r] (one (by omega)); simp [wR1] at this ⊢; omega⟩
 obtain ⟨m5, e5, b5⟩ : ∃ m : List UInt8, m = m4 ++ J5 (32 :: wN1) [x.n] ∧ m.length ≤ 200 := ⟨_, rfl, by have := Qbp (32 :: wN1) [x.n] (one (by omega)); simp [wN1] at this ⊢; omega⟩
 obtain ⟨m6, e6, b6⟩ : ∃ m : List UInt8, m = m5 ++ J5 (10 :: wF2) [x.m] ∧ m.length ≤ 240 := ⟨_, rfl, by have := Qbp (10 :: wF2) [x.m] (one (by omega)); simp [wF2] at this ⊢; omega⟩
 obtain ⟨m7, e7, b7⟩ : ∃ m : List UInt8, m = m6 ++ J5 [58] x.l ∧ m.length ≤ 23000 := ⟨_, rfl, by have := Qbp [58] x.l lbig; simp at this ⊢; omega⟩
 obtain ⟨m8, e8, b8⟩ : ∃ m : List UInt8, m = m7 ++ J5 (10 :: wF3) [x.e, x.p, x.q, x.g] ∧ m.length ≤ 24000 := ⟨_, rfl, by have := Qbp (10 :: wF3) [x.e, x.p, x.q, x.g] four; simp [wF3] at this ⊢; omega⟩
 have e9 : Qpe x = m8 ++ [10] := by rw [e8, e7, e6, e5, e4, e3, e2, e1]; simp [Qpe]
 rw [e9]
 rw [Rp.av, Q6] at hC' ⊢
 simp (disch := omega) only [rq, simprocAttr, QcJ, Qad]
 refine Qa hC' ?_
 simp (disch := omega) only [rq, simprocAttr, QcJ]
 refine QoY ⟨[(1, .cell [.int .i64 x.f, .int .i64 x.c, .int .i64 x.b, .int .i64 x.r, .int .i64 x.n, .int .i64 x.m, .list x.l.length (ks .i64 x.l), .int .i64 x.e, .int .u8 x.p, .int .i64 x.q, .int .i64 x.g])], _⟩ (Le.still [0] 1 (by simp [Am.look, Qx, frzL, Qu, isDL, isD, Zf, frzL_T _ (Qp .i64 x.l)])) ?_
 simp (disch := omega) only [rq, simprocAttr, QcJ, Qg]
 refine QoY ⟨[(1, .cell [.int .i64 x.f, .int .i64 x.c, .int .i64 x.b, .int .i64 x.r, .int .i64 x.n, .int .i64 x.m, .list x.l.length (ks .i64 x.l), .int .i64 x.e, .int .u8 x.p, .int .i64 x.q, .int .i64 x.g]), (5, .ref 1 1 0), (6, .ref 2 1 0), (7, .ref 3 1 0)], _⟩ (Le.trans (Le.virtC 3 1 tb 1 (by decide) rfl rfl) (QB (by simp [Am.look, Za]))) ?_
 simp (disch := omega) only [rq, simprocAttr, QcJ]
 refine hY _ _ _ [_] _ [] wF1 _ [x.f] _ (.inl rfl) (.inr ⟨0, rfl, rfl⟩) (one (by omega)) (by simp [wF1]) ?_
 rw [← e1]
 simp (disch := omega) only [rq, simprocAttr, QcJ]
 refine hY _ _ _ [_, _] _ m1 (32 :: wC1) _ [x.c] _ (.inr rfl) (.inr ⟨1, rfl, rfl⟩) (one (by omega)) (by simp [wC1]; omega) ?_
 rw [← e2]
 simp (disch := omega) only [rq, simprocAttr, QcJ]
 refine hY _ _ _ [_, _, _] _ m2 (32 :: wB1) _ [x.b] _ (.inr rfl) (.inr ⟨2, rfl, rfl⟩) (one (by omega)) (by simp [wB1]; omega) ?_
 rw [← e3]
 simp (disch := omega) only [rq, simprocAttr, QcJ]
 refine hY _ _ _ [_, _, _, _] _ m3 (32 :: wR1) _ [x.r] _ (.inr rfl) (.inr ⟨3, rfl, rfl⟩) (one (by omega)) (by simp [wR1]; omega) ?_
 rw [← e4]
 simp (disch := omega) only [rq, simprocAttr, QcJ]
 refine hY _ _ _ [_, _, _, _, _] _ m4 (32 :: wN1) _ [x.n] _ (.inr rfl) (.inr ⟨4, rfl, rfl⟩) (one (by omega)) (by simp [wN1]; omega) ?_
 rw [← e5]
 simp (disch := omega) only [rq, simprocAttr, QcJ]
 refine hY _ _ _ [_, _, _, _, _, _] _ m5 (10 :: wF2) _ [x.m] _ (.inr rfl) (.inr ⟨5, rfl, rfl⟩) (one (by omega)) (by simp [wF2]; omega) ?_
 rw [← e6]
 simp (disch := omega) only [rq, simprocAttr, QcJ]
 refine hY _ _ _ [_, _, _, _, _, _] _ m6 [58] _ x.l _ (.inr rfl) (.inl rfl) lbig (by simp; omega) ?_
 rw [← e7]
 simp (disch := omega) only [rq, simprocAttr, QcJ]
 refine hY _ _ _ [_, _, _, _, _, _, _] _ m7 (10 :: wF3) _ [x.e, x.p, x.q, x.g] _ (.inr rfl) (.inr ⟨6, rfl, rfl⟩) four (by simp [wF3]; omega) ?_
 rw [← e8]
 simp (disch := omega) only [rq, simprocAttr, QcJ]
 refine hW _ _ _ [_, _, _, _, _, _, _] _ m8 [10] _ (.inr rfl) (by simp; omega) ?_
 simp (disch := omega) only [rq, simprocAttr, QcJ]
 refine hS _ 3 4 (.ref 3 1 0) (m8 ++ [10]) _ (by simp) (by simp) (by simp) ?_
 simp (disch := omega) only [rq, simprocAttr, QcJ]
 simp [QK, Qx, frzL, Qu]
def QoL (P : Prg) (f : Nat) : Prop := ∀ a b : List Int, a.length ≤ 1000000 → b.length ≤ 1000000 → VC P f [Q6 a, Q6 b] (.bool (decide (a = b)))
theorem Qpr {l : List Int} {i : Nat} (h : i < l.length) : (ks .i64 l).drop i = .int .i64 l[i] :: (ks .i64 l).drop (i + 1) := by
 have h1 := Qbu (K := .i64) (l := l) (i := i) h
 rw [← Jr] at h1
 simpa [qd, h] using h1
theorem QnF {P : Prg} {f : Nat} (bd : Body P f 26 [.tmp 4] QR) : QoL P f := by
 intro a b ha hb
 refine QJ (by simp [isDL, XX]) rfl bd ?_
 by_cases h0 : a.length = b.length
 case neg =>
  have e : decide (a = b) = false := decide_eq_false fun h => h0 (by rw [h])
  have h1 : ¬ (a.length : Int) = b.length := by omega
  rw [e]
  by_cases h2 : a.length < b.length
  ·simp (disch := omega) only [rq, simprocAttr, QR, Q6]
  ·simp (disch := omega) only [rq, simprocAttr, QR, Q6]
 simp (disch := omega) only [rq, simprocAttr, QR, Q6]
 refine Qj (ι := Nat) (fun i => ⟨[(5, .int .i64 i), (0, .list a.length (ks .i64 a)), (1, .list b.length (ks .i64 b))], []⟩) (fun i => i ≤ a.length ∧ a.take i = b.take i) (fun i => a.length - i) 0
  (Qe) ⟨yd _, by simp⟩ ?_
 intro i ⟨hi, ht⟩
 by_cases hi2 : i < a.length
 ·have la := Qpr hi2
  have lb := Qpr (l := b) (i := i) (by omega)
  have ea : a.take (i + 1) = a.take i ++ [a[i]] := qm hi2
  have eb : b.take (i + 1) = b.take i ++ [b[i]'(by omega)] := qm (by omega)
  by_cases h1 : a[i] = b[i]'(by omega)
  ·have ht1 : a.take (i + 1) = b.take (i + 1) := by rw [ea, eb, ht, h1]
   generalize a[i] = u at *
   generalize b[i]'(by omega) = v at *
   subst h1
   simp (disch := omega) only [rq, simprocAttr, la, lb, Qc]
   exact ⟨i + 1, ⟨by omega, ht1⟩, by omega, Qe⟩
  ·have e : decide (a = b) = false := decide_eq_false fun h => h1 (by subst h; rfl)
   rw [e]
   generalize a[i] = u at *
   generalize b[i]'(by omega) = v at *
   rcases Int.lt_or_gt_of_ne h1 with h2 | h2
   ·simp (disch := omega) only [rq, simprocAttr, la, lb, Qc]
   ·simp (disch := omega) only [rq, simprocAttr, la, lb, Qc]
 ·obtain rfl : i = a.length := by omega
  rw [yn, h0, yn] at ht
  have e : decide (a = b) = true := decide_eq_true ht
  rw [e]
  simp (disch := omega) only [rq, simprocAttr]
def QuA (x : Rp) : AV := .agg [.int .i64 x.f, .int .i64 x.c, .int .i64 x.b, .int .i64 x.r, .int .i64 x.n, .int .i64 x.m, Q6 x.l]
def QzI (x y : Rp) : Bool := decide (x.f = y.f ∧ x.c = y.c ∧ x.b = y.b ∧ x.r = y.r ∧ x.n = y.n)
def QyR (x y : Rp) : Bool := QzI x y && (decide (x.m = y.m) && decide (x.l = y.l))
def QyS (x y : Rp) : Bool := decide (x.e = y.e ∧ x.p = y.p ∧ x.q = y.q ∧ x.g = y.g)
theorem QzH (x y : Rp) : (decide (x.f = y.f) && (decide (x.c = y.c) && (decide (x.b = y.b) && (decide (x.r = y.r) && decide (x.n = y.n))))) = QzI x y := by
 unfold QzI
 simp only [Bool.decide_and]
theorem QzL (x y : Rp) : (decide (x.e = y.e) && (decide (x.p = y.p) && (decide (x.q = y.q) && decide (x.g = y.g)))) = QyS x y := by
 unfold QyS
 simp only [Bool.decide_and]
def Qgy (P : Prg) (f : Nat) : Prop := ∀ x y : Rp, x.l.length ≤ 1000000 → y.l.length ≤ 1000000 → VC P f [QuA x, QuA y] (.bool (QyR x y))
theorem Qqn {P : Prg} {f fI t0 : Nat} (bd : Body P f 24 [.tmp 4] (QU fI t0)) (hI : QoL P fI) : Qgy P f := by
 intro x y hx hy
 refine QJ (by simp [isDL, QuA, isD, XX]) rfl bd ?_
 have hI' := hI x.l y.l hx hy
 rw [Q6, Q6] at hI'
 have hb := QzH x y
 unfold QyR
 rcases h1 : QzI x y with _ | _
 ·rw [h1] at hb
  simp (disch := omega) only [rq, simprocAttr, QU, QuA, Q6, Qrj, hb]
 ·rw [h1] at hb
  by_cases h2 : x.m = y.m
  ·rw [decide_eq_true h2]
   simp (disch := omega) only [rq, simprocAttr, QU, QuA, Q6, Qrj, hb]
   refine Qa hI' ?_
   simp (disch := omega) only [rq, simprocAttr]
  ·rw [decide_eq_false h2]
   rcases Int.lt_or_gt_of_ne h2 with h3 | h3
   ·simp (disch := omega) only [rq, simprocAttr, QU, QuA, Q6, Qrj, hb]
   ·simp (disch := omega) only [rq, simprocAttr, QU, QuA, Q6, Qrj, hb]
def Qgx (P : Prg) (f : Nat) : Prop := ∀ x y : Rp, x.l.length ≤ 1000000 → y.l.length ≤ 1000000 → VC P f [x.av, y.av] (.bool (QyR x y && QyS x y))
theorem Qqm {P : Prg} {f fI t0 : Nat} (bd : Body P f 17 [.tmp 4] (ZD fI t0)) (hI : Qgy P fI) : Qgx P f := by
 intro x y hx hy
 refine QJ (by simp [isDL, Qha]) rfl bd ?_
 have hI' := hI x y hx hy
 rw [QuA, QuA, Q6, Q6] at hI'
 have hb := QzL x y
 rcases h1 : QyR x y with _ | _
 ·rw [h1] at hI'
  simp (disch := omega) only [rq, simprocAttr, ZD, Rp.av, Q6]
  refine Qa hI' ?_
  simp (disch := omega) only [rq, simprocAttr]
 ·rw [h1] at hI'
  simp (disch := omega) only [rq, simprocAttr, ZD, Rp.av, Q6]
  refine Qa hI' ?_
  rcases h2 : QyS x y with _ | _
  ·rw [h2] at hb
   simp (disch := omega) only [rq, simprocAttr, Qrj, hb]
  ·rw [h2] at hb
   simp (disch := omega) only [rq, simprocAttr, Qrj, hb]
theorem Qdi {α : Type} (f : α → AV) : ∀ l : List α, (l.map fun x => [f x]).flatten = l.map f
 | [] => rfl
 | x :: l => by simp [Qdi f l]
theorem QvW {L : List (List AV)} (h : ∀ c ∈ L, QhV (.int .u8) c) : ∃ l : List UInt8, L.length = l.length ∧ AV.list L.length L.flatten = bs l := by
 obtain ⟨l, rfl, _⟩ := Qe0 (f := fun b : UInt8 => [AV.int .u8 b.toNat]) (q := fun _ => True) h (fun c hc => by
  simp only [QhV] at hc
  obtain ⟨n, rfl, h1, h2⟩ := hc
  simp only [IntKind.min, IntKind.max, IntKind.signed, IntKind.bits] at h1 h2
  refine ⟨UInt8.ofNat n.toNat, ?_, trivial⟩
  simp at h1 h2
  simp; omega)
 exact ⟨l, by simp, by simp [bs, u8, Qdi]⟩
theorem QzK {K : IntKind} {L : List (List AV)} (h : ∀ c ∈ L, QhV (.int K) c) : ∃ l : List Int, L.length = l.length ∧ AV.list L.length L.flatten = .list l.length (ks K l) ∧ ∀ x ∈ l, K.min ≤ x ∧ x ≤ K.max := by
 obtain ⟨l, rfl, h2⟩ := Qe0 (f := fun n : Int => [AV.int K n]) (q := fun x => K.min ≤ x ∧ x ≤ K.max) h (fun c hc => by
  simp only [QhV] at hc
  obtain ⟨n, rfl, h1, h2⟩ := hc
  exact ⟨n, rfl, h1, h2⟩)
 exact ⟨l, by simp, by simp [ks, Qdi], h2⟩
def QzC (P : Program) (t : TypeId) : Bool := match P.underlying t with | some (.struct _) => true | _ => false
def QzD (P : Program) (t : TypeId) : Bool := match P.underlying t with | some (.array _ _) => true | _ => false
def QBf (P : Program) (t : TypeId) : Bool := match P.underlying t with | some (.slice _) => true | _ => false
theorem QAo {P : Program} {t : TypeId} (h : QzC P t = true) : ∃ fs, P.underlying t = some (.struct fs) := by
 unfold QzC at h; split at h
 ·exact ⟨_, by assumption⟩
 ·cases h
theorem QAp {P : Program} {t : TypeId} (h : QzD P t = true) : ∃ n e, P.underlying t = some (.array n e) := by
 unfold QzD at h; split at h
 ·exact ⟨_, _, by assumption⟩
 ·cases h
theorem QxX {P : Program} {t : TypeId} (h : QBf P t = true) : ∃ e, P.underlying t = some (.slice e) := by
 unfold QBf at h; split at h
 ·exact ⟨_, by assumption⟩
 ·cases h
theorem QtF : ∀ (k u : Nat), u < 10 ^ (k + 1) → (Lib.decDigits u).length ≤ k + 1
 | 0, u, h => by
  rw [Lib.decDigits, dif_pos (by simpa using h)]
  simp
 | k + 1, u, h => by
  rw [Lib.decDigits]
  split
  ·simp
  ·have h2 : u / 10 < 10 ^ (k + 1) := by
    rw [yV] at h
    omega
   have := QtF k (u / 10) h2
   simp only [qt, qo, qC]
   omega
theorem QvB {v : Int} (h0 : 0 ≤ v) (h : v < 1000000) : (Lib.itoa v).length ≤ 6 := by
 unfold Lib.itoa
 rw [qe (by omega)]
 exact QtF 5 _ (by omega)
theorem QjW {c : UInt8} {k : Nat} : ∀ {L : List (List UInt8)}, (∀ p ∈ L, p.length ≤ k) → (Xc c L).length ≤ L.length * (k + 1)
 | [], _ => by simp [Xc]
 | [p], h => by
  have := h p (by simp)
  simp only [Xc, qo, qC]
  omega
 | p :: q :: r, h => by
  have h1 := h p (by simp)
  have h2 := QjW (c := c) (L := q :: r) fun x hx => h x (yj _ hx)
  simp only [Xc, qt, qo] at h2 ⊢
  have e : (r.length + 1 + 1) * (k + 1) = (r.length + 1) * (k + 1) + (k + 1) := Nat.succ_mul _ _
  omega
theorem Qw8 {x : Rp} (h : Qql x) : (txt x).length ≤ 12000 := by
 obtain ⟨h1, h2, h3, h4, h5, h6, h7, h8, h9, h10, h11, h12, h13⟩ := h
 obtain ⟨k1, k2, k3⟩ := Qnu h2
 obtain ⟨⟨s1, s2, s3, s4, s5, s6, s7⟩, _⟩ := Qpx h1
 have s8 := Qtg h1
 have i21 : ∀ v : Int, -9223372036854775808 ≤ v → v ≤ 9223372036854775807 → (Lib.itoa v).length ≤ 21 := fun v a b => Lib.itoa_length_le v a b
 have a1 : (ln1 x).length ≤ 220 := by
  unfold ln1
  refine qX (QjW (k := 21) ?_) (by simp)
  intro p hp
  simp only [qx, q9, or_false] at hp
  rcases hp with rfl | rfl | rfl | rfl | rfl | rfl | rfl | rfl | rfl | rfl
  ·decide
  ·exact i21 _ (by omega) (by omega)
  ·decide
  ·exact i21 _ (by omega) (by omega)
  ·decide
  ·exact i21 _ (by omega) (by omega)
  ·decide
  ·exact i21 _ (by omega) (by omega)
  ·decide
  ·exact i21 _ (by omega) (by omega)
 have a2 : (Xc 32 (x.l.map Lib.itoa)).length ≤ 7000 := by
  refine qX (QjW (k := 6) ?_) ?_
  ·intro p hp
   obtain ⟨v, hv, rfl⟩ := qO.1 hp
   have := k3 v hv
   exact QvB (by omega) (by omega)
  ·rw [jm]
   omega
 have a3 : (ln2 x).length ≤ 7100 := by
  have b1 := i21 x.m (by omega) (by omega)
  have b2 : wF2.length = 6 := rfl
  unfold ln2
  simp only [Xc, qt, qo, qC, b2]
  omega
 have a4 : (ln3 x).length ≤ 100 := by
  have b1 := i21 x.e (by omega) (by omega)
  have b2 := i21 x.p (by omega) (by omega)
  have b3 := i21 x.q (by omega) (by omega)
  have b4 := i21 x.g (by omega) (by omega)
  unfold ln3
  simp only [Xc, qt, qo, qC]
  omega
 unfold txt
 simp only [Xc, qt, qo, qC]
 omega
end Go.Am
