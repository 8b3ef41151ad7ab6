/- What the functions that the law reaches return, for every program that has their code; the conditions stand in each statement. -/
import Derived.Test.YtghngklehkkecadGreatDoorPushencFileL1
set_option linter.unusedSectionVars false
set_option linter.unusedSimpArgs false
set_option linter.unusedVariables false
namespace Go.Am
open Go.RowKit
theorem Low.putB {ob : List Ob} (h : Low ob.length ob) {t t0 t2 o p N V N' n C : Nat} (ho : o < ob.length) : Low (ob.length + 1) (XJ ob o p (bY t0 N V) (bO t o N') ++ [⟨t2, 2, 1, [.list (nB n) (u8 (leB C (nB n))), .int .i64 n], 0⟩]) :=
 ((h.put ho).mono (by omega)).append (Low.cons (by simp [lowL, XV, lowL_D _ (Qad _ _)]) Low.nil)
set_option maxHeartbeats 1000000 in
theorem QlO {P : Prg} {f t0 t1 : Nat} (bd : Qf P f 64 [] (X4 t0 t1)) {ob : List Ob} {t p o N V C n : Nat} (hp : ob[p]? = some (bO t o N)) (ho : ob[o]? = some (bY t1 N V)) (hpo : p ≠ o) (hV : V < 2 ^ N) (hC : C < 2 ^ n) (hn : n ≤ 1000) (hN : N + n ≤ 400000) (hfz : Low ob.length ob)
  {K : AV → List Ob → Prop} (hK : K (.tup []) (XJ ob o p (bY t1 (N + n) (V + 2 ^ N * C)) (bO t o (N + n)))) : ACall P f [.ref p 1 0, bA n C] ob K := by
 have hol : o < ob.length := (List.getElem?_eq_some_iff.1 ho).1
 have hpl : p < ob.length := (List.getElem?_eq_some_iff.1 hp).1
 refine ACall.low (ACall.of_body bd (by simp) ?_)
 have g0 : ∀ x y J, (XJ ob o p x y ++ J)[p]? = some y := fun x y J => by rw [List.getElem?_append_left (by rw [Zd]; exact hpl)]; exact Qk4 hpl
 have g1 : ∀ x y J, (XJ ob o p x y ++ J)[o]? = some x := fun x y J => by rw [List.getElem?_append_left (by rw [Zd]; exact hol)]; exact Qk5 hol hpo
 have g2 : ∀ x y J y', (XJ ob o p x y ++ J).set p y' = XJ ob o p x y' ++ J := fun x y J y' => by rw [List.set_append_left _ _ (by rw [Zd]; exact hpl), QoO]
 have g3 : ∀ x y J x', (XJ ob o p x y ++ J).set o x' = XJ ob o p x' y ++ J := fun x y J x' => by rw [List.set_append_left _ _ (by rw [Zd]; exact hol), QoP hpo]
 have g4 : ∀ x y (J : List Ob), (XJ ob o p x y ++ J)[ob.length]? = J[0]? := fun x y J => by rw [List.getElem?_append_right (by rw [Zd]; exact Nat.le_refl _), Zd, Nat.sub_self]
 have g5 : ∀ x y (J : List Ob), (XJ ob o p x y ++ J)[ob.length + 1]? = J[1]? := fun x y J => by rw [List.getElem?_append_right (by rw [Zd]; omega), Zd, Nat.add_sub_cancel_left]
 have ln : ∀ x y, (XJ ob o p x y).length = ob.length := fun x y => Zd
 have hs : ob = XJ ob o p (bY t1 N V) (bO t o N) := (Qjl ho hp hpo).symm
 simp (maxSteps := 4000000) (disch := omega) only [rq, simprocAttr, X4, bA, Qbr]
 refine Q0.by (ι := Nat) (fun j => ⟨[(8, .int .i64 j), (7, .int .i64 n), (3, .ref ob.length 1 0), (0, .ref p 1 0)], XJ ob o p (bY t1 (N + j) (V + 2 ^ N * (C % 2 ^ j))) (bO t o (N + j)) ++ [⟨t0, 2, 1, [.list (nB n) (u8 (leB C (nB n))), .int .i64 n], 0⟩]⟩) (fun j => j ≤ n) (fun j => n - j) 0 ?_ (by omega) ?_
 ·rw [Nat.add_zero, Nat.pow_zero, Nat.mod_one, Nat.mul_zero, Nat.add_zero, ← hs]
  exact Le.slots (by simp [Am.look])
 intro j hj
 by_cases hlt : j < n
 ·obtain ⟨M, hM⟩ : ∃ M, M = N + j := ⟨_, rfl⟩
  obtain ⟨i, hi⟩ : ∃ i, i = M / 8 := ⟨_, rfl⟩
  obtain ⟨a, ha⟩ : ∃ a, a = M % 8 := ⟨_, rfl⟩
  obtain ⟨q, hq⟩ : ∃ q, q = j / 8 := ⟨_, rfl⟩
  obtain ⟨r, hr⟩ : ∃ r, r = j % 8 := ⟨_, rfl⟩
  obtain ⟨b, hb0⟩ : ∃ b, b = C / 2 ^ j % 2 := ⟨_, rfl⟩
  have hM8 : M = 8 * i + a := by omega
  have hj8 : 8 * q + r = j := by omega
  have hb : b < 2 := by rw [hb0]; exact Nat.mod_lt _ (by decide)
  have hW : V + 2 ^ N * (C % 2 ^ j) < 2 ^ M := by
   rw [hM]
   exact JO hV (Nat.mod_lt _ (Nat.pow_pos (by omega)))
  have hstep := QvM (V := V) (N := N) (v := C) (j := j) (r := 1)
  rw [← hM, Nat.pow_one, ← hb0] at hstep
  have hat := QsW (V := C) (k := nB n) (i := q) (by unfold nB; omega)
  have hbit := Qu2 C q r (by omega)
  rw [hj8, ← hb0] at hbit
  have hby : C / 256 ^ q % 256 < 256 := Nat.mod_lt _ (by decide)
  have s1 : Qi false .u8 ((C / 256 ^ q % 256 : Nat) : Int) (r : Int) = some (.int .u8 ((C / 256 ^ q % 256 / 2 ^ r : Nat) : Int)) := Qlg (K := .u8) (by show r ≤ 8; omega)
  have hle : C / 256 ^ q % 256 / 2 ^ r ≤ C / 256 ^ q % 256 := Nat.div_le_self _ _
  have s2 : IntKind.u8.wrap (BitVec.ofInt IntKind.u8.bits ((C / 256 ^ q % 256 / 2 ^ r : Nat) : Int) &&& BitVec.ofInt IntKind.u8.bits ((1 : Nat) : Int)).toNat = ((b : Nat) : Int) := by
   rw [QvG (K := .u8) rfl (by show _ < 256; omega) (by decide), Nat.and_one_is_mod, hbit]
  have s2' : IntKind.u8.wrap (BitVec.ofInt IntKind.u8.bits ((C / 256 ^ q % 256 / 2 ^ r : Nat) : Int) &&& BitVec.ofInt IntKind.u8.bits 1).toNat = ((b : Nat) : Int) := s2
  generalize C / 256 ^ q % 256 / 2 ^ r = y1 at *
  generalize C / 256 ^ q % 256 = y0 at *
  rw [← hM]
  have hq1 : (j : Int) / 8 = (q : Int) := by omega
  have hr1 : (j : Int) % 8 = (r : Int) := by omega
  have hi1 : (M : Int) / 8 = (i : Int) := by omega
  have ha1 : (M : Int) % 8 = (a : Int) := by omega
  have hnq : q < nB n := by unfold nB; omega
  generalize V + 2 ^ N * (C % 2 ^ j) = W at *
  generalize hWW : V + 2 ^ N * (C % 2 ^ (j + 1)) = W' at *
  have h2a : 2 ^ a ≤ 2 ^ 7 := Nat.pow_le_pow_right (by omega) (by omega)
  have hpos : 0 < 2 ^ a := Nat.pow_pos (by omega)
  obtain ⟨l1, l2⟩ := QbO (V := W) (i := i) (at_ := a) (by rw [← hM8]; exact hW) (by omega)
  obtain ⟨b1, b2, _⟩ := Qcv (V := W) (i := i) (at_ := a) (w := b) (r := 1) (by rw [← hM8]; exact hW) (by omega) (by omega)
  rw [← hM8, ← hstep] at b1
  have hyb : W / 256 ^ i < 256 := by omega
  have hyb2 : W / 256 ^ i + 2 ^ a * b < 256 := by
   have : 2 ^ (a + 1) ≤ 2 ^ 8 := Nat.pow_le_pow_right (by omega) (by omega)
   omega
  have hca : b * 2 ^ a < 2 ^ 8 := by
   rcases (by omega : b = 0 ∨ b = 1) with rfl | rfl <;> omega
  have hu : ∀ y, y < 256 → u8 [UInt8.ofNat y] = [.int .u8 (y : Int)] := fun y hy => by simp [u8]; omega
  have e8 : IntKind.u8.wrap (BitVec.ofInt IntKind.u8.bits ((W / 256 ^ i : Nat) : Int) ||| BitVec.ofInt IntKind.u8.bits ((b * 2 ^ a : Nat) : Int)).toNat = ((W / 256 ^ i + 2 ^ a * b : Nat) : Int) := by
   rw [orK (K := .u8) rfl hyb hca, QpC l2, Nat.mul_comm]
  have e7 : Qi true .u8 (b : Int) (a : Int) = some (.int .u8 ((b * 2 ^ a : Nat) : Int)) := Qrn rfl (by show a ≤ 8; omega) hca
  have hnB : nB (M + 1) = i + 1 := by unfold nB; omega
  have hcell : u8 (leB W' (i + 1)) = u8 (leB W i) ++ [.int .u8 ((W / 256 ^ i + 2 ^ a * b : Nat) : Int)] := by
   rw [b1, show u8 (leB W i ++ [UInt8.ofNat (W / 256 ^ i + 2 ^ a * b)]) = u8 (leB W i) ++ u8 [UInt8.ofNat (W / 256 ^ i + 2 ^ a * b)] by simp [u8]]
   rw [hu _ hyb2]
  have hlen : (u8 (leB W i)).length = i := by simp [u8, Qb]
  generalize W / 256 ^ i + 2 ^ a * b = y' at *
  generalize b * 2 ^ a = ca at *
  have d1 : ∀ z : AV, (u8 (leB W i) ++ [z]).drop i = [z] := fun z => by rw [List.drop_left' hlen]
  have d2 : ∀ z : AV, (u8 (leB W i) ++ [z]).take i = u8 (leB W i) := fun z => by rw [List.take_left' hlen]
  have d3 : ∀ z : AV, (u8 (leB W i) ++ [z]).drop (i + 1) = [] := fun z => List.drop_of_length_le (by simp [hlen])
  have el : (⟨t1, 1, i + 1, u8 (leB W i) ++ [.int .u8 (y' : Int)], 0⟩ : Ob) = bY t1 (M + 1) W' := by rw [bY, hnB, hcell]
  have er : (⟨t, 2, 1, [.own o (i + 1), .int .i64 ((M : Int) + 1)], 0⟩ : Ob) = bO t o (M + 1) := by rw [bO, hnB, Int.natCast_add]; rfl
  have hMr : N + (j + 1) = M + 1 := by omega
  have hcl : (u8 (leB C (nB n))).length = nB n := by simp [u8, Qb]
  by_cases h0 : a = 0
  ·subst h0
   have hnM : nB M = i := by unfold nB; omega
   have hW0 : W / 256 ^ i = 0 := by
    have := l2
    rw [Nat.pow_zero] at this
    exact Nat.lt_one_iff.1 this
   rw [hW0] at e8
   have e8' : IntKind.u8.wrap (BitVec.ofInt IntKind.u8.bits 0 ||| BitVec.ofInt IntKind.u8.bits (ca : Int)).toNat = (y' : Int) := e8
   have e7' : Qi true .u8 (b : Int) 0 = some (.int .u8 (ca : Int)) := e7
   have ha1' : (M : Int) % 8 = 0 := ha1
   simp (maxSteps := 4000000) (disch := omega) only [rq, simprocAttr, bO, bY, g0, g1, g2, g3, g4, g5, ln, hnM, hlen, hcl, hat, s1, s2', e7', e8', hq1, hr1, hi1, ha1', d1, d2, d3, List.append_assoc, List.cons_append, List.nil_append]
   refine ⟨j + 1, by omega, by omega, ?_⟩
   show Le ob.length _ ⟨[(8, .int .i64 ((j + 1 : Nat) : Int)), (7, .int .i64 n), (3, .ref ob.length 1 0), (0, .ref p 1 0)], XJ ob o p (bY t1 (N + (j + 1)) (V + 2 ^ N * (C % 2 ^ (j + 1)))) (bO t o (N + (j + 1))) ++ [⟨t0, 2, 1, [.list (nB n) (u8 (leB C (nB n))), .int .i64 n], 0⟩]⟩
   rw [hWW, hMr, el, er, List.append_cons]
   have hl : (XJ ob o p (bY t1 (M + 1) W') (bO t o (M + 1)) ++ [⟨t0, 2, 1, [.list (nB n) (u8 (leB C (nB n))), .int .i64 n], 0⟩] : List Ob).length = ob.length + 1 := by simp [ln]
   exact Le.low (by rw [hl]; omega) (by rw [hl]; exact hfz.putB hol) (by rw [hl]; simp [Am.look, XV, Nat.lt_succ_of_lt hpl])
  ·have hnM : nB M = i + 1 := by unfold nB; omega
   have l3 : u8 (leB W (i + 1)) = u8 (leB W i) ++ [.int .u8 ((W / 256 ^ i : Nat) : Int)] := by
    rw [l1, show u8 (leB W i ++ [UInt8.ofNat (W / 256 ^ i)]) = u8 (leB W i) ++ u8 [UInt8.ofNat (W / 256 ^ i)] by simp [u8], hu _ hyb]
   have ha0 : (a : Int) ≠ 0 := by omega
   generalize W / 256 ^ i = y at *
   simp (maxSteps := 4000000) (disch := omega) only [rq, simprocAttr, bO, bY, g0, g1, g2, g3, g4, g5, ln, hnM, hlen, hcl, l3, hat, s1, s2', e7, e8, hq1, hr1, hi1, ha1, d1, d2, d3, List.append_assoc, List.cons_append, List.nil_append]
   refine ⟨j + 1, by omega, by omega, ?_⟩
   show Le ob.length _ ⟨[(8, .int .i64 ((j + 1 : Nat) : Int)), (7, .int .i64 n), (3, .ref ob.length 1 0), (0, .ref p 1 0)], XJ ob o p (bY t1 (N + (j + 1)) (V + 2 ^ N * (C % 2 ^ (j + 1)))) (bO t o (N + (j + 1))) ++ [⟨t0, 2, 1, [.list (nB n) (u8 (leB C (nB n))), .int .i64 n], 0⟩]⟩
   rw [hWW, hMr, el, er]
   exact Le.slots (by simp [Am.look])
 ·obtain rfl : j = n := by omega
  rw [Nat.mod_eq_of_lt hC]
  simp (maxSteps := 4000000) (disch := omega) only [rq, simprocAttr]
  exact ⟨XJ ob o p (bY t1 (N + j) (V + 2 ^ N * C)) (bO t o (N + j)), _, rfl, by rw [ln]; exact Nat.le_refl _, by rw [ln]; exact hfz.put hol, by rfl, hK⟩
theorem QqF (c : JF) (x : Int) : -2147483648 ≤ Ql9 c x ∧ Ql9 c x ≤ 2147483647 := QcB _
def QmI (c : Nat) (x : Int) (t l : List Int) : List Nat := (QkQ c (QaI c l) (QdK x t) l.length).map Int.toNat
def Qdm (c : Nat) (x : Int) (t l : List Int) : List UInt8 := Zi (Qgf c (QmI c x t l))
theorem QmU (c : Nat) (L : List Int) (z : JF) (a : Nat) : U32 (QkQ c L z a) := by
 intro y hy
 simp only [QkQ, List.mem_map] at hy
 obtain ⟨j, _, rfl⟩ := hy
 exact Qp7 (QqF _ _)
theorem Qsj {v : List Int} (h : U32 v) : iL (v.map Int.toNat) = v := by
 unfold iL
 rw [List.map_map]
 conv => rhs; rw [← List.map_id v]
 apply List.map_congr_left
 intro y hy
 have := h y hy
 simp; omega
theorem Qrg {v : List Int} (h : U32 v) : N32 (v.map Int.toNat) := by
 intro y hy
 simp only [List.mem_map] at hy
 obtain ⟨z, hz, rfl⟩ := hy
 have := h z hz
 omega
theorem QeB (c : Nat) (x : Int) (t l : List Int) : (QmI c x t l).length = l.length := by simp [QmI, QhG]
theorem Qg6 (c : Nat) (x : Int) (t l : List Int) : N32 (QmI c x t l) := Qrg (QmU _ _ _ _)
theorem QtW (c : Nat) (x : Int) (t l : List Int) : iL (QmI c x t l) = QkQ c (QaI c l) (QdK x t) l.length := Qsj (QmU _ _ _ _)
theorem QlF {c : Nat} {v : List Nat} (h : N32 v) (h1 : 1 ≤ v.length) (h2 : v.length ≤ 4000) : 1 ≤ (Qgf c v).length ∧ (Qgf c v).length ≤ 40500 := by
 obtain ⟨_, q2, q3⟩ := QaL (c := c) h v.length
 rw [QeK]
 unfold nB
 omega
theorem Qiw {c x : Int} {l : List Int} (hI : I32 l) (h : QbS c x l = 0) : ∃ k m : Nat, c = k ∧ okM k l ∧ Z2 x ≠ 0 ∧ QH c x = 0 ∧ QL x l = 0 ∧ l.length = m * k ∧ 1 ≤ m ∧ (l.length : Int) / c = m ∧ Qix c x ((l.length : Int) / c) = 0 := by
 obtain ⟨k, rfl, hk, hx⟩ := QqV hI h
 have hk' := hk
 obtain ⟨h1, h2, h3, h4, h5, _⟩ := hk'
 have e1 : QH k x = 0 := by
  rcases QX k x with q | ⟨q, _⟩
  ·rw [Qmq q] at h; omega
  ·exact q
 have e2 : QL x l = 0 := by
  rcases Int.decEq (QL x l) 0 with q | q
  ·rw [Qmr e1 q] at h; exact absurd h q
  ·exact q
 have e3 : l.length = l.length / k * k := by have := Nat.div_add_mod l.length k; rw [Nat.mul_comm] at this; omega
 have e4 : 1 ≤ l.length / k := by
  rcases Nat.eq_zero_or_pos (l.length / k) with q | q
  ·rw [q] at e3; omega
  ·exact q
 have e5 : (l.length : Int) / (k : Int) = ((l.length / k : Nat) : Int) := by rw [Int.natCast_ediv]
 refine ⟨k, l.length / k, rfl, hk, hx, e1, e2, e3, e4, e5, ?_⟩
 have e6 : l.length / k ≤ 4000 / k := Nat.div_le_div_right h4
 have e7 : (4000 : Int) / (k : Int) = ((4000 / k : Nat) : Int) := by rw [Int.natCast_ediv]; rfl
 unfold Qix
 rw [if_neg (by omega), e5, e7, if_neg (by omega), if_neg (by omega)]
def Qdt (P : Prg) (f : Nat) : Prop := VC P f [] (.agg (Qc5 fun _ => QI))
theorem Qgg {P : Prg} {f fS t0 : Nat} (bd : Qf P f 11 [.cell 0 t0] (XT fS t0)) (hS : QiG P fS) (ht : ZJ P t0 = some (some 24)) : Qdt P f := by
 refine VC.of_acall rfl rfl (ACall.of_body bd (by simp) ?_)
 simp only [QiG, QI, dlA, dlC] at hS
 simp (maxSteps := 4000000) (disch := omega) only [rq, simprocAttr, XT]
 refine Q0.by (ι := Nat) (fun i => ⟨[(3, .int .i64 i), (1, .ref 1 1 0), (0, .ref 0 1 0)],
   [⟨t0, 24, 1, Qc5 (fun _ => ⟨0, 0, 0, 0⟩), 0⟩, ⟨t0, 24, 1, Qc5 (fun j => if j < i then QI else ⟨0, 0, 0, 0⟩), 0⟩]⟩) (fun i => i ≤ 6) (fun i => 6 - i) 0 (Le.slots (by simp [Am.look])) (by omega) ?_
 intro i hi
 by_cases hlt : i < 6
 ·have e1 := QmO (fun j => if j < i then QI else ⟨0, 0, 0, 0⟩) hlt QI
  have e2 : Qur (fun j => if j < i then QI else ⟨0, 0, 0, 0⟩) i QI = fun j => if j < i + 1 then QI else ⟨0, 0, 0, 0⟩ := by
   funext j
   unfold Qur
   by_cases h1 : j = i
   ·subst h1; simp
   ·by_cases h2 : j < i
    ·simp [h1, h2, show j < i + 1 by omega]
    ·simp [h1, h2, show ¬ j < i + 1 by omega]
  rw [e2] at e1
  have e3 := Qc4 (fun j => if j < i then QI else ⟨0, 0, 0, 0⟩)
  simp (maxSteps := 4000000) (disch := omega) only [rq, simprocAttr]
  refine Qa.vc hS ?_
  generalize hF : Qc5 (fun j => if j < i then QI else ⟨0, 0, 0, 0⟩) = F at *
  have e1' : F.take (i * 4) ++ [.int .i64 10, .int .i64 10, .int .u64 16384, .int .u64 16384] ++ F.drop (i * 4 + 4) = Qc5 fun j => if j < i + 1 then QI else ⟨0, 0, 0, 0⟩ := e1
  generalize Qc5 (fun _ => (⟨0, 0, 0, 0⟩ : Dl)) = Z
  simp (maxSteps := 4000000) (disch := omega) only [rq, simprocAttr, e3]
  refine ⟨i + 1, by omega, by omega, ?_⟩
  rw [e1']
  exact Le.slots (by simp [Am.look])
 obtain rfl : i = 6 := by omega
 have z1 : Qc5 (fun j => if j < 6 then QI else ⟨0, 0, 0, 0⟩) = Qc5 (fun _ => QI) := rfl
 have z2 := Qc4 fun _ => QI
 have z3 := Qc4 fun _ => (⟨0, 0, 0, 0⟩ : Dl)
 rw [z1]
 have z4 : (Qc5 fun _ => QI).all AV.one = true := rfl
 have z5 : (Qc5 fun _ => QI).take 24 = Qc5 fun _ => QI := rfl
 have z6 : (Qc5 fun _ => (⟨0, 0, 0, 0⟩ : Dl)).drop 24 = [] := rfl
 generalize (Qc5 fun _ => (⟨0, 0, 0, 0⟩ : Dl)) = Z at *
 generalize (Qc5 fun _ => QI) = S at *
 simp (maxSteps := 4000000) (disch := omega) only [rq, simprocAttr, ZK, ht, Q2, z2, z3, z4, z5, z6, List.take_zero, List.nil_append, List.append_nil]
def QjG (L : List (List UInt8)) : AV := .list L.length (L.map bs)
def QeS (P : Prg) (f : Nat) : Prop := ∀ L : List (List UInt8), L.length ≤ 1000000 → 0 < L.flatten.length → L.flatten.length ≤ 1000000 → VC P f [QjG L] (bs L.flatten)
def QfT (t : Nat) (P : Prg) (f : Nat) : Prop := ∀ (ob : List Ob) (n : Nat) (z : Bool) (K : AV → List Ob → Prop), 0 < n → n ≤ 140737488355328 → K (.own ob.length 0) (ob ++ [⟨t, 1, 0, [], 0⟩]) → ACall P f [.emp z, .int .i64 n] ob K
theorem grow_nil {P : Prg} {f t : Nat} {ρ : Go.Shelf.Ren} (L : Go.Proofs.Lays8.n4 P.prog ρ) (hf : ρ.f 4 = f) (ht : ρ.t 25 = t) (h25 : (P.prog.info? t).map (fun i => (i.zero, i.size, i.bytes)) = some (some (.int .u8 0), 1, 1)) : QfT t P f := by
 intro ob n z K h1 h2 hK
 subst hf; subst ht
 exact ACall.grow_nil L h25 h1 h2 hK
theorem Qj1 {L : List (List UInt8)} {k : Nat} (h : k < L.length) : (L.take (k + 1)).flatten = (L.take k).flatten ++ L.getD k [] := by
 rw [List.take_succ_eq_append_getElem h, List.flatten_append, List.getD_eq_getElem?_getD, List.getElem?_eq_getElem h]
 simp
theorem Qp8 (L : List (List UInt8)) (k : Nat) : (L.take k).flatten.length ≤ L.flatten.length := by
 conv => rhs; rw [← List.take_append_drop k L, List.flatten_append, List.length_append]
 omega
theorem Qhu {P : Prg} {f fG t0 : Nat} (bd : Qf P f 36 [.tmp 2] (Q6 fG t0)) (hG : QfT t0 P fG) : QeS P f := by
 intro L hL h0 h1
 refine VC.of_walk 1 (by simp [isDL, isD, QjG, Zk]) (QQ _) (ACall.of_body bd (by simp) ?_)
 have hat : ∀ k, k < L.length → (L.map bs).drop k = bs (L.getD k []) :: (L.map bs).drop (k + 1) := fun k hk => by
  rw [List.drop_eq_getElem_cons (by simpa using hk)]
  simp [List.getD_eq_getElem?_getD, List.getElem?_eq_getElem hk]
 have hml : (L.map bs).length = L.length := by simp
 simp only [bs] at hat
 simp (maxSteps := 4000000) (disch := omega) only [rq, simprocAttr, Q6, QjG]
 refine Q0.by (ι := Nat) (fun k => ⟨[(11, .int .i64 k), (10, .int .i64 L.length), (9, .list L.length (L.map bs)), (3, .int .i64 (L.take k).flatten.length), (0, .list L.length (L.map bs))], []⟩) (fun k => k ≤ L.length) (fun k => L.length - k) 0 (Le.slots (by simp [Am.look])) (by omega) ?_
 intro k hk
 by_cases hlt : k < L.length
 ·have ha := hat k hlt
  have hf := Qj1 hlt
  have hle := Qp8 L (k + 1)
  rw [hf, List.length_append] at hle
  have hl : ((L.take (k + 1)).flatten.length : Int) = (L.take k).flatten.length + (L.getD k []).length := by rw [hf]; simp
  generalize (L.take k).flatten.length = s at *
  generalize L.getD k [] = x at *
  simp (maxSteps := 4000000) (disch := omega) only [rq, simprocAttr, ha, hml]
  exact ⟨k + 1, by omega, by omega, by simp only [hl]; exact Le.slots (by simp [Am.look])⟩
 obtain rfl : k = L.length := by omega
 rw [List.take_length]
 have hG' := fun K hK => hG [] L.flatten.length true K h0 (by omega) hK
 simp (maxSteps := 4000000) (disch := omega) only [rq, simprocAttr]
 refine hG' _ ?_
 simp (maxSteps := 4000000) (disch := omega) only [rq, simprocAttr]
 refine Q0.by (ι := Nat) (fun k => ⟨[(27, .int .i64 k), (26, .int .i64 L.length), (25, .list L.length (L.map bs)), (6, .own 0 (L.take k).flatten.length)], [⟨t0, 1, (L.take k).flatten.length, u8 (L.take k).flatten, 0⟩]⟩) (fun k => k ≤ L.length) (fun k => L.length - k) 0 (Le.slots (by simp [Am.look])) (by omega) ?_
 intro k hk
 by_cases hlt : k < L.length
 ·have ha := hat k hlt
  have hf := Qj1 hlt
  have hle := Qp8 L (k + 1)
  rw [hf, List.length_append] at hle
  have hl : (L.take (k + 1)).flatten.length = (L.take k).flatten.length + (L.getD k []).length := by rw [hf]; simp
  have hu : u8 (L.take (k + 1)).flatten = u8 (L.take k).flatten ++ u8 (L.getD k []) := by rw [hf, QcY]
  have hc : (u8 (L.take k).flatten).length = (L.take k).flatten.length := QC _
  have hx : (u8 (L.getD k [])).length = (L.getD k []).length := QC _
  generalize u8 (L.take k).flatten = cs at *
  generalize (L.take k).flatten.length = s at *
  generalize u8 (L.getD k []) = us at *
  generalize (L.getD k []).length = xl at *
  simp (maxSteps := 4000000) (disch := omega) only [rq, simprocAttr, ha, hml, hc, hx]
  exact ⟨k + 1, by omega, by omega, by rw [hl, hu]; exact Le.slots (by simp [Am.look])⟩
 obtain rfl : k = L.length := by omega
 rw [List.take_length]
 simp (maxSteps := 4000000) (disch := omega) only [rq, simprocAttr]
 simp [QS, QG, frzL, QD, frzL_T _ (Qw _), bs]
theorem QoQ (c : Nat) (x : Int) (t l : List Int) : Qtj (QkQ c (QaI c l) (QdK x t) l.length) = .list l.length (ks .u32 ((QmI c x t l).map fun n : Nat => (n : Int))) := by
 have := QtW c x t l
 unfold iL at this
 rw [this, Qtj, QhG]
theorem Qry {c i : Nat} {v : List Nat} (hc : 1 ≤ c) (hi : i < v.length) : Qur (fun j => if j < c then Xk c j (v.take i) else QI) (i % c) (Jp (Xk c (i % c) (v.take i)) (v.getD i 0)) = fun j => if j < c then Xk c j (v.take (i + 1)) else QI := by
 have ht : v.take (i + 1) = v.take i ++ [v.getD i 0] := by
  rw [List.take_succ_eq_append_getElem hi]
  simp [List.getD_eq_getElem?_getD, List.getElem?_eq_getElem hi]
 have hl : (v.take i).length = i := by simp; omega
 have hr : i % c < c := Nat.mod_lt _ (by omega)
 funext j
 unfold Qur
 rw [ht]
 by_cases hj : j = i % c
 ·subst hj
  rw [if_pos rfl, if_pos hr, Qkj, if_pos (by rw [hl])]
 ·rw [if_neg hj]
  by_cases hjc : j < c
  ·simp only [hjc, if_true]
   rw [Qkj, if_neg (by rw [hl]; exact fun e => hj e.symm)]
  ·simp only [hjc, if_false]
def Quq (c x : Int) (t l : List Int) : AV := if QbS c x l ≠ 0 then .tup [.list 0 [], .int .i64 (QbS c x l)] else .tup [bs (Qdm c.toNat x t l), .int .i64 0]
theorem Qsh (c x : Int) (t l : List Int) : isD (Quq c x t l) = true := by unfold Quq; split <;> simp [isD, isDL, QQ]
def QmA (P : Prg) (f : Nat) : Prop := ∀ (c x : Int) (t l : List Int), t.length = 16 → I32 t → I32 l → VC P f [shA c x, .agg (ks .i32 t), il l] (Quq c x t l)
set_option maxHeartbeats 2000000 in
set_option maxRecDepth 20000 in
theorem Qgi {P : Prg} {f fV fS fW fP fC fB fK t0 t1 t2 t3 t4 t5 tp tb : Nat} (bd : Qf P f 85 [.tmp 6, .tmp 7] (ZV fV fS fW fP fC fB fK t0 t1 t2 t3 t4 t5)) (hV : QmB P fV) (hS : Qdt P fS) (hW : QiD P fW) (bP : Qf P fP 64 [] (X4 tp tb)) (hC : Qg3 P fC) (hB : JZ P fB) (hK : QeS P fK) : QmA P f := by
 intro c x t l ht hI hL
 refine VC.of_walk 1 (by simp [isDL, isD, QB, Zy, shA]) (Qsh _ _ _ _) (ACall.of_body bd (by simp) ?_)
 have hk : (ks .i32 t).length = 16 := by simp [Qd, ht]
 have tt : (ks .i32 t).take 16 = ks .i32 t := QF (by omega)
 have ot := JP .i32 t
 have hV' := hV c x t l ht hI hL
 unfold Quq
 by_cases h0 : QbS c x l = 0
 case neg =>
  rw [Qrx, if_pos h0] at hV'
  rw [if_pos h0]
  rw [shA] at hV' ⊢
  simp (maxSteps := 4000000) (disch := omega) only [rq, simprocAttr, ZV, hk, ot, tt]
  refine Qa.vc hV' ?_
  simp (maxSteps := 4000000) (disch := omega) only [rq, simprocAttr, h0]
  simp [QS, QG, frzL, QD]
 obtain ⟨k, m, rfl, hkM, hx, e1, e2, e3, e4, e5, e6⟩ := Qiw hL h0
 obtain ⟨c1, c6, l0, l4, lm, _⟩ := hkM
 rw [Qrx, if_neg (by omega), Int.toNat_natCast, QoQ] at hV'
 rw [if_neg (by omega), Int.toNat_natCast, Qdm, Zi]
 have hv := Qg6 k x t l
 have hvl := QeB k x t l
 rw [← hvl] at hV' l0 l4
 generalize QmI k x t l = v at *
 rw [shA] at hV' ⊢
 have hfb := QaL (c := k) hv
 have hkv : (ks .u32 (v.map fun n : Nat => (n : Int))).length = v.length := by simp [ks]
 have s24 := Qc4 fun _ => QI
 have sone : (Qc5 fun _ => QI).all AV.one = true := rfl
 have stk : (Qc5 fun _ => QI).take 24 = Qc5 fun _ => QI := rfl
 have z2 : (fun j => if j < k then Xk k j (v.take 0) else QI) = fun _ => QI := by
  funext j
  rw [List.take_zero]
  split <;> rfl
 simp only [Qdt] at hS
 simp (maxSteps := 4000000) (disch := omega) only [rq, simprocAttr, ZV, hk, ot, tt]
 refine Qa.vc hV' ?_
 simp (maxSteps := 4000000) (disch := omega) only [rq, simprocAttr, hkv]
 refine Qa.vc hS ?_
 generalize hS0 : (Qc5 fun _ => QI) = S0 at *
 simp (maxSteps := 4000000) (disch := omega) only [rq, simprocAttr, hkv, s24, sone, stk, List.append_nil, List.take_zero, List.nil_append]
 refine Q0.by (ι := Nat) (fun i => ⟨[(32, .int .i64 i), (31, .int .i64 v.length), (30, .list v.length (ks .u32 (v.map fun n : Nat => (n : Int)))), (11, .ref 3 1 0), (10, .ref 2 1 0), (7, .int .i64 0), (6, .emp true), (3, .ref 0 1 0)],
   [⟨t0, 2, 1, [.int .i64 k, .int .i64 x], 0⟩, ⟨t1, 16, 1, ks .i32 t, 0⟩, ⟨t2, 24, 1, Qc5 (fun j => if j < k then Xk k j (v.take i) else QI), 0⟩, bO t3 4 (QgN k v i), bY tb (QgN k v i) (Qsm k v i)]⟩)
  (fun i => i ≤ v.length) (fun i => v.length - i) 0 ?_ (by omega) ?_
 ·simp only [z2, hS0]
  rw [QjY, QjW]
  refine Le.trans (Le.virtF 3 tb 1 (by decide) rfl rfl) ?_
  exact Le.slots (by simp [Am.look])
 intro i hi
 by_cases hlt : i < v.length
 ·obtain ⟨r, hr⟩ : ∃ r, r = i % k := ⟨_, rfl⟩
  have hrc : r < k := by rw [hr]; exact Nat.mod_lt _ (by omega)
  have q1 : (i : Int) % k = (r : Int) := by rw [hr]; simp [Int.natCast_emod]
  have q1' : ((i : Int)).tmod (k : Int) = (r : Int) := by rw [Int.tmod_eq_emod_of_nonneg (by omega), q1]
  have hc0 : (k : Int) ≠ 0 := by omega
  obtain ⟨b1, b2, b3⟩ := hfb i
  obtain ⟨_, b5, _⟩ := hfb (i + 1)
  have hd := QqD (c := k) (r := r) (hv.take i)
  have hvi := hv.getD i
  have hW' := hW 0 0 (v.getD i 0) (Xk k r (v.take i)) (by decide) hvi hd (by omega)
  rw [Nat.zero_add, Nat.pow_zero, Nat.one_mul, Nat.zero_add] at hW'
  have hcl := Qnd (d := Xk k r (v.take i)) hvi
  have hcn := Qnc (v := v.getD i 0) hd
  obtain ⟨rest, hg⟩ := QrN (fun j => if j < k then Xk k j (v.take i) else QI) (j := r) (by omega)
  simp only [hrc, if_true] at hg
  have hset := QmO (fun j => if j < k then Xk k j (v.take i) else QI) (j := r) (by omega) (Jp (Xk k r (v.take i)) (v.getD i 0))
  have hup := Qry c1 hlt
  rw [← hr] at hup
  rw [hup] at hset
  have hln := Qc4 (fun j => if j < k then Xk k j (v.take i) else QI)
  have hkat := QhQ (K := .u32) (l := v.map fun n : Nat => (n : Int)) (i := i) (by simpa using hlt)
  have hgd : (v.map fun n : Nat => (n : Int)).getD i 0 = ((v.getD i 0 : Nat) : Int) := by simp [List.getD_eq_getElem?_getD, List.getElem?_eq_getElem hlt]
  rw [hgd] at hkat
  have hsN := QjZ k v i
  have hsV := QjX k v i
  rw [← hr] at hsN hsV
  have hb6 : QgN k v i + Qeq (Xk k r (v.take i)) (v.getD i 0) ≤ 400000 := by omega
  have hD6 : isDL (Qc5 (fun j => if j < k then Xk k j (v.take (i + 1)) else QI)) = true := QpT (QpR _)
  generalize hF1 : Qc5 (fun j => if j < k then Xk k j (v.take (i + 1)) else QI) = F' at *
  generalize Qc5 (fun j => if j < k then Xk k j (v.take i) else QI) = F at *
  generalize hN0 : QgN k v i = N at *
  generalize hV0 : Qsm k v i = V at *
  generalize hN1 : QgN k v (i + 1) = N1 at *
  generalize hV1 : Qsm k v (i + 1) = V1 at *
  generalize hn0 : Qeq (Xk k r (v.take i)) (v.getD i 0) = n at *
  generalize hC0 : Ql4 (Xk k r (v.take i)) (v.getD i 0) = C at *
  generalize Jp (Xk k r (v.take i)) (v.getD i 0) = d' at *
  generalize Xk k r (v.take i) = d at *
  generalize v.getD i 0 = vi at *
  obtain ⟨d0, d1, d2, d3⟩ := d
  obtain ⟨m0, m1, m2, m3⟩ := d'
  simp only [dlA, dlC, bA] at hW'
  simp only at hg hset
  have hfr : QS (fun o => ([] : List Nat).contains o) [⟨t0, 2, 1, [.int .i64 k, .int .i64 x], 0⟩, ⟨t1, 16, 1, ks .i32 t, 0⟩, ⟨t2, 24, 1, F, 0⟩, ⟨t3, 2, 1, [.own 4 (nB N), .int .i64 N], 0⟩, bY tb N V] (0 + 1) [.agg [.emp true, .int .i64 0], .agg [.int .i64 d0, .int .i64 d1, .int .u64 d2, .int .u64 d3], .int .u32 vi] =
   some [.agg [.list (nB 0) (u8 (leB 0 (nB 0))), .int .i64 ((0 : Nat) : Int)], .agg [.int .i64 d0, .int .i64 d1, .int .u64 d2, .int .u64 d3], .int .u32 vi] := by
   simp [QS, QG, frzL, QD, nB, leB, u8]
  have pt : ∀ (Q : Exit → St → Prop) os fr dst, wpQ P os Q ⟨ZB fr dst (.tup []), [⟨t0, 2, 1, [.int .i64 k, .int .i64 x], 0⟩, ⟨t1, 16, 1, ks .i32 t, 0⟩, ⟨t2, 24, 1, F', 0⟩, bO t3 4 N1, bY tb N1 V1, ⟨t3, 2, 1, [.list (nB n) (u8 (leB C (nB n))), .int .i64 n], 0⟩, ⟨t4, 4, 1, [.int .i64 m0, .int .i64 m1, .int .u64 m2, .int .u64 m3], 0⟩]⟩ →
    Qa P fP [.ref 3 1 0, .agg [.list (nB n) (u8 (leB C (nB n))), .int .i64 n]] [⟨t0, 2, 1, [.int .i64 k, .int .i64 x], 0⟩, ⟨t1, 16, 1, ks .i32 t, 0⟩, ⟨t2, 24, 1, F', 0⟩, ⟨t3, 2, 1, [.own 4 (nB N), .int .i64 N], 0⟩, bY tb N V, ⟨t3, 2, 1, [.list (nB n) (u8 (leB C (nB n))), .int .i64 n], 0⟩, ⟨t4, 4, 1, [.int .i64 m0, .int .i64 m1, .int .u64 m2, .int .u64 m3], 0⟩] os Q fr dst := fun Q os fr dst h =>
   QlO bP (ob := [⟨t0, 2, 1, [.int .i64 k, .int .i64 x], 0⟩, ⟨t1, 16, 1, ks .i32 t, 0⟩, ⟨t2, 24, 1, F', 0⟩, ⟨t3, 2, 1, [.own 4 (nB N), .int .i64 N], 0⟩, bY tb N V, ⟨t3, 2, 1, [.list (nB n) (u8 (leB C (nB n))), .int .i64 n], 0⟩, ⟨t4, 4, 1, [.int .i64 m0, .int .i64 m1, .int .u64 m2, .int .u64 m3], 0⟩]) (t := t3) (p := 3) (o := 4) (N := N) (V := V) (C := C) (n := n) rfl rfl (by decide) b1 hcl (by omega) (by omega)
    (Low.cons (by simp [lowL, XV]) (Low.cons (lowL_D _ (QB _ _)) (Low.cons (lowL_D _ hD6) (Low.cons (by simp [lowL, XV]) (Low.cons (lowL_D _ (Qad _ _)) (Low.cons (by simp [lowL, XV, lowL_D _ (Qad _ _)]) (Low.cons (by simp [lowL, XV]) Low.nil)))))))
    (by rw [hsN, hsV] at h; exact h)
  simp (maxSteps := 4000000) (disch := omega) only [rq, simprocAttr, bO, hkat, hkv, q1, q1', hc0, hg, hln]
  refine Qa.still 0 [] hW' hfr ?_
  simp (maxSteps := 4000000) (disch := omega) only [rq, simprocAttr, Qj, hkat, hkv, q1, q1', hc0, hg, hln, hset]
  refine pt _ _ _ _ ?_
  simp (maxSteps := 4000000) (disch := omega) only [rq, simprocAttr]
  refine ⟨i + 1, by omega, by omega, ?_⟩
  simp only [hN1, hV1, hF1]
  refine Le.low (ob := [⟨t0, 2, 1, [.int .i64 k, .int .i64 x], 0⟩, ⟨t1, 16, 1, ks .i32 t, 0⟩, ⟨t2, 24, 1, F', 0⟩, bO t3 4 N1, bY tb N1 V1]) (J := [_, _]) (Nat.zero_le _) ?_ (by simp [Am.look, XV, lowL_D _ (QB _ _)])
  exact Low.cons (by simp [lowL, XV]) (Low.cons (lowL_D _ (QB _ _)) (Low.cons (lowL_D _ hD6) (Low.cons (by simp [bO, lowL, XV]) (Low.cons (lowL_D _ (Qad _ _)) Low.nil))))
 ·obtain rfl : i = v.length := by omega
  obtain ⟨_, b5, b6⟩ := hfb v.length
  have hfl := QeK k v
  have hle : nB (QgN k v v.length) ≤ 40500 := by unfold nB; omega
  have hC' := hC (Qgf k v)
  rw [if_neg (by omega), ← QbE] at hC'
  have hsm := Qtl (Qgf k v)
  have hB' := hB (QbE (Qgf k v)) 4 (by omega) (by omega) hsm
  have hK' := hK [Qgf k v, leB (QbE (Qgf k v)) 4] (by simp) (by simp [Qb]) (by simp [Qb]; omega)
  have hfe : Qgf k v = leB (Qsm k v v.length) (nB (QgN k v v.length)) := rfl
  simp only [QjG, bs, List.map_cons, List.map_nil, List.length_cons, List.length_nil, List.flatten_cons, List.flatten_nil, List.append_nil, List.length_append, hfl, Qb] at hC' hB' hK' ⊢
  have tfl : isTL (u8 (Qgf k v)) = true := Qw _
  have tfs : isTL (u8 (leB (QbE (Qgf k v)) 4)) = true := Qw _
  have tfa : isTL (u8 (Qgf k v ++ leB (QbE (Qgf k v)) 4)) = true := Qw _
  have hul : (u8 (Qgf k v)).length = nB (QgN k v v.length) := by rw [QC, hfl]
  generalize Qc5 (fun j => if j < k then Xk k j (v.take v.length) else QI) = F at *
  simp only [bO, bY]
  rw [← hfe]
  generalize Qgf k v ++ leB (QbE (Qgf k v)) 4 = R at *
  generalize leB (QbE (Qgf k v)) 4 = s4 at *
  generalize QbE (Qgf k v) = sm at *
  generalize Qgf k v = fb at *
  generalize nB (QgN k v v.length) = nn at *
  simp (maxSteps := 4000000) (disch := omega) only [rq, simprocAttr]
  refine Qa.still 1 [4] hC' (by simp [QS, QG, frzL, QD, frzL_T _ tfl]) ?_
  simp (maxSteps := 4000000) (disch := omega) only [rq, simprocAttr, Qj]
  refine Qa.vc hB' ?_
  simp (maxSteps := 4000000) (disch := omega) only [rq, simprocAttr]
  refine Qa.still 2 [5, 4] hK' (by simp [QS, QG, frzL, QD, frzL_T _ tfl, frzL_T _ tfs]) ?_
  simp (maxSteps := 4000000) (disch := omega) only [rq, simprocAttr, Qj]
  simp [QS, QG, frzL, QD, frzL_T _ tfa]
theorem Qj7 {c x : Int} {t l : List Int} (hL : I32 l) (h : QbS c x l = 0) : (Qdm c.toNat x t l).length ≤ 40504 ∧ 5 ≤ (Qdm c.toNat x t l).length := by
 obtain ⟨k, m, rfl, hkM, hx, e1, e2, e3, e4, e5, e6⟩ := Qiw hL h
 obtain ⟨c1, c6, l0, l4, lm, _⟩ := hkM
 have hvl := QeB k x t l
 have := QlF (c := k) (Qg6 k x t l) (by omega) (by omega)
 rw [Int.toNat_natCast, Qdm, Qe6]
 omega
def emL : List AV → List AV
 | [] => []
 | .emp _ :: l => .list 0 [] :: emL l
 | a :: l => a :: emL l
theorem Qnp {X : Cx} : ∀ (l : List AV) (vs : List Value), RepL X l vs → RepL X (emL l) vs
 | [], _, h => h
 | a :: l, vs, h => by
  simp only [RepL] at h
  obtain ⟨v, rest, e, g1, g2⟩ := h
  have h2 := Qnp l rest g2
  cases a with
  | emp z =>
   simp only [emL, RepL]
   refine ⟨v, rest, e, ?_, h2⟩
   simp only [Rep] at g1 ⊢
   obtain ⟨a, e, _⟩ := g1
   exact ⟨a, 0, [], e, Nat.le_refl _, .inl rfl, by simp [RepL]⟩
  | _ => simp only [emL, RepL]; exact ⟨v, rest, e, g1, h2⟩
theorem VC.emp {P : Prg} {f : FuncId} (avs : List AV) {r : AV} (h : VC P f (emL avs) r) (hd : isDL avs = true) : VC P f avs r :=
 ⟨h.1, hd, h.2.2.1, fun w C vs hC hG hr => h.2.2.2 w C vs hC hG (Qnp _ _ hr)⟩
def nl (l : List Int) : AV := .list l.length (ks .i64 l)
theorem QpU (l : List Int) : isD (nl l) = true := by simp [nl, isD, QB]
def nls (L : List (List Int)) : AV := .list L.length (L.map nl)
theorem Qm2 : ∀ L : List (List Int), isDL (L.map nl) = true
 | [] => rfl
 | l :: L => by simp [isDL, QpU, Qm2 L]
def QfW (t : Nat) (P : Prg) (f : Nat) : Prop := ∀ L : List (List Int), L.length ≤ 1000000 → 0 < L.flatten.length → L.flatten.length ≤ 1000000 → VO P f [nls L] (.own 0 L.flatten.length) ⟨t, 1, L.flatten.length, ks .i64 L.flatten, 0⟩
theorem grow_nilI {P : Prg} {f t : Nat} {ρ : Go.Shelf.Ren} (L : Go.Proofs.Lays8.n4 P.prog ρ) (hf : ρ.f 4 = f) (ht : ρ.t 25 = t) (h25 : (P.prog.info? t).map (fun i => (i.zero, i.size, i.bytes)) = some (some (.int .i64 0), 1, 8)) : ∀ (ob : List Ob) (n : Nat) (z : Bool) (K : AV → List Ob → Prop), 0 < n → n ≤ 1000000 → K (.own ob.length 0) (ob ++ [⟨t, 1, 0, [], 0⟩]) → ACall P f [.emp z, .int .i64 n] ob K := by
 intro ob n z K h1 h2 hK
 subst hf; subst ht
 exact ACall.grow_nilI (by omega) L h25 h1 (by omega) hK
def Qg2 (t : Nat) (P : Prg) (f : Nat) : Prop := ∀ (ob : List Ob) (n : Nat) (z : Bool) (K : AV → List Ob → Prop), 0 < n → n ≤ 1000000 → K (.own ob.length 0) (ob ++ [⟨t, 1, 0, [], 0⟩]) → ACall P f [.emp z, .int .i64 n] ob K
theorem QgO {L : List (List Int)} {k : Nat} (h : k < L.length) : (L.take (k + 1)).flatten = (L.take k).flatten ++ L.getD k [] := by
 rw [List.take_succ_eq_append_getElem h, List.flatten_append, List.getD_eq_getElem?_getD, List.getElem?_eq_getElem h]
 simp
theorem Qm5 (L : List (List Int)) (k : Nat) : (L.take k).flatten.length ≤ L.flatten.length := by
 conv => rhs; rw [← List.take_append_drop k L, List.flatten_append, List.length_append]
 omega
theorem Qga {P : Prg} {f fG t0 : Nat} (bd : Qf P f 36 [.tmp 2] (Zp fG t0)) (hG : Qg2 t0 P fG) : QfW t0 P f := by
 intro L hL h0 h1
 refine VO.of_walk (by simp [isDL, isD, nls, Qm2]) (QB _ _) (by simp [okr]) (ACall.of_body bd (by simp) ?_)
 have hat : ∀ k, k < L.length → (L.map nl).drop k = nl (L.getD k []) :: (L.map nl).drop (k + 1) := fun k hk => by
  rw [List.drop_eq_getElem_cons (by simpa using hk)]
  simp [List.getD_eq_getElem?_getD, List.getElem?_eq_getElem hk]
 have hml : (L.map nl).length = L.length := by simp
 simp only [nl] at hat
 simp (maxSteps := 4000000) (disch := omega) only [rq, simprocAttr, Zp, nls]
 refine Q0.by (ι := Nat) (fun k => ⟨[(11, .int .i64 k), (10, .int .i64 L.length), (9, .list L.length (L.map nl)), (3, .int .i64 (L.take k).flatten.length), (0, .list L.length (L.map nl))], []⟩) (fun k => k ≤ L.length) (fun k => L.length - k) 0 (Le.slots (by simp [Am.look])) (by omega) ?_
 intro k hk
 by_cases hlt : k < L.length
 ·have ha := hat k hlt
  have hf := QgO hlt
  have hle := Qm5 L (k + 1)
  rw [hf, List.length_append] at hle
  have hl : ((L.take (k + 1)).flatten.length : Int) = (L.take k).flatten.length + (L.getD k []).length := by rw [hf]; simp
  generalize (L.take k).flatten.length = s at *
  generalize L.getD k [] = x at *
  simp (maxSteps := 4000000) (disch := omega) only [rq, simprocAttr, ha, hml]
  exact ⟨k + 1, by omega, by omega, by simp only [hl]; exact Le.slots (by simp [Am.look])⟩
 obtain rfl : k = L.length := by omega
 rw [List.take_length]
 have hG' := fun K hK => hG [] L.flatten.length true K h0 h1 hK
 simp (maxSteps := 4000000) (disch := omega) only [rq, simprocAttr]
 refine hG' _ ?_
 simp (maxSteps := 4000000) (disch := omega) only [rq, simprocAttr]
 refine Q0.by (ι := Nat) (fun k => ⟨[(27, .int .i64 k), (26, .int .i64 L.length), (25, .list L.length (L.map nl)), (6, .own 0 (L.take k).flatten.length)], [⟨t0, 1, (L.take k).flatten.length, ks .i64 (L.take k).flatten, 0⟩]⟩) (fun k => k ≤ L.length) (fun k => L.length - k) 0 (Le.slots (by simp [Am.look, ks])) (by omega) ?_
 intro k hk
 by_cases hlt : k < L.length
 ·have ha := hat k hlt
  have hf := QgO hlt
  have hle := Qm5 L (k + 1)
  rw [hf, List.length_append] at hle
  have hl : (L.take (k + 1)).flatten.length = (L.take k).flatten.length + (L.getD k []).length := by rw [hf]; simp
  have hu : ks .i64 (L.take (k + 1)).flatten = ks .i64 (L.take k).flatten ++ ks .i64 (L.getD k []) := by rw [hf]; simp [ks]
  have hc : (ks .i64 (L.take k).flatten).length = (L.take k).flatten.length := Qd _ _
  have hx : (ks .i64 (L.getD k [])).length = (L.getD k []).length := Qd _ _
  generalize ks .i64 (L.take k).flatten = cs at *
  generalize (L.take k).flatten.length = s at *
  generalize ks .i64 (L.getD k []) = us at *
  generalize (L.getD k []).length = xl at *
  simp (maxSteps := 4000000) (disch := omega) only [rq, simprocAttr, ha, hml, hc, hx]
  exact ⟨k + 1, by omega, by omega, by rw [hl, hu]; exact Le.slots (by simp [Am.look])⟩
 obtain rfl : k = L.length := by omega
 rw [List.take_length]
 simp (maxSteps := 4000000) (disch := omega) only [rq, simprocAttr]
 exact ⟨0, rfl, rfl⟩
def Qoy (P : Prg) (f : Nat) : Prop := ∀ x y : Nat, x ≤ 65535 → y ≤ 65535 → VC P f [.int .u64 x, .int .u64 y] (.tup [.int .u64 0, .int .u64 ((x * y : Nat) : Int)])
theorem QnQ {P : Prg} {f : Nat} (bd : Qf P f 51 [.tmp 4, .tmp 5] XC) : Qoy P f := by
 intro x y hx hy
 refine VC.of_acall rfl rfl (ACall.of_body bd (by simp) ?_)
 have hxy : x * y ≤ 65535 * 65535 := Nat.mul_le_mul hx hy
 have hm : (x : Int) * (y : Int) = ((x * y : Nat) : Int) := by simp
 have an : ∀ a : Nat, a ≤ 4294967295 → IntKind.u64.wrap (BitVec.ofInt IntKind.u64.bits (a : Int) &&& BitVec.ofInt IntKind.u64.bits 4294967295).toNat = (a : Int) := by
  intro a ha
  have := Qq0 a 4294967295 (by omega) (by decide)
  rw [show (4294967295 : Nat) = 2 ^ 32 - 1 from rfl, Nat.and_two_pow_sub_one_eq_mod, Nat.mod_eq_of_lt (by omega)] at this
  exact this
 have sh : ∀ a : Nat, a ≤ 4294967295 → Qi false .u64 (a : Int) 32 = some (.int .u64 0) := by
  intro a ha
  have := Qlg (K := .u64) (n := a) (k := 32) (by decide)
  rw [Nat.div_eq_of_lt (by omega)] at this
  exact this
 have a1 := an x (by omega)
 have a2 := an y (by omega)
 have a3 : IntKind.u64.wrap (BitVec.ofInt IntKind.u64.bits 0 &&& BitVec.ofInt IntKind.u64.bits 4294967295).toNat = 0 := by decide
 have s1 := sh x (by omega)
 have s2 := sh y (by omega)
 have s3 := sh (x * y) (by omega)
 have s4 : Qi false .u64 0 32 = some (.int .u64 0) := sh 0 (by omega)
 generalize x * y = z at *
 simp (maxSteps := 4000000) (disch := omega) only [rq, simprocAttr, XC, a1, a2, a3, s1, s2, s3, s4, hm, Int.zero_mul, Int.mul_zero, Int.add_zero, Int.zero_add]
theorem Qr5 {P : Prg} {f f32 f64 : Nat} (bd : Qf P f 30 [.tmp 4, .tmp 5] (Jj f32 f64)) (h64 : Qoy P f64) : Qoy P f := by
 intro x y hx hy
 refine VC.of_acall rfl rfl (ACall.of_body bd (by simp) ?_)
 have h := h64 x y hx hy
 generalize x * y = z at *
 simp (maxSteps := 4000000) (disch := omega) only [rq, simprocAttr, Jj]
 refine Qa.vc h ?_
 simp (maxSteps := 4000000) (disch := omega) only [rq, simprocAttr]
def rpL (v : Int) (m c : Nat) : List Int := List.replicate m v ++ List.replicate (c - m) 0
theorem QuH {v : Int} {m c : Nat} (h : m ≤ c) : (rpL v m c).length = c := by simp [rpL]; omega
def QfK (t : Nat) (P : Prg) (f : Nat) : Prop := ∀ (v : Int) (c : Nat), c ≤ 1000 → VO P f [nl [v], .int .i64 c] (.own 0 c) ⟨t, 1, c, ks .i64 (List.replicate c v), 0⟩
theorem Qf9 {P : Prg} {f fM t0 : Nat} (bd : Qf P f 48 [.tmp 4] (Zo fM t0)) (hM : Qoy P fM) : QfK t0 P f := by
 intro v c hc
 refine VO.of_walk (by simp [isDL, QpU, isD]) (QB _ _) (by simp [okr]) (ACall.of_body bd (by simp) ?_)
 have hM' := hM 1 c (by omega) (by omega)
 rw [Nat.one_mul] at hM'
 have hM2 : VC P fM [.int .u64 1, .int .u64 c] (.tup [.int .u64 0, .int .u64 c]) := hM'
 have e1 : nl [v] = .list 1 [.int .i64 v] := rfl
 have er : Qp [.int .i64 0] c = ks .i64 (List.replicate c 0) := Qps .i64 c
 have hl : (ks .i64 (List.replicate c 0)).length = c := by simp [Qd]
 rw [e1]
 simp (maxSteps := 4000000) (disch := omega) only [rq, simprocAttr, Zo]
 refine Qa.vc hM2 ?_
 by_cases h0 : c = 0
 ·subst h0
  simp (maxSteps := 4000000) (disch := omega) only [rq, simprocAttr, er]
  refine Q0.by (ι := Nat) (fun _ => ⟨[(8, .int .i64 0), (7, .own 0 0)], [⟨t0, 1, 0, [], 0⟩]⟩) (fun _ => True) (fun _ => 0) 0 (Le.slots (by simp [Am.look, ks])) trivial ?_
  intro _ _
  simp (maxSteps := 4000000) (disch := omega) only [rq, simprocAttr]
  exact ⟨0, rfl, rfl⟩
 ·have hmn : Nat.min 1 c = 1 := Nat.min_eq_left (by omega)
  have hst : (1 : Int) < (c : Int) ∨ c = 1 := by omega
  simp (maxSteps := 4000000) (disch := omega) only [rq, simprocAttr, er, hl, hmn]
  refine Q0.by (ι := Nat) (fun m => ⟨[(8, .int .i64 m), (7, .own 0 c)], [⟨t0, 1, c, ks .i64 (rpL v m c), 0⟩]⟩) (fun m => 1 ≤ m ∧ m ≤ c) (fun m => c - m) 1 ?_ (by omega) ?_
  ·have : [AV.int .i64 v] ++ (ks .i64 (List.replicate c 0)).drop 1 = ks .i64 (rpL v 1 c) := by simp [rpL, ks]
   rw [← this]
   exact Le.slots (by simp [Am.look])
  intro m hm
  obtain ⟨hm1, hm2⟩ := hm
  have hkl : (ks .i64 (rpL v m c)).length = c := by rw [Qd, QuH hm2]
  by_cases hlt : m < c
  ·obtain ⟨q, hq⟩ : ∃ q, q = Nat.min m (c - m) := ⟨_, rfl⟩
   have hq1 : q ≤ m := by rw [hq]; exact Nat.min_le_left _ _
   have hq2 : q ≤ c - m := by rw [hq]; exact Nat.min_le_right _ _
   have hq3 : 1 ≤ q := by rw [hq]; exact Nat.le_min.2 ⟨hm1, by omega⟩
   have hmc : min m c = m := Nat.min_eq_left hm2
   have hal : ((ks .i64 (rpL v m c)).take m).all AV.one = true := by
    rw [List.all_eq_true]
    intro x hx
    exact List.all_eq_true.1 (JP .i64 (rpL v m c)) x (List.mem_of_mem_take hx)
   have e1 : (rpL v m c).take m = List.replicate m v := by unfold rpL; rw [List.take_left' (by simp)]
   have e2 : (rpL v m c).drop (m + q) = List.replicate (c - (m + q)) 0 := by
    unfold rpL
    rw [List.drop_append, List.drop_of_length_le (by simp), List.nil_append, List.drop_replicate, List.length_replicate]
    congr 1
    omega
   have hcs : (ks .i64 (rpL v m c)).take m ++ (((ks .i64 (rpL v m c)).take m).take q ++ (ks .i64 (rpL v m c)).drop (m + q)) = ks .i64 (rpL v (m + q) c) := by
    have k1 : ∀ l n, (ks .i64 l).take n = ks .i64 (l.take n) := fun l n => by simp [ks, List.map_take]
    have k2 : ∀ l n, (ks .i64 l).drop n = ks .i64 (l.drop n) := fun l n => by simp [ks, List.map_drop]
    have k3 : ∀ a b, ks .i64 a ++ ks .i64 b = ks .i64 (a ++ b) := fun a b => by simp [ks]
    rw [k1, e1, k1, k2, e2, List.take_replicate, Nat.min_eq_left hq1, k3, k3, ← List.append_assoc, List.replicate_append_replicate]
    rfl
   have hcs2 : (ks .i64 (rpL v m c)).take m ++ ((ks .i64 (rpL v m c)).take m).take q ++ (ks .i64 (rpL v m c)).drop (m + q) = ks .i64 (rpL v (m + q) c) := by rw [List.append_assoc]; exact hcs
   simp (maxSteps := 4000000) (disch := omega) only [rq, simprocAttr, hkl, h0, Nat.sub_zero, hmc, hal, ← hq, Nat.mul_one, hcs2, hcs]
   refine ⟨m + q, ⟨by omega, by omega⟩, by omega, ?_⟩
   exact Le.slots (by simp [Am.look])
  ·obtain rfl : m = c := by omega
   have : rpL v m m = List.replicate m v := by simp [rpL]
   rw [this]
   simp (maxSteps := 4000000) (disch := omega) only [rq, simprocAttr]
   exact ⟨0, rfl, rfl⟩
def Qre (t : Nat) (P : Prg) (f : Nat) : Prop := ∀ a b : List Int, 0 < a.length + b.length → a.length + b.length ≤ 1000000 → VO P f [nl a, nl b] (.own 0 (a.length + b.length)) ⟨t, 1, a.length + b.length, ks .i64 (a ++ b), 0⟩
theorem Qge {P : Prg} {f fC t0 t1 : Nat} (bd : Qf P f 9 [.tmp 4] (XS fC t1)) (hC : QfW t0 P fC) : Qre t0 P f := by
 intro a b h0 h1
 refine VO.of_walk (by simp [isDL, QpU]) (QB _ _) (by simp [okr]) (ACall.of_body bd (by simp) ?_)
 have hC' := hC [a, b] (by simp) (by simpa using h0) (by simpa using h1)
 have e1 : nls [a, b] = .list 2 [nl a, nl b] := rfl
 have e2 : [a, b].flatten = a ++ b := by simp
 rw [e1, e2, List.length_append] at hC'
 have ta := Qv .i64 a
 have tb := Qv .i64 b
 simp only [nl] at hC' ⊢
 simp (maxSteps := 4000000) (disch := omega) only [rq, simprocAttr, XS]
 refine Qa.vo_still 1 [0] hC' (by simp [QS, QG, frzL, QD, frzL_T _ ta, frzL_T _ tb]) ?_
 simp (maxSteps := 4000000) (disch := omega) only [rq, simprocAttr, Qj, shr]
 exact ⟨1, rfl, rfl⟩
def okA (r n : Int) : Prop := 1 ≤ r ∧ r ≤ 1048576 ∧ 1 ≤ n ∧ n ≤ 4000 ∧ (Zu (Qc r).toNat n.toNat).length ≤ 1000
def Qrf (t : Nat) (P : Prg) (f : Nat) : Prop := ∀ r n : Int, okA r n → VO P f [.int .i64 r, .int .i64 n] (.tup [.own 0 (Zu (Qc r).toNat n.toNat).length, .int .i64 0]) ⟨t, 1, (Zu (Qc r).toNat n.toNat).length, ks .i64 (Zu (Qc r).toNat n.toNat), 0⟩
theorem Qlv {P : Prg} {f fC fL fR fB t0 : Nat} (bd : Qf P f 39 [.tmp 4, .tmp 5] (Qaw fC fL fR fB t0)) (hC : QbY P fC) (hL : Xe P fL) (hR : QfK t0 P fR) (hB : Qre t0 P fB) : Qrf t0 P f := by
 intro r n ⟨a1, a2, a3, a4, a5⟩
 refine VO.of_walk rfl (QB _ _) (by simp [okr, flat]) (ACall.of_body bd (by simp) ?_)
 have hlong : 1 ≤ Qc r := by unfold Qc; split <;> omega
 obtain ⟨L, hLe⟩ : ∃ L : Nat, Qc r = L := ⟨(Qc r).toNat, by omega⟩
 obtain ⟨m, rfl⟩ : ∃ m : Nat, n = m := ⟨n.toNat, by omega⟩
 rw [hLe, Int.toNat_natCast, Int.toNat_natCast] at a5 ⊢
 rw [Xv] at a5
 obtain ⟨q, hq⟩ : ∃ q, q = (m - 1) / L := ⟨_, rfl⟩
 have hql : (Zu L m).length = q + 1 := by rw [Xv, hq]
 rw [← hq] at a5
 have hcd : ((m : Int) + (L : Int) - 1) / (L : Int) = ((q + 1 : Nat) : Int) := by
  have h1 : (m : Int) + (L : Int) - 1 = ((m - 1 + L : Nat) : Int) := by omega
  rw [h1, ← Int.natCast_ediv, Nat.add_div_right _ (by omega), ← hq]
 have hk : Qki r m = .tup [.int .i64 ((q + 1 : Nat) : Int), .int .i64 0] := by
  rw [Qki, if_neg (by omega), if_neg (by omega), hLe, hcd, if_neg (by omega)]
 have hC' := hC r m
 rw [hk] at hC'
 have hL' := hL r
 rw [Qa5, if_neg (by omega), hLe] at hL'
 have hR' := hR L q (by omega)
 have hB' := hB (List.replicate q (L : Int)) [(m : Int) - ((q * L : Nat) : Int)] (by simp) (by simp; omega)
 have e1 : List.replicate q (L : Int) ++ [(m : Int) - ((q * L : Nat) : Int)] = Zu L m := by unfold Zu; rw [hq]
 rw [e1] at hB'
 have e2 : (List.replicate q (L : Int)).length + [(m : Int) - ((q * L : Nat) : Int)].length = q + 1 := by simp
 rw [e2] at hB'
 have e3 : nl [(L : Int)] = .list 1 [.int .i64 (L : Int)] := rfl
 have e4 : nl [(m : Int) - ((q * L : Nat) : Int)] = .list 1 [.int .i64 ((m : Int) - ((q * L : Nat) : Int))] := rfl
 rw [e3] at hR'
 rw [e4] at hB'
 have tr := Qv .i64 (List.replicate q (L : Int))
 have hqL : (q : Int) * (L : Int) = ((q * L : Nat) : Int) := by simp
 have hle : q * L ≤ m := by
  have := Nat.div_mul_le_self (m - 1) L
  rw [← hq] at this
  omega
 simp only [nl, List.length_replicate] at hB'
 rw [hql]
 generalize ks .i64 (Zu L m) = LL at *
 generalize ks .i64 (List.replicate q (L : Int)) = RR at *
 generalize q * L = w at *
 simp only [Int.natCast_add, Int.cast_ofNat_Int] at hC'
 have hq1 : (q : Int) + 1 - 1 = (q : Int) := by omega
 simp (maxSteps := 4000000) (disch := omega) only [rq, simprocAttr, Qaw]
 refine Qa.vc hC' ?_
 simp (maxSteps := 4000000) (disch := omega) only [rq, simprocAttr]
 refine Qa.vc hL' ?_
 simp (maxSteps := 4000000) (disch := omega) only [rq, simprocAttr, hq1]
 refine Qa.vo_still 1 [0] hR' (by simp [QS, QG, frzL, QD]) ?_
 simp (maxSteps := 4000000) (disch := omega) only [rq, simprocAttr, Qj, shr, hq1, hqL]
 refine Qa.vo_still 1 [1, 2] hB' (by simp [QS, QG, frzL, QD, frzL_T _ tr]) ?_
 simp (maxSteps := 4000000) (disch := omega) only [rq, simprocAttr, Qj, shr]
 exact ⟨3, rfl, rfl⟩
def ZT (Lc : Nat) (l : List Int) (j : Nat) : List Int := (l.drop (j * Lc)).take Lc
def QfM (t : Nat) (P : Prg) (f : Nat) : Prop := ∀ (k n : Nat) (x r : Int) (l : List Int), 1 ≤ k → k ≤ 1000 → l.length = n * k → okA r n →
 Qrh P f [.int .i64 k, .int .i64 x, .int .i64 r, il l] [t] (cnt := (Zu (Qc r).toNat n).length) (fun j => il (ZT ((Qc r).toNat * k) l j.1))
theorem Qb6 {X : Cx} {a : Act} : ∀ i, Rep X (look [] i) (a.tmps.getD i undef) := fun i => by simp only [look, Rep]
theorem QN {X : Cx} {a : Act} {fr : List (Nat × AV)} {j : Nat} {v : AV} (h : Rep X v (a.tmps.getD j undef)) (g : ∀ i, Rep X (look fr i) (a.tmps.getD i undef)) : ∀ i, Rep X (look ((j, v) :: fr) i) (a.tmps.getD i undef) := fun i => by
 simp only [look]
 split
 ·rename_i e; subst e; exact h
 ·exact g i
theorem Qvv {N : Nat} {fr : List (Nat × AV)} {a : Act} {W : World} (hd : a.defers = []) (hz : a.tmps.size = N) (h : ∀ i, Rep ⟨W, [], [], fun _ _ => False⟩ (look fr i) (a.tmps.getD i undef)) : Sim ⟨W.heap.size, ⟨W, [], [], fun _ _ => False⟩, N, []⟩ ⟨fr, []⟩ a W :=
 ⟨hd, hz, Below.refl _ _, [], ⟨rfl, by simp, by simp, by simp, fun _ _ h => h.elim, Nat.le_refl _⟩, Moves.refl _, h⟩
theorem JS {W W' : World} (h : Below W.heap.size W W') : W.grownBy W' none := ⟨h.os, h.tape, h.output, h.size, fun k hk _ => h.block k hk⟩
theorem QgG {k n L j : Nat} {l : List Int} (hl : l.length = n * k) (hn : 1 ≤ n) (hL : 1 ≤ L) (hj : j < (Zu L n).length) :
  ∃ m : Nat, (Zu L n).getD j 0 = m ∧ m ≤ n ∧ min (j * (L * k)) (n * k) = j * (L * k) ∧ j * (L * k) ≤ n * k ∧ min ((j + 1) * (L * k)) (n * k) = j * (L * k) + m * k ∧ ZT (L * k) l j = (l.drop (j * (L * k))).take (m * k) ∧ j * (L * k) + m * k ≤ n * k := by
 rw [Xv] at hj
 have g0 : (n - 1) / L * L ≤ n - 1 := Nat.div_mul_le_self _ _
 have g2 : n - 1 < (n - 1) / L * L + L := Nat.lt_div_mul_add (by omega)
 have g1 : j * L ≤ (n - 1) / L * L := Nat.mul_le_mul_right _ (by omega)
 have e0 : j * (L * k) = j * L * k := by rw [Nat.mul_assoc]
 have e1 : (j + 1) * (L * k) = (j * L + L) * k := by rw [← Nat.mul_assoc, Nat.add_mul, Nat.one_mul]
 have h3 : j * L * k ≤ n * k := Nat.mul_le_mul_right _ (by omega)
 by_cases hq : j < (n - 1) / L
 ·have g3 : (j + 1) * L ≤ (n - 1) / L * L := Nat.mul_le_mul_right _ (by omega)
  rw [Nat.add_mul, Nat.one_mul] at g3
  have h7 : j * L + L ≤ n := Nat.le_trans g3 (Nat.le_trans g0 (Nat.sub_le _ _))
  have h4 : (j * L + L) * k ≤ n * k := Nat.mul_le_mul_right _ h7
  refine ⟨L, ?_, by omega, by rw [e0]; exact Nat.min_eq_left h3, by rw [e0]; exact h3, by rw [e1, e0, Nat.min_eq_left h4, Nat.add_mul], rfl, by rw [e0, ← Nat.add_mul]; exact h4⟩
  unfold Zu
  rw [List.getD_eq_getElem?_getD, List.getElem?_append_left (by simpa using hq), List.getElem?_replicate, if_pos hq]
  rfl
 ·have hjq : j = (n - 1) / L := by omega
  have h7 : n ≤ j * L + L := by rw [hjq]; generalize (n - 1) / L * L = w at *; omega
  have h8 : n - j * L ≤ L := by omega
  have h4 : n * k ≤ (j * L + L) * k := Nat.mul_le_mul_right _ h7
  have h5 : j * L * k + (n - j * L) * k = n * k := by rw [← Nat.add_mul]; congr 1; omega
  refine ⟨n - j * L, ?_, Nat.sub_le _ _, by rw [e0]; exact Nat.min_eq_left h3, by rw [e0]; exact h3, by rw [e1, e0, Nat.min_eq_right h4, h5], ?_, by rw [e0, h5]; exact Nat.le_refl _⟩
  ·unfold Zu
   rw [List.getD_eq_getElem?_getD, List.getElem?_append_right (by simp; omega)]
   simp only [List.length_replicate, ← hjq, Nat.sub_self, List.getElem?_cons_zero, Option.getD_some]
   omega
  ·unfold ZT
   have h6 : (l.drop (j * (L * k))).length = (n - j * L) * k := by rw [List.length_drop, hl, e0]; omega
   rw [List.take_of_length_le (by rw [h6]; exact Nat.mul_le_mul_right _ h8), List.take_of_length_le (by rw [h6]; exact Nat.le_refl _)]
theorem Qqe {m j : Nat} (h : j < m) : (List.finRange m).take (j + 1) = (List.finRange m).take j ++ [⟨j, h⟩] := by
 rw [List.take_succ_eq_append_getElem (by simpa using h)]
 simp
theorem Qr6 (L n : Nat) : 1 ≤ (Zu L n).length := by rw [Xv]; exact Nat.le_add_left 1 _
set_option maxHeartbeats 1000000 in
theorem Ql5 {P : Prg} {f fA t0 : Nat} (bd : Qf P f 43 [] (XF fA)) (hA : Qrf t0 P fA) : QfM t0 P f := by
 intro k n x r l hk1 hk2 hl hok
 obtain ⟨L, hL⟩ : ∃ L, (Qc r).toNat = L := ⟨_, rfl⟩
 have hL1 : 1 ≤ L := by have := ZM r; omega
 obtain ⟨a1, a2, a3, a4, a5⟩ := hok
 have hn1 : 1 ≤ n := by omega
 have hn2 : n ≤ 4000 := by omega
 have hA' := hA r n ⟨a1, a2, a3, a4, a5⟩
 rw [hL, Int.toNat_natCast] at hA' a5
 rw [hL]
 refine ⟨fun j => Zy _, fun w C v1 hv1 hex hG => ?_⟩
 have hv1' := hv1
 simp only [Rep] at hv1
 obtain ⟨b, o, vs, hv1e, hat, hvs⟩ := hv1
 simp only [RepL] at hvs
 obtain ⟨u0, q0, rfl, hu0, u1, q1, rfl, hu1, u2, q2, rfl, hu2, u3, q3, rfl, hu3, rfl⟩ := hvs
 have hu0' := hu0
 have hu3' := hu3
 simp only [Rep] at hu0 hu1 hu2
 rw [il] at hu3
 simp only [Rep] at hu3
 obtain ⟨sa, cap, ws, e3, hcap, hws, hwr⟩ := hu3
 rw [hl] at hcap
 obtain ⟨atN, hatN⟩ : ∃ atN : Nat → Nat, ∀ j, atN j = min (j * (L * k)) (n * k) := ⟨_, fun _ => rfl⟩
 obtain ⟨cnt, hcnt⟩ : ∃ cnt, (Zu L n).length = cnt := ⟨_, rfl⟩
 have hnk : n * k ≤ 4000000 := Nat.mul_le_mul hn2 hk2
 rw [hcnt] at hA' a5 ⊢
 have hcnt1 : 1 ≤ cnt := by rw [← hcnt]; exact Qr6 _ _
 have pf : ∀ j, j < cnt → ∃ m : Nat, (Zu L n).getD j 0 = m ∧ m ≤ n ∧ atN j = j * (L * k) ∧ atN (j + 1) = atN j + m * k ∧ ZT (L * k) l j = (l.drop (atN j)).take (m * k) ∧ atN j + m * k ≤ n * k := fun j hj => by
  obtain ⟨m, h1, h2, h3, h4, h5, h6, h7⟩ := QgG (j := j) hl hn1 hL1 (by rw [hcnt]; exact hj)
  refine ⟨m, h1, h2, by rw [hatN]; exact h3, by rw [hatN, hatN, h3]; exact h5, by rw [hatN, h3]; exact h6, by rw [hatN, h3]; exact h7⟩
 have hun : ∀ {W' : World}, (∀ (b k : Nat) (v : Value), ¬ C b k → w.cell? ⟨b, k, none⟩ = some v → W'.cell? ⟨b, k, none⟩ = some v) → ∀ (c : AV) (v : Value), isD c = true → Rep ⟨w, [], [], C⟩ c v → Rep ⟨W', [], [], fun _ _ => False⟩ c v := fun h c v hd hr =>
  Rep.data (X := ⟨w, [], [], C⟩) (Y := ⟨_, [], [], fun _ _ => False⟩) (fun b k v hc ha => ⟨h b k v (fun h => ha (.inl h)) hc, fun h => by
   rcases h with h | ⟨o, x, c, h1, _⟩
   ·exact h.elim
   ·simp at h1⟩) c v hd hr
 have hlit : ∀ {W' : World}, (∀ (b k : Nat) (v : Value), ¬ C b k → w.cell? ⟨b, k, none⟩ = some v → W'.cell? ⟨b, k, none⟩ = some v) → Rep ⟨W', [], [], fun _ _ => False⟩ (.cell [.int .i64 k, .int .i64 x, .int .i64 r, .lit u3]) v1 := fun {W'} h => by
  have h1 : Rep ⟨w, [], [], C⟩ (.cell [.int .i64 k, .int .i64 x, .int .i64 r, .lit u3]) v1 := by
   simp only [Rep]
   exact ⟨b, o, _, hv1e, hat, by simp only [RepL, Rep]; exact ⟨u0, _, rfl, hu0, u1, _, rfl, hu1, u2, _, rfl, hu2, u3, _, rfl, rfl, rfl⟩⟩
  exact hun h _ _ rfl h1
 refine ⟨fun j => .slice (if cap = atN j.1 then sa else sa.map (·.add (atN j.1 * 1))) (atN (j.1 + 1) - atN j.1) (cap - atN j.1), fun j => ?rep, ?seq⟩
 case rep =>
  obtain ⟨m, h1, h2, h3, h4, h5, h6⟩ := pf j.1 j.2
  have g : Held 0 ⟨w, [], [], fun _ _ => False⟩ := ⟨rfl, by simp, by simp, by simp, fun _ _ h => h.elim, Nat.zero_le _⟩
  have e4 : ((atN (j.1 + 1) : Nat) - (atN j.1 : Nat) : Int).toNat = m * k := by omega
  have e5 : (ZT (L * k) l j.1).length = m * k := by rw [h5, List.length_take, List.length_drop, hl]; omega
  have hs : QfZ [] 1 (il l) (atN j.1 : Nat) (atN (j.1 + 1) : Nat) = some (il (ZT (L * k) l j.1)) := by
   simp only [QfZ, il]
   rw [if_pos (by omega), if_pos (by rw [hl]; simp [ks]; omega), e4, e5, h5]
   simp [ks, List.map_take, List.map_drop]
  have hr := Qll (X := ⟨w, [], [], fun b k => C b k ∧ b < w.heap.size⟩) (B := w.heap.size) ⟨rfl, by simp, by simp, by simp, fun _ _ h => h.2, Nat.le_refl _⟩ (η := fun _ => .any) (ρ := fun _ => undef) (fun _ => by simp only [Rep]) (sz := 1) (n := l.length) (cs := ks .i32 l) (a := sa) (cap := cap) (m := cap) (by
   rw [← e3]
   exact Rep.data (X := ⟨w, [], [], C⟩) (Y := ⟨w, [], [], fun b k => C b k ∧ b < w.heap.size⟩) (fun b k v hc ha => ⟨hc, fun h => ha (by
    rcases h with h | ⟨o, x, c, h1, _⟩
    ·exact .inl h.1
    ·simp at h1)⟩) _ _ (Zy l) hu3') rfl hs (by omega) (.inl (Nat.le_refl _))
  have hr2 := hr.2.2.2
  simp only [Int.toNat_natCast] at hr2
  exact Rep.data (X := ⟨w, [], [], fun b k => C b k ∧ b < w.heap.size⟩) (Y := ⟨w, [], [], C⟩) (fun b k v hc ha => ⟨hc, fun h => ha (by
   rcases h with h | ⟨o, x, c, h1, _⟩
   ·exact .inl ⟨h, World.block_lt_of_cell? w _ hc⟩
   ·simp at h1)⟩) _ _ (Zy _) hr2
 case seq =>
  intro ll J Jx W hW hJ hJx hY hJ0
  have hkw : ∀ (b k : Nat) (v : Value), ¬ C b k → w.cell? ⟨b, k, none⟩ = some v → W.cell? ⟨b, k, none⟩ = some v := fun b k v _ hc => (hW.cell (p := ⟨b, k, none⟩) (World.block_lt_of_cell? w _ hc)).trans hc
  obtain ⟨fn, hf, hnm, hN, hrl, hc'⟩ := bd
  obtain ⟨c, hb, hc⟩ := Option.bind_eq_some_iff.1 hc'
  refine callsIn_of_wp hf hb trivial ?_ rfl
  rw [hN]
  unfold XF at hc
  obtain ⟨c1, r1, rfl, hc1, hr1⟩ := Z6 hc
  obtain ⟨c2, r2, rfl, hc2, hr2⟩ := Z6 hr1
  obtain ⟨c3, c4, rfl, hc3, hc4⟩ := Z6 hr2
  obtain ⟨c5, rfl, hc5⟩ := Qfr hc4
  obtain ⟨c6, rfl, hc6⟩ := Qon hc5
  obtain ⟨d1, s1, rfl, hd1, hs1⟩ := Z6 hc6
  obtain ⟨d2, s2, rfl, hd2, hs2⟩ := Z6 hs1
  obtain ⟨y1, y2, rfl, hy1, hy2⟩ := QgX hd2
  obtain rfl := QgW hy1
  obtain rfl := Qoo hy2
  obtain ⟨d3, d9, rfl, hd3, hd9⟩ := Z6 hs2
  obtain ⟨d4, rfl, hd4⟩ := Qfr hd3
  obtain ⟨d5, s5, rfl, hd5, hs5⟩ := Z6 hd4
  obtain ⟨d6, s6, rfl, hd6, hs6⟩ := Z6 hs5
  obtain ⟨s7, d8, rfl, hs7, hd8⟩ := Z6 hs6
  obtain ⟨d7, dc, rfl, hd7, hdc⟩ := Z6 hs7
  obtain ⟨y3, y4, rfl, hy3, hy4⟩ := QgX hdc
  obtain rfl := QqO hy3
  obtain rfl := QgW hy4
  obtain ⟨id7, ops, rfl, hm7⟩ := Qkq hd7
  obtain ⟨l5, l3, hops, hm5, hm3⟩ := Qm0 (q1 := [_, _, _, _, _]) hm7
  obtain ⟨oS, l2, rfl, hoS, hm2⟩ := QmZ hm3
  obtain ⟨oY, l1, rfl, hoY, hm1⟩ := QmZ hm2
  generalize hyv : (Value.func (.yield ll) #[] #[]) = yv at *
  let a0 : Act := { tmps := #[yv] ++ #[v1] ++ Array.replicate (43 - (#[yv] ++ #[v1]).size) undef, defers := [] }
  show Code.wpIn _ _ _ _ _ a0 _
  have z0 : a0.tmps.size = 43 := by simp [a0]
  have t00 : a0.tmps.getD 0 undef = yv := by simp [a0]
  have t01 : a0.tmps.getD 1 undef = v1 := by simp [a0]
  let C0 : Nat → Nat → Prop := fun b k => C b k ∧ b < W.heap.size
  have g0 : Held W.heap.size ⟨W, [ph2], [none], C0⟩ := by
   have g := (Held.empty (B := W.heap.size) (X := ⟨W, [], [], C0⟩) ⟨rfl, by simp, by simp, by simp, fun _ _ h => h.2, Nat.le_refl _⟩ 1 0).1
   exact g
  have hC0 : ∀ c v, isD c = true → Rep ⟨w, [], [], C⟩ c v → Rep ⟨W, [ph2], [none], C0⟩ c v := fun c v hd hr =>
   Rep.data (X := ⟨w, [], [], C⟩) (Y := ⟨W, [ph2], [none], C0⟩) (fun b k v hc ha => ⟨hkw b k v (fun h => ha (.inl h)) hc, fun h => by
    rcases h with h | ⟨o, x, c, h1, h2, _⟩
    ·exact ha (.inl h.1)
    ·rcases o with _ | o <;> simp at h2⟩) c v hd hr
  let Γ0 : Ctx := ⟨W.heap.size, ⟨W, [ph2], [none], C0⟩, 43, []⟩
  have hs0 : Sim Γ0 ⟨[(0, .lit yv), (1, .cell [.int .i64 k, .int .i64 x, .int .i64 r, il l])], [ph2]⟩ a0 W :=
   ⟨rfl, z0, Below.refl _ _, [none], g0, Moves.refl _, QN (by rw [t00]; simp only [Rep]) (QN (by rw [t01]; exact hC0 _ _ (by simp [isD, isDL, Zy]) hv1') Qb6)⟩
  have hF0 : Fit P 43 Γ0 := ⟨rfl, fun q cs hq => hC0 _ _ (by simp only [isD]; exact P.gd q cs hq) (hG q cs hq)⟩
  refine wpIn_seq ?_
  have hk0 : ((n * k : Nat) : Int) / (k : Int) = n := by
   rw [Int.natCast_mul, Int.mul_ediv_cancel _ (by omega)]
  have hk3 : ((n * k : Nat) : Int).tdiv (k : Int) = n := by rw [Int.tdiv_eq_ediv_of_nonneg (by omega), hk0]
  refine Qqt (Q := fun _ st' => st'.ob = [⟨t0, 1, cnt, ks .i64 (Zu L n), 0⟩] ∧ look st'.fr 0 = .lit yv ∧ look st'.fr 3 = .own 0 cnt) hF0 hc1 1 (by rfl) t01 ?_ hs0 ?_
  ·simp only [il]
   simp (maxSteps := 4000000) (disch := omega) only [rq, simprocAttr, hl, hk3, hk0]
   refine ⟨shr 0 (.tup [.own 0 cnt, .int .i64 0]), some (0, ⟨t0, 1, cnt, ks .i64 (Zu L n), 0⟩), ?_, ?_⟩
   ·unfold JE
    rw [if_pos rfl]
    exact ⟨ACall.of_vo_at hA' rfl ⟨rfl, rfl⟩, fun o x' e => by cases e; exact ⟨ph2, rfl, by simp [ph2, ph]⟩⟩
   ·simp (maxSteps := 4000000) (disch := omega) only [rq, simprocAttr, shr]
  ·intro st1 a1 W1 ⟨hob1, h10, h13⟩ hs1 t11
   show (Code.seq c2 _).wpIn Fence.wide 4 _ _ a1 W1
   let row : Ob := ⟨t0, 1, cnt, ks .i64 (Zu L n), 0⟩
   have hs1' : Sim Γ0 ⟨[(0, .lit yv), (3, .own 0 cnt)], [row]⟩ a1 W1 := by
    have h : st1 = ⟨st1.fr, [row]⟩ := by rw [← hob1]
    rw [h] at hs1
    exact Le.slots (M := 1) (by simp [h10, h13]) Γ0 a1 W1 rfl hs1
   refine wpIn_seq ?_
   refine Qa3 (Q := fun _ st' => st' = ⟨[(5, .int .i64 0), (0, .lit yv), (3, .own 0 cnt)], [row]⟩) hF0 hc2 [(1, v1)] (by simp only [List.mem_singleton]; rintro _ rfl; exact ⟨rfl, t11⟩) (by simp (maxSteps := 4000000) (disch := omega) only [rq, simprocAttr]) hs1' ?_
   rintro _ a2 W2 rfl hs2 t2
   show (Code.seq c3 _).wpIn Fence.wide 4 _ _ a2 W2
   refine wpIn_seq ?_
   refine Qa3 (Q := fun _ st' => st' = ⟨[(23, .int .i64 0), (22, .int .i64 cnt), (21, .own 0 cnt), (5, .int .i64 0), (0, .lit yv), (3, .own 0 cnt)], [row]⟩) hF0 hc3 [(1, v1)] (by simp only [List.mem_singleton]; rintro _ rfl; exact ⟨rfl, t2 _ (by simp)⟩) (by simp (maxSteps := 4000000) (disch := omega) only [rq, simprocAttr, row]) hs2 ?_
   rintro _ a3 W3 rfl hs3 t3
   show (Code.block 0 (.loop _)).wpIn Fence.wide 4 _ _ a3 W3
   obtain ⟨f1, f2, f3, be, f4, f5, f6⟩ := hs3
   have f1' : a3.defers = [] := f1
   have f2' : a3.tmps.size = 43 := f2
   obtain ⟨e, he, hoke⟩ := f4.get (o := 0) (x := row) rfl
   have f21 := f6 21
   simp only [look, Nat.reduceEqDiff, if_false, if_true, Rep] at f21
   obtain ⟨⟨rw', hrw, _, _, hown⟩, _⟩ := f21
   have hrw' : row = rw' := by simpa using hrw
   subst hrw'
   have hown' := hown rfl
   have he' : be[0]? = some e := he
   simp only [he'] at hown'
   cases e with
   | none => exact absurd hoke.1 (by simp only [row]; omega)
   | some p =>
   obtain ⟨br, capr⟩ := p
   obtain ⟨cur, ⟨frz, hblk, _⟩, hcs, hnc, _, hcl, hcr, hone⟩ := hoke
   simp only [OwnV] at hown'
   have hblk' : W3.heap[br]? = some (.cells cur t0 frz) := hblk
   obtain ⟨sv, hsv⟩ : ∃ sv, sv = Value.slice (some ⟨br, 0, none⟩) cnt capr := ⟨_, rfl⟩
   have hcr' : ∀ {Y : Cx}, RepL Y (ks .i64 (Zu L n)) (cur.toList.take cnt) := fun {Y} => by
    have h := RepL.flat (Y := Y) (by simp [row, ks, flat]) hcr
    have e : row.cs.length = cnt := by simp [row, ks, hcnt]
    rw [e] at h
    exact h
   have hrowR : ∀ {W' : World}, W'.heap[br]? = some (.cells cur t0 frz) → Rep ⟨W', [], [], fun _ _ => False⟩ (.list cnt (ks .i64 (Zu L n))) sv := fun {W'} h => by
    simp only [Rep]
    refine ⟨_, _, cur.toList.take cnt, hsv, hnc, .inr ⟨br, 0, rfl, fun i v hv => ?_⟩, hcr'⟩
    rw [List.getElem?_take] at hv
    split at hv
    ·have hv2 : cur[i]? = some v := by simpa using hv
     refine ⟨⟨by simp [World.cell?, h, hv2], fun h => ?_⟩, hone v (by
      obtain ⟨h1, h2⟩ := Array.getElem?_eq_some_iff.1 hv2
      rw [← h2]; simp)⟩
     rcases h with h | ⟨o, x, c, h1, _⟩
     ·exact h.elim
     ·simp at h1
    ·cases hv
   have hJ3 : J [] W3 := hJ _ W W3 none hJ0 (JS f3) (fun r h => by cases h)
   refine wpIn_block ?_
   refine wpIn_loop (fun a W' => ∃ j, j ≤ cnt ∧ a.defers = [] ∧ a.tmps.size = 43 ∧ a.tmps.getD 0 undef = yv ∧ a.tmps.getD 1 undef = v1 ∧ a.tmps.getD 5 undef = .int .i64 (atN j : Nat) ∧ a.tmps.getD 21 undef = sv ∧ a.tmps.getD 22 undef = .int .i64 cnt ∧ a.tmps.getD 23 undef = .int .i64 j ∧
     W'.heap[br]? = some (.cells cur t0 frz) ∧ (∀ (b k : Nat) (v : Value), ¬ C b k → w.cell? ⟨b, k, none⟩ = some v → W'.cell? ⟨b, k, none⟩ = some v) ∧ J ((List.finRange cnt).take j) W')
    (fun a _ => match a.tmps.getD 23 undef with | .int _ z => cnt - z.toNat | _ => 0) ?_ ?_
   ·refine ⟨0, Nat.zero_le _, f1', f2', ?_, t3 (1, v1) (by simp), ?_, by rw [hsv]; exact hown', ?_, ?_, hblk', ?_, hJ3⟩
    ·have h := f6 0
     simpa [look, Rep] using h
    ·have h := f6 5
     have e0 : atN 0 = 0 := by rw [hatN]; simp
     simpa [look, Rep, e0] using h
    ·have h := f6 22
     simpa [look, Rep] using h
    ·have h := f6 23
     simpa [look, Rep] using h
    ·intro b k v hc hv
     have h := hkw b k v hc hv
     exact (f3.cell (p := ⟨b, k, none⟩) (World.block_lt_of_cell? W _ h)).trans h
   intro a Wj ⟨j, hj, i1, i2, i3, i4, i5, i6, i7, i8, i9, i10, i11⟩
   let ΓW : World → Ctx := fun W' => ⟨W'.heap.size, ⟨W', [], [], fun _ _ => False⟩, 43, []⟩
   have hF : ∀ {W' : World}, (∀ (b k : Nat) (v : Value), ¬ C b k → w.cell? ⟨b, k, none⟩ = some v → W'.cell? ⟨b, k, none⟩ = some v) → Fit P 43 (ΓW W') := fun {W'} h => ⟨rfl, fun q cs hq => hun h _ _ (by simp only [isD]; exact P.gd q cs hq) (hG q cs hq)⟩
   have hsA : Sim (ΓW Wj) ⟨[(0, .lit yv), (1, .cell [.int .i64 k, .int .i64 x, .int .i64 r, .lit u3]), (5, .int .i64 (atN j : Nat)), (21, .list cnt (ks .i64 (Zu L n))), (22, .int .i64 cnt), (23, .int .i64 j)], []⟩ a Wj :=
    Qvv i1 i2 (QN (by rw [i3]; simp only [Rep]) (QN (by rw [i4]; exact hlit i10) (QN (by rw [i5]; simp only [Rep]) (QN (by rw [i6]; exact hrowR i9) (QN (by rw [i7]; simp only [Rep]) (QN (by rw [i8]; simp only [Rep]) Qb6))))))
   have hI : ∀ {qs : List AO} {a : Act}, Qfe 1 qs = true → Qfe 21 qs = true → a.tmps.getD 1 undef = v1 → a.tmps.getD 21 undef = sv → ∀ p ∈ [(1, v1), (21, sv)], Qfe p.1 qs = true ∧ a.tmps.getD p.1 undef = p.2 := fun h1 h2 h3 h4 p hp => by
    simp only [List.mem_cons, List.not_mem_nil, or_false] at hp
    rcases hp with rfl | rfl
    ·exact ⟨h1, h3⟩
    ·exact ⟨h2, h4⟩
   refine wpIn_seq ?_
   refine Qa3 (Q := fun _ st' => st' = ⟨[(24, .bool (decide ((j : Int) < cnt))), (0, .lit yv), (1, .cell [.int .i64 k, .int .i64 x, .int .i64 r, .lit u3]), (5, .int .i64 (atN j : Nat)), (21, .list cnt (ks .i64 (Zu L n))), (22, .int .i64 cnt), (23, .int .i64 j)], []⟩) (hF i10) hd1 [(1, v1), (21, sv)] (hI rfl rfl i4 i6) (by simp (maxSteps := 4000000) (disch := omega) only [rq, simprocAttr]) hsA ?_
   rintro _ aB WB rfl hsB tB
   have bW : Below Wj.heap.size Wj WB := hsB.2.2.1
   show (Code.seq (.cond _ .skip (.exit 0)) _).wpIn Fence.wide 4 _ _ aB WB
   have h24 : aB.eval (.tmp 24) = .bool (decide ((j : Int) < cnt)) := by
    obtain ⟨_, _, _, _, _, _, h⟩ := hsB
    have h : Rep _ (.bool _) (aB.tmps.getD 24 undef) := h 24
    simp only [Rep] at h
    exact h
   refine wpIn_seq ?_
   by_cases hjc : j < cnt
   ·have e24 : decide ((j : Int) < cnt) = true := by simp; omega
    rw [e24] at h24 hsB
    obtain ⟨m, p1, p2, p3, p4, p5, p6⟩ := pf j hjc
    have la : (ks .i64 (Zu L n)).drop j = .int .i64 m :: (ks .i64 (Zu L n)).drop (j + 1) := by
     have h := QhQ (K := .i64) (l := Zu L n) (i := j) (by omega)
     rw [p1, ← Qa6] at h
     exact h
    refine wpIn_cond_true h24 (wpIn_skip ?_)
    show (Code.seq (.block 1 (.seq d5 _)) _).wpIn Fence.wide 4 _ _ aB WB
    obtain ⟨mk, hmk⟩ : ∃ mk, m * k = mk := ⟨_, rfl⟩
    rw [hmk] at p4 p5 p6
    have emk : (m : Int) * (k : Int) = mk := by rw [← hmk]; simp
    have e8 : ((atN j : Nat) : Int) + (mk : Int) = ((atN (j + 1) : Nat) : Int) := by omega
    obtain ⟨nk, hnk'⟩ : ∃ nk, n * k = nk := ⟨_, rfl⟩
    rw [hnk'] at p6 hnk hcap hl
    have hm4 : (m : Int) ≤ 4000 := by omega
    refine wpIn_seq (wpIn_block (wpIn_seq ?_))
    refine Qa3 (Q := fun _ st' => Le 0 st' ⟨[(7, .int .i64 m), (0, .lit yv), (1, .cell [.int .i64 k, .int .i64 x, .int .i64 r, .lit u3]), (5, .int .i64 (atN j : Nat)), (21, .list cnt (ks .i64 (Zu L n))), (22, .int .i64 cnt), (23, .int .i64 j)], []⟩) (hF i10) hd5 [(1, v1), (21, sv)] (hI rfl rfl (tB (1, v1) (by simp)) (tB (21, sv) (by simp)))
     (by simp (maxSteps := 4000000) (disch := omega) only [rq, simprocAttr, la, Qd]; exact Le.slots (by simp [Am.look])) hsB ?_
    intro st5 a5 W5 hle5 hs5' t5
    have hs5 := hle5 _ _ _ rfl hs5'
    show (Code.seq d6 _).wpIn Fence.wide 4 _ _ a5 W5
    refine wpIn_seq ?_
    refine Qa3 (Q := fun _ st' => Le 0 st' ⟨[(8, .int .i64 (atN (j + 1) : Nat)), (0, .lit yv), (1, .cell [.int .i64 k, .int .i64 x, .int .i64 r, .lit u3]), (5, .int .i64 (atN j : Nat)), (21, .list cnt (ks .i64 (Zu L n))), (22, .int .i64 cnt), (23, .int .i64 j)], []⟩) (hF i10) hd6 [(1, v1), (21, sv)] (hI rfl rfl (t5 (1, v1) (by simp)) (t5 (21, sv) (by simp)))
     (by simp (maxSteps := 4000000) (disch := omega) only [rq, simprocAttr, emk, e8]; exact Le.slots (by simp [Am.look])) hs5 ?_
    intro st6 a6 W6 hle6 hs6' t6
    have hs6 := hle6 _ _ _ rfl hs6'
    show (Code.seq (.seq (.region id7 ops false) _) d8).wpIn Fence.wide 4 _ _ a6 W6
    refine wpIn_seq (wpIn_seq (wpIn_region_list ?_))
    rw [hops]
    refine Qby l5 _ a6 W6 (Qu ?_ _ _ _ (Qdf (Q := fun _ st' => Le 0 st' ⟨[(33, .lit yv), (0, .lit yv), (35, .lit u3), (36, .int .i64 (atN j : Nat)), (37, .int .i64 (atN (j + 1) : Nat)), (8, .int .i64 (atN (j + 1) : Nat)), (22, .int .i64 cnt), (23, .int .i64 j)], []⟩) (hF i10) hm5 [(1, v1), (21, sv)] (hI rfl rfl (t6 (1, v1) (by simp)) (t6 (21, sv) (by simp)))
     (by simp (maxSteps := 4000000) (disch := omega) only [rq, simprocAttr]; exact Le.slots (by simp [Am.look])) hs6))
    rintro _ a7 W7 ⟨rfl, st7, hle7, hs7', t7⟩
    have hs7 := hle7 _ _ _ rfl hs7'
    show wpListIn Fence.wide 4 _ _ _ (oS :: oY :: l1) a7 W7
    have W7b : Below Wj.heap.size Wj W7 := hs7.2.2.1
    have hd7 : a7.defers = [] := hs7.1
    have hz7 : a7.tmps.size = 43 := hs7.2.1
    have f7 : ∀ {i : Nat} {v : Value}, Rep ⟨W7, [], [], fun _ _ => False⟩ (.lit v) (a7.tmps.getD i undef) → a7.tmps.getD i undef = v := fun h => by simpa only [Rep] using h
    have f33 : a7.tmps.getD 33 undef = yv := by obtain ⟨_, _, _, _, _, _, h⟩ := hs7; have h : Rep _ (.lit yv) (a7.tmps.getD 33 undef) := h 33; simpa only [Rep] using h
    have f35 : a7.tmps.getD 35 undef = u3 := by obtain ⟨_, _, _, _, _, _, h⟩ := hs7; have h : Rep _ (.lit u3) (a7.tmps.getD 35 undef) := h 35; simpa only [Rep] using h
    have f8 : a7.tmps.getD 8 undef = .int .i64 (atN (j + 1) : Nat) := by obtain ⟨_, _, _, _, _, _, h⟩ := hs7; have h : Rep _ (.int .i64 _) (a7.tmps.getD 8 undef) := h 8; simpa only [Rep] using h
    have f22 : a7.tmps.getD 22 undef = .int .i64 cnt := by obtain ⟨_, _, _, _, _, _, h⟩ := hs7; have h : Rep _ (.int .i64 _) (a7.tmps.getD 22 undef) := h 22; simpa only [Rep] using h
    have f23 : a7.tmps.getD 23 undef = .int .i64 j := by obtain ⟨_, _, _, _, _, _, h⟩ := hs7; have h : Rep _ (.int .i64 _) (a7.tmps.getD 23 undef) := h 23; simpa only [Rep] using h
    obtain ⟨be7, g7, _, hη, _⟩ := hs7.eta (hF i10).2
    obtain ⟨cS, dS, _, gS⟩ := ZU hoS
    obtain ⟨tS, eS, opS, uS, zS⟩ := QqJ (QgY cS (by intro h; cases h))
    have gS' : oS.guard = none := by
     rcases gS with ⟨h, _⟩ | ⟨_, _, _, _, _, h⟩
     ·exact h
     ·cases h
    have ex : a7.eval (.tmp 35) = .slice sa nk cap := by rw [← hl]; exact f35.trans e3
    have hrun := Qld (X := ⟨W7, [], be7, fun _ _ => False⟩) g7 hη opS uS zS ex (l := (atN j : Nat)) (h := (atN (j + 1) : Nat)) (by simp [loA, opd, look]) (by simp [hiA, opd, look]) (by omega) (by omega) (by omega)
    simp only [Int.toNat_natCast] at hrun
    unfold wpListIn
    rw [if_pos (by simp [Region.wanted, gS'])]
    unfold Oper.wpIn
    refine ⟨fun _ _ => trivial, ?_⟩
    rw [Qvd, hrun]
    show wpListIn Fence.wide 4 _ _ _ (oY :: l1) (a7.put oS.dst _) W7
    rw [← dS]
    obtain ⟨cY, dY, _, gY⟩ := ZU hoY
    obtain ⟨cl, opY, calY, argY⟩ := QbN cY
    have gY' : oY.guard = none := by
     rcases gY with ⟨h, _⟩ | ⟨_, _, _, _, _, h⟩
     ·exact h
     ·cases h
    have argY' : cl.args = #[.tmp 38] := Array.ext' argY.symm
    unfold wpListIn
    rw [if_pos (by simp [Region.wanted, gY'])]
    have hJ7 : J ((List.finRange cnt).take j) W7 := hJ _ Wj W7 none i11 (JS W7b) (fun r h => by cases h)
    have hlen : ((List.finRange cnt).take j).length < cnt := by simp; omega
    obtain ⟨vj, hvj⟩ : ∃ vj : Value, vj = .slice (if cap = atN j then sa else sa.map (·.add (atN j * 1))) (atN (j + 1) - atN j) (cap - atN j) := ⟨_, rfl⟩
    have hY' := hY ((List.finRange cnt).take j) ⟨j, hjc⟩ W7 hJ7 hlen
    simp only at hY'
    rw [← hvj] at hY' ⊢
    have p38 : (a7.put (some 38) vj).tmps.getD 38 undef = vj := by simp [Act.put, hz7]
    have p33 : (a7.put (some 38) vj).tmps.getD 33 undef = .func (.yield ll) #[] #[] := by rw [Xt (by simp), f33]; exact hyv.symm
    refine Qnr opY calY argY' p33 p38 hY' ?_
    rw [← dY]
    have z8 : ∀ bb : Bool, ((a7.put (some 38) vj).put (some 39) (.bool bb)).tmps.size = 43 := fun bb => by rw [QeG, QeG]; exact hz7
    have p39 : ∀ bb : Bool, ((a7.put (some 38) vj).put (some 39) (.bool bb)).tmps.getD 39 undef = .bool bb := fun bb => by simp [Act.put, hz7]
    have pO : ∀ (bb : Bool) (i : Nat), i ≠ 38 → i ≠ 39 → ((a7.put (some 38) vj).put (some 39) (.bool bb)).tmps.getD i undef = a7.tmps.getD i undef := fun bb i h1 h2 => by
     rw [Xt (by simpa using fun h => h2 h.symm), Xt (by simpa using fun h => h1 h.symm)]
    have d8' : ∀ bb : Bool, ((a7.put (some 38) vj).put (some 39) (.bool bb)).defers = [] := fun bb => by rw [QdG, QdG]; exact hd7
    have hI3 : ∀ {qs : List AO} {a : Act}, Qfe 0 qs = true → Qfe 1 qs = true → Qfe 21 qs = true → a.tmps.getD 0 undef = yv → a.tmps.getD 1 undef = v1 → a.tmps.getD 21 undef = sv → ∀ p ∈ [(0, yv), (1, v1), (21, sv)], Qfe p.1 qs = true ∧ a.tmps.getD p.1 undef = p.2 := fun h1 h2 h3 h4 h5 h6 p hp => by
     simp only [List.mem_cons, List.not_mem_nil, or_false] at hp
     rcases hp with rfl | rfl | rfl
     ·exact ⟨h1, h4⟩
     ·exact ⟨h2, h5⟩
     ·exact ⟨h3, h6⟩
    have f0 : a7.tmps.getD 0 undef = yv := by obtain ⟨_, _, _, _, _, _, h⟩ := hs7; have h : Rep _ (.lit yv) (a7.tmps.getD 0 undef) := h 0; simpa only [Rep] using h
    have q0 : ∀ bb : Bool, _ := fun bb => (pO bb 0 (by omega) (by omega)).trans f0
    have q1 : ∀ bb : Bool, _ := fun bb => (pO bb 1 (by omega) (by omega)).trans (t7 (1, v1) (by simp))
    have q21 : ∀ bb : Bool, _ := fun bb => (pO bb 21 (by omega) (by omega)).trans (t7 (21, sv) (by simp))
    rintro e W8 (⟨rfl, hJ8, hK8⟩ | ⟨rfl, hX8⟩)
    ·refine ⟨true, rfl, ?_⟩
     have hbr7 : W7.heap[br]? = some (.cells cur t0 frz) := (W7b.block br (Array.getElem?_eq_some_iff.1 i9).1).trans i9
     have hbr8 : W8.heap[br]? = some (.cells cur t0 frz) := (hK8.1 br cur t0 frz hbr7 (by simp)).trans hbr7
     have hk8 : ∀ (b k : Nat) (v : Value), ¬ C b k → w.cell? ⟨b, k, none⟩ = some v → W8.cell? ⟨b, k, none⟩ = some v := fun b k v hc hv => by
      have h1 := i10 b k v hc hv
      exact hK8.2 b k v hc ((W7b.cell (p := ⟨b, k, none⟩) (World.block_lt_of_cell? Wj _ h1)).trans h1)
     have hs8 : Sim (ΓW W8) ⟨[(39, .bool true), (8, .int .i64 (atN (j + 1) : Nat)), (22, .int .i64 cnt), (23, .int .i64 j)], []⟩ ((a7.put (some 38) vj).put (some 39) (.bool true)) W8 :=
      Qvv (d8' true) (z8 true) (QN (by rw [p39]; simp only [Rep]) (QN (by rw [pO true 8 (by omega) (by omega), f8]; simp only [Rep]) (QN (by rw [pO true 22 (by omega) (by omega), f22]; simp only [Rep]) (QN (by rw [pO true 23 (by omega) (by omega), f23]; simp only [Rep]) Qb6))))
     refine Qu ?_ _ _ _ (Qdf (Q := fun _ st' => Le 0 st' ⟨[(40, .bool false), (8, .int .i64 (atN (j + 1) : Nat)), (22, .int .i64 cnt), (23, .int .i64 j)], []⟩) (hF hk8) hm1 [(0, yv), (1, v1), (21, sv)] (hI3 rfl rfl rfl (q0 true) (q1 true) (q21 true))
      (by simp (maxSteps := 4000000) (disch := omega) only [rq, simprocAttr, Bool.not_true]; exact Le.slots (by simp [Am.look])) hs8)
     rintro _ a9 W9 ⟨rfl, st9, hle9, hs9', t9⟩
     have hs9 := hle9 _ _ _ rfl hs9'
     show (Code.cond _ .ret .skip).wpIn Fence.wide 4 _ _ a9 W9
     have h40 : a9.eval (.tmp 40) = .bool false := by obtain ⟨_, _, _, _, _, _, h⟩ := hs9; have h : Rep _ (.bool _) (a9.tmps.getD 40 undef) := h 40; simp only [Rep] at h; exact h
     refine wpIn_cond_false h40 (wpIn_skip ?_)
     show d8.wpIn Fence.wide 4 _ _ a9 W9
     refine Qa3 (Q := fun _ st' => Le 0 st' ⟨[(5, .int .i64 (atN (j + 1) : Nat)), (22, .int .i64 cnt), (23, .int .i64 j)], []⟩) (hF hk8) hd8 [(0, yv), (1, v1), (21, sv)] (hI3 rfl rfl rfl (t9 (0, yv) (by simp)) (t9 (1, v1) (by simp)) (t9 (21, sv) (by simp)))
      (by simp (maxSteps := 4000000) (disch := omega) only [rq, simprocAttr]; exact Le.slots (by simp [Am.look])) hs9 ?_
     intro stA aA WA hleA hsA' tA
     have hsA2 := hleA _ _ _ rfl hsA'
     show d9.wpIn Fence.wide 4 _ _ aA WA
     refine Qa3 (Q := fun _ st' => Le 0 st' ⟨[(5, .int .i64 (atN (j + 1) : Nat)), (22, .int .i64 cnt), (23, .int .i64 ((j + 1 : Nat) : Int))], []⟩) (hF hk8) hd9 [(0, yv), (1, v1), (21, sv)] (hI3 rfl rfl rfl (tA (0, yv) (by simp)) (tA (1, v1) (by simp)) (tA (21, sv) (by simp)))
      (by simp (maxSteps := 4000000) (disch := omega) only [rq, simprocAttr]; exact Le.slots (by simp [Am.look])) hsA2 ?_
     intro stC aC WC hleC hsC' tC
     have hsC := hleC _ _ _ rfl hsC'
     have WCb : Below W8.heap.size W8 WC := hsC.2.2.1
     obtain ⟨h1, h2, _, _, _, _, hC⟩ := hsC
     have c5 : aC.tmps.getD 5 undef = .int .i64 (atN (j + 1) : Nat) := by have h : Rep _ (.int .i64 _) (aC.tmps.getD 5 undef) := hC 5; simpa only [Rep] using h
     have c22 : aC.tmps.getD 22 undef = .int .i64 cnt := by have h : Rep _ (.int .i64 _) (aC.tmps.getD 22 undef) := hC 22; simpa only [Rep] using h
     have c23 : aC.tmps.getD 23 undef = .int .i64 ((j + 1 : Nat) : Int) := by have h : Rep _ (.int .i64 _) (aC.tmps.getD 23 undef) := hC 23; simpa only [Rep] using h
     refine ⟨⟨j + 1, by omega, h1, h2, tC (0, yv) (by simp), tC (1, v1) (by simp), c5, tC (21, sv) (by simp), c22, c23, (WCb.block br (Array.getElem?_eq_some_iff.1 hbr8).1).trans hbr8, fun b k v hc hv => ?_, ?_⟩, ?_⟩
     ·have h := hk8 b k v hc hv
      exact (WCb.cell (p := ⟨b, k, none⟩) (World.block_lt_of_cell? W8 _ h)).trans h
     ·rw [Qqe hjc]
      exact hJ _ W8 WC none hJ8 (JS WCb) (fun r h => by cases h)
     ·simp only [c23, i8, Int.toNat_natCast]
      omega
    ·refine ⟨false, rfl, ?_⟩
     have hs8 : Sim (ΓW W8) ⟨[(39, .bool false)], []⟩ ((a7.put (some 38) vj).put (some 39) (.bool false)) W8 :=
      Qvv (d8' false) (z8 false) (QN (by rw [p39]; simp only [Rep]) Qb6)
     let P0 : Prg := ⟨P.prog, [], fun _ _ h => by cases h⟩
     refine Qu ?_ _ _ _ (Qdf (P := P0) (N := 43) (Γ := ΓW W8) (Q := fun _ st' => Le 0 st' ⟨[(40, .bool true)], []⟩) ⟨rfl, fun _ _ h => by cases h⟩ hm1 [] (fun p hp => by cases hp)
      (by simp (maxSteps := 4000000) (disch := omega) only [rq, simprocAttr, Bool.not_false]; exact Le.slots (by simp [Am.look])) hs8)
     rintro _ a9 W9 ⟨rfl, st9, hle9, hs9', t9⟩
     have hs9 := hle9 _ _ _ rfl hs9'
     show (Code.cond _ .ret .skip).wpIn Fence.wide 4 _ _ a9 W9
     have h40 : a9.eval (.tmp 40) = .bool true := by obtain ⟨_, _, _, _, _, _, h⟩ := hs9; have h : Rep _ (.bool _) (a9.tmps.getD 40 undef) := h 40; simp only [Rep] at h; exact h
     refine wpIn_cond_true h40 (wpIn_ret ?_)
     have hX9 := hJx _ W8 W9 none hX8 (JS hs9.2.2.1) (fun r h => by cases h)
     exact ⟨hs9.1, .tuple #[], results_none (Array.ext' hrl) _ _ _, ⟨_, rfl⟩, .inr ⟨_, trivial, hX9⟩⟩
   ·have e24 : decide ((j : Int) < cnt) = false := by simp; omega
    rw [e24] at h24
    refine wpIn_cond_false h24 (wpIn_exit ?_)
    have hjc' : j = cnt := by omega
    rw [hjc', List.take_of_length_le (by simp)] at i11
    have hJB : J (List.finRange cnt) WB := hJ _ Wj WB none i11 (JS bW) (fun r h => by cases h)
    have hdB : aB.defers = [] := hsB.1
    exact ⟨hdB, .tuple #[], results_none (Array.ext' hrl) _ _ _, ⟨_, rfl⟩, .inl ⟨_, rfl, hJB⟩⟩
def QfN (g : Nat) (P : Prg) (f : Nat) : Prop := ∀ (c x r : Int) (l : List Int), VC P f [clA c x r l] (.fn (.func g) [] [.cell [.int .i64 c, .int .i64 x, .int .i64 r, il l]])
theorem Qoi {P : Prg} {f g t0 : Nat} (b : Qf P f 4 [.tmp 2] (Qbi g t0)) : QfN g P f := by
 intro c x r l
 refine VC.of_walk 1 (by simp [isDL, isD, Zy, clA]) (by simp [isD, isDL, Zy]) (ACall.of_body b (by simp) ?_)
 simp (maxSteps := 4000000) (disch := omega) only [rq, simprocAttr, Qbi, clA, il]
 simp [QS, QG, frzL, QD, isDL, isD, frzL_T _ (Qv .i32 _)]
def QW (c r : Int) (l : List Int) : List (List Int) := (List.range (Zu (Qc r).toNat (l.length / c.toNat)).length).map (ZT ((Qc r).toNat * c.toNat) l)
theorem Qaf {c x r : Int} {l : List Int} (h : ZF c x r l = 0) : ∃ k n : Nat, c = k ∧ 1 ≤ k ∧ k ≤ 1000 ∧ l.length = n * k ∧ okA r n ∧ l.length ≤ 4000 := by
 unfold ZF at h
 split at h
 ·cases h
 rename_i h1
 split at h
 ·cases h
 rename_i h2
 split at h
 ·cases h
 rename_i h3
 have h3' : XM c x r (l.length / c) = 0 := by simpa using h3
 have h2' : (l.length : Int) % c = 0 := by simpa using h2
 obtain ⟨k, rfl⟩ : ∃ k : Nat, c = k := ⟨c.toNat, by omega⟩
 have e1 : (l.length : Int) / (k : Int) = ((l.length / k : Nat) : Int) := by simp
 have e2 : l.length % k = 0 := by exact_mod_cast h2'
 rw [e1] at h3'
 have e3 := Nat.div_add_mod l.length k
 rw [e2, Nat.add_zero, Nat.mul_comm] at e3
 unfold XM at h3'
 split at h3'
 ·cases h3'
 rename_i a1
 split at h3'
 ·cases h3'
 rename_i a2
 split at h3'
 ·cases h3'
 rename_i a3
 split at h3'
 ·cases h3'
 rename_i a4
 obtain ⟨n, hn⟩ : ∃ n, l.length / k = n := ⟨_, rfl⟩
 rw [hn] at e3 a2 a3 a4
 have a5 : QH k x = 0 := by simpa using a1
 have a6 : Qh9 r n = 0 := by simpa using a4
 rcases QX (k : Int) x with h4 | ⟨_, h5, h6, h7⟩
 ·omega
 have hle : n * k ≤ 4000 := by
  have h8 : (n : Int) ≤ 4000 / (k : Int) := by omega
  have h9 := Int.mul_le_of_le_ediv (a := (n : Int)) (b := 4000) (c := (k : Int)) (by omega) h8
  have h10 : ((n * k : Nat) : Int) ≤ 4000 := by rw [Int.natCast_mul]; exact h9
  omega
 have hn4 : n ≤ 4000 := Nat.le_trans (Nat.le_mul_of_pos_right n (by omega)) hle
 refine ⟨k, n, rfl, by omega, by omega, e3.symm, ?_, by omega⟩
 unfold Qh9 at a6
 split at a6
 ·cases a6
 split at a6
 ·cases a6
 split at a6
 ·cases a6
 rename_i b1 b2 b3
 refine ⟨by omega, by omega, by omega, by omega, ?_⟩
 have hlong : 1 ≤ Qc r := ZM r
 obtain ⟨L, hLe⟩ : ∃ L : Nat, Qc r = L := ⟨(Qc r).toNat, by omega⟩
 rw [hLe, Int.toNat_natCast, Int.toNat_natCast, Xv]
 rw [hLe] at b3
 have h1 : (n : Int) + (L : Int) - 1 = ((n - 1 + L : Nat) : Int) := by omega
 rw [h1, ← Int.natCast_ediv, Nat.add_div_right _ (by omega)] at b3
 omega
theorem Qfb (c r : Int) (l : List Int) : (QW c r l).length = (Zu (Qc r).toNat (l.length / c.toNat)).length := by simp [QW]
theorem QcK (c x r : Int) (l : List Int) : ZF c x r l = 0 ∨ ZF c x r l = 8 := by
 unfold ZF; repeat' split
 all_goals simp
theorem QgF (Lc : Nat) (l : List Int) : ∀ m : Nat, ((List.range m).map (ZT Lc l)).flatten = l.take (m * Lc)
 | 0 => by simp
 | m + 1 => by
  rw [List.range_succ, List.map_append, List.flatten_append, QgF Lc l m, Nat.add_mul, Nat.one_mul, List.take_add]
  simp [ZT]
theorem QdH {c x r : Int} {l : List Int} (h : ZF c x r l = 0) : (QW c r l).flatten = l := by
 obtain ⟨k, n, rfl, h1, h2, h3, ⟨o1, o2, o3, o4, o5⟩, h4⟩ := Qaf h
 unfold QW
 rw [QgF, Int.toNat_natCast, h3, Nat.mul_div_cancel _ (by omega), Xv, List.take_of_length_le]
 have hL : 1 ≤ (Qc r).toNat := by have := ZM r; omega
 have g2 : n - 1 < (n - 1) / (Qc r).toNat * (Qc r).toNat + (Qc r).toNat := Nat.lt_div_mul_add (by omega)
 rw [h3, ← Nat.mul_assoc, Nat.add_mul, Nat.one_mul]
 refine Nat.mul_le_mul_right _ ?_
 generalize (n - 1) / (Qc r).toNat * (Qc r).toNat = w at *
 omega
theorem Qb7 {c x r : Int} {l : List Int} (h : ZF c x r l = 0) : (QW c r l).length ≤ 1000 := by
 obtain ⟨k, n, rfl, h1, h2, h3, ⟨o1, o2, o3, o4, o5⟩, h4⟩ := Qaf h
 rw [Qfb, Int.toNat_natCast, h3, Nat.mul_div_cancel _ (by omega)]
 rwa [Int.toNat_natCast] at o5
def QrM (c : Nat) : Nat := (2 * c) % 18446744073709551616 ^^^ (if 9223372036854775808 ≤ c then 4823603603198064275 else 0)
def QeE : Nat → Nat → Nat
 | 0, c => c
 | k + 1, c => QeE k (QrM c)
theorem Qpd (c : Nat) : QrM c < 18446744073709551616 := by
 unfold QrM
 have : (if 9223372036854775808 ≤ c then 4823603603198064275 else 0) < 2 ^ 64 := by split <;> decide
 exact Nat.xor_lt_two_pow (n := 64) (Nat.mod_lt _ (by decide)) this
theorem Qhw : ∀ (k : Nat) {c : Nat}, c < 18446744073709551616 → QeE k c < 18446744073709551616
 | 0, _, h => h
 | k + 1, c, _ => Qhw k (Qpd c)
theorem Qjq : ∀ (k c : Nat), QeE (k + 1) c = QrM (QeE k c)
 | 0, _ => rfl
 | k + 1, c => by rw [QeE, Qjq k, QeE]
theorem Qs2 (c : Nat) (h : c < 18446744073709551616) : (9223372036854775808 ≤ c) ↔ c.testBit 63 = true := by
 constructor
 ·intro h2
  rw [Nat.testBit_eq_decide_div_mod_eq]
  have : c / 2 ^ 63 = 1 := by omega
  rw [this]; rfl
 ·intro h2
  exact Nat.ge_two_pow_of_testBit h2
theorem QrL {x l : Nat} (hx : x < 18446744073709551616) (hl : l < 9223372036854775808) : QrM (x ^^^ l) = QrM x ^^^ 2 * l := by
 have hxl : x ^^^ l < 18446744073709551616 := Nat.xor_lt_two_pow (n := 64) hx (by omega)
 have e1 : (9223372036854775808 ≤ x ^^^ l) ↔ (9223372036854775808 ≤ x) := by
  rw [Qs2 _ hxl, Qs2 _ hx, Nat.testBit_xor, Nat.testBit_lt_two_pow (show l < 2 ^ 63 from hl), Bool.xor_false]
 have e2 : (2 * (x ^^^ l)) % 18446744073709551616 = (2 * x) % 18446744073709551616 ^^^ 2 * l := by
  apply Nat.eq_of_testBit_eq
  intro i
  rw [show (18446744073709551616 : Nat) = 2 ^ 64 from rfl, Nat.testBit_mod_two_pow, Nat.testBit_xor, Nat.testBit_mod_two_pow]
  rw [show 2 * (x ^^^ l) = 2 ^ 1 * (x ^^^ l) from rfl, show 2 * x = 2 ^ 1 * x from rfl, show 2 * l = 2 ^ 1 * l from rfl, Nat.testBit_two_pow_mul, Nat.testBit_two_pow_mul, Nat.testBit_two_pow_mul, Nat.testBit_xor]
  by_cases h : i < 64
  ·by_cases h1 : 1 ≤ i <;> simp [h, h1]
  ·have h2 : l.testBit (i - 1) = false := Nat.testBit_lt_two_pow (Nat.lt_of_lt_of_le (show l < 2 ^ 63 from hl) (Nat.pow_le_pow_right (by decide) (by omega)))
   simp [h, h2]
 unfold QrM
 rw [e2]
 by_cases h : 9223372036854775808 ≤ x
 ·rw [if_pos h, if_pos (e1.2 h), Nat.xor_assoc, Nat.xor_assoc, Nat.xor_comm (2 * l)]
 ·rw [if_neg h, if_neg (fun h2 => h (e1.1 h2)), Nat.xor_assoc, Nat.xor_assoc, Nat.xor_comm (2 * l)]
theorem QmN : ∀ (k : Nat) {x l : Nat}, k ≤ 64 → x < 18446744073709551616 → l < 2 ^ (64 - k) → QeE k (x ^^^ l) = QeE k x ^^^ 2 ^ k * l
 | 0, x, l, _, _, _ => by simp [QeE]
 | k + 1, x, l, hk, hx, hl => by
  have h1 : l < 9223372036854775808 := Nat.lt_of_lt_of_le hl (Nat.pow_le_pow_right (by omega) (by omega : 64 - (k + 1) ≤ 63))
  have h2 : 2 * l < 2 ^ (64 - k) := by
   rw [show 64 - k = (64 - (k + 1)) + 1 by omega, Nat.pow_succ]; omega
  rw [QeE, QrL hx h1, QmN k (by omega) (Qpd x) h2, QeE, Nat.pow_succ, Nat.mul_assoc]
def QuC (s b : Nat) : Nat := QeE 8 (s ^^^ b * 72057594037927936)
theorem Qtb {s b : Nat} (hs : s < 18446744073709551616) : s ^^^ b * 72057594037927936 = (s / 72057594037927936 ^^^ b) * 72057594037927936 ^^^ s % 72057594037927936 := by
 have h := Qi1 s 56
 rw [show (2 : Nat) ^ 56 = 72057594037927936 from rfl] at h
 have e : (s / 72057594037927936 ^^^ b) * 72057594037927936 = s / 72057594037927936 * 72057594037927936 ^^^ b * 72057594037927936 := by
  apply Nat.eq_of_testBit_eq
  intro i
  rw [Nat.testBit_xor, show (72057594037927936 : Nat) = 2 ^ 56 from rfl, Nat.mul_comm _ (2 ^ 56), Nat.mul_comm _ (2 ^ 56), Nat.mul_comm b, Nat.testBit_two_pow_mul, Nat.testBit_two_pow_mul, Nat.testBit_two_pow_mul, Nat.testBit_xor]
  by_cases h : 56 ≤ i <;> simp [h]
 rw [e, Nat.xor_comm (s / 72057594037927936 * 72057594037927936), Nat.xor_assoc, Nat.mul_comm (s / 72057594037927936), Nat.xor_comm (72057594037927936 * _), ← h, Nat.xor_comm]
theorem QnF {s b : Nat} (hs : s < 18446744073709551616) (hb : b < 256) : QuC s b = s * 256 % 18446744073709551616 ^^^ QeE 8 ((s / 72057594037927936 ^^^ b) * 72057594037927936) := by
 have h0 : (s / 72057594037927936 ^^^ b) < 2 ^ 8 := Nat.xor_lt_two_pow (by omega) hb
 rw [QuC, Qtb hs, QmN 8 (by omega) (by omega) (by show s % 72057594037927936 < 2 ^ 56; exact Nat.mod_lt _ (by decide)), Nat.xor_comm]
 congr 1
 omega
theorem Qtq {s b : Nat} (hs : s < 18446744073709551616) (hb : b < 256) : QuC s b < 18446744073709551616 := Qhw 8 (Nat.xor_lt_two_pow (n := 64) hs (by omega))
def ZW (s : Nat) (l : List UInt8) : Nat := l.foldl (fun s b => QuC s b.toNat) s
theorem Qpe {s : Nat} {l : List UInt8} {k : Nat} (h : k < l.length) : ZW s (l.take (k + 1)) = QuC (ZW s (l.take k)) (l[k]).toNat := by
 rw [List.take_succ_eq_append_getElem h, ZW, List.foldl_append]; rfl
theorem Qhx : ∀ {l : List UInt8} {s : Nat}, s < 18446744073709551616 → ZW s l < 18446744073709551616
 | [], _, h => h
 | b :: l, s, h => Qhx (l := l) (Qtq h (UInt8.toNat_lt b))
def QiX (i : Nat) : List Int := (List.range 256).map fun j => if j < i then ((QeE 8 (j * 72057594037927936) : Nat) : Int) else 0
theorem Xg (i : Nat) : (QiX i).length = 256 := by simp [QiX]
theorem QeD {i j : Nat} (h : j < 256) : (QiX i)[j]'(by rw [Xg]; exact h) = if j < i then ((QeE 8 (j * 72057594037927936) : Nat) : Int) else 0 := by simp [QiX]
theorem QrC {i : Nat} (h : i < 256) : (QiX i).set i ((QeE 8 (i * 72057594037927936) : Nat) : Int) = QiX (i + 1) := by
 refine List.ext_getElem (by simp [Xg]) fun j h1 h2 => ?_
 have hj : j < 256 := by simpa [Xg] using h2
 rw [List.getElem_set, QeD hj]
 split
 ·rename_i e; subst e; rw [QeD hj, if_pos (by omega)]
 ·rename_i e; rw [QeD hj]
  by_cases h3 : j < i
  ·rw [if_pos h3, if_pos (by omega)]
  ·rw [if_neg h3, if_neg (by omega)]
theorem Qtu (c : Nat) : Qi true .u64 (c : Int) 1 = some (.int .u64 (((2 * c) % 18446744073709551616 : Nat) : Int)) := by
 have h3 : ¬ ((1 : Int) < 0) := by omega
 simp only [Qi, if_neg h3, if_true]
 have h5 : (min (1 : Int).toNat IntKind.u64.bits) = 1 := rfl
 rw [h5, Xl]
 congr 2
 omega
theorem Qpf (c : Nat) : Qi true .u64 (c : Int) 8 = some (.int .u64 ((c * 256 % 18446744073709551616 : Nat) : Int)) := by
 have h3 : ¬ ((8 : Int) < 0) := by omega
 simp only [Qi, if_neg h3, if_true]
 have h5 : (min (8 : Int).toNat IntKind.u64.bits) = 8 := rfl
 rw [h5, Xl]
 congr 2
def QiB (P : Prg) (f : Nat) : Prop := VC P f [] (.cell (ks .u64 (QiX 256)))
set_option maxRecDepth 40000 in
theorem Ql1 {P : Prg} {f t0 : Nat} (bd : Qf P f 25 [.tmp 0] (Qaz t0)) : QiB P f := by
 refine VC.of_walk 1 rfl (by simp [isD, QpT (Qv _ _)]) (ACall.of_body bd (by simp) ?_)
 unfold Qaz
 simp (maxSteps := 4000000) (disch := omega) only [rq, simprocAttr]
 refine Q0.by (ι := Nat) (fun i => ⟨[(5, .int .i64 i), (1, .ref 0 1 0)], [⟨t0, 256, 1, ks .u64 (QiX i), 0⟩]⟩) (fun i => i ≤ 256) (fun i => 256 - i) 0 (Le.slots (by simp [Am.look])) (by omega) ?_
 intro i hi
 by_cases hlt : i < 256
 ·have s0 : Qi true .u64 (i : Int) 56 = some (.int .u64 ((i * 72057594037927936 : Nat) : Int)) := by
   have := Qrn (K := .u64) rfl (c := i) (s := 56) (by decide) (by show i * 2 ^ 56 < 2 ^ 64; omega)
   exact this
  have w0 : IntKind.u64.wrap (i : Int) = i := Qg4 (by omega) (by omega)
  simp (maxSteps := 4000000) (disch := omega) only [rq, simprocAttr, s0, w0]
  refine Q0.by (ι := Nat) (fun j => ⟨[(11, .int .i64 j), (3, .int .u64 (QeE j (i * 72057594037927936))), (5, .int .i64 i), (2, .int .i64 i), (1, .ref 0 1 0)], [⟨t0, 256, 1, ks .u64 (QiX i), 0⟩]⟩) (fun j => j ≤ 8) (fun j => 8 - j) 0 (Le.slots (by simp [Am.look, QeE])) (by omega) ?_
  intro j hj
  by_cases hjl : j < 8
  ·have hc := Qhw j (c := i * 72057594037927936) (by omega)
   have hn := Qjq j (i * 72057594037927936)
   generalize QeE j (i * 72057594037927936) = c at *
   have a1 := Qtu c
   have a2 : Qi false .u64 (c : Int) 63 = some (.int .u64 ((c / 9223372036854775808 : Nat) : Int)) := Qlg (K := .u64) (n := c) (k := 63) (by decide)
   have hm := Nat.mod_lt (2 * c) (show 0 < 18446744073709551616 by decide)
   by_cases h2 : 9223372036854775808 ≤ c
   ·have a3 : IntKind.u64.wrap (BitVec.ofInt IntKind.u64.bits ((2 * c % 18446744073709551616 : Nat) : Int) ^^^ BitVec.ofInt IntKind.u64.bits 4823603603198064275).toNat = ((QeE (j + 1) (i * 72057594037927936) : Nat) : Int) := by
     rw [hn, QrM, if_pos h2]
     exact Qru (K := .u64) rfl (a := 2 * c % 18446744073709551616) (b := 4823603603198064275) hm (by decide)
    have a4 : c / 9223372036854775808 = 1 := by omega
    rw [a4] at a2
    generalize 2 * c % 18446744073709551616 = d at *
    simp (maxSteps := 4000000) (disch := omega) only [rq, simprocAttr, a1, a2, a3]
    exact ⟨j + 1, by omega, by omega, Le.slots (by simp [Am.look])⟩
   ·have a3 : IntKind.u64.wrap (BitVec.ofInt IntKind.u64.bits ((2 * c % 18446744073709551616 : Nat) : Int) ^^^ BitVec.ofInt IntKind.u64.bits 0).toNat = ((QeE (j + 1) (i * 72057594037927936) : Nat) : Int) := by
     rw [hn, QrM, if_neg h2]
     exact Qru (K := .u64) rfl (a := 2 * c % 18446744073709551616) (b := 0) hm (by decide)
    have a4 : c / 9223372036854775808 = 0 := by omega
    rw [a4] at a2
    generalize 2 * c % 18446744073709551616 = d at *
    simp (maxSteps := 4000000) (disch := omega) only [rq, simprocAttr, a1, a2, a3]
    exact ⟨j + 1, by omega, by omega, Le.slots (by simp [Am.look])⟩
  ·obtain rfl : j = 8 := by omega
   have e1 := Xg i
   have e2 := Qd .u64 (QiX i)
   have e3 : (ks .u64 (QiX i)).take i ++ [.int .u64 (QeE 8 (i * 72057594037927936))] ++ (ks .u64 (QiX i)).drop (i + 1) = ks .u64 (QiX (i + 1)) := by
    rw [← QrC hlt, List.set_eq_take_append_cons_drop, if_pos (by rw [Xg]; exact hlt)]; simp [ks, List.map_take, List.map_drop]
   simp (maxSteps := 4000000) (disch := omega) only [rq, simprocAttr, e1, e2, e3]
   exact ⟨i + 1, by omega, by omega, Le.slots (by simp [Am.look])⟩
 ·obtain rfl : i = 256 := by omega
  simp (maxSteps := 4000000) (disch := omega) only [rq, simprocAttr]
  simp [QS, QG, frzL, QD, frzL_T _ (Qv _ _)]
def QfX (P : Prg) (f : Nat) : Prop := ∀ (s : Nat) (l : List UInt8), s < 18446744073709551616 → l.length ≤ 1000000 → VC P f [.cell (ks .u64 (QiX 256)), .int .u64 s, bs l] (.int .u64 (ZW s l : Nat))
set_option maxRecDepth 40000 in
theorem Qkg {P : Prg} {f : Nat} (bd : Qf P f 29 [.tmp 6] JX) : QfX P f := by
 intro s l hs hl
 refine VC.of_acall (by simp [isDL, isD, QQ, QB]) rfl (ACall.of_body bd (by simp) ?_)
 have t0 := Qd .u64 (QiX 256)
 rw [Xg] at t0
 simp (maxSteps := 4000000) (disch := omega) only [rq, simprocAttr, JX, bs]
 refine Q0.by (ι := Nat) (fun k => ⟨[(11, .int .i64 k), (10, .int .i64 l.length), (9, .list l.length (u8 l)), (0, .cell (ks .u64 (QiX 256))), (1, .int .u64 (ZW s (l.take k)))], []⟩) (fun k => k ≤ l.length) (fun k => l.length - k) 0 (Le.slots (by simp [Am.look, ZW])) (by omega) ?_
 intro k hk
 have hc := Qhx (l := l.take k) hs
 by_cases hlt : k < l.length
 ·have e1 := Qd8 hlt
  have hn := Qpe (s := s) hlt
  generalize ZW s (l.take k) = c at *
  have hb := (l[k]).toNat_lt
  rw [QnF hc hb] at hn
  have h0 : (c / 72057594037927936 ^^^ (l[k]).toNat) < 256 := Nat.xor_lt_two_pow (n := 8) (by omega) hb
  have h1 := Qhw 8 (c := (c / 72057594037927936 ^^^ (l[k]).toNat) * 72057594037927936) (by omega)
  have a1 : Qi false .u64 (c : Int) 56 = some (.int .u64 ((c / 72057594037927936 : Nat) : Int)) := Qlg (K := .u64) (n := c) (k := 56) (by decide)
  have a0 := Qpf c
  have a2 : IntKind.u8.wrap ((c / 72057594037927936 : Nat) : Int) = ((c / 72057594037927936 : Nat) : Int) := by rw [QcA]; omega
  have a3 : IntKind.u8.wrap (BitVec.ofInt IntKind.u8.bits ((c / 72057594037927936 : Nat) : Int) ^^^ BitVec.ofInt IntKind.u8.bits ((l[k]).toNat : Int)).toNat = ((c / 72057594037927936 ^^^ (l[k]).toNat : Nat) : Int) :=
   Qru (K := .u8) rfl (a := c / 72057594037927936) (b := (l[k]).toNat) (by show c / 72057594037927936 < 256; omega) hb
  have hm := Nat.mod_lt (c * 256) (show 0 < 18446744073709551616 by decide)
  have a4 : IntKind.u64.wrap (BitVec.ofInt IntKind.u64.bits ((c * 256 % 18446744073709551616 : Nat) : Int) ^^^ BitVec.ofInt IntKind.u64.bits ((QeE 8 ((c / 72057594037927936 ^^^ (l[k]).toNat) * 72057594037927936) : Nat) : Int)).toNat = ((ZW s (l.take (k + 1)) : Nat) : Int) := by
   rw [hn]; exact Qru (K := .u64) rfl hm h1
  generalize c * 256 % 18446744073709551616 = d at *
  generalize c / 72057594037927936 ^^^ (l[k]).toNat = x at *
  have e2 : (ks .u64 (QiX 256)).drop x = .int .u64 ((QeE 8 (x * 72057594037927936) : Nat) : Int) :: ks .u64 ((QiX 256).drop (x + 1)) := by
   rw [Qa6, List.drop_eq_getElem_cons (by rw [Xg]; exact h0), Qfi, QeD h0, if_pos h0]
  generalize c / 72057594037927936 = q at *
  simp (maxSteps := 4000000) (disch := omega) only [rq, simprocAttr, e1, a0, a1, a2, a3, a4, e2, t0]
  exact ⟨k + 1, by omega, by omega, Le.slots (by simp [Am.look])⟩
 ·have ek : k = l.length := by omega
  subst ek
  rw [List.take_length]
  simp (maxSteps := 4000000) (disch := omega) only [rq, simprocAttr]
def Qmy (P : Prg) (f : Nat) : Prop := ∀ (s : Nat) (l : List UInt8), s < 18446744073709551616 → VC P f [.int .u64 s, bs l] (if 100000 < l.length then .tup [.int .u64 0, .int .i64 4] else .tup [.int .u64 (ZW s l), .int .i64 0])
theorem Qod {P : Prg} {f fT fB : Nat} (bd : Qf P f 13 [.tmp 4, .tmp 5] (Jz fT fB)) (hT : QiB P fT) (hB : QfX P fB) : Qmy P f := by
 intro s l hs
 refine VC.of_acall (by simp [isDL, isD, QQ]) (by split <;> rfl) (ACall.of_body bd (by simp) ?_)
 by_cases hl : 100000 < l.length
 ·rw [if_pos hl]
  simp (maxSteps := 4000000) (disch := omega) only [rq, simprocAttr, Jz, bs]
 ·rw [if_neg hl]
  have hB' := hB s l hs (by omega)
  rw [bs] at hB'
  have hT' : VC P fT [] _ := hT
  simp (maxSteps := 4000000) (disch := omega) only [rq, simprocAttr, Jz, bs]
  refine Qa.vc hT' ?_
  simp (maxSteps := 4000000) (disch := omega) only [rq, simprocAttr]
  refine Qa.vc hB' ?_
  simp (maxSteps := 4000000) (disch := omega) only [rq, simprocAttr]
def Qnn (P : Prg) (f : Nat) : Prop := ∀ (l : List UInt8), VC P f [bs l] (if 100000 < l.length then .tup [.int .u64 0, .int .i64 4] else .tup [.int .u64 (ZW 0 l), .int .i64 0])
theorem Qqw {P : Prg} {f fN : Nat} (bd : Qf P f 8 [.tmp 2, .tmp 3] (Qaj fN)) (hN : Qmy P fN) : Qnn P f := by
 intro l
 refine VC.of_acall (by simp [isDL, isD, QQ]) (by split <;> rfl) (ACall.of_body bd (by simp) ?_)
 have hN' := hN 0 l (by decide)
 rw [bs] at hN'
 by_cases hl : 100000 < l.length
 ·rw [if_pos hl] at hN' ⊢
  simp (maxSteps := 4000000) (disch := omega) only [rq, simprocAttr, Qaj, bs]
  refine Qa.vc hN' ?_
  simp (maxSteps := 4000000) (disch := omega) only [rq, simprocAttr]
 ·rw [if_neg hl] at hN' ⊢
  simp (maxSteps := 4000000) (disch := omega) only [rq, simprocAttr, Qaj, bs]
  refine Qa.vc hN' ?_
  simp (maxSteps := 4000000) (disch := omega) only [rq, simprocAttr]
def sb8 (x : Nat) : Int := if 127 < x % 256 then ((x % 256 : Nat) : Int) - 256 else ((x % 256 : Nat) : Int)
theorem QuG (x : Nat) : -128 ≤ sb8 x ∧ sb8 x ≤ 127 := by unfold sb8; split <;> omega
def ofK (d k : Nat) : List Int := (List.range 16).map fun i => if i < k then sb8 (d / 2 ^ (8 * i)) else 0
theorem QbI (d k : Nat) : (ofK d k).length = 16 := by simp [ofK]
theorem QtH {d k : Nat} (h : k < 16) : (ofK d k).set k (sb8 (d / 2 ^ (8 * k))) = ofK d (k + 1) := by
 refine List.ext_getElem (by simp [QbI]) fun j h1 h2 => ?_
 have hj : j < 16 := by simpa [QbI] using h2
 rw [List.getElem_set]
 simp only [ofK, List.getElem_map, List.getElem_range]
 split
 ·rename_i e; subst e; rw [if_pos (by omega)]
 ·by_cases h3 : j < k
  ·rw [if_pos h3, if_pos (by omega)]
  ·rw [if_neg h3, if_neg (by omega)]
theorem Qte (x : Nat) : IntKind.i8.wrap (x : Int) = sb8 x := by
 unfold sb8
 simp only [IntKind.wrap, IntKind.bits, IntKind.signed]
 simp
 split <;> split <;> omega
def Qq3 (P : Prg) (f : Nat) : Prop := ∀ d : Nat, d < 18446744073709551616 → VC P f [.int .u64 d] (.agg (ks .i32 (ofK d 8)))
theorem QtA {P : Prg} {f t0 : Nat} (bd : Qf P f 18 [.cell 2 t0] (QdU t0)) (ht : ZJ P t0 = some (some 16)) : Qq3 P f := by
 intro d hd
 refine VC.of_acall rfl (by simp [isD, QB]) (ACall.of_body bd (by simp) ?_)
 unfold QdU
 have z : ([.int .i32 0, .int .i32 0, .int .i32 0, .int .i32 0, .int .i32 0, .int .i32 0, .int .i32 0, .int .i32 0, .int .i32 0, .int .i32 0, .int .i32 0, .int .i32 0, .int .i32 0, .int .i32 0, .int .i32 0, .int .i32 0] : List AV) = ks .i32 (ofK 0 0) := rfl
 have z0 : ks .i32 (ofK 0 0) = ks .i32 (ofK d 0) := rfl
 rw [z]
 have ol := JP .i32 (ofK 0 0)
 have kl0 : (ks .i32 (ofK 0 0)).length = 16 := rfl
 simp (maxSteps := 4000000) (disch := omega) only [rq, simprocAttr, ol, kl0]
 refine Q0.by (ι := Nat) (fun i => ⟨[(5, .int .i64 i), (0, .int .u64 d), (3, .ref 1 1 0), (2, .ref 0 1 0)], [⟨t0, 16, 1, ks .i32 (ofK 0 0), 0⟩, ⟨t0, 16, 1, ks .i32 (ofK d i), 0⟩]⟩) (fun i => i ≤ 8) (fun i => 8 - i) 0 (Le.slots (by simp [Am.look])) (by omega) ?_
 intro i hi
 have kl : (ks .i32 (ofK d i)).length = 16 := by rw [Qd, QbI]
 by_cases hlt : i < 8
 ·have a1 : Qi false .u64 (d : Int) (8 * (i : Int)) = some (.int .u64 ((d / 2 ^ (8 * i) : Nat) : Int)) := by
   have := Qlg (K := .u64) (n := d) (k := 8 * i) (by show 8 * i ≤ 64; omega)
   simpa using this
  have a2 := Qte (d / 2 ^ (8 * i))
  have a3 := QuG (d / 2 ^ (8 * i))
  have e3 : (ks .i32 (ofK d i)).take i ++ [.int .i32 (sb8 (d / 2 ^ (8 * i)))] ++ (ks .i32 (ofK d i)).drop (i + 1) = ks .i32 (ofK d (i + 1)) := by
   rw [← QtH (by omega), List.set_eq_take_append_cons_drop, if_pos (by rw [QbI]; omega)]; simp [ks, List.map_take, List.map_drop]
  generalize d / 2 ^ (8 * i) = q at *
  generalize sb8 q = y at *
  simp (maxSteps := 4000000) (disch := omega) only [rq, simprocAttr, a1, a2, kl, e3]
  exact ⟨i + 1, by omega, by omega, Le.slots (by simp [Am.look])⟩
 ·obtain rfl : i = 8 := by omega
  have o8 := JP .i32 (ofK d 8)
  have t8 : (ks .i32 (ofK d 8)).take 16 = ks .i32 (ofK d 8) := List.take_of_length_le (by omega)
  simp (maxSteps := 4000000) (disch := omega) only [rq, simprocAttr, kl, kl0, t8, o8, ZK, ht]
  try simp [kl]
theorem Qs0 : ∀ p : List UInt8, isTL (u8 p) = true
 | [] => rfl
 | b :: p => by have := Qs0 p; simp only [u8, List.map_cons, isTL, isT, Bool.true_and] at this ⊢; exact this
def JH : List Int := List.replicate 16 0
def Qen (p : List UInt8) : AV := if 64 < p.length then .tup [.agg (ks .i32 JH), .int .i64 2] else .tup [.agg (ks .i32 (ofK (ZW 0 p) 8)), .int .i64 0]
theorem Qsf (p : List UInt8) : isD (Qen p) = true := by unfold Qen; split <;> simp [isD, isDL, QB]
def QfI (P : Prg) (f : Nat) : Prop := ∀ p : List UInt8, VC P f [.str p] (Qen p)
theorem Qpl {P : Prg} {f fS fO t0 : Nat} (bd : Qf P f 22 [.cell 2 t0, .tmp 3] (QbU fS fO t0)) (hS : Qnn P fS) (hO : Qq3 P fO) (ht : ZJ P t0 = some (some 16)) : QfI P f := by
 intro p
 refine VC.of_acall rfl (Qsf p) (ACall.of_body bd (by simp) ?_)
 unfold QbU
 have z : ([.int .i32 0, .int .i32 0, .int .i32 0, .int .i32 0, .int .i32 0, .int .i32 0, .int .i32 0, .int .i32 0, .int .i32 0, .int .i32 0, .int .i32 0, .int .i32 0, .int .i32 0, .int .i32 0, .int .i32 0, .int .i32 0] : List AV) = ks .i32 JH := rfl
 rw [z]
 have ol := JP .i32 JH
 have kl0 : (ks .i32 JH).length = 16 := rfl
 have t0' : (ks .i32 JH).take 16 = ks .i32 JH := rfl
 by_cases hp : 64 < p.length
 ·have e9 : Qen p = .tup [.agg (ks .i32 JH), .int .i64 2] := by rw [Qen, if_pos hp]
  simp (maxSteps := 4000000) (disch := omega) only [rq, simprocAttr, ol, kl0, ZK, ht, t0', e9]
  rfl
 ·have e9 : Qen p = .tup [.agg (ks .i32 (ofK (ZW 0 p) 8)), .int .i64 0] := by rw [Qen, if_neg hp]
  have hS' := hS p
  rw [if_neg (by omega)] at hS'
  have hO' := hO (ZW 0 p) (Qhx (by decide))
  have o8 := JP .i32 (ofK (ZW 0 p) 8)
  have kl : (ks .i32 (ofK (ZW 0 p) 8)).length = 16 := by rw [Qd, QbI]
  have t8 : (ks .i32 (ofK (ZW 0 p) 8)).take 16 = ks .i32 (ofK (ZW 0 p) 8) := List.take_of_length_le (by omega)
  have tp := Qs0 p
  rw [bs] at hS'
  simp (maxSteps := 4000000) (disch := omega) only [rq, simprocAttr, ol, kl0]
  refine Qa.flat 1 hS' rfl (by simp [QS, QG, frzL, QD, frzL_T _ tp]) ?_
  simp (maxSteps := 4000000) (disch := omega) only [rq, simprocAttr]
  refine Qa.vc hO' ?_
  have zl : JH.length = 16 := rfl
  have zd : (ks .i32 JH).drop 16 = [] := rfl
  simp (maxSteps := 4000000) (disch := omega) only [rq, simprocAttr, o8, kl, t8, ZK, ht, e9, zl, zd, List.append_nil]
  try simp [kl]
theorem QtL {L n j : Nat} (hn : 1 ≤ n) (hL : 1 ≤ L) (hj : j < (Zu L n).length) : 1 ≤ (Zu L n).getD j 0 := by
 rw [List.getD_eq_getElem?_getD, List.getElem?_eq_getElem hj, Option.getD_some]
 have hm := List.getElem_mem hj
 unfold Zu at hm
 simp only [List.mem_append, List.mem_replicate, List.mem_singleton] at hm
 unfold Zu
 rcases hm with hm | hm
 ·rw [hm.2]; omega
 ·rw [hm]
  have g0 : (n - 1) / L * L ≤ n - 1 := Nat.div_mul_le_self _ _
  clear hm
  generalize (n - 1) / L * L = w at *
  omega
theorem Qug {c x : Int} {l p : List Int} (h : QbS c x l = 0) (hs : ∀ v ∈ p, v ∈ l) (hp : 1 ≤ p.length) (hl : p.length ≤ l.length) (hc : (p.length : Int) % c = 0) : QbS c x p = 0 := by
 unfold QbS at h ⊢
 split at h
 ·cases h
 rename_i h1
 split at h
 ·rename_i h2; exact absurd h h2
 rename_i h2
 have h2' : QL x l = 0 := by simpa using h2
 have h3 : QL x p = 0 := by
  unfold QL at h2' ⊢
  split at h2'
  ·cases h2'
  rename_i a1
  split at h2'
  ·cases h2'
  rename_i a2
  split at h2'
  ·rename_i a3
   rw [if_neg a1, if_neg (by omega), if_pos (List.all_eq_true.2 fun v hv => List.all_eq_true.1 a3 v (hs v hv))]
  ·cases h2'
 rw [if_neg h1, if_neg (by rw [h3]; simp), if_neg (by omega)]
theorem Qdb {c x r : Int} {l : List Int} (h : ZF c x r l = 0) : ∀ p ∈ QW c r l, QbS c x p = 0 ∧ p.length ≤ 4000 ∧ 1 ≤ p.length := by
 have ha : QbS c x l = 0 := by
  have h2 := Qnf (c := c) (x := x) (r := r) (l := l)
  rw [h] at h2
  by_cases h3 : QbS c x l = 0 ∧ XM c x r (l.length / c) = 0
  ·exact h3.1
  ·rw [if_neg h3] at h2; cases h2
 obtain ⟨k, n, rfl, k1, k2, hlen, ⟨o1, o2, o3, o4, o5⟩, h4⟩ := Qaf h
 intro p hp
 unfold QW at hp
 rw [Int.toNat_natCast, hlen, Nat.mul_div_cancel _ (by omega)] at hp
 obtain ⟨j, hj, rfl⟩ := List.mem_map.1 hp
 rw [List.mem_range] at hj
 have hL1 : 1 ≤ (Qc r).toNat := by have := ZM r; omega
 obtain ⟨m, p1, p2, p3, p4, p5, p6, p7⟩ := QgG (j := j) hlen (by omega) hL1 hj
 have hm1 := QtL (n := n) (by omega) hL1 hj
 rw [p1] at hm1
 have hlen2 : (ZT ((Qc r).toNat * k) l j).length = m * k := by
  rw [p6, List.length_take, List.length_drop, hlen]
  omega
 have hmk : 1 ≤ m * k := Nat.mul_pos (by omega) k1
 have hmn : m * k ≤ n * k := Nat.mul_le_mul_right _ p2
 refine ⟨Qug ha (fun v hv => ?_) (by rw [hlen2]; exact hmk) (by rw [hlen2, hlen]; exact hmn) ?_, by rw [hlen2]; omega, by rw [hlen2]; exact hmk⟩
 ·rw [p6] at hv
  exact List.mem_of_mem_drop (List.mem_of_mem_take hv)
 ·rw [hlen2, Int.natCast_mul, Int.mul_emod_left]
def Qo (c x r : Int) (l : List Int) (t : List Int) : List (List UInt8) := (QW c r l).map (Qdm c.toNat x t)
def JQ (c x r : Int) (l : List Int) (p : List UInt8) : AV :=
 if ZF c x r l ≠ 0 then .tup [bss [], .int .i64 8] else if 64 < p.length then .tup [bss [], .int .i64 2] else .tup [bss (Qo c x r l (ofK (ZW 0 p) 8)), .int .i64 0]
theorem Qly (c x r : Int) (l : List Int) (p : List UInt8) : isD (JQ c x r l p) = true := by unfold JQ; split <;> (try split) <;> simp [isD, isDL, QcJ]
theorem Qri (d k : Nat) : I32 (ofK d k) := fun x hx => by
 unfold ofK at hx
 obtain ⟨i, _, rfl⟩ := List.mem_map.1 hx
 split
 ·have := QuG (d / 2 ^ (8 * i)); omega
 ·omega
def QiO (P : Prg) (f : Nat) : Prop := ∀ (c x r : Int) (l : List Int) (p : List UInt8), I32 l → l.length ≤ 1000000 → VC P f [clA c x r l, .str p] (JQ c x r l p)
set_option maxHeartbeats 1000000 in
theorem Ql6 {P : Prg} {f fC fT fP fS fE fA g t0 t1 t2 t3 t4 ti : Nat} (b : Qrl P f 45 [.cell 4 t1, .cell 5 t2] (QaB fC fT fP fS fE t0 t1 t2 t3 t4)) (hC : Qbm P fC) (hT : QfI P fT) (hP : QfN g P fP) (hI : QfM ti P g) (bG : Qf P g 43 [] (XF fA)) (hS : Qdx P fS) (hE : QmA P fE)
  (ht1 : ZJ P t1 = some none) (ht2 : ZJ P t2 = some none) (h0 : t0 ≠ ti) (h1 : t1 ≠ ti) (h2 : t2 ≠ ti) (h3 : t3 ≠ ti) (h4 : t4 ≠ ti) : QiO P f := by
 intro c x r l p hI32 hl
 refine VC.of_walk 2 (by simp [isDL, isD, Zy, clA]) (Qly _ _ _ _ _) (ACall.of_rangeC b (by simp) ?_)
 have hC' := hC c x r l hI32 hl
 rw [il] at hC'
 have tl := Qv .i32 l
 have z : ([.int .i32 0, .int .i32 0, .int .i32 0, .int .i32 0, .int .i32 0, .int .i32 0, .int .i32 0, .int .i32 0, .int .i32 0, .int .i32 0, .int .i32 0, .int .i32 0, .int .i32 0, .int .i32 0, .int .i32 0, .int .i32 0] : List AV) = ks .i32 JH := rfl
 unfold QaB
 rw [z]
 have ol := JP .i32 JH
 have kl0 : (ks .i32 JH).length = 16 := rfl
 rcases QcK c x r l with h | h
 ·rw [h] at hC'
  have hT' := hT p
  simp (maxSteps := 4000000) (disch := omega) only [rq, simprocAttr, clA, il, Qb3, Qdz, QaJ, QgM, Qfk, QsZ]
  refine Qa.vc hC' ?_
  simp (maxSteps := 4000000) (disch := omega) only [rq, simprocAttr, QaJ, QgM, Qb3, Qdz]
  refine Qa.vc hT' ?_
  by_cases hp : 64 < p.length
  ·have e9 : JQ c x r l p = .tup [bss [], .int .i64 2] := by rw [JQ, if_neg (by omega), if_pos hp]
   have e8 : Qen p = .tup [.agg (ks .i32 JH), .int .i64 2] := by rw [Qen, if_pos hp]
   have t0' : (ks .i32 JH).take 16 = ks .i32 JH := rfl
   have zl : JH.length = 16 := rfl
   have zd : (ks .i32 JH).drop 16 = [] := rfl
   rw [e8]
   simp (maxSteps := 4000000) (disch := omega) only [rq, simprocAttr, QaJ, QgM, Qb3, Qdz, ol, kl0, t0', zl, zd, List.append_nil, e9, ZK, ht1, ht2]
   simp [QS, QG, frzL, QD, isDL, isD, bss]
  ·have e9 : JQ c x r l p = .tup [bss (Qo c x r l (ofK (ZW 0 p) 8)), .int .i64 0] := by rw [JQ, if_neg (by omega), if_neg hp]
   have e8 : Qen p = .tup [.agg (ks .i32 (ofK (ZW 0 p) 8)), .int .i64 0] := by rw [Qen, if_neg hp]
   obtain ⟨T, hTe⟩ : ∃ T, ofK (ZW 0 p) 8 = T := ⟨_, rfl⟩
   have hTl : T.length = 16 := by rw [← hTe, QbI]
   have hTI : I32 T := by rw [← hTe]; exact Qri _ _
   have oT := JP .i32 T
   have kT : (ks .i32 T).length = 16 := by rw [Qd, hTl]
   have tT : (ks .i32 T).take 16 = ks .i32 T := List.take_of_length_le (by omega)
   have zl : JH.length = 16 := rfl
   have zd : (ks .i32 JH).drop 16 = [] := rfl
   rw [hTe] at e8 e9
   have hparts := Qdb h
   obtain ⟨k, n, rfl, k1, k2, hlen, hok, h4'⟩ := Qaf h
   have hP' := hP k x r l
   have hI' := hI k n x r l k1 k2 hlen hok
   rw [clA] at hP'
   rw [il] at hP' hI'
   have hS' := hS k x r l
   rw [shA, il] at hS'
   rw [e8]
   simp (maxSteps := 4000000) (disch := omega) only [rq, simprocAttr, QaJ, QgM, Qb3, Qdz, ol, kl0, oT, kT, zl, zd, List.append_nil]
   refine Qa.vc hP' ?_
   simp (maxSteps := 4000000) (disch := omega) only [rq, simprocAttr, Qfk]
   obtain ⟨Lc, hLc⟩ : ∃ Lc, (Qc r).toNat * k = Lc := ⟨_, rfl⟩
   rw [hLc] at hI'
   have hcnt : (Zu (Qc r).toNat n).length ≤ 1000 := by have := hok.2.2.2.2; rwa [Int.toNat_natCast] at this
   obtain ⟨cnt, hcn⟩ : ∃ cnt, (Zu (Qc r).toNat n).length = cnt := ⟨_, rfl⟩
   have hpo : QW k r l = (List.finRange cnt).map (fun j => ZT Lc l j.1) := by
    unfold QW
    rw [Int.toNat_natCast, hlen, Nat.mul_div_cancel _ (by omega), hcn, hLc]
    apply List.ext_getElem <;> simp
   rw [hcn] at hI' hcnt
   refine ⟨cnt, g, _, [ti], _, [(27, .fn (.func g) [] [.cell [.int .i64 k, .int .i64 x, .int .i64 r, .list l.length (ks .i32 l)]]), (2, .ref 0 1 0), (4, .ref 1 1 0), (5, .ref 2 1 0), (7, .ref 3 1 0), (9, .ref 4 1 0)],
    fun pre => [⟨t0, 4, 1, [.int .i64 k, .int .i64 x, .int .i64 r, .list l.length (ks .i32 l)], 0⟩, ⟨t1, 1, 1, [.list 0 []], 0⟩, ⟨t2, 1, 1, [.int .i64 0], 0⟩, ⟨t3, 16, 1, ks .i32 T, 0⟩, ⟨t1, 1, 1, [.own 5 pre.length], 0⟩, ⟨t4, 1, pre.length, pre.map (fun j => bs (Qdm k x T (ZT Lc l j.1))), 0⟩], ?_, rfl, bG.ent, by simp [isDL, isD, QB], hI', by omega, by omega, rfl, ?_, ?_, ?_⟩
   ·refine Le.trans (Le.virtF (p := 4) (ty := t4) (sz := 1) (by omega) rfl rfl) (Le.drop 6 2 (by omega) rfl (by simp [Am.look, QG, frzL, QD, frzL_T _ tl]) ?_)
    intro i z hz
    match i, hz with
    | 0, hz => cases hz; exact ⟨_, rfl, by simp [QG, frzL, QD, frzL_T _ tl]⟩
    | 1, hz => cases hz; exact ⟨_, rfl, by simp [QG, frzL, QD]⟩
    | 2, hz => cases hz; exact ⟨_, rfl, by simp [QG, frzL, QD]⟩
    | 3, hz => cases hz; exact ⟨_, rfl, by simp [QG, frzL_T _ (Qv .i32 T)]⟩
    | 4, hz => cases hz; exact ⟨_, rfl, by simp [QG, frzL, QD]⟩
    | 5, hz => cases hz; exact ⟨_, rfl, by simp [QG, frzL, QD]⟩
    | i + 6, hz => simp at hz
   ·intro pre x hx
    simp only [List.mem_cons, List.not_mem_nil, or_false] at hx ⊢
    rcases hx with rfl | rfl | rfl | rfl | rfl | rfl
    ·exact h0
    ·exact h1
    ·exact h2
    ·exact h3
    ·exact h1
    ·exact h4
   ·intro pre y hpl
    have hmem : ZT Lc l y.1 ∈ QW k r l := by rw [hpo]; exact List.mem_map.2 ⟨y, List.mem_finRange _, rfl⟩
    obtain ⟨q1, q2, q3⟩ := hparts _ hmem
    have hqI : I32 (ZT Lc l y.1) := fun v hv => hI32 v (by
     unfold ZT at hv
     exact List.mem_of_mem_drop (List.mem_of_mem_take hv))
    have hE' := hE k x T (ZT Lc l y.1) hTl hTI hqI
    rw [Quq, if_neg (by omega), Int.toNat_natCast] at hE'
    obtain ⟨w1, w2⟩ := Qj7 (t := T) hqI q1
    rw [Int.toNat_natCast] at w1 w2
    have hpm : (pre.map (fun j => bs (Qdm k x T (ZT Lc l j.1)))).length = pre.length := by simp
    obtain ⟨Y, hYe⟩ : ∃ Y, Qdm k x T (ZT Lc l y.1) = Y := ⟨_, rfl⟩
    rw [hYe] at hE' w1 w2
    obtain ⟨Z, hZ⟩ : ∃ Z, ZT Lc l y.1 = Z := ⟨_, rfl⟩
    rw [hZ] at hE' hqI q1 q2 q3 hYe ⊢
    rw [shA, il, bs] at hE'
    have tZ := Qv .i32 Z
    have tT2 := Qv .i32 T
    rw [il]
    simp (maxSteps := 4000000) (disch := omega) only [rq, simprocAttr, tT, kT]
    refine Q5.vc hS' ?_
    simp (maxSteps := 4000000) (disch := omega) only [rq, simprocAttr, tT, kT]
    refine Q5.vc hE' ?_
    simp (maxSteps := 4000000) (disch := omega) only [rq, simprocAttr, hpm]
    refine Le.drop 6 2 (by omega) rfl (by simp) ?_
    intro i z hz
    match i, hz with
    | 0, hz => cases hz; exact ⟨_, rfl, by simp [QG, frzL, QD, frzL_T _ tl]⟩
    | 1, hz => cases hz; exact ⟨_, rfl, by simp [QG, frzL, QD]⟩
    | 2, hz => cases hz; exact ⟨_, rfl, by simp [QG, frzL, QD]⟩
    | 3, hz => cases hz; exact ⟨_, rfl, by simp [QG, frzL_T _ tT2]⟩
    | 4, hz => cases hz; exact ⟨_, rfl, by simp [QG, frzL, QD]⟩
    | 5, hz =>
     cases hz
     have e : (pre ++ [y]).map (fun j => bs (Qdm k x T (ZT Lc l j.1))) = pre.map (fun j => bs (Qdm k x T (ZT Lc l j.1))) ++ [.list Y.length (u8 Y)] := by
      simp only [List.map_append, List.map_cons, List.map_nil, hZ, hYe]
      rfl
     rw [e]
     refine ⟨_, rfl, frzL_T _ ?_⟩
     rw [← e]
     have := ZH ((pre ++ [y]).map (fun j => Qdm k x T (ZT Lc l j.1)))
     rwa [List.map_map] at this
    | i + 6, hz => simp at hz
   ·have hfl : (List.finRange cnt).length = cnt := by simp
    have hpi : (List.finRange cnt).map (fun j => bs (Qdm k x T (ZT Lc l j.1))) = (Qo k x r l T).map bs := by
     unfold Qo
     rw [hpo, List.map_map, List.map_map, Int.toNat_natCast]
     rfl
    dsimp only
    rw [hpi, hfl, e9]
    have hpl : (Qo k x r l T).length = cnt := by unfold Qo; rw [hpo]; simp
    have tp := ZH (Qo k x r l T)
    generalize hPP : (Qo k x r l T).map bs = PP at *
    simp (maxSteps := 4000000) (disch := omega) only [rq, simprocAttr, ZK, ht1, ht2]
    simp [QS, QG, frzL, QD, isDL, isD, bss, hpl, hPP, frzL_T _ tp]
 ·rw [h] at hC'
  have e9 : JQ c x r l p = .tup [bss [], .int .i64 8] := by rw [JQ, if_pos (by omega)]
  simp (maxSteps := 4000000) (disch := omega) only [rq, simprocAttr, clA, il, Qb3, Qdz, QaJ, QgM, Qfk, QsZ]
  refine Qa.vc hC' ?_
  simp (maxSteps := 4000000) (disch := omega) only [rq, simprocAttr, QaJ, QgM, Qb3, Qdz, e9, ZK, ht1, ht2]
  simp [QS, QG, frzL, QD, isDL, isD, bss]
theorem Qg0 {L : List (List UInt8)} {k : Nat} (h : k < L.length) : (L.map bs).drop k = bs (L.getD k []) :: (L.map bs).drop (k + 1) := by
 rw [List.drop_eq_getElem_cons (by simpa using h)]
 simp [List.getD_eq_getElem?_getD, List.getElem?_eq_getElem h]
theorem QtY {c x r n : Int} (h : XM c x r n = 0) : okA r n ∧ QH c x = 0 ∧ 1 ≤ n ∧ n ≤ 4000 / c := by
 unfold XM at h
 split at h
 ·cases h
 rename_i a1
 split at h
 ·cases h
 rename_i a2
 split at h
 ·cases h
 rename_i a3
 split at h
 ·cases h
 rename_i a4
 have a5 : QH c x = 0 := by simpa using a1
 have a6 : Qh9 r n = 0 := by simpa using a4
 refine ⟨?_, a5, by omega, by omega⟩
 unfold Qh9 at a6
 split at a6
 ·cases a6
 split at a6
 ·cases a6
 split at a6
 ·cases a6
 rename_i b1 b2 b3
 refine ⟨by omega, by omega, by omega, by omega, ?_⟩
 have hlong : 1 ≤ Qc r := ZM r
 obtain ⟨L, hLe⟩ : ∃ L : Nat, Qc r = L := ⟨(Qc r).toNat, by omega⟩
 obtain ⟨m, rfl⟩ : ∃ m : Nat, n = m := ⟨n.toNat, by omega⟩
 rw [hLe, Int.toNat_natCast, Int.toNat_natCast, Xv]
 rw [hLe] at b3
 have h1 : (m : Int) + (L : Int) - 1 = ((m - 1 + L : Nat) : Int) := by omega
 rw [h1, ← Int.natCast_ediv, Nat.add_div_right _ (by omega)] at b3
 omega
theorem RepL.split {X : Cx} : ∀ {cs bs : List AV} {vs : List Value}, RepL X (cs ++ bs) vs → ∃ us ws, vs = us ++ ws ∧ RepL X cs us ∧ RepL X bs ws
 | [], bs, vs, h => ⟨[], vs, rfl, by simp [RepL], h⟩
 | a :: cs, bs, vs, h => by
  simp only [List.cons_append, RepL] at h
  obtain ⟨v, rest, rfl, h1, h2⟩ := h
  obtain ⟨us, ws, rfl, h3, h4⟩ := RepL.split h2
  exact ⟨v :: us, ws, rfl, by simp only [RepL]; exact ⟨v, us, rfl, h1, h3⟩, h4⟩
def ph3 : Ob := ⟨1, 1, 0, [], 0⟩
theorem Held.fill {B : Nat} {w : World} {ob : List Ob} {be : List (Option (Nat × Nat))} {C : Nat → Nat → Prop} {o : Nat} (g : Held B ⟨w, ob, be, C⟩) (ho : ob[o]? = some ph2) :
  Held B ⟨w, ob.set o ph3, be.set o none, C⟩ ∧ Moves ⟨w, ob, be, C⟩ ⟨w, ob.set o ph3, be.set o none, C⟩ := by
 have hol : o < ob.length := (List.getElem?_eq_some_iff.1 ho).1
 have hlen : be.length = ob.length := g.len
 have hav : ∀ b k, (Cx.mk w (ob.set o ph3) (be.set o none) C).av b k → (Cx.mk w ob be C).av b k := by
  rintro b k (h | ⟨o', x, c, h1, h2, h3⟩)
  ·exact .inl h
  ·simp only [List.getElem?_set] at h1 h2
   by_cases e : o = o'
   ·subst e; simp [hlen, hol] at h2
   ·simp [e] at h1 h2
    exact .inr ⟨o', x, c, h1, h2, h3⟩
 have m : Moves ⟨w, ob, be, C⟩ ⟨w, ob.set o ph3, be.set o none, C⟩ := by
  refine ⟨fun b k v hc ha => ⟨hc, fun h => ha (hav b k h)⟩, fun o' x hx => ?_, fun b hb hf => ⟨rfl, fun o' c h => ?_⟩⟩
  ·by_cases e : o = o'
   ·subst e
    have hx' : ob[o]? = some x := hx
    rw [ho] at hx'; cases hx'
    exact ⟨ph3, by simp [hol], Nat.le_refl _, fun h => absurd rfl h⟩
   ·exact ⟨x, by simp only [List.getElem?_set, e, if_false]; exact hx, Nat.le_refl _, fun h => ⟨h, fun _ => by simp only [List.getElem?_set, e, if_false]⟩⟩
  ·simp only [List.getElem?_set] at h
   by_cases e : o = o'
   ·subst e; simp [hlen, hol] at h
   ·simp [e] at h; exact hf o' c h
 refine ⟨⟨by simp [hlen], fun o' x e' hx he => ?_, fun o1 o2 b c c' q1 q2 => ?_, fun o1 b c q => ?_, g.bnd, g.size⟩, m⟩
 ·simp only [List.getElem?_set] at hx he
  by_cases e : o = o'
  ·subst e
   simp [hlen, hol] at hx he
   subst hx; subst he
   exact ⟨rfl, rfl⟩
  ·simp [e] at hx he
   exact (g.ok o' x e' hx he).move m fun _ _ _ => rfl
 ·simp only [List.getElem?_set] at q1 q2
  by_cases e : o = o1
  ·subst e; simp [hlen, hol] at q1
  ·by_cases e2 : o = o2
   ·subst e2; simp [hlen, hol] at q2
   ·simp [e] at q1; simp [e2] at q2
    exact g.inj o1 o2 b c c' q1 q2
 ·simp only [List.getElem?_set] at q
  by_cases e : o = o1
  ·subst e; simp [hlen, hol] at q
  ·simp [e] at q; exact g.base o1 b c q
theorem ACall.fill {P : Prg} {f : FuncId} {avs : List AV} {r : AV} {ob : List Ob} {o : Nat} (ho : ob[o]? = some ph2) (h : ACall P f avs ob (fun r' ob' => r' = r ∧ ob' = ob)) : ACall P f avs ob (fun r' ob' => r' = r ∧ ob' = ob.set o ph3) := by
 obtain ⟨hE, h⟩ := h
 refine ⟨hE, fun B w be C vs g hG hr => (h B w be C vs g hG hr).mono ?_⟩
 rintro e w' ⟨v, r', ob', be', rfl, hb, hh, hm, hv, rfl, rfl⟩
 obtain ⟨g1, m1⟩ := hh.fill ho
 exact ⟨v, r', _, _, rfl, hb, g1, hm.trans m1, Rep.move m1 _ _ hv, rfl, rfl⟩
theorem Q5.own {P : Prg} {B : Nat} {Q : Exit → St → Prop} {f : FuncId} {avs : List AV} {r : AV} {ob : List Ob} (o : Nat) (he : Qb1 P f) (h : ∀ ob', ob'[o]? = some ph2 → ACall P f avs ob' (fun r' ob'' => r' = r ∧ ob'' = ob')) (ho : ob[o]? = some ph2)
  {xs : List It} {fr : List (Nat × AV)} {dst : Option Nat} (hK : Qbv P B xs Q ⟨ZB fr dst r, ob.set o ph3⟩) : Q5 P B false 0 f avs xs Q fr ob dst := by
 refine Q5.at (r := r) o ph3 he (fun ob' h' => ACall.fill h' (h ob' h')) ho (by decide) ?_
 simp only [app, if_pos (List.getElem?_eq_some_iff.1 ho).1]
 exact hK
def QvU (L : List (List UInt8)) : Prop := L.length ≤ 1000000 ∧ ∀ j, (L.getD j []).length ≤ 1000000
def QmF (P : Prg) (f : Nat) : Prop := VC P f [] (.bool true)
theorem Qp2 {c x r : Int} {l : List Int} {p : List UInt8} (h : ZF c x r l = 0) (hp : ¬ 64 < p.length) : JQ c x r l p = .tup [bss (Qo c x r l (ofK (ZW 0 p) 8)), .int .i64 0] := by rw [JQ, if_neg (by omega), if_neg hp]
theorem Qae (c x r : Int) (l T : List Int) : (Qo c x r l T).length = (QW c r l).length := by unfold Qo; simp
theorem callE.vo {P : Prg} {B k : Nat} {Q : Exit → St → Prop} {f : FuncId} {ds : List AV} {r : AV} {x : Ob} (h : VO P f ds r x) {ob : List Ob} (o : Nat) (ho : ob[o]? = some ph2) {xs : List It} {fr : List (Nat × AV)} {dst : Option Nat} (hK : Qbv P B xs Q ⟨ZB fr dst (shr o r), ob.set o x⟩) : Q5 P B true k f ds xs Q fr ob dst := by
 have hl : o < ob.length := (List.getElem?_eq_some_iff.1 ho).1
 have ha : app ob (some (o, x)) = ob.set o x := by simp [app, hl]
 refine ⟨shr o r, some (o, x), ?_, by rw [ha]; exact hK⟩
 unfold JE
 rw [if_pos rfl]
 refine ⟨ACall.of_vo_at h ho ⟨rfl, by rw [ha]⟩, fun o' y e => ?_⟩
 cases e
 exact ⟨ph2, ho, by simp [ph2, ph]⟩
theorem Qoj {c x r : Int} {l : List Int} (h : ZF c x r l = 0) : QbS c x l = 0 ∧ XM c x r (l.length / c) = 0 := by
 have h' := Qnf (c := c) (x := x) (r := r) (l := l)
 rw [h] at h'
 by_cases h9 : QbS c x l = 0 ∧ XM c x r (l.length / c) = 0
 ·exact h9
 ·rw [if_neg h9] at h'; cases h'
theorem Qr0 {c x r : Int} {l : List Int} (h : ZF c x r l = 0) (hI : I32 l) (j : Nat) : I32 ((QW c r l).getD j []) := fun v hv => by
 rcases Nat.lt_or_ge j (QW c r l).length with hj | hj
 ·refine hI v ?_
  rw [← QdH h]
  refine List.mem_flatten.2 ⟨_, ?_, hv⟩
  rw [List.getD_eq_getElem?_getD, List.getElem?_eq_getElem hj]
  exact List.getElem_mem _
 ·rw [List.getD_eq_getElem?_getD, List.getElem?_eq_none hj] at hv
  simp at hv
theorem Qp4 {c x r : Int} {l T : List Int} {j : Nat} (hj : j < (QW c r l).length) : (Qo c x r l T).getD j [] = Qdm c.toNat x T ((QW c r l).getD j []) := by
 unfold Qo
 rw [List.getD_eq_getElem?_getD, List.getD_eq_getElem?_getD, List.getElem?_map, List.getElem?_eq_getElem hj]
 rfl
theorem Qp3 {c x r : Int} {l T : List Int} (h : ZF c x r l = 0) (hI : I32 l) : QvU (Qo c x r l T) := by
 have h1 := Qae c x r l T
 have h2 := Qb7 h
 refine ⟨by omega, fun j => ?_⟩
 rcases Nat.lt_or_ge j (QW c r l).length with hj | hj
 ·rw [Qp4 hj]
  have hmem : (QW c r l).getD j [] ∈ QW c r l := by rw [List.getD_eq_getElem?_getD, List.getElem?_eq_getElem hj]; exact List.getElem_mem _
  have := (Qj7 (t := T) (Qr0 h hI j) (Qdb h _ hmem).1).1
  omega
 ·rw [List.getD_eq_getElem?_getD, List.getElem?_eq_none (by omega)]; exact Nat.zero_le _
theorem QjF {c x r : Int} {l : List Int} (h : ZF c x r l = 0) (hI : I32 l) : ∀ q ∈ QW c r l, I32 q := fun q hq v hv => hI v (by rw [← QdH h]; exact List.mem_flatten.2 ⟨q, hq, hv⟩)
def QmC (P : Prg) (f : Nat) : Prop := ∀ p : List UInt8, VC P f [.str p] (if 64 < p.length then .tup [.int .u64 0, .int .i64 2] else .tup [.int .u64 (ZW 0 p), .int .i64 0])
theorem Qqu {P : Prg} {f fS : Nat} (bd : Qf P f 16 [.tmp 2, .tmp 3] (Qai fS)) (hS : Qnn P fS) : QmC P f := by
 intro p
 refine VC.of_acall rfl (by split <;> rfl) (ACall.of_body bd (by simp) ?_)
 by_cases h : 64 < p.length
 ·rw [if_pos h]
  simp (maxSteps := 4000000) (disch := omega) only [rq, simprocAttr, Qai]
 ·have hS' := hS p
  rw [if_neg (by omega)] at hS'
  rw [if_neg h]
  rw [bs] at hS'
  simp (maxSteps := 4000000) (disch := omega) only [rq, simprocAttr, Qai]
  refine Qa.vc hS' ?_
  simp (maxSteps := 4000000) (disch := omega) only [rq, simprocAttr]
def Qub (p : List UInt8) : AV := if 64 < p.length then .tup [.list 0 [], .int .i64 2] else .tup [bs (leB (ZW 0 p) 8), .int .i64 0]
theorem QtT (p : List UInt8) : isD (Qub p) = true := by unfold Qub; split <;> simp [isD, isDL, QQ]
def Qci (P : Prg) (f : Nat) : Prop := ∀ p : List UInt8, VC P f [.str p] (Qub p)
theorem Qke {P : Prg} {f fO fB : Nat} (bd : Qf P f 18 [.tmp 2, .tmp 3] (XE fO fB)) (hO : QmC P fO) (hB : JZ P fB) : Qci P f := by
 intro p
 refine VC.of_walk 1 rfl (QtT p) (ACall.of_body bd (by simp) ?_)
 have hO' := hO p
 by_cases h : 64 < p.length
 ·rw [if_pos h] at hO'
  rw [Qub, if_pos h]
  simp (maxSteps := 4000000) (disch := omega) only [rq, simprocAttr, XE]
  refine Qa.vc hO' ?_
  simp (maxSteps := 4000000) (disch := omega) only [rq, simprocAttr]
  simp [QS, QG, frzL, QD]
 ·rw [if_neg h] at hO'
  have hB' := hB (ZW 0 p) 8 (by omega) (by omega) (Qhx (by decide))
  have tb := Qw (leB (ZW 0 p) 8)
  rw [Qub, if_neg h]
  simp only [bs] at hB' ⊢
  simp (maxSteps := 4000000) (disch := omega) only [rq, simprocAttr, XE]
  refine Qa.vc hO' ?_
  simp (maxSteps := 4000000) (disch := omega) only [rq, simprocAttr]
  refine Qa.vc hB' ?_
  simp (maxSteps := 4000000) (disch := omega) only [rq, simprocAttr]
  simp [QS, QG, frzL, QD, frzL_T _ tb]
def Qle : Int → List Int → Prop
 | _, [] => True
 | m, n :: l => 5 ≤ n ∧ n ≤ m ∧ Qle (m - n) l
instance decSk : ∀ (m : Int) (l : List Int), Decidable (Qle m l)
 | _, [] => isTrue trivial
 | m, n :: l => by
  unfold Qle
  have := decSk (m - n) l
  exact inferInstance
def skN (l : List Int) : Int := if l.length = 0 ∨ 1000 < l.length then 8 else if Qle 100000 l then 0 else 8
def skL (m : Int) (l : List Int) : Nat → Int
 | 0 => m
 | k + 1 => skL m l k - l.getD k 0
theorem QmM (l : List Int) : ∀ (m : Int) , Qle m l ↔ ∀ k, k < l.length → 5 ≤ l.getD k 0 ∧ l.getD k 0 ≤ skL m l k := by
 induction l with
 | nil => intro m; simp [Qle]
 | cons n l ih =>
  intro m
  have e : ∀ k, skL m (n :: l) (k + 1) = skL (m - n) l k := fun k => by
   induction k with
   | zero => simp [skL]
   | succ k ih2 =>
    show skL m (n :: l) (k + 1) - (n :: l).getD (k + 1) 0 = skL (m - n) l k - l.getD k 0
    rw [ih2]; rfl
  rw [Qle, ih]
  constructor
  ·rintro ⟨h1, h2, h3⟩ k hk
   match k with
   | 0 => exact ⟨h1, h2⟩
   | k + 1 =>
    rw [e]
    exact h3 k (by simpa using hk)
  ·intro h
   refine ⟨(h 0 (by simp)).1, (h 0 (by simp)).2, fun k hk => ?_⟩
   have := h (k + 1) (by simpa using hk)
   rw [e] at this
   exact this
def QfJ (P : Prg) (f : Nat) : Prop := ∀ l : List Int, l.length ≤ 1000000 → (∀ v ∈ l, -9223372036854775808 ≤ v ∧ v ≤ 9223372036854775807) → VC P f [QoA l] (.int .i64 (skN l))
theorem Qlj {P : Prg} {f : Nat} (bd : Qf P f 31 [.tmp 2] Z7) : QfJ P f := by
 intro l hl hv
 refine VC.of_acall (by simp [isDL, QhR]) rfl (ACall.of_body bd (by simp) ?_)
 by_cases h1 : l.length = 0 ∨ 1000 < l.length
 ·have e8 : skN l = 8 := by rw [skN, if_pos h1]
  rw [e8]
  rcases h1 with h1 | h1
  ·simp (maxSteps := 4000000) (disch := omega) only [rq, simprocAttr, Z7, QoA]
  ·by_cases h0 : l.length = 0
   ·omega
   ·simp (maxSteps := 4000000) (disch := omega) only [rq, simprocAttr, Z7, QoA]
 have e8 : skN l = if Qle 100000 l then 0 else 8 := by rw [skN, if_neg h1]
 rw [e8]
 clear e8
 have hiff := QmM l 100000
 have kl : (ks .i64 l).length = l.length := Qd _ _
 have h0 : ¬ l.length = 0 := by omega
 simp (maxSteps := 4000000) (disch := omega) only [rq, simprocAttr, Z7, QoA]
 refine Q0.by (ι := Nat) (fun k => ⟨[(16, .int .i64 k), (15, .int .i64 l.length), (14, .list l.length (ks .i64 l)), (3, .int .i64 (skL 100000 l k))], []⟩) (fun k => k ≤ l.length ∧ (∀ j, j < k → 5 ≤ l.getD j 0 ∧ l.getD j 0 ≤ skL 100000 l j) ∧ 0 ≤ skL 100000 l k ∧ skL 100000 l k ≤ 100000) (fun k => l.length - k) 0 (Le.slots (by simp [Am.look, skL])) ⟨by omega, by omega, by simp [skL], by simp [skL]⟩ ?_
 rintro k ⟨hk, ha, hb, hc⟩
 by_cases hlt : k < l.length
 ·have e1 : (ks .i64 l).drop k = .int .i64 (l.getD k 0) :: (ks .i64 l).drop (k + 1) := by
   have h := QhQ (K := .i64) (l := l) (i := k) hlt
   rw [← Qa6] at h
   exact h
  have hr := hv (l.getD k 0) (by rw [List.getD_eq_getElem?_getD, List.getElem?_eq_getElem hlt]; exact List.getElem_mem _)
  have hs : skL 100000 l (k + 1) = skL 100000 l k - l.getD k 0 := rfl
  by_cases g1 : l.getD k 0 < 5
  ·have hn : ¬ Qle 100000 l := fun h => by have := (hiff.1 h k hlt).1; omega
   rw [if_neg hn]
   generalize l.getD k 0 = v at *
   simp (maxSteps := 4000000) (disch := omega) only [rq, simprocAttr, e1, kl]
  ·by_cases g2 : skL 100000 l k < l.getD k 0
   ·have hn : ¬ Qle 100000 l := fun h => by have := (hiff.1 h k hlt).2; omega
    rw [if_neg hn]
    generalize l.getD k 0 = v at *
    simp (maxSteps := 4000000) (disch := omega) only [rq, simprocAttr, e1, kl]
   ·have ha' : ∀ j, j < k + 1 → 5 ≤ l.getD j 0 ∧ l.getD j 0 ≤ skL 100000 l j := fun j hj => by
     by_cases e : j = k
     ·subst e; omega
     ·exact ha j (by omega)
    generalize l.getD k 0 = v at *
    generalize skL 100000 l k = m at *
    simp (maxSteps := 4000000) (disch := omega) only [rq, simprocAttr, e1, kl]
    refine ⟨k + 1, ⟨by omega, ha', by omega, by omega⟩, by omega, ?_⟩
    simp only [hs]
    exact Le.slots (by simp [Am.look])
 ·have ek : k = l.length := by omega
  subst ek
  rw [if_pos (hiff.2 ha)]
  simp (maxSteps := 4000000) (disch := omega) only [rq, simprocAttr]
def Jd (l : List Int) : List UInt8 := (l.map fun n => leB n.toNat 4).flatten
theorem QoZ (l : List Int) (k : Nat) (h : k < l.length) : Jd (l.take (k + 1)) = Jd (l.take k) ++ leB (l.getD k 0).toNat 4 := by
 unfold Jd
 rw [List.take_succ_eq_append_getElem h, List.map_append, List.flatten_append]
 simp [List.getD_eq_getElem?_getD, List.getElem?_eq_getElem h]
theorem Qhs (l : List Int) : (Jd l).length = 4 * l.length := by
 unfold Jd
 induction l with
 | nil => rfl
 | cons a l ih => simp only [List.map_cons, List.flatten_cons, List.length_append, Qb, ih, List.length_cons]; omega
def skA (l : List Int) : AV := if skN l = 0 then .tup [bs (Zi (Jd l)), .int .i64 0] else .tup [.list 0 [], .int .i64 (skN l)]
theorem QtP (l : List Int) : isD (skA l) = true := by unfold skA; split <;> simp [isD, isDL, QQ]
theorem Qe4 (l : List Int) : skN l = 8 ∨ skN l = 0 ∧ 1 ≤ l.length ∧ l.length ≤ 1000 ∧ ∀ k, k < l.length → 5 ≤ l.getD k 0 ∧ l.getD k 0 ≤ 100000 := by
 by_cases h : l.length = 0 ∨ 1000 < l.length
 ·exact .inl (by rw [skN, if_pos h])
 ·by_cases h2 : Qle 100000 l
  ·refine .inr ⟨by rw [skN, if_neg h, if_pos h2], by omega, by omega, fun k hk => ?_⟩
   have h3 := (QmM l 100000).1 h2
   have hm : ∀ k, k ≤ l.length → skL 100000 l k ≤ 100000 := fun k => by
    induction k with
    | zero => simp [skL]
    | succ k ih =>
     intro hk
     have := ih (by omega)
     have := (h3 k (by omega)).1
     simp only [skL]
     omega
   have := h3 k hk
   have := hm k (by omega)
   omega
  ·exact .inl (by rw [skN, if_neg h, if_neg h2])
def Qdw (P : Prg) (f : Nat) : Prop := ∀ l : List Int, l.length ≤ 1000000 → (∀ v ∈ l, -9223372036854775808 ≤ v ∧ v ≤ 9223372036854775807) → VC P f [QoA l] (skA l)
theorem Qli {P : Prg} {f fC fP fS fB t0 tb : Nat} (bd : Qf P f 38 [.tmp 2, .tmp 3] (X2 fC fP fS t0)) (hC : QfJ P fC) (bP : Qf P fP 13 [] (Xc fB tb)) (hB : JZ P fB) (hS : Qg3 P fS) : Qdw P f := by
 intro l hl hv
 refine VC.of_walk 1 (by simp [isDL, QhR]) (QtP l) (ACall.of_cut 3 bd (by simp) ?_)
 have hC' := hC l hl hv
 rw [QoA] at hC' ⊢
 rcases Qe4 l with h | ⟨h, n1, n2, hr⟩
 ·rw [h] at hC'
  rw [skA, if_neg (by omega), h]
  simp (maxSteps := 4000000) (disch := omega) only [rq, simprocAttr, X2, Qao]
  refine Qa.vc hC' ?_
  simp (maxSteps := 4000000) (disch := omega) only [rq, simprocAttr, Qao]
  simp [QS, QG, frzL, QD]
 rw [h] at hC'
 rw [skA, if_pos h]
 have kl : (ks .i64 l).length = l.length := Qd _ _
 have tl := Qv .i64 l
 have tB := fun m => Qw (Jd (l.take m))
 have hpl : ∀ m, (Jd (l.take m)).length ≤ 4000 := fun m => by rw [Qhs, List.length_take]; omega
 simp (maxSteps := 4000000) (disch := omega) only [rq, simprocAttr, X2, Qao]
 refine Qa.vc hC' ?_
 simp (maxSteps := 4000000) (disch := omega) only [rq, simprocAttr, Qao]
 refine ⟨_, Le.virtF 0 tb 1 (by decide) rfl rfl, ?_⟩
 simp (maxSteps := 4000000) (disch := omega) only [rq, simprocAttr, Qao]
 refine Q0.by (ι := Nat) (fun k => ⟨[(19, .int .i64 k), (18, .int .i64 l.length), (17, .list l.length (ks .i64 l)), (6, .fn (.func fP) [] [.ref 0 1 0]), (5, .ref 0 1 0)], [⟨t0, 1, 1, [.own 1 (Jd (l.take k)).length], 0⟩, ⟨tb, 1, (Jd (l.take k)).length, u8 (Jd (l.take k)), 0⟩]⟩) (fun k => k ≤ l.length) (fun k => l.length - k) 0 (Le.slots (by simp [Am.look, Jd, u8])) (by omega) ?_
 intro k hk
 have hpk := hpl k
 by_cases hlt : k < l.length
 ·have e1 : (ks .i64 l).drop k = .int .i64 (l.getD k 0) :: (ks .i64 l).drop (k + 1) := by
   have h := QhQ (K := .i64) (l := l) (i := k) hlt
   rw [← Qa6] at h
   exact h
  have hs := QoZ l k hlt
  have hrk := hr k hlt
  generalize hz : l.getD k 0 = z at *
  obtain ⟨z, rfl⟩ : ∃ m : Nat, z = m := ⟨z.toNat, by omega⟩
  rw [Int.toNat_natCast] at hs
  have hB' := hB z 4 (by omega) (by omega) (by simp; omega)
  rw [bs, Qb] at hB'
  have hul : (u8 (leB z 4)).length = 4 := by rw [QC, Qb]
  have hcat : u8 (Jd (l.take k)) ++ u8 (leB z 4) = u8 (Jd (l.take (k + 1))) := by rw [hs]; simp [u8]
  have hlen : (Jd (l.take k)).length + 4 = (Jd (l.take (k + 1))).length := by rw [hs, List.length_append, Qb]
  generalize hB1 : Jd (l.take (k + 1)) = B1 at *
  generalize Jd (l.take k) = B0 at *
  simp (maxSteps := 4000000) (disch := omega) only [rq, simprocAttr, Qao, kl, e1]
  refine ACall.of_body bP (by simp) ?_
  simp (maxSteps := 4000000) (disch := omega) only [rq, simprocAttr, Xc]
  refine Qa.vc hB' ?_
  simp (maxSteps := 4000000) (disch := omega) only [rq, simprocAttr, hul, hcat, hlen]
  refine ⟨k + 1, by omega, by omega, ?_⟩
  simp only [hB1]
  exact Le.slots (by simp [Am.look])
 ·have ek : k = l.length := by omega
  subst ek
  rw [List.take_length] at hpk ⊢
  have tB := Qw (Jd l)
  have hS' := hS (Jd l)
  rw [if_neg (by omega)] at hS'
  have hsm : QbE (Jd l) < 4294967296 := by unfold QbE; omega
  rw [← QbE, bs] at hS'
  have hB' := hB (QbE (Jd l)) 4 (by omega) (by omega) (by simpa using hsm)
  rw [bs, Qb] at hB'
  have hul : (u8 (leB (QbE (Jd l)) 4)).length = 4 := by rw [QC, Qb]
  have hcat : u8 (Jd l) ++ u8 (leB (QbE (Jd l)) 4) = u8 (Zi (Jd l)) := by simp [u8, Zi]
  have hlen : (Jd l).length + 4 = (Zi (Jd l)).length := by rw [Zi, List.length_append, Qb]
  have tS := Qw (Zi (Jd l))
  rw [bs]
  generalize Zi (Jd l) = B1 at *
  generalize QbE (Jd l) = sm at *
  generalize Jd l = B0 at *
  simp (maxSteps := 4000000) (disch := omega) only [rq, simprocAttr, Qao, kl]
  refine Qa.still 1 [1] hS' (by simp [QS, QG, frzL, QD, frzL_T _ tB]) ?_
  simp (maxSteps := 4000000) (disch := omega) only [rq, simprocAttr, Qao, Qj]
  refine ACall.of_body bP (by simp) ?_
  simp (maxSteps := 4000000) (disch := omega) only [rq, simprocAttr, Xc]
  refine Qa.vc hB' ?_
  simp (maxSteps := 4000000) (disch := omega) only [rq, simprocAttr, hul, hcat, hlen, Qao]
  simp [QS, QG, frzL, QD, frzL_T _ tS]
def hdA (f c b r n : Int) : AV := .agg [.int .i64 f, .int .i64 c, .int .i64 b, .int .i64 r, .int .i64 n]
def shP (f c b r n : Int) : Prop := (b = 8 ∨ b = 16 ∨ b = 24) ∧ (f = 1 ∨ f = 2) ∧ 1 ≤ c ∧ c ≤ 6 ∧ 1 ≤ r ∧ r ≤ 1048576 ∧ 1 ≤ n
instance decShP (f c b r n : Int) : Decidable (shP f c b r n) := by unfold shP; exact inferInstance
def QiH (P : Prg) (g : Nat) : Prop := ∀ f c b r n : Int, VC P g [hdA f c b r n] (.bool (decide (shP f c b r n)))
theorem QhT {P : Prg} {g t0 : Nat} (bd : Qf P g 44 [.tmp 2] (Qz t0)) : QiH P g := by
 intro f c b r n
 refine VC.of_acall rfl rfl (ACall.of_body bd (by simp) ?_)
 by_cases hb : b = 8 ∨ b = 16 ∨ b = 24
 case neg =>
  have hn : decide (shP f c b r n) = false := decide_eq_false fun h => hb h.1
  rw [hn]
  simp (maxSteps := 4000000) (disch := omega) only [rq, simprocAttr, Qz, hdA]
 by_cases hf : f = 1 ∨ f = 2
 case neg =>
  have hn : decide (shP f c b r n) = false := decide_eq_false fun h => hf h.2.1
  rw [hn]
  rcases hb with rfl | rfl | rfl <;> simp (maxSteps := 4000000) (disch := omega) only [rq, simprocAttr, Qz, hdA]
 by_cases hc1 : 1 ≤ c
 case neg =>
  have hn : decide (shP f c b r n) = false := decide_eq_false fun h => hc1 h.2.2.1
  rw [hn]
  rcases hb with rfl | rfl | rfl <;> rcases hf with rfl | rfl <;> simp (maxSteps := 4000000) (disch := omega) only [rq, simprocAttr, Qz, hdA]
 by_cases hc2 : c ≤ 6
 case neg =>
  have hn : decide (shP f c b r n) = false := decide_eq_false fun h => hc2 h.2.2.2.1
  rw [hn]
  rcases hb with rfl | rfl | rfl <;> rcases hf with rfl | rfl <;> simp (maxSteps := 4000000) (disch := omega) only [rq, simprocAttr, Qz, hdA]
 by_cases hr1 : 1 ≤ r
 case neg =>
  have hn : decide (shP f c b r n) = false := decide_eq_false fun h => hr1 h.2.2.2.2.1
  rw [hn]
  rcases hb with rfl | rfl | rfl <;> rcases hf with rfl | rfl <;> simp (maxSteps := 4000000) (disch := omega) only [rq, simprocAttr, Qz, hdA]
 by_cases hr2 : r ≤ 1048576
 case neg =>
  have hn : decide (shP f c b r n) = false := decide_eq_false fun h => hr2 h.2.2.2.2.2.1
  rw [hn]
  rcases hb with rfl | rfl | rfl <;> rcases hf with rfl | rfl <;> simp (maxSteps := 4000000) (disch := omega) only [rq, simprocAttr, Qz, hdA]
 by_cases hn1 : 1 ≤ n
 case neg =>
  have hn : decide (shP f c b r n) = false := decide_eq_false fun h => hn1 h.2.2.2.2.2.2
  rw [hn]
  rcases hb with rfl | rfl | rfl <;> rcases hf with rfl | rfl <;> simp (maxSteps := 4000000) (disch := omega) only [rq, simprocAttr, Qz, hdA]
 have hn : decide (shP f c b r n) = true := decide_eq_true ⟨hb, hf, hc1, hc2, hr1, hr2, hn1⟩
 rw [hn]
 rcases hb with rfl | rfl | rfl <;> rcases hf with rfl | rfl <;> simp (maxSteps := 4000000) (disch := omega) only [rq, simprocAttr, Qz, hdA]
def Qrs (c r n : Int) : Prop := n ≤ 4000 / c ∧ Qh9 r n = 0
instance decFitP (c r n : Int) : Decidable (Qrs c r n) := by unfold Qrs; exact inferInstance
theorem Qqz {r n : Int} (h : Qh9 r n = 0) : ∃ k : Int, Qki r n = .tup [.int .i64 k, .int .i64 0] ∧ 0 ≤ k ∧ k ≤ 1000 := by
 unfold Qh9 at h
 unfold Qki
 split at h
 ·cases h
 rename_i a1
 split at h
 ·cases h
 rename_i a2
 split at h
 ·cases h
 rename_i a3
 rw [if_neg a1, if_neg a2, if_neg a3]
 have := ZM r
 exact ⟨_, rfl, Int.ediv_nonneg (by omega) (by omega), by omega⟩
def Qra (P : Prg) (g : Nat) : Prop := ∀ f c b r n : Int, 1 ≤ c → c ≤ 6 → VC P g [hdA f c b r n] (.bool (decide (Qrs c r n)))
theorem QlB {P : Prg} {g fC t0 : Nat} (bd : Qf P g 25 [.tmp 2] (Z8 fC t0)) (hC : QbY P fC) : Qra P g := by
 intro f c b r n c1 c2
 refine VC.of_acall rfl rfl (ACall.of_body bd (by simp) ?_)
 have hC' := hC r n
 have q0 : ¬ c = 0 := by omega
 have q1 : (4000 : Int).tdiv c = 4000 / c := Int.tdiv_eq_ediv_of_nonneg (by omega)
 have q2 : 0 ≤ 4000 / c := Int.ediv_nonneg (by omega) (by omega)
 have q3 : 4000 / c ≤ 4000 := Int.ediv_le_self _ (by omega)
 by_cases h1 : n ≤ 4000 / c
 case neg =>
  have hn : decide (Qrs c r n) = false := decide_eq_false fun h => h1 h.1
  rw [hn]
  generalize hQ : 4000 / c = Q at *
  have hw : IntKind.i64.wrap Q = Q := QaR (by omega) (by omega)
  simp (maxSteps := 4000000) (disch := omega) only [rq, simprocAttr, Z8, hdA, q1, hQ, hw]
 by_cases h2 : Qh9 r n = 0
 ·have hn : decide (Qrs c r n) = true := decide_eq_true ⟨h1, h2⟩
  rw [hn]
  obtain ⟨k, e, k1, k2⟩ := Qqz h2
  rw [e] at hC'
  generalize hQ : 4000 / c = Q at *
  have hw : IntKind.i64.wrap Q = Q := QaR (by omega) (by omega)
  simp (maxSteps := 4000000) (disch := omega) only [rq, simprocAttr, Z8, hdA, q1, hQ, hw]
  refine Qa.vc hC' ?_
  simp (maxSteps := 4000000) (disch := omega) only [rq, simprocAttr]
 ·have hn : decide (Qrs c r n) = false := decide_eq_false fun h => h2 h.2
  rw [hn]
  obtain ⟨k, e⟩ := Qne r n
  rw [e] at hC'
  generalize hQ : 4000 / c = Q at *
  have hw : IntKind.i64.wrap Q = Q := QaR (by omega) (by omega)
  generalize Qh9 r n = E at *
  simp (maxSteps := 4000000) (disch := omega) only [rq, simprocAttr, Z8, hdA, q1, hQ, hw]
  refine Qa.vc hC' ?_
  simp (maxSteps := 4000000) (disch := omega) only [rq, simprocAttr]
def hdN (f c b r n : Int) : Int := if shP f c b r n ∧ Qrs c r n then 0 else 8
def Qdy (P : Prg) (g : Nat) : Prop := ∀ f c b r n : Int, VC P g [hdA f c b r n] (.int .i64 (hdN f c b r n))
theorem QjU {P : Prg} {g fS fF t0 : Nat} (bd : Qf P g 11 [.tmp 2] (ZP fS fF t0)) (hS : QiH P fS) (hF : Qra P fF) : Qdy P g := by
 intro f c b r n
 refine VC.of_acall rfl rfl (ACall.of_body bd (by simp) ?_)
 have hS' := hS f c b r n
 by_cases h1 : shP f c b r n
 case neg =>
  have e : hdN f c b r n = 8 := by rw [hdN, if_neg fun h => h1 h.1]
  rw [decide_eq_false h1] at hS'
  rw [e]
  rw [hdA] at hS' ⊢
  simp (maxSteps := 4000000) (disch := omega) only [rq, simprocAttr, ZP]
  refine Qa.vc hS' ?_
  simp (maxSteps := 4000000) (disch := omega) only [rq, simprocAttr]
 have hF' := hF f c b r n h1.2.2.1 h1.2.2.2.1
 rw [decide_eq_true h1] at hS'
 by_cases h2 : Qrs c r n
 ·have e : hdN f c b r n = 0 := by rw [hdN, if_pos ⟨h1, h2⟩]
  rw [decide_eq_true h2] at hF'
  rw [e]
  rw [hdA] at hS' hF' ⊢
  simp (maxSteps := 4000000) (disch := omega) only [rq, simprocAttr, ZP]
  refine Qa.vc hS' ?_
  simp (maxSteps := 4000000) (disch := omega) only [rq, simprocAttr]
  refine Qa.vc hF' ?_
  simp (maxSteps := 4000000) (disch := omega) only [rq, simprocAttr]
 ·have e : hdN f c b r n = 8 := by rw [hdN, if_neg fun h => h2 h.2]
  rw [decide_eq_false h2] at hF'
  rw [e]
  rw [hdA] at hS' hF' ⊢
  simp (maxSteps := 4000000) (disch := omega) only [rq, simprocAttr, ZP]
  refine Qa.vc hS' ?_
  simp (maxSteps := 4000000) (disch := omega) only [rq, simprocAttr]
  refine Qa.vc hF' ?_
  simp (maxSteps := 4000000) (disch := omega) only [rq, simprocAttr]
def mkA (c x r : Int) (l : List Int) (p : List UInt8) : AV := if ZF c x r l ≠ 0 then .tup [hdA 0 0 0 0 0, .int .i64 8] else if 64 < p.length then .tup [hdA 0 0 0 0 0, .int .i64 2] else .tup [hdA (if p = [] then 1 else 2) c x r (l.length / c), .int .i64 0]
theorem QtR (c x r : Int) (l : List Int) (p : List UInt8) : isD (mkA c x r l p) = true := by
 unfold mkA
 repeat' split
 all_goals rfl
def QiM (P : Prg) (g : Nat) : Prop := ∀ (c x r : Int) (l : List Int) (p : List UInt8), I32 l → l.length ≤ 1000000 → VC P g [clA c x r l, .str p] (mkA c x r l p)
theorem QlC {P : Prg} {g fC t0 t1 : Nat} (bd : Qf P g 35 [.cell 4 t1, .tmp 5] (ZD fC t0 t1)) (hC : Qbm P fC) (ht : ZJ P t1 = some (some 5)) : QiM P g := by
 intro c x r l p hI hl
 refine VC.of_acall (by simp [isDL, isD, Zy, clA]) (QtR _ _ _ _ _) (ACall.of_body bd (by simp) ?_)
 have hC' := hC c x r l hI hl
 rw [il] at hC'
 rcases QcK c x r l with h | h
 case inr =>
  rw [h] at hC'
  rw [mkA, if_pos (by omega)]
  simp (maxSteps := 4000000) (disch := omega) only [rq, simprocAttr, ZD, clA, il]
  refine Qa.vc hC' ?_
  simp (maxSteps := 4000000) (disch := omega) only [rq, simprocAttr, ZK, ht, Q2, hdA]
 rw [h] at hC'
 rw [mkA, if_neg (by omega)]
 by_cases hp : 64 < p.length
 ·rw [if_pos hp]
  simp (maxSteps := 4000000) (disch := omega) only [rq, simprocAttr, ZD, clA, il]
  refine Qa.vc hC' ?_
  simp (maxSteps := 4000000) (disch := omega) only [rq, simprocAttr, ZK, ht, Q2, hdA]
 rw [if_neg hp]
 obtain ⟨k, n, rfl, k1, k2, hlen, hok, h4⟩ := Qaf h
 have hk0 : (l.length : Int) / (k : Int) = n := by rw [hlen, Int.natCast_mul, Int.mul_ediv_cancel _ (by omega)]
 have hk3 : ((l.length : Int)).tdiv (k : Int) = n := by rw [Int.tdiv_eq_ediv_of_nonneg (by omega), hk0]
 have hq0 : (k : Int) ≠ 0 := by omega
 have hn4 : n ≤ 4000 := by have := hok.2.2.2.1; omega
 rw [hk0]
 by_cases hn : p = []
 ·subst hn
  simp (maxSteps := 4000000) (disch := omega) only [rq, simprocAttr, ZD, clA, il]
  refine Qa.vc hC' ?_
  simp (maxSteps := 4000000) (disch := omega) only [rq, simprocAttr, ZK, ht, Q2, hdA, Qo0, hk0, hk3]
 ·have hs : Qo0 .neq p [] = some (.bool true) := by simp [Qo0, hn]
  have h2 : (if p = [] then (1 : Int) else 2) = 2 := if_neg hn
  rw [h2]
  simp (maxSteps := 4000000) (disch := omega) only [rq, simprocAttr, ZD, clA, il]
  refine Qa.vc hC' ?_
  simp (maxSteps := 4000000) (disch := omega) only [rq, simprocAttr, ZK, ht, Q2, hdA, hs, hk0, hk3]
def Quo : List AV := [.int .i64 2, .int .i64 2, .int .i64 2, .int .i64 4, .int .i64 4]
def hdP (f c b r n : Nat) : Nat → List UInt8
 | 0 => [84, 84, 65, 49]
 | 1 => [84, 84, 65, 49] ++ leB f 2
 | 2 => [84, 84, 65, 49] ++ leB f 2 ++ leB c 2
 | 3 => [84, 84, 65, 49] ++ leB f 2 ++ leB c 2 ++ leB b 2
 | 4 => [84, 84, 65, 49] ++ leB f 2 ++ leB c 2 ++ leB b 2 ++ leB r 4
 | _ => [84, 84, 65, 49] ++ leB f 2 ++ leB c 2 ++ leB b 2 ++ leB r 4 ++ leB n 4
def hdB (f c b r n : Nat) : List UInt8 := Zi (hdP f c b r n 5)
theorem QlD {f c b r n : Int} (h : hdN f c b r n = 0) : ∃ f' c' b' r' n' : Nat, f = f' ∧ c = c' ∧ b = b' ∧ r = r' ∧ n = n' ∧ f' ≤ 2 ∧ c' ≤ 6 ∧ b' ≤ 24 ∧ r' ≤ 1048576 ∧ n' ≤ 4000 := by
 unfold hdN at h
 split at h
 case isFalse => cases h
 rename_i h1
 obtain ⟨⟨a1, a2, a3, a4, a5, a6, a7⟩, b1, b2⟩ := h1
 have q3 : 4000 / c ≤ 4000 := Int.ediv_le_self _ (by omega)
 exact ⟨f.toNat, c.toNat, b.toNat, r.toNat, n.toNat, by omega, by omega, by omega, by omega, by omega, by omega, by omega, by omega, by omega, by omega⟩
def hwA (f c b r n : Int) : AV := if hdN f c b r n = 0 then .tup [bs (hdB f.toNat c.toNat b.toNat r.toNat n.toNat), .int .i64 0] else .tup [.list 0 [], .int .i64 8]
theorem QtS (f c b r n : Int) : isD (hwA f c b r n) = true := by unfold hwA; split <;> simp [isD, isDL, QQ]
theorem QpX (f c b r n : Int) : hdN f c b r n = 0 ∨ hdN f c b r n = 8 := by unfold hdN; split <;> simp
def QfS (P : Prg) (g : Nat) : Prop := ∀ f c b r n : Int, VC P g [hdA f c b r n] (hwA f c b r n)
set_option maxHeartbeats 2000000 in
theorem QjT {P : Prg} {g fC fB fS t0 t1 g0 : Nat} (bd : Qf P g 63 [.tmp 2, .tmp 3] (Zr fC fB fS t0 t1 g0)) (hC : Qdy P fC) (hB : JZ P fB) (hS : Qg3 P fS) (h0 : P.G.lookup g0 = some Quo) : QfS P g := by
 intro f c b r n
 refine VC.of_walk 1 rfl (QtS _ _ _ _ _) (ACall.of_body bd (by simp) ?_)
 have hC' := hC f c b r n
 have g0' : Qsk P.G g0 = .cell Quo := by simp [Qsk, h0]
 rcases QpX f c b r n with h | h
 case inr =>
  rw [h] at hC'
  rw [hwA, if_neg (by omega)]
  rw [hdA] at hC' ⊢
  simp (maxSteps := 4000000) (disch := omega) only [rq, simprocAttr, Zr]
  refine Qa.vc hC' ?_
  simp (maxSteps := 4000000) (disch := omega) only [rq, simprocAttr]
  simp [QS, QG, frzL, QD]
 rw [h] at hC'
 rw [hwA, if_pos h]
 obtain ⟨f, c, b, r, n, rfl, rfl, rfl, rfl, rfl, a1, a2, a3, a4, a5⟩ := QlD h
 simp only [Int.toNat_natCast]
 rw [hdA] at hC' ⊢
 have B1 := hB f 2 (by omega) (by omega) (by simp; omega)
 have B2 := hB c 2 (by omega) (by omega) (by simp; omega)
 have B3 := hB b 2 (by omega) (by omega) (by simp; omega)
 have B4 := hB r 4 (by omega) (by omega) (by simp; omega)
 have B5 := hB n 4 (by omega) (by omega) (by simp; omega)
 rw [bs, Qb] at B1 B2 B3 B4 B5
 have u2 : ∀ m, (u8 (leB m 2)).length = 2 := fun m => by rw [QC, Qb]
 have u4 : ∀ m, (u8 (leB m 4)).length = 4 := fun m => by rw [QC, Qb]
 have c0 : u8 (hdP f c b r n 0) ++ u8 (leB f 2) = u8 (hdP f c b r n 1) := by simp [hdP, u8]
 have c1 : u8 (hdP f c b r n 1) ++ u8 (leB c 2) = u8 (hdP f c b r n 2) := by simp [hdP, u8]
 have c2 : u8 (hdP f c b r n 2) ++ u8 (leB b 2) = u8 (hdP f c b r n 3) := by simp [hdP, u8]
 have c3 : u8 (hdP f c b r n 3) ++ u8 (leB r 4) = u8 (hdP f c b r n 4) := by simp [hdP, u8]
 have c4 : u8 (hdP f c b r n 4) ++ u8 (leB n 4) = u8 (hdP f c b r n 5) := by simp [hdP, u8]
 have l0 : (hdP f c b r n 0).length = 4 := rfl
 have l1 : (hdP f c b r n 1).length = 6 := by simp [hdP, Qb]
 have l2 : (hdP f c b r n 2).length = 8 := by simp [hdP, Qb]
 have l3 : (hdP f c b r n 3).length = 10 := by simp [hdP, Qb]
 have l4 : (hdP f c b r n 4).length = 14 := by simp [hdP, Qb]
 have l5 : (hdP f c b r n 5).length = 18 := by simp [hdP, Qb]
 have e0 : u8 (hdP f c b r n 0) = [.int .u8 84, .int .u8 84, .int .u8 65, .int .u8 49] := rfl
 have hcat : u8 (hdP f c b r n 5) ++ u8 (leB (QbE (hdP f c b r n 5)) 4) = u8 (hdB f c b r n) := by simp [u8, hdB, Zi]
 have hlen : (hdB f c b r n).length = 22 := by rw [hdB, Zi, List.length_append, Qb, l5]
 have hS' := hS (hdP f c b r n 5)
 rw [if_neg (by omega), ← QbE, bs, l5] at hS'
 have hsm : QbE (hdP f c b r n 5) < 4294967296 := by unfold QbE; omega
 have B6 := hB (QbE (hdP f c b r n 5)) 4 (by omega) (by omega) (by simpa using hsm)
 rw [bs, Qb] at B6
 have t5 := Qw (hdP f c b r n 5)
 have tb := Qw (hdB f c b r n)
 rw [bs, hlen]
 obtain ⟨H, hH⟩ : ∃ H, H = hdP f c b r n := ⟨_, rfl⟩
 rw [← hH] at c0 c1 c2 c3 c4 l0 l1 l2 l3 l4 l5 e0 hcat hS' hsm B6 t5
 generalize QbE (H 5) = sm at *
 generalize hdB f c b r n = D at *
 have g0'' : Qsk P.G g0 = .cell [.int .i64 2, .int .i64 2, .int .i64 2, .int .i64 4, .int .i64 4] := g0'
 simp (maxSteps := 4000000) (disch := omega) only [rq, simprocAttr, Zr]
 refine Qa.vc hC' ?_
 simp (maxSteps := 4000000) (disch := omega) only [rq, simprocAttr]
 refine Q0.by (ι := Nat) (fun j => ⟨[(32, .int .i64 j), (31, .agg [.int .i64 f, .int .i64 c, .int .i64 b, .int .i64 r, .int .i64 n]), (5, .own 1 (H j).length)], [⟨t0, 5, 1, [.int .i64 f, .int .i64 c, .int .i64 b, .int .i64 r, .int .i64 n], 0⟩, ⟨t1, 1, (H j).length, u8 (H j), 1⟩]⟩) (fun j => j ≤ 5) (fun j => 5 - j) 0 ?_ (by omega) ?_
 ·simp only [e0, l0]
  exact Le.slots (by simp [Am.look])
 intro j hj
 have hj5 : j = 0 ∨ j = 1 ∨ j = 2 ∨ j = 3 ∨ j = 4 ∨ j = 5 := by omega
 rcases hj5 with rfl | rfl | rfl | rfl | rfl | rfl
 ·simp (maxSteps := 4000000) (disch := omega) only [rq, simprocAttr, g0'', l0]
  refine Qa.vc B1 ?_
  simp (maxSteps := 4000000) (disch := omega) only [rq, simprocAttr, u2, c0]
  exact ⟨1, by omega, by omega, by rw [l1]; exact Le.slots (by simp [Am.look])⟩
 ·simp (maxSteps := 4000000) (disch := omega) only [rq, simprocAttr, g0'', l1]
  refine Qa.vc B2 ?_
  simp (maxSteps := 4000000) (disch := omega) only [rq, simprocAttr, u2, c1]
  exact ⟨2, by omega, by omega, by rw [l2]; exact Le.slots (by simp [Am.look])⟩
 ·simp (maxSteps := 4000000) (disch := omega) only [rq, simprocAttr, g0'', l2]
  refine Qa.vc B3 ?_
  simp (maxSteps := 4000000) (disch := omega) only [rq, simprocAttr, u2, c2]
  exact ⟨3, by omega, by omega, by rw [l3]; exact Le.slots (by simp [Am.look])⟩
 ·simp (maxSteps := 4000000) (disch := omega) only [rq, simprocAttr, g0'', l3]
  refine Qa.vc B4 ?_
  simp (maxSteps := 4000000) (disch := omega) only [rq, simprocAttr, u4, c3]
  exact ⟨4, by omega, by omega, by rw [l4]; exact Le.slots (by simp [Am.look])⟩
 ·simp (maxSteps := 4000000) (disch := omega) only [rq, simprocAttr, g0'', l4]
  refine Qa.vc B5 ?_
  simp (maxSteps := 4000000) (disch := omega) only [rq, simprocAttr, u4, c4]
  exact ⟨5, by omega, by omega, by rw [l5]; exact Le.slots (by simp [Am.look])⟩
 ·simp (maxSteps := 4000000) (disch := omega) only [rq, simprocAttr, l5]
  refine Qa.flat 1 hS' rfl (by simp [QS, QG, frzL, QD, frzL_T _ t5]) ?_
  simp (maxSteps := 4000000) (disch := omega) only [rq, simprocAttr]
  refine Qa.vc B6 ?_
  simp (maxSteps := 4000000) (disch := omega) only [rq, simprocAttr, u4, hcat]
  simp [QS, QG, frzL, QD, frzL_T _ tb]
def Zn (L : List (List UInt8)) : List Int := L.map fun b => (b.length : Int)
theorem Qcb (L : List (List UInt8)) : (Zn L).length = L.length := by simp [Zn]
def Qq7 (P : Prg) (f : Nat) : Prop := ∀ b : List UInt8, VC P f [bs b] (.int .i64 b.length)
theorem QhY {P : Prg} {f : Nat} (bd : Qf P f 5 [.tmp 2] Jn) : Qq7 P f := by
 intro b
 refine VC.of_acall (by simp [isDL, QQ]) rfl (ACall.of_body bd (by simp) ?_)
 simp (maxSteps := 4000000) (disch := omega) only [rq, simprocAttr, Jn, bs]
def Qrb (g : Nat) (P : Prg) (f : Nat) : Prop := ∀ L : List (List UInt8), L.length ≤ 1000000 → (∀ j, (L.getD j []).length ≤ 1000000) → VC P f [bss L, .fn (.func g) [] []] (QoA (Zn L))
theorem QlQ {P : Prg} {f g t0 : Nat} (bd : Qf P f 26 [.tmp 4] (Zw t0)) (hg : Qq7 P g) : Qrb g P f := by
 intro L hL hL2
 refine VC.of_walk 1 (by simp [isDL, isD, QcJ]) (QhR _) (ACall.of_body bd (by simp) ?_)
 have hmb : (L.map bs).length = L.length := by simp
 have hz : Qp [.int .i64 0] L.length = ks .i64 ((Zn L).take 0 ++ List.replicate (L.length - 0) 0) := by rw [Qps]; simp
 have tl := Qv .i64 (Zn L)
 have hll := Qcb L
 rw [QoA, hll, bss]
 simp (maxSteps := 4000000) (disch := omega) only [rq, simprocAttr, Zw, hz]
 refine Q0.by (ι := Nat) (fun k => ⟨[(13, .int .i64 k), (12, .int .i64 L.length), (11, .list L.length (L.map bs)), (5, .own 0 L.length), (1, .fn (.func g) [] [])], [⟨t0, 1, L.length, ks .i64 ((Zn L).take k ++ List.replicate (L.length - k) 0), 0⟩]⟩) (fun k => k ≤ L.length) (fun k => L.length - k) 0 (Le.slots (by simp [Am.look])) (by omega) ?_
 intro k hk
 have hkl : (ks .i64 ((Zn L).take k ++ List.replicate (L.length - k) 0)).length = L.length := by rw [Qd, List.length_append, List.length_take, hll, List.length_replicate]; omega
 by_cases hlt : k < L.length
 ·have e1 := Qg0 (L := L) (k := k) hlt
  have hg' := hg (L.getD k [])
  have hst : (ks .i64 ((Zn L).take k ++ List.replicate (L.length - k) 0)).take k ++ .int .i64 ((L.getD k []).length : Int) :: (ks .i64 ((Zn L).take k ++ List.replicate (L.length - k) 0)).drop (k + 1) = ks .i64 ((Zn L).take (k + 1) ++ List.replicate (L.length - (k + 1)) 0) := by
   have hq : (Zn L)[k]? = some ((L.getD k []).length : Int) := by simp [Zn, List.getD_eq_getElem?_getD, List.getElem?_eq_getElem hlt]
   have htk : (Zn L).take (k + 1) = (Zn L).take k ++ [((L.getD k []).length : Int)] := by rw [List.take_add_one, hq]; rfl
   have hl1 : ((Zn L).take k).length = k := by rw [List.length_take, hll]; omega
   rw [QpQ, Qa6, htk, List.take_append_of_le_length (by omega), List.take_of_length_le (by omega), List.drop_append, List.drop_eq_nil_of_le (by omega), hl1, List.drop_replicate, List.nil_append]
   simp only [ks, List.map_append, List.map_cons, List.map_nil, List.append_assoc, List.cons_append, List.nil_append]
   rw [show L.length - k - (k + 1 - k) = L.length - (k + 1) by omega]
  have hst2 : (ks .i64 ((Zn L).take k ++ List.replicate (L.length - k) 0)).take k ++ [.int .i64 ((L.getD k []).length : Int)] ++ (ks .i64 ((Zn L).take k ++ List.replicate (L.length - k) 0)).drop (k + 1) = ks .i64 ((Zn L).take (k + 1) ++ List.replicate (L.length - (k + 1)) 0) := by rw [← hst]; simp
  rw [bs] at e1 hg'
  have hl2 := hL2 k
  generalize L.getD k [] = b at *
  simp (maxSteps := 4000000) (disch := omega) only [rq, simprocAttr, e1, hmb, hkl]
  refine Qa.vc hg' ?_
  simp (maxSteps := 4000000) (disch := omega) only [rq, simprocAttr, hkl, hst, hst2]
  exact ⟨k + 1, by omega, by omega, Le.slots (by simp [Am.look])⟩
 ·have ek : k = L.length := by omega
  subst ek
  have e0 : (Zn L).take L.length ++ List.replicate (L.length - L.length) (0 : Int) = Zn L := by rw [← hll, List.take_length]; simp
  rw [e0]
  simp (maxSteps := 4000000) (disch := omega) only [rq, simprocAttr]
  simp [QS, QG, frzL, QD, frzL_T _ tl]
def Qmz (P : Prg) (f : Nat) : Prop := ∀ L : List (List UInt8), L.length ≤ 1000000 → L.flatten.length ≤ 1000000 → VC P f [bss L] (bs L.flatten)
theorem QlP {P : Prg} {f t0 : Nat} (bd : Qf P f 17 [.tmp 2] (Qay t0)) : Qmz P f := by
 intro L hL hF
 refine VC.of_walk 1 (by simp [isDL, QcJ]) (QQ _) (ACall.of_cut 2 bd (by simp) ?_)
 have hmb : (L.map bs).length = L.length := by simp
 rw [bs, bss]
 simp (maxSteps := 4000000) (disch := omega) only [rq, simprocAttr, Qay, Qao]
 refine ⟨_, Le.virt 3 t0 1 (by decide) rfl, ?_⟩
 simp (maxSteps := 4000000) (disch := omega) only [rq, simprocAttr, Qao]
 refine Q0.by (ι := Nat) (fun k => ⟨[(8, .int .i64 k), (7, .int .i64 L.length), (6, .list L.length (L.map bs)), (3, .own 0 (L.take k).flatten.length)], [⟨t0, 1, (L.take k).flatten.length, u8 (L.take k).flatten, 0⟩]⟩) (fun k => k ≤ L.length) (fun k => L.length - k) 0 (Le.slots (by simp [Am.look, u8])) (by omega) ?_
 intro k hk
 have hle : (L.take k).flatten.length ≤ L.flatten.length := by
  conv => rhs; rw [← List.take_append_drop k L, List.flatten_append, List.length_append]
  omega
 by_cases hlt : k < L.length
 ·have e1 := Qg0 (L := L) (k := k) hlt
  have hs : (L.take (k + 1)).flatten = (L.take k).flatten ++ L.getD k [] := by
   rw [List.take_succ_eq_append_getElem hlt, List.flatten_append]
   simp [List.getD_eq_getElem?_getD, List.getElem?_eq_getElem hlt]
  have hle2 : (L.take (k + 1)).flatten.length ≤ L.flatten.length := by
   conv => rhs; rw [← List.take_append_drop (k + 1) L, List.flatten_append, List.length_append]
   omega
  rw [hs, List.length_append] at hle2
  have hcat : u8 (L.take k).flatten ++ u8 (L.getD k []) = u8 (L.take (k + 1)).flatten := by rw [hs]; simp [u8]
  have hlen : (L.take k).flatten.length + (L.getD k []).length = (L.take (k + 1)).flatten.length := by rw [hs, List.length_append]
  have hbl : (u8 (L.getD k [])).length = (L.getD k []).length := QC _
  rw [bs] at e1
  generalize hY : (L.take (k + 1)).flatten = Y at *
  generalize L.getD k [] = b at *
  generalize (L.take k).flatten = X at *
  simp (maxSteps := 4000000) (disch := omega) only [rq, simprocAttr, Qao, e1, hmb, hbl, hcat, hlen]
  refine ⟨k + 1, by omega, by omega, ?_⟩
  simp only [hY]
  exact Le.slots (by simp [Am.look])
 ·have ek : k = L.length := by omega
  subst ek
  have tF := Qw L.flatten
  rw [List.take_length]
  simp (maxSteps := 4000000) (disch := omega) only [rq, simprocAttr, Qao]
  simp [QS, QG, frzL, QD, frzL_T _ tF]
theorem Qhv : ∀ {l : List Int} {m : Int}, Qle m l → l.sum ≤ m ∨ l = []
 | [], _, _ => .inr rfl
 | n :: l, m, h => by
  obtain ⟨h1, h2, h3⟩ := h
  rcases Qhv h3 with h4 | h4
  ·left; rw [List.sum_cons]; omega
  ·left; subst h4; simp; omega
theorem Qc1 : ∀ L : List (List UInt8), (Zn L).sum = (L.flatten.length : Int)
 | [] => rfl
 | b :: L => by
  have h := Qc1 L
  simp only [Zn, List.map_cons, List.sum_cons, List.flatten_cons, List.length_append] at h ⊢
  omega
def QbL (p : List UInt8) : Int := if p = [] then 1 else 2
theorem Qm3 {c x r : Int} {l : List Int} (p : List UInt8) (h : ZF c x r l = 0) : hdN (QbL p) c x r (l.length / c) = 0 := by
 obtain ⟨h1, h2⟩ := Qoj h
 obtain ⟨⟨o1, o2, o3, o4, o5⟩, he, hn1, hn2⟩ := QtY h2
 have hce : Qh9 r (l.length / c) = 0 := by
  rw [QpW] at h2
  by_cases h9 : Qix c x (l.length / c) = 0 ∧ Qh9 r (l.length / c) = 0
  ·exact h9.2
  ·rw [if_neg h9] at h2; cases h2
 have hc : Z2 x ≠ 0 ∧ 1 ≤ c ∧ c ≤ 6 := by
  rcases QX c x with q | ⟨q, a, b, d⟩
  ·omega
  ·exact ⟨by omega, by omega, by omega⟩
 have hx := (QlE x).1 hc.1
 rw [hdN, if_pos ⟨⟨hx, by unfold QbL; split <;> simp, hc.2.1, hc.2.2, o1, o2, hn1⟩, hn2, hce⟩]
def QmJ (p : List UInt8) : List UInt8 := if p = [] then [] else leB (ZW 0 p) 8
def Qdk (c x r : Int) (l : List Int) (p : List UInt8) : List UInt8 :=
 hdB (QbL p).toNat c.toNat x.toNat r.toNat (l.length / c.toNat) ++ (QmJ p ++ (Zi (Jd (Zn (Qo c x r l (ofK (ZW 0 p) 8)))) ++ (Qo c x r l (ofK (ZW 0 p) 8)).flatten))
def Qj4 (c x r : Int) (l : List Int) (p : List UInt8) : AV :=
 if ZF c x r l ≠ 0 then .tup [.list 0 [], .int .i64 8] else if 64 < p.length then .tup [.list 0 [], .int .i64 2] else if skN (Zn (Qo c x r l (ofK (ZW 0 p) 8))) ≠ 0 then .tup [.list 0 [], .int .i64 8] else .tup [bs (Qdk c x r l p), .int .i64 0]
theorem Qsg (c x r : Int) (l : List Int) (p : List UInt8) : isD (Qj4 c x r l p) = true := by
 unfold Qj4
 repeat' split
 all_goals simp [isD, isDL, QQ]
def QiS (P : Prg) (f : Nat) : Prop := ∀ (c x r : Int) (l : List Int) (p : List UInt8), I32 l → l.length ≤ 1000000 → VC P f [clA c x r l, .str p] (Qj4 c x r l p)
set_option maxHeartbeats 2000000 in
theorem QlR {P : Prg} {f fM fF fW fD fE fg fS fJ t0 t1 t2 : Nat} (bd : Qf P f 62 [.tmp 4, .tmp 5] (QY fM fF fW fD fE fg fS fJ t0 t1 t2)) (hM : QiM P fM) (hF : QiO P fF) (hW : QfS P fW) (hD : Qci P fD) (hE : Qrb fg P fE) (hS : Qdw P fS) (hJ : Qmz P fJ) : QiS P f := by
 intro c x r l p hI hl
 refine VC.of_walk 1 (by simp [isDL, isD, Zy, clA]) (Qsg _ _ _ _ _) (ACall.of_body bd (by simp) ?_)
 have hM' := hM c x r l p hI hl
 have tl := Qv .i32 l
 rcases QcK c x r l with h | h
 case inr =>
  rw [mkA, if_pos (by omega), hdA] at hM'
  rw [Qj4, if_pos (by omega)]
  rw [clA, il] at hM' ⊢
  simp (maxSteps := 4000000) (disch := omega) only [rq, simprocAttr, QY]
  refine Qa.vc hM' ?_
  simp (maxSteps := 4000000) (disch := omega) only [rq, simprocAttr]
  simp [QS, QG, frzL, QD]
 rw [mkA, if_neg (by omega)] at hM'
 rw [Qj4, if_neg (by omega)]
 by_cases hp : 64 < p.length
 ·rw [if_pos hp, hdA] at hM'
  rw [if_pos hp]
  rw [clA, il] at hM' ⊢
  simp (maxSteps := 4000000) (disch := omega) only [rq, simprocAttr, QY]
  refine Qa.vc hM' ?_
  simp (maxSteps := 4000000) (disch := omega) only [rq, simprocAttr]
  simp [QS, QG, frzL, QD]
 rw [if_neg hp, ← QbL] at hM'
 rw [if_neg hp]
 have hF' := hF c x r l p hI hl
 rw [Qp2 h hp] at hF'
 have hW' := hW (QbL p) c x r (l.length / c)
 rw [hwA, if_pos (Qm3 p h)] at hW'
 have hD' := hD p
 rw [Qub, if_neg hp] at hD'
 have hfr := Qp3 (T := ofK (ZW 0 p) 8) h hI
 have hfl := Qae c x r l (ofK (ZW 0 p) 8)
 have hple := Qb7 h
 obtain ⟨k, n, rfl, k1, k2, hlen, hok, h4⟩ := Qaf h
 have hk0 : (l.length : Int) / (k : Int) = n := by rw [hlen, Int.natCast_mul, Int.mul_ediv_cancel _ (by omega)]
 have hk1 : l.length / k = n := by rw [hlen, Nat.mul_div_cancel _ (by omega)]
 simp only [Qdk, Int.toNat_natCast, hk0, hk1] at hM' hW' ⊢
 have hE' := hE (Qo k x r l (ofK (ZW 0 p) 8)) hfr.1 hfr.2
 have hv : ∀ v ∈ Zn (Qo k x r l (ofK (ZW 0 p) 8)), -9223372036854775808 ≤ v ∧ v ≤ 9223372036854775807 := fun v hv => by
  obtain ⟨b, hb, rfl⟩ := List.mem_map.1 hv
  obtain ⟨i, hi, rfl⟩ := List.mem_iff_getElem.1 hb
  have := hfr.2 i
  rw [List.getD_eq_getElem?_getD, List.getElem?_eq_getElem hi] at this
  simp only [Option.getD_some] at this
  omega
 have hS' := hS (Zn (Qo k x r l (ofK (ZW 0 p) 8))) (by rw [Qcb]; omega) hv
 have hff := Qc1 (Qo k x r l (ofK (ZW 0 p) 8))
 have hll := Qcb (Qo k x r l (ofK (ZW 0 p) 8))
 have htl := Qhs (Zn (Qo k x r l (ofK (ZW 0 p) 8)))
 have hJ0 := fun A B C hx hy => hJ (A :: B :: C :: Qo k x r l (ofK (ZW 0 p) 8)) hx hy
 generalize Qo k x r l (ofK (ZW 0 p) 8) = FF at *
 generalize hHd : hdB (QbL p).toNat k x.toNat r.toNat n = HD at *
 have hHl : HD.length = 22 := by
  rw [← hHd, hdB, Zi, List.length_append, Qb]
  simp [hdP, Qb]
 rw [QoA, hll] at hE' hS'
 have hmf : (FF.map bs).length = FF.length := by simp
 have tF := ZH FF
 have kn : (ks .i64 (Zn FF)).length = FF.length := by rw [Qd, hll]
 rw [bss] at hF' hE'
 simp only [clA, il, hdA] at hM' hF' hW' ⊢
 rcases Qe4 (Zn FF) with hs | ⟨hs, s1, s2, s3⟩
 ·rw [skA, if_neg (by omega), hs] at hS'
  rw [if_pos (by omega)]
  by_cases hn : p = []
  ·have hf : QbL p = 1 := by rw [QbL, if_pos hn]
   rw [hf] at hM' hW'
   simp (maxSteps := 4000000) (disch := omega) only [rq, simprocAttr, QY]
   refine Qa.vc hM' ?_
   simp (maxSteps := 4000000) (disch := omega) only [rq, simprocAttr]
   refine Qa.vc hF' ?_
   simp (maxSteps := 4000000) (disch := omega) only [rq, simprocAttr]
   refine Qa.vc hW' ?_
   simp (maxSteps := 4000000) (disch := omega) only [rq, simprocAttr]
   refine Qa.vc hE' ?_
   simp (maxSteps := 4000000) (disch := omega) only [rq, simprocAttr]
   refine Qa.vc hS' ?_
   simp (maxSteps := 4000000) (disch := omega) only [rq, simprocAttr]
   simp [QS, QG, frzL, QD]
  ·have hf : QbL p = 2 := by rw [QbL, if_neg hn]
   rw [hf] at hM' hW'
   simp (maxSteps := 4000000) (disch := omega) only [rq, simprocAttr, QY]
   refine Qa.vc hM' ?_
   simp (maxSteps := 4000000) (disch := omega) only [rq, simprocAttr]
   refine Qa.vc hF' ?_
   simp (maxSteps := 4000000) (disch := omega) only [rq, simprocAttr]
   refine Qa.vc hW' ?_
   simp (maxSteps := 4000000) (disch := omega) only [rq, simprocAttr]
   refine Qa.vc hD' ?_
   simp (maxSteps := 4000000) (disch := omega) only [rq, simprocAttr]
   refine Qa.vc hE' ?_
   simp (maxSteps := 4000000) (disch := omega) only [rq, simprocAttr]
   refine Qa.vc hS' ?_
   simp (maxSteps := 4000000) (disch := omega) only [rq, simprocAttr]
   simp [QS, QG, frzL, QD]
 ·rw [skA, if_pos hs] at hS'
  rw [if_neg (by omega)]
  have hsum : FF.flatten.length ≤ 100000 := by
   have hok2 : Qle 100000 (Zn FF) := by
    unfold skN at hs
    split at hs
    ·cases hs
    split at hs
    ·assumption
    ·cases hs
   rcases Qhv hok2 with q | q
   ·rw [hff] at q; omega
   ·rw [q] at s1; simp at s1
  have hTb : (Zi (Jd (Zn FF))).length ≤ 5000 := by rw [Zi, List.length_append, Qb, htl]; omega
  have tH := Qw HD
  have tT := Qw (Zi (Jd (Zn FF)))
  generalize Zi (Jd (Zn FF)) = TB at *
  by_cases hn : p = []
  ·have hf : QbL p = 1 := by rw [QbL, if_pos hn]
   have hsb : QmJ p = [] := by rw [QmJ, if_pos hn]
   rw [hf] at hM' hW'
   rw [hsb, List.nil_append]
   have hJ' := hJ0 HD [] TB (by simp only [List.length_cons]; omega) (by simp only [List.flatten_cons, List.length_append, List.length_nil]; omega)
   simp only [List.flatten_cons, List.nil_append] at hJ'
   have tX := Qw (HD ++ (TB ++ FF.flatten))
   generalize HD ++ (TB ++ FF.flatten) = XX at *
   simp only [bss, bs, List.map_cons, List.length_cons, QaH, List.length_nil] at hJ' hW' hS' ⊢
   simp (maxSteps := 4000000) (disch := omega) only [rq, simprocAttr, QY]
   refine Qa.vc hM' ?_
   simp (maxSteps := 4000000) (disch := omega) only [rq, simprocAttr]
   refine Qa.vc hF' ?_
   simp (maxSteps := 4000000) (disch := omega) only [rq, simprocAttr]
   refine Qa.vc hW' ?_
   simp (maxSteps := 4000000) (disch := omega) only [rq, simprocAttr]
   refine Qa.vc hE' ?_
   simp (maxSteps := 4000000) (disch := omega) only [rq, simprocAttr]
   refine Qa.vc hS' ?_
   simp (maxSteps := 4000000) (disch := omega) only [rq, simprocAttr, hmf]
   refine Qa.still 1 [2] hJ' (by simp [QS, QG, frzL, QD, frzL_T _ tH, frzL_T _ tT, frzL_T _ tF]; omega) ?_
   simp (maxSteps := 4000000) (disch := omega) only [rq, simprocAttr]
   simp [QS, QG, frzL, QD, frzL_T _ tX]
  ·have hf : QbL p = 2 := by rw [QbL, if_neg hn]
   have hsb : QmJ p = leB (ZW 0 p) 8 := by rw [QmJ, if_neg hn]
   rw [hf] at hM' hW'
   rw [hsb]
   have hJ' := hJ0 HD (leB (ZW 0 p) 8) TB (by simp only [List.length_cons]; omega) (by simp only [List.flatten_cons, List.length_append, Qb]; omega)
   simp only [List.flatten_cons] at hJ'
   have tX := Qw (HD ++ (leB (ZW 0 p) 8 ++ (TB ++ FF.flatten)))
   have tS := Qw (leB (ZW 0 p) 8)
   have l8 : (leB (ZW 0 p) 8).length = 8 := Qb _ _
   generalize HD ++ (leB (ZW 0 p) 8 ++ (TB ++ FF.flatten)) = XX at *
   generalize leB (ZW 0 p) 8 = SB at *
   simp only [bss, bs, List.map_cons, List.length_cons] at hJ' hW' hS' hD' ⊢
   simp (maxSteps := 4000000) (disch := omega) only [rq, simprocAttr, QY]
   refine Qa.vc hM' ?_
   simp (maxSteps := 4000000) (disch := omega) only [rq, simprocAttr]
   refine Qa.vc hF' ?_
   simp (maxSteps := 4000000) (disch := omega) only [rq, simprocAttr]
   refine Qa.vc hW' ?_
   simp (maxSteps := 4000000) (disch := omega) only [rq, simprocAttr]
   refine Qa.vc hD' ?_
   simp (maxSteps := 4000000) (disch := omega) only [rq, simprocAttr]
   refine Qa.vc hE' ?_
   simp (maxSteps := 4000000) (disch := omega) only [rq, simprocAttr]
   refine Qa.vc hS' ?_
   simp (maxSteps := 4000000) (disch := omega) only [rq, simprocAttr, hmf]
   refine Qa.still 1 [2] hJ' (by simp [QS, QG, frzL, QD, frzL_T _ tH, frzL_T _ tT, frzL_T _ tF, frzL_T _ tS]; omega) ?_
   simp (maxSteps := 4000000) (disch := omega) only [rq, simprocAttr]
   simp [QS, QG, frzL, QD, frzL_T _ tX]
theorem Qt6 {c x : Int} {t l : List Int} (hL : I32 l) (h : QbS c x l = 0) : (Qdm c.toNat x t l).length ≤ 11 * l.length + 5 := by
 obtain ⟨k, m, rfl, hkM, hx, e1, e2, e3, e4, e5, e6⟩ := Qiw hL h
 have hvl := QeB k x t l
 obtain ⟨_, q2, _⟩ := QaL (c := k) (Qg6 k x t l) (QmI k x t l).length
 rw [Int.toNat_natCast, Qdm, Qe6, QeK]
 unfold nB
 omega
theorem Qpb : ∀ (l : List Int) (m : Int), (∀ v ∈ l, 5 ≤ v) → l.sum ≤ m → Qle m l
 | [], _, _, _ => trivial
 | n :: l, m, h, hs => by
  have h1 := h n List.mem_cons_self
  rw [List.sum_cons] at hs
  have hn : 0 ≤ l.sum := by
   have : ∀ l : List Int, (∀ v ∈ l, 5 ≤ v) → 0 ≤ l.sum := fun l => by
    induction l with
    | nil => intro _; simp
    | cons a l ih =>
     intro h
     have := h a List.mem_cons_self
     have := ih fun v hv => h v (List.mem_cons_of_mem _ hv)
     rw [List.sum_cons]; omega
   exact this l fun v hv => h v (List.mem_cons_of_mem _ hv)
  exact ⟨h1, by omega, Qpb l (m - n) (fun v hv => h v (List.mem_cons_of_mem _ hv)) (by omega)⟩
theorem Qp9 {c x : Int} {T : List Int} : ∀ S : List (List Int), (∀ q ∈ S, I32 q ∧ QbS c x q = 0) → ((S.map (Qdm c.toNat x T)).flatten.length ≤ 11 * S.flatten.length + 5 * S.length)
 | [], _ => by simp
 | q :: S, h => by
  have h1 := Qp9 (T := T) S fun p hp => h p (List.mem_cons_of_mem _ hp)
  obtain ⟨h2, h3⟩ := h q List.mem_cons_self
  have h4 := Qt6 (t := T) h2 h3
  rw [List.map_cons, List.flatten_cons, List.flatten_cons, List.length_append, List.length_append, List.length_cons]
  omega
theorem Qe3 {c x r : Int} {l T : List Int} (h : ZF c x r l = 0) (hI : I32 l) : skN (Zn (Qo c x r l T)) = 0 ∧ (Qo c x r l T).flatten.length ≤ 49000 := by
 have hple := Qb7 h
 have hfl := Qae c x r l T
 have hpl := Qfb c r l
 have hf := Qp9 (T := T) (QW c r l) fun q hq => ⟨QjF h hI q hq, (Qdb h q hq).1⟩
 rw [QdH h] at hf
 have h4 : l.length ≤ 4000 := by obtain ⟨_, _, _, _, _, _, _, h4⟩ := Qaf h; exact h4
 have hfr : (Qo c x r l T).flatten.length ≤ 49000 := by
  show ((QW c r l).map (Qdm c.toNat x T)).flatten.length ≤ 49000
  omega
 have hll := Qcb (Qo c x r l T)
 have h1 : 1 ≤ (Qo c x r l T).length := by rw [hfl, hpl, Xv]; exact Nat.le_add_left 1 _
 refine ⟨?_, hfr⟩
 rw [skN, if_neg (by omega), if_pos]
 refine Qpb _ _ (fun v hv => ?_) (by rw [Qc1]; omega)
 obtain ⟨b, hb, rfl⟩ := List.mem_map.1 hv
 obtain ⟨q, hq, rfl⟩ := List.mem_map.1 (show b ∈ (QW c r l).map (Qdm c.toNat x T) from hb)
 have := (Qj7 (t := T) (QjF h hI q hq) (Qdb h q hq).1).2
 omega
def rdF (b : List UInt8) (o k : Nat) : Nat := leN ((b.drop o).take k)
def Qve : List UInt8 := [84, 84, 65, 49]
def hrN (b : List UInt8) : Int :=
 if b.take 4 ≠ Qve.take b.length then 12
 else if b.length < 22 then 24
 else if QbE (b.take 18) ≠ rdF b 18 4 then 22
 else if ¬ shP (rdF b 4 2) (rdF b 6 2) (rdF b 8 2) (rdF b 10 4) (rdF b 14 4) then 12
 else if ¬ Qrs (rdF b 6 2) (rdF b 10 4) (rdF b 14 4) then 4 else 0
def hrA (b : List UInt8) : AV := if hrN b = 0 then .tup [hdA (rdF b 4 2) (rdF b 6 2) (rdF b 8 2) (rdF b 10 4) (rdF b 14 4), .int .i64 0] else .tup [hdA 0 0 0 0 0, .int .i64 (hrN b)]
theorem QgE {A B C : List UInt8} {o k n : Nat} (h : A.length = o) (hn : n < 256 ^ k) (e : B = leB n k) : rdF (A ++ (B ++ C)) o k = n := by
 subst h e
 rw [rdF, List.drop_left, List.take_append_of_le_length (by rw [Qb]; omega), List.take_of_length_le (by rw [Qb]; omega), QpO _ _ hn]
theorem QtX {f c b r n : Int} (h : hdN f c b r n = 0) (R : List UInt8) : hrA (hdB f.toNat c.toNat b.toNat r.toNat n.toNat ++ R) = .tup [hdA f c b r n, .int .i64 0] := by
 have hh : shP f c b r n ∧ Qrs c r n := by
  unfold hdN at h
  split at h
  ·assumption
  ·cases h
 obtain ⟨f, c, b, r, n, rfl, rfl, rfl, rfl, rfl, a1, a2, a3, a4, a5⟩ := QlD h
 simp only [Int.toNat_natCast]
 have l5 : (hdP f c b r n 5).length = 18 := by simp [hdP, Qb]
 have hsm : QbE (hdP f c b r n 5) < 4294967296 := by unfold QbE; omega
 have e0 : hdB f c b r n ++ R = [84, 84, 65, 49] ++ (leB f 2 ++ (leB c 2 ++ (leB b 2 ++ (leB r 4 ++ (leB n 4 ++ (leB (QbE (hdP f c b r n 5)) 4 ++ R)))))) := by
  simp only [hdB, Zi, hdP, List.append_assoc]
 have lX : (hdB f c b r n ++ R).length = 22 + R.length := by rw [hdB, Zi, List.length_append, List.length_append, Qb, l5]
 have e1 : rdF (hdB f c b r n ++ R) 4 2 = f := by
  rw [e0]
  exact QgE rfl (by omega) rfl
 have e2 : rdF (hdB f c b r n ++ R) 6 2 = c := by
  rw [e0, ← List.append_assoc]
  exact QgE (by simp [Qb]) (by omega) rfl
 have e3 : rdF (hdB f c b r n ++ R) 8 2 = b := by
  rw [e0, ← List.append_assoc, ← List.append_assoc]
  exact QgE (by simp [Qb]) (by omega) rfl
 have e4 : rdF (hdB f c b r n ++ R) 10 4 = r := by
  rw [e0, ← List.append_assoc, ← List.append_assoc, ← List.append_assoc]
  exact QgE (by simp [Qb]) (by omega) rfl
 have e5 : rdF (hdB f c b r n ++ R) 14 4 = n := by
  rw [e0, ← List.append_assoc, ← List.append_assoc, ← List.append_assoc, ← List.append_assoc]
  exact QgE (by simp [Qb]) (by omega) rfl
 have e6 : rdF (hdB f c b r n ++ R) 18 4 = QbE (hdP f c b r n 5) := by
  rw [hdB, Zi, List.append_assoc]
  exact QgE l5 (by simpa using hsm) rfl
 have e7 : (hdB f c b r n ++ R).take 18 = hdP f c b r n 5 := by
  rw [hdB, Zi, List.append_assoc, ← l5, List.take_left]
 have e8 : (hdB f c b r n ++ R).take 4 = Qve.take (hdB f c b r n ++ R).length := by
  rw [lX, List.take_of_length_le (l := Qve) (by simp [Qve]; omega), e0]
  rfl
 have h0 : hrN (hdB f c b r n ++ R) = 0 := by
  unfold hrN
  rw [if_neg (by rw [e8]; simp), if_neg (by omega), if_neg (by rw [e6, e7]; simp), e1, e2, e3, e4, e5, if_neg (fun q => q hh.1), if_neg (fun q => q hh.2)]
 rw [hrA, if_pos h0, e1, e2, e3, e4, e5]
def Qtk (c x r : Int) (l : List Int) (p : List UInt8) : List UInt8 := QmJ p ++ (Zi (Jd (Zn (Qo c x r l (ofK (ZW 0 p) 8)))) ++ (Qo c x r l (ofK (ZW 0 p) 8)).flatten)
theorem Qqg {c x r : Int} {l : List Int} (p : List UInt8) (h : ZF c x r l = 0) : Qdk c x r l p = hdB (QbL p).toNat c.toNat x.toNat r.toNat (((l.length : Int) / c).toNat) ++ Qtk c x r l p ∧ hrA (Qdk c x r l p) = .tup [hdA (QbL p) c x r (l.length / c), .int .i64 0] := by
 have hd := Qm3 p h
 obtain ⟨k, n, rfl, _⟩ := Qaf h
 have e1 : (((l.length : Int) / (k : Int)).toNat) = l.length / (k : Int).toNat := by
  rw [Int.toNat_natCast, ← Int.natCast_ediv, Int.toNat_natCast]
 have e2 : Qdk k x r l p = hdB (QbL p).toNat (k : Int).toNat x.toNat r.toNat (((l.length : Int) / (k : Int)).toNat) ++ Qtk k x r l p := by rw [e1]; rfl
 exact ⟨e2, by rw [e2]; exact QtX hd _⟩
theorem QhV (f c b r n : Nat) : (hdB f c b r n).length = 22 := by
 rw [hdB, Zi, List.length_append, Qb]
 simp [hdP, Qb]
theorem Qjs (l : List Int) : (Zi (Jd l)).length = 4 * l.length + 4 := by rw [Zi, List.length_append, Qb, Qhs]
theorem Qsq {c x r : Int} {l : List Int} {p : List UInt8} (h : ZF c x r l = 0) (hI : I32 l) : (Qdk c x r l p).length = 22 + (QmJ p).length + (4 * (Qo c x r l (ofK (ZW 0 p) 8)).length + 4) + (Qo c x r l (ofK (ZW 0 p) 8)).flatten.length ∧ (Qdk c x r l p).length ≤ 60000 := by
 have h1 := (Qqg p h).1
 have h2 := Qb7 h
 have h3 := Qae c x r l (ofK (ZW 0 p) 8)
 have h4 := (Qe3 (T := ofK (ZW 0 p) 8) h hI).2
 have h5 : (QmJ p).length ≤ 8 := by unfold QmJ; split <;> simp [Qb]
 have h6 := Qjs (Zn (Qo c x r l (ofK (ZW 0 p) 8)))
 rw [Qcb] at h6
 rw [h1, Qtk, List.length_append, List.length_append, List.length_append, QhV, h6]
 omega
def fEx : List UInt8 := Qdk 1 8 8000 [0] []
theorem QvD : Qj4 1 8 8000 [0] [] = .tup [bs fEx, .int .i64 0] := by
 have h1 : ZF 1 8 8000 [0] = 0 := by decide +kernel
 have h2 : skN (Zn (Qo 1 8 8000 [0] (ofK (ZW 0 []) 8))) = 0 := (Qe3 h1 (by intro v hv; simp at hv; omega)).1
 rw [Qj4, if_neg (by omega), if_neg (by simp), if_neg (by omega)]
 rfl
theorem Qt5 : fEx.length = 36 ∧ fEx.take 4 = [84, 84, 65, 49] ∧ (fEx.drop 22).take 4 = [6, 0, 0, 0] := by decide +kernel
def Qeg : Enc := ⟨0, 0, 0, [], [], [], [], [], false, 0⟩
def tpE (e : Enc) : List Int := ofK (ZW 0 e.pw) 8
def Xi (e : Enc) (x : Int) : Enc := ⟨e.ch, e.bits, e.rate, e.pw, [], [], [], [], false, x⟩
def Xj (e : Enc) : Enc := { e with frs := e.frs ++ [Qdm e.ch.toNat e.bits (tpE e) e.smp], smp := [] }
def ZX (e : Enc) (m : List UInt8) : Enc := { e with smp := e.smp ++ ZR e.bits m, rest := [] }
def Xn (e : Enc) (m : List UInt8) : Enc := if ((ZX e m).smp.length : Int) < Qc e.rate * e.ch then ZX e m else Xj (ZX e m)
def Qbt (e : Enc) (c : UInt8) : Enc × Int :=
 if (e.rest.length : Int) + 1 < e.ch * e.bits / 8 then ({ e with rest := e.rest ++ [c] }, 0)
 else if Qa1 e.ch (e.frs.length + 1) (Qr e (Qc e.rate) + 1) = false then (Xi e 18, 18)
 else (Xn e (e.rest ++ [c]), 0)
def QJ : Enc → List UInt8 → Enc × Int
 | e, [] => (e, 0)
 | e, c :: l => if (Qbt e c).2 ≠ 0 then Qbt e c else QJ (Qbt e c).1 l
def J1 (e : Enc) (l : List UInt8) : Enc × Int := if QP e ≠ 0 then (Qeg, 8) else if e.err ≠ 0 then (e, e.err) else if e.done = true then (e, 36) else QJ e l
structure OkG (e : Enc) : Prop where
 r : Qx e.ch e.bits e.rate e.pw = true
 err : e.err = 0
 done : e.done = false
 out : e.out = []
 rest : (e.rest.length : Int) < e.ch * e.bits / 8
 dv : (e.smp.length : Int) % e.ch = 0
 lt : (e.smp.length : Int) / e.ch < Qc e.rate
 fr : e.frs.length ≤ 1000
 ck : QL e.bits e.smp = 0
 rm : Qa1 e.ch (e.frs.length + if 0 < e.smp.length then 1 else 0) (Qr e (Qc e.rate)) = true
 bd : e.frs.any (Qcw ((81 * Qc e.rate * e.ch + 7) / 8 + 4)) = false
set_option maxRecDepth 20000 in
theorem Qj5 {e : Enc} (hr : Qx e.ch e.bits e.rate e.pw = true) (h1 : e.err = 0) (h2 : e.done = false) : Qdl e = true ↔ OkG e := by
 constructor
 ·intro h
  unfold Qdl at h
  simp only at h
  by_cases a1 : 0 < e.out.length ∨ e.ch * e.bits / 8 ≤ e.rest.length ∨ (e.smp.length : Int) % e.ch ≠ 0 ∨ Qc e.rate ≤ (e.smp.length : Int) / e.ch ∨ 1000 < e.frs.length
  ·rw [if_pos a1] at h; cases h
  rw [if_neg a1] at h
  by_cases a2 : QL e.bits e.smp ≠ 0
  ·rw [if_pos a2] at h; cases h
  rw [if_neg a2] at h
  by_cases a3 : Qa1 e.ch (e.frs.length + if 0 < e.smp.length then 1 else 0) (Qr e (Qc e.rate)) = false
  ·rw [if_pos a3] at h; cases h
  rw [if_neg a3] at h
  have a3' : Qa1 e.ch (e.frs.length + if 0 < e.smp.length then 1 else 0) (Qr e (Qc e.rate)) = true := by
   cases hq : Qa1 e.ch (e.frs.length + if 0 < e.smp.length then 1 else 0) (Qr e (Qc e.rate))
   ·exact absurd hq a3
   ·rfl
  refine ⟨hr, h1, h2, ?_, by omega, by omega, by omega, by omega, by simpa using a2, a3', by
   cases hq : e.frs.any (Qcw ((81 * Qc e.rate * e.ch + 7) / 8 + 4))
   ·rfl
   ·rw [hq] at h; cases h⟩
  exact List.eq_nil_of_length_eq_zero (by omega)
 ·rintro ⟨b1, b2, b3, b4, b5, b6, b7, b8, b9, b10, b11⟩
  unfold Qdl
  have ho : e.out.length = 0 := by rw [b4]; rfl
  simp only
  rw [if_neg (by omega), if_neg (by rw [b9]; simp), if_neg (by rw [b10]; exact Bool.noConfusion), b11]
  rfl
theorem Qfd {e : Enc} (h : OkG e) : QP e = 0 := by
 unfold QP
 rw [if_neg]
 rintro (h1 | h1)
 ·rw [h.r] at h1; cases h1
 ·unfold Zj at h1
  rw [if_neg (by rw [h.err]; simp), if_neg (by rw [h.done]; simp), (Qj5 h.r h.err h.done).2 h] at h1
  cases h1
theorem QsP {e : Enc} (h : QP e = 0) (h1 : e.err = 0) (h2 : e.done = false) : OkG e := by
 unfold QP at h
 split at h
 ·cases h
 rename_i a
 have hr : Qx e.ch e.bits e.rate e.pw = true := by
  cases hq : Qx e.ch e.bits e.rate e.pw
  ·exact absurd (.inl hq) a
  ·rfl
 refine (Qj5 hr h1 h2).1 ?_
 have hp : Zj e = true := by
  cases hq : Zj e
  ·exact absurd (.inr hq) a
  ·rfl
 unfold Zj at hp
 rwa [if_neg (by rw [h1]; simp), if_neg (by rw [h2]; simp)] at hp
theorem QcL {e : Enc} (h : QP e = 0) : Qx e.ch e.bits e.rate e.pw = true := by
 unfold QP at h
 split at h
 ·cases h
 rename_i a
 cases hq : Qx e.ch e.bits e.rate e.pw
 ·exact absurd (.inl hq) a
 ·rfl
theorem QgR {e : Enc} {x : Int} (hr : Qx e.ch e.bits e.rate e.pw = true) (hx : x = 18 ∨ x = 24) : QP (Xi e x) = 0 := by
 unfold QP
 rw [if_neg]
 rintro (h1 | h1)
 ·simp only [Xi] at h1; rw [hr] at h1; cases h1
 ·unfold Zj at h1
  simp only [Xi] at h1
  rw [if_pos (by omega)] at h1
  rcases hx with h | h <;> simp [h] at h1
theorem Qlc {c x : Int} {m : List UInt8} (hx : Z2 x ≠ 0) (h1 : 1 ≤ c) (h2 : c ≤ 6) (hm : (m.length : Int) = c * x / 8) : ((ZR x m).length : Int) = c := by
 have hb := (QlE x).1 hx
 rw [Xh]
 rcases hb with rfl | rfl | rfl
 ·simp at hm ⊢; omega
 ·simp at hm ⊢; omega
 ·simp at hm ⊢; omega
theorem QeP {x : Int} {l : List Int} (hx : Z2 x ≠ 0) (hl : l.length ≤ 4000) (h : ∀ y ∈ l, -Z2 x ≤ y ∧ y < Z2 x) : QL x l = 0 := by
 unfold QL
 rw [if_neg hx, if_neg (by omega), if_pos]
 rw [List.all_eq_true]
 intro y hy
 have := h y hy
 simp only [inR, Bool.and_eq_true, decide_eq_true_eq]
 omega
theorem QbM {x : Int} {l : List Int} (h : QL x l = 0) : Z2 x ≠ 0 ∧ l.length ≤ 4000 ∧ ∀ y ∈ l, -Z2 x ≤ y ∧ y < Z2 x := by
 unfold QL at h
 split at h
 ·cases h
 rename_i a1
 split at h
 ·cases h
 rename_i a2
 split at h
 ·rename_i a3
  refine ⟨a1, by omega, fun y hy => ?_⟩
  have := List.all_eq_true.1 a3 y hy
  simp only [inR, Bool.and_eq_true, decide_eq_true_eq] at this
  omega
 ·cases h
theorem Qb4 (c n m : Int) : Qa1 c n m = true ↔ n ≤ 1000 ∧ m * c ≤ 4000 := by simp [Qa1]
theorem Ql7 {x : Int} {l : List Int} (h : QL x l = 0) : I32 l := fun y hy => by
 obtain ⟨h1, _, h2⟩ := QbM h
 have := h2 y hy
 rcases Q8 x with ⟨_, q⟩ | ⟨_, q⟩ | ⟨_, q⟩ | ⟨_, _, _, q⟩ <;> omega
set_option maxRecDepth 20000 in
theorem OkG.nat {e : Enc} (h : OkG e) : ∃ k L q : Nat, e.ch = k ∧ 1 ≤ k ∧ k ≤ 6 ∧ Qc e.rate = L ∧ 1 ≤ L ∧ L ≤ 1095654 ∧ e.smp.length = q * k ∧ q < L ∧ Z2 e.bits ≠ 0 ∧ (e.frs.length * L + q) * k ≤ 4000 ∧ Qr e (Qc e.rate) = ((e.frs.length * L + q : Nat) : Int) ∧ (e.bits = 8 ∨ e.bits = 16 ∨ e.bits = 24) := by
 obtain ⟨⟨r1, r2, r3⟩, ⟨r4, r5⟩, r6⟩ := QA.1 h.r
 have hL := ZM e.rate
 have hL2 := QeJ r5
 obtain ⟨k, hk⟩ : ∃ k : Nat, e.ch = k := ⟨e.ch.toNat, by omega⟩
 obtain ⟨L, hLe⟩ : ∃ k : Nat, Qc e.rate = k := ⟨(Qc e.rate).toNat, by omega⟩
 have h1 := h.dv
 have h2 := h.lt
 have h3 := (Qb4 _ _ _).1 h.rm
 rw [hk] at h1 h2 r2 r3 h3
 rw [hLe] at h2 hL hL2
 have h1' : e.smp.length % k = 0 := by exact_mod_cast h1
 have h2' : e.smp.length / k < L := by exact_mod_cast h2
 have e3 := Nat.div_add_mod e.smp.length k
 rw [h1', Nat.add_zero, Nat.mul_comm] at e3
 have hc : Qr e (Qc e.rate) = ((e.frs.length * L + e.smp.length / k : Nat) : Int) := by rw [Qr, hLe, hk]; simp
 refine ⟨k, L, e.smp.length / k, hk, by omega, by omega, hLe, by omega, by omega, e3.symm, h2', r1, ?_, hc, (QlE _).1 r1⟩
 have := h3.2
 rw [hc] at this
 exact_mod_cast this
theorem QsI {α : Type} {p : α → Bool} {l : List α} {a : α} (h : l.any p = false) (ha : p a = false) : (l ++ [a]).any p = false := by simp [List.any_append, h, ha]
set_option maxRecDepth 20000 in
theorem QeA {e : Enc} {m : List UInt8} (h : OkG e) (hm : (m.length : Int) = e.ch * e.bits / 8) (hr : Qa1 e.ch (e.frs.length + 1) (Qr e (Qc e.rate) + 1) = true) : OkG (Xn e m) ∧ QbS e.ch e.bits ((ZX e m).smp) = 0 ∧ (ZX e m).smp.length ≤ 4000 ∧ I32 (ZX e m).smp := by
 obtain ⟨k, L, q, hk, k1, k6, hL, L1, L2, hlen, hq, hx, hrm, hcn, hbits⟩ := h.nat
 obtain ⟨⟨r1, r2, r3⟩, ⟨r4, r5⟩, r6⟩ := QA.1 h.r
 have hsl := Qlc hx r2 r3 hm
 rw [hk] at hsl
 have hsl' : (ZR e.bits m).length = k := by exact_mod_cast hsl
 obtain ⟨g1, g2⟩ := (Qb4 _ _ _).1 hr
 rw [hcn, hk] at g2
 have g2' : (e.frs.length * L + q + 1) * k ≤ 4000 := by exact_mod_cast g2
 have hml : (ZX e m).smp.length = (q + 1) * k := by simp only [ZX, List.length_append, hlen, hsl']; rw [Nat.add_mul, Nat.one_mul]
 have hle : (q + 1) * k ≤ 4000 := Nat.le_trans (Nat.mul_le_mul_right k (by omega)) g2'
 obtain ⟨_, _, c3⟩ := QbM h.ck
 have hck : QL e.bits (ZX e m).smp = 0 := QeP hx (by omega) fun y hy => by
  simp only [ZX, List.mem_append] at hy
  rcases hy with hy | hy
  ·exact c3 y hy
  ·exact QdD hx m y hy
 have hI := Ql7 hck
 have he0 : QH e.ch e.bits = 0 := by
  rcases QX e.ch e.bits with q' | q'
  ·unfold QH at q'; split at q' <;> omega
  ·exact q'.1
 have hask : QbS e.ch e.bits (ZX e m).smp = 0 := QqW he0 hck (by
  rw [hml, hk]
  have : 0 < (q + 1) * k := Nat.mul_pos (by omega) (by omega)
  have h2 : (((q + 1) * k : Nat) : Int) % (k : Int) = 0 := by rw [Int.natCast_mul]; exact Int.mul_emod_left _ _
  omega)
 refine ⟨?_, hask, by omega, hI⟩
 unfold Xn
 have hm0 : (0 : Int) < e.ch * e.bits / 8 := by have := (Xu r2 r3 r1).1; omega
 by_cases hlt : ((ZX e m).smp.length : Int) < Qc e.rate * e.ch
 ·rw [if_pos hlt]
  rw [hml, hL, hk] at hlt
  have hlt' : (q + 1) * k < L * k := by exact_mod_cast hlt
  have hq1 : q + 1 < L := Nat.lt_of_mul_lt_mul_right hlt'
  have hd : (((q + 1) * k : Nat) : Int) / (k : Int) = ((q + 1 : Nat) : Int) := by rw [Int.natCast_mul]; exact Int.mul_ediv_cancel _ (by omega)
  refine ⟨h.r, h.err, h.done, h.out, by simpa [ZX] using hm0, ?_, ?_, h.fr, hck, ?_, h.bd⟩
  ·show (((ZX e m).smp.length : Nat) : Int) % e.ch = 0
   rw [hml, hk, Int.natCast_mul]; exact Int.mul_emod_left _ _
  ·show (((ZX e m).smp.length : Nat) : Int) / e.ch < Qc e.rate
   rw [hml, hk, hd, hL]; omega
  ·refine (Qb4 _ _ _).2 ⟨?_, ?_⟩
   ·show (e.frs.length : Int) + (if 0 < (ZX e m).smp.length then 1 else 0) ≤ 1000
    split <;> omega
   ·show Qr (ZX e m) (Qc e.rate) * e.ch ≤ 4000
    have : Qr (ZX e m) (Qc e.rate) = ((e.frs.length * L + q + 1 : Nat) : Int) := by
     show (e.frs.length : Int) * Qc e.rate + ((ZX e m).smp.length : Int) / e.ch = _
     rw [hml, hk, hd, hL]; simp; omega
    rw [this, hk]
    exact_mod_cast g2'
 ·rw [if_neg hlt]
  rw [hml, hL, hk] at hlt
  have hlt' : L * k ≤ (q + 1) * k := by
   have := Int.not_lt.1 hlt
   exact_mod_cast this
  have hq1 : q + 1 = L := by
   have := Nat.le_of_mul_le_mul_right hlt' (by omega)
   omega
  have hb : Qcw ((81 * Qc e.rate * e.ch + 7) / 8 + 4) (Qdm e.ch.toNat e.bits (tpE e) (ZX e m).smp) = false := by
   obtain ⟨a1, a2⟩ := Qj7 (t := tpE e) hI hask
   obtain ⟨k', m', hk', hkM, _, _⟩ := Qiw hI hask
   have hkk : k' = k := by omega
   subst hkk
   have hvl := QeB k' e.bits (tpE e) (ZX e m).smp
   obtain ⟨_, q2, _⟩ := QaL (c := k') (Qg6 k' e.bits (tpE e) (ZX e m).smp) (QmI k' e.bits (tpE e) (ZX e m).smp).length
   have hEl : (Qdm e.ch.toNat e.bits (tpE e) (ZX e m).smp).length = nB (QgN k' (QmI k' e.bits (tpE e) (ZX e m).smp) (QmI k' e.bits (tpE e) (ZX e m).smp).length) + 4 := by
    rw [hk, Int.toNat_natCast, Qdm, Qe6, QeK]
   have hnb : nB (QgN k' (QmI k' e.bits (tpE e) (ZX e m).smp) (QmI k' e.bits (tpE e) (ZX e m).smp).length) ≤ (81 * ((q + 1) * k') + 7) / 8 := by
    unfold nB
    have : (QmI k' e.bits (tpE e) (ZX e m).smp).length = (q + 1) * k' := by rw [hvl, hml]
    rw [this] at q2 ⊢
    omega
   simp only [Qcw, Bool.or_eq_false_iff, decide_eq_false_iff_not]
   refine ⟨by omega, ?_⟩
   rw [hEl, hL, hk, ← hq1]
   have h81 : (81 * ((q + 1 : Nat) : Int) * (k' : Int) + 7) / 8 = (((81 * ((q + 1) * k') + 7) / 8 : Nat) : Int) := by
    rw [Int.natCast_ediv]
    congr 1
    simp only [Int.natCast_add, Int.natCast_mul]
    rw [Int.mul_assoc]; rfl
   rw [h81]
   omega
  refine ⟨h.r, h.err, h.done, h.out, by simpa [Xj, ZX] using hm0, by simp [Xj, ZX], ?_, ?_, ?_, ?_, QsI h.bd hb⟩
  ·show (((Xj (ZX e m)).smp.length : Nat) : Int) / e.ch < Qc e.rate
   simp only [Xj, List.length_nil]
   rw [hL]; simp; omega
  ·show (e.frs ++ [_]).length ≤ 1000
   simp only [List.length_append, List.length_cons, List.length_nil]; omega
  ·show QL e.bits [] = 0
   exact QeP hx (by simp) (by simp)
  ·refine (Qb4 _ _ _).2 ⟨?_, ?_⟩
   ·show (((e.frs ++ [_]).length : Nat) : Int) + (if 0 < ([] : List Int).length then 1 else 0) ≤ 1000
    simp only [List.length_append, List.length_cons, List.length_nil, Nat.lt_irrefl, if_false]; omega
   ·show (((e.frs ++ [_]).length : Nat) * Qc e.rate + ((([] : List Int).length : Nat) : Int) / e.ch) * e.ch ≤ 4000
    have : (((e.frs ++ [Qdm e.ch.toNat e.bits (tpE e) (ZX e m).smp]).length : Nat) * Qc e.rate + ((([] : List Int).length : Nat) : Int) / e.ch) = ((e.frs.length * L + q + 1 : Nat) : Int) := by
     simp only [List.length_append, List.length_cons, List.length_nil, hL]
     have : (e.frs.length + (0 + 1)) * L = e.frs.length * L + L := by rw [Nat.zero_add, Nat.add_mul, Nat.one_mul]
     have h3 : (((e.frs.length + (0 + 1) : Nat) : Int)) * (L : Int) = ((e.frs.length * L + L : Nat) : Int) := by rw [← this]; simp
     rw [h3]; simp; omega
    rw [show (((e.frs ++ [Qdm (ZX e m).ch.toNat (ZX e m).bits (tpE (ZX e m)) (ZX e m).smp]).length : Nat) * Qc e.rate + ((([] : List Int).length : Nat) : Int) / e.ch) = _ from this, hk]
    exact_mod_cast g2'
theorem Qmd {e : Enc} (c : UInt8) (h : OkG e) : ((Qbt e c).2 = 0 ∧ OkG (Qbt e c).1) ∨ Qbt e c = (Xi e 18, 18) := by
 unfold Qbt
 split
 ·rename_i h1
  refine .inl ⟨rfl, h.r, h.err, h.done, h.out, ?_, h.dv, h.lt, h.fr, h.ck, h.rm, h.bd⟩
  show (((e.rest ++ [c]).length : Nat) : Int) < _
  simp only [List.length_append, List.length_cons, List.length_nil]
  omega
 ·rename_i h1
  split
  ·exact .inr rfl
  ·rename_i h2
   refine .inl ⟨rfl, (QeA h ?_ (by simpa using h2)).1⟩
   have := h.rest
   simp only [List.length_append, List.length_cons, List.length_nil]
   omega
theorem Qj6 (e e' : Enc) (x : Int) (h : e.ch = e'.ch ∧ e.bits = e'.bits ∧ e.rate = e'.rate ∧ e.pw = e'.pw) : Xi e x = Xi e' x := by simp [Xi, h.1, h.2.1, h.2.2.1, h.2.2.2]
def Sib (e e' : Enc) : Prop := e.ch = e'.ch ∧ e.bits = e'.bits ∧ e.rate = e'.rate ∧ e.pw = e'.pw
theorem QsB (e : Enc) (c : UInt8) : Sib (Qbt e c).1 e := by
 unfold Qbt Xn
 split
 ·exact ⟨rfl, rfl, rfl, rfl⟩
 ·split
  ·exact ⟨rfl, rfl, rfl, rfl⟩
  ·simp only
   split <;> exact ⟨rfl, rfl, rfl, rfl⟩
theorem Qnh : ∀ (l : List UInt8) {e : Enc}, OkG e → Sib (QJ e l).1 e ∧ (((QJ e l).2 = 0 ∧ OkG (QJ e l).1) ∨ QJ e l = (Xi e 18, 18))
 | [], e, h => ⟨⟨rfl, rfl, rfl, rfl⟩, .inl ⟨rfl, h⟩⟩
 | c :: l, e, h => by
  have hs := QsB e c
  rcases Qmd c h with ⟨h1, h2⟩ | h1
  ·have := Qnh l h2
   rw [QJ, if_neg (by rw [h1]; simp)]
   refine ⟨⟨this.1.1.trans hs.1, this.1.2.1.trans hs.2.1, this.1.2.2.1.trans hs.2.2.1, this.1.2.2.2.trans hs.2.2.2⟩, ?_⟩
   rcases this.2 with h3 | h3
   ·exact .inl h3
   ·exact .inr (by rw [h3, Qj6 _ _ 18 hs])
  ·rw [QJ, if_pos (by rw [h1]; simp), h1]
   exact ⟨⟨rfl, rfl, rfl, rfl⟩, .inr rfl⟩
theorem Qft : ∀ (a b : List UInt8) (e : Enc), QJ e (a ++ b) = if (QJ e a).2 ≠ 0 then QJ e a else QJ (QJ e a).1 b
 | [], b, e => by simp [QJ]
 | c :: a, b, e => by
  rw [List.cons_append, QJ, QJ]
  by_cases h : (Qbt e c).2 ≠ 0
  ·rw [if_pos h, if_pos h, if_pos h]
  ·rw [if_neg h, if_neg h, Qft a b]
theorem Qqi {e : Enc} (h : OkG e) (l : List UInt8) : J1 e l = QJ e l := by
 rw [J1, if_neg (by rw [Qfd h]; simp), if_neg (by rw [h.err]; simp), if_neg (by rw [h.done]; simp)]
def J0 (t : Nat) (P : Prg) (f : Nat) : Prop := ∀ l : List Int, l.length ≤ 1000000 → VO P f [il l] (.own 0 l.length) ⟨t, 1, l.length, ks .i32 l, 0⟩
theorem Qsy {P : Prg} {f t0 : Nat} (b : Qf P f 8 [.tmp 2] (Qq t0)) : J0 t0 P f := by
 intro l hl
 refine VO.of_walk (by simp [isDL, Zy]) (QB _ _) (by simp [okr]) (ACall.virtR t0 1 (by decide) (ACall.of_body b (by simp) ?_))
 by_cases h0 : l = []
 ·subst h0
  simp (maxSteps := 4000000) (disch := omega) only [rq, simprocAttr, Qq, il, QmW, Qac]
  exact ⟨.inr ⟨true, rfl, 0, rfl, rfl⟩, .inl ⟨0, rfl, rfl⟩⟩
 ·have h1 : l.length ≠ 0 := by simpa using h0
  simp (maxSteps := 4000000) (disch := omega) only [rq, simprocAttr, Qq, il, QmW, h1, Qac]
  exact .inl ⟨0, rfl, rfl⟩
def twA (M : Nat) (e : Enc) : AV := .agg [.int .i64 e.ch, .int .i64 e.bits, .int .i64 e.rate, .str e.pw, .own M e.rest.length, .own (M + 1) e.smp.length, .own (M + 2) e.frs.length, bs e.out, .bool e.done, .int .i64 e.err]
def twO (tb tj tf : Nat) (e : Enc) : List Ob := [⟨tb, 1, e.rest.length, u8 e.rest, 0⟩, ⟨tj, 1, e.smp.length, ks .i32 e.smp, 0⟩, ⟨tf, 1, e.frs.length, e.frs.map bs, 0⟩]
theorem QnS {L : List (List UInt8)} {k : Nat} (h : k < L.length) : (L.map bs).take k ++ bs (L.getD k []) :: (L.map bs).drop (k + 1) = L.map bs := by
 have := Qg0 h
 conv => rhs; rw [← List.take_append_drop k (L.map bs), this]
set_option maxHeartbeats 1000000 in
theorem Qea {P : Prg} {f fC fJ t0 t1 tb tj : Nat} (bd : Qf P f 42 [.cell 2 t0] (Q3 fC fJ t0 t1)) (hC : JD tb P fC) (hJ : J0 tj P fJ) (ht : ZJ P t0 = some (some 10)) {e : Enc} (ho : okC e) (hfr : ∀ b ∈ e.frs, b.length ≤ 1000000) {ob : List Ob} (hl : Low ob.length ob) {K : AV → List Ob → Prop}
  (hK : K (twA ob.length e) (ob ++ twO tb tj t1 e)) : ACall P f [QaD e] ob K := by
 refine ACall.pick (ACall.pad (ACall.pad (ACall.of_body bd (by simp) ?_)))
 obtain ⟨o0, o1, o2, o3, o4, o5⟩ := ho
 have hR := hC e.rest (by omega)
 have hS := hJ e.smp (by omega)
 have hOv := VC.of_vo (hC e.out (by omega)) (Qw _) (QT _)
 have hF := fun b (hb : b ∈ e.frs) => VC.of_vo (hC b (hfr b hb)) (Qw _) (QT _)
 have hmb : (e.frs.map bs).length = e.frs.length := by simp
 rw [bs] at hR hOv
 rw [il] at hS
 simp only [QaD, Qbp, il, bss, bs]
 simp (maxSteps := 4000000) (disch := omega) only [rq, simprocAttr, Q3, List.append_assoc, List.cons_append, List.nil_append, QjV, Qbr, QkP, QcF]
 refine Q5.vo hR ob.length (by rw [Qbr]; rfl) Nat.one_ne_zero ?_
 simp (maxSteps := 4000000) (disch := omega) only [rq, simprocAttr, shr, List.append_assoc, List.cons_append, List.nil_append, QjV, Qbr, QkP, QcF]
 refine Q5.vo hS (ob.length + 1) (by rw [QjV]; rfl) Nat.one_ne_zero ?_
 simp (maxSteps := 4000000) (disch := omega) only [rq, simprocAttr, shr, List.append_assoc, List.cons_append, List.nil_append, QjV, Qbr, QkP, QcF]
 refine Q5.vc hOv ?_
 have hzl : (Qp [.emp true] e.frs.length).length = e.frs.length := by rw [QK]; simp
 have hall : (e.frs.map bs).all AV.one = true := by simp [List.all_map, bs, AV.one]
 have hmin : Nat.min e.frs.length e.frs.length = e.frs.length := Nat.min_self _
 have htk : (e.frs.map bs).take e.frs.length ++ (Qp [.emp true] e.frs.length).drop e.frs.length = e.frs.map bs := by rw [List.take_of_length_le (by omega), List.drop_of_length_le (by omega), List.append_nil]
 simp (maxSteps := 4000000) (disch := omega) only [rq, simprocAttr, shr, List.append_assoc, List.cons_append, List.nil_append, QjV, Qbr, QkP, QcF, hmb, hzl, hall, hmin, htk]
 refine Q0.by (ι := Nat) (fun k => ⟨[(27, .int .i64 k), (26, .int .i64 e.frs.length), (3, .own (ob.length + 4) e.frs.length), (2, .ref (ob.length + 3) 1 0), (1, .ref (ob.length + 2) 1 0)], ob ++ [⟨tb, 1, e.rest.length, u8 e.rest, 0⟩, ⟨tj, 1, e.smp.length, ks .i32 e.smp, 0⟩, ⟨t0, 10, 1, [.int .i64 e.ch, .int .i64 e.bits, .int .i64 e.rate, .str e.pw, .own ob.length e.rest.length, .own (ob.length + 1) e.smp.length, .list e.frs.length (e.frs.map bs), .list e.out.length (u8 e.out), .bool e.done, .int .i64 e.err], 0⟩, ⟨t0, 10, 1, [.int .i64 0, .int .i64 0, .int .i64 0, .str [], .emp true, .emp true, .emp true, .emp true, .bool false, .int .i64 0], 0⟩, ⟨t1, 1, e.frs.length, e.frs.map bs, 0⟩]⟩) (fun k => k ≤ e.frs.length) (fun k => e.frs.length - k) 0 (Le.slots (by simp [Am.look])) (by omega) ?_
 intro k hk
 by_cases hlt : k < e.frs.length
 ·have e1 := Qg0 (L := e.frs) (k := k) hlt
  have hst := QnS (L := e.frs) hlt
  have hst2 : (e.frs.map bs).take k ++ [bs (e.frs.getD k [])] ++ (e.frs.map bs).drop (k + 1) = e.frs.map bs := by rw [List.append_assoc]; exact hst
  have hF' := hF (e.frs.getD k []) (by rw [List.getD_eq_getElem?_getD, List.getElem?_eq_getElem hlt]; exact List.getElem_mem hlt)
  have ho1 : AV.one (bs (e.frs.getD k [])) = true := rfl
  rw [bs] at hF'
  rw [bs] at e1 hst hst2
  generalize e.frs.getD k [] = F at *
  simp (maxSteps := 4000000) (disch := omega) only [rq, simprocAttr, List.append_assoc, List.cons_append, List.nil_append, QjV, Qbr, QkP, QcF, hmb, e1]
  refine Qa.vc hF' ?_
  simp (maxSteps := 4000000) (disch := omega) only [rq, simprocAttr, List.append_assoc, List.cons_append, List.nil_append, QjV, Qbr, QkP, QcF, hmb, hst, hst2]
  exact ⟨k + 1, by omega, by omega, Le.slots (by simp [Am.look])⟩
 ·simp (maxSteps := 4000000) (disch := omega) only [rq, simprocAttr, List.append_assoc, List.cons_append, List.nil_append, QjV, Qbr, QkP, QcF, hmb, ZK, ht, Q2]
  refine ⟨[0, 1, 4], ob, _, rfl, Nat.le_refl _, hl, by decide, by simp, ?_⟩
  simpa [rnV, rnL, pkO, QtE, QvN, rnL_D _ _ (QT _), rnL_D _ _ (QB _ _), rnL_D _ _ (Zk _), List.idxOf_cons, twA, twO, bs] using hK
def Qro (c x r : Int) (p : List UInt8) (y : Int) : List AV := [.int .i64 c, .int .i64 x, .int .i64 r, .str p, .emp true, .emp true, .emp true, .emp true, .bool false, .int .i64 y]
def QiJ (P : Prg) (f : Nat) : Prop := ∀ (e : Enc) (y : Int), VC P f [QaD e, .int .i64 y] (.tup [.agg (Qro e.ch e.bits e.rate e.pw y), .int .i64 y])
theorem QjD {P : Prg} {f t0 : Nat} (bd : Qf P f 15 [.cell 4 t0, .tmp 5] (JV t0)) (ht : ZJ P t0 = some (some 10)) : QiJ P f := by
 intro e y
 refine VC.of_acall (by simp [isDL, isD, Xw]) (by simp [isD, isDL, Qro]) (ACall.of_body bd (by simp) ?_)
 simp only [QaD, Qbp, il, bss, bs]
 simp (maxSteps := 4000000) (disch := omega) only [rq, simprocAttr, JV, ZK, ht, Q2, Qro]
def QcE (e : Enc) : Int := if e.err ≠ 0 then e.err else if e.done = true then 36 else 0
set_option maxHeartbeats 1000000 in
theorem Qda {P : Prg} {f fC fL fT fK fJ t0 t1 tb tj : Nat} (bd : Qf P f 33 [.cell 2 t0, .tmp 3, .tmp 4] (Za fC fL fT t0)) (hC : Qch P fC) (hL : Xe P fL) (bT : Qf P fT 42 [.cell 2 t0] (Q3 fK fJ t0 t1)) (hK1 : JD tb P fK) (hJ : J0 tj P fJ) (ht : ZJ P t0 = some (some 10)) {e : Enc} (ho : okC e) (hfr : ∀ b ∈ e.frs, b.length ≤ 1000000) {ob : List Ob} (hl : Low ob.length ob) {K : AV → List Ob → Prop}
  (h8 : QP e = 8 → K (.tup [.agg (Qro 0 0 0 [] 0), .int .i64 0, .int .i64 8]) ob)
  (h0 : QP e = 0 → K (.tup [twA ob.length e, .int .i64 (Qc e.rate), .int .i64 (QcE e)]) (ob ++ twO tb tj t1 e)) : ACall P f [QaD e] ob K := by
 refine ACall.pick (ACall.of_body bd (by simp) ?_)
 have hC' := hC e ho
 have hL' := hL e.rate
 have hc : QP e = 0 ∨ QP e = 8 := by unfold QP; split <;> simp
 have tw := fun {ob : List Ob} (hl : Low ob.length ob) {K : AV → List Ob → Prop} => Qea bT hK1 hJ ht ho hfr hl (K := K)
 simp only [QaD, Qbp, il, bss, bs] at hC' tw ⊢
 rcases hc with hc | hc
 ·have h0' := h0 hc
  have hr := QcL hc
  obtain ⟨_, hr2, _⟩ := QA.1 hr
  rw [hc] at hC'
  rw [Qa5, if_neg (by omega)] at hL'
  have hst : QcE e = if e.err ≠ 0 then e.err else if e.done = true then 36 else 0 := rfl
  have hlow : ∀ B1 B2 : Ob, isDL B1.cs = true → isDL B2.cs = true → Low (ob ++ [B1, B2]).length (ob ++ [B1, B2]) := fun B1 B2 q1 q2 => by
   rw [List.length_append]
   exact (hl.mono (by omega)).append (Low.cons (lowL_D _ q1) (Low.cons (lowL_D _ q2) Low.nil))
  have q1 : isDL [.int .i64 e.ch, .int .i64 e.bits, .int .i64 e.rate, .str e.pw, .list e.rest.length (u8 e.rest), .list e.smp.length (ks .i32 e.smp), .list e.frs.length (e.frs.map bs), .list e.out.length (u8 e.out), .bool e.done, .int .i64 e.err] = true := by simp [isDL, isD, QT, QB, Zk]
  have q2 : isDL [.int .i64 0, .int .i64 0, .int .i64 0, .str [], .emp true, .emp true, .emp true, .emp true, .bool false, .int .i64 0] = true := by simp [isDL, isD]
  have hlow2 := hlow ⟨t0, 10, 1, _, 0⟩ ⟨t0, 10, 1, _, 0⟩ q1 q2
  clear hlow
  rcases Bool.eq_false_or_eq_true e.done with hd | hd <;> by_cases h1 : e.err = 0
  all_goals
   simp (maxSteps := 4000000) (disch := omega) only [rq, simprocAttr, Za, List.append_assoc, List.cons_append, List.nil_append, QjV, Qbr, QkP, QcF]
   refine Qa.vc hC' ?_
   simp (maxSteps := 4000000) (disch := omega) only [rq, simprocAttr, List.append_assoc, List.cons_append, List.nil_append, QjV, Qbr, QkP, QcF]
   refine Qa.vc hL' ?_
   first | rw [if_neg (by omega), if_pos hd] at hst | rw [if_neg (by omega), if_neg (by rw [hd]; simp)] at hst | rw [if_pos h1] at hst
   simp only [hd] at tw hlow2
   try simp only [h1] at tw hlow2
   simp (maxSteps := 4000000) (disch := omega) only [rq, simprocAttr, List.append_assoc, List.cons_append, List.nil_append, QjV, Qbr, QkP, QcF, hd, h1]
  all_goals
   refine tw hlow2 ?_
   simp (maxSteps := 4000000) (disch := omega) only [rq, simprocAttr, List.append_assoc, List.cons_append, List.nil_append, QjV, Qbr, QkP, QcF, hd, h1, twA, twO, bs, ZK, ht, Q2]
   refine ⟨[2, 3, 4], ob, _, rfl, Nat.le_refl _, hl, by decide, by simp, ?_⟩
   have hk := h0'
   simp only [twA, twO, bs, hst, hd, h1] at hk
   simpa [rnV, rnL, pkO, QtE, QvN, rnL_D _ _ (QT _), rnL_D _ _ (QB _ _), rnL_D _ _ (Zk _), List.idxOf_cons, Nat.add_assoc] using hk
 ·have h8' := h8 hc
  rw [hc] at hC'
  simp (maxSteps := 4000000) (disch := omega) only [rq, simprocAttr, Za, List.append_assoc, List.cons_append, List.nil_append, QjV, Qbr, QkP, QcF]
  refine Qa.vc hC' ?_
  simp (maxSteps := 4000000) (disch := omega) only [rq, simprocAttr, List.append_assoc, List.cons_append, List.nil_append, QjV, Qbr, QkP, QcF, ZK, ht, Q2]
  refine ⟨[], ob, _, rfl, Nat.le_refl _, hl, by decide, by simp, ?_⟩
  simpa [rnV, rnL, pkO, Qro] using h8'
def QeR (e : Enc) (r s f o : AV) : List AV := [.int .i64 e.ch, .int .i64 e.bits, .int .i64 e.rate, .str e.pw, r, s, f, o, .bool e.done, .int .i64 e.err]
set_option maxHeartbeats 2000000 in
theorem Qeb {P : Prg} {f fT fE t0 tf : Nat} (bd : Qf P f 46 [.tmp 2] (Zq fT fE t0 tf)) (hT : QfI P fT) (hE : QmA P fE) {e : Enc} (hp : ¬ 64 < e.pw.length) (ha : QbS e.ch e.bits e.smp = 0) (hI : I32 e.smp) (hf : e.frs.length ≤ 1001) (hs : e.smp.length ≤ 4000) {te tj : Nat} {x1 x2 : Ob} {T : List Ob} (hT1 : T = [] ∨ ∃ x y, T = [x, y]) {vr vo : AV} (hl : Low (5 + T.length) (⟨te, 10, 1, QeR e vr (.own 3 e.smp.length) (.own 4 e.frs.length) vo, 0⟩ :: x1 :: x2 :: ⟨tj, 1, e.smp.length, ks .i32 e.smp, 0⟩ :: ⟨tf, 1, e.frs.length, e.frs.map bs, 0⟩ :: T)) {K : AV → List Ob → Prop}
  (hK : K (.int .i64 0) (⟨te, 10, 1, QeR e vr (.emp true) (.own 4 (e.frs.length + 1)) vo, 0⟩ :: x1 :: x2 :: ⟨tj, 1, e.smp.length, ks .i32 e.smp, e.smp.length⟩ :: ⟨tf, 1, e.frs.length + 1, (Xj e).frs.map bs, 0⟩ :: T)) :
  ACall P f [.ref 0 1 0] (⟨te, 10, 1, QeR e vr (.own 3 e.smp.length) (.own 4 e.frs.length) vo, 0⟩ :: x1 :: x2 :: ⟨tj, 1, e.smp.length, ks .i32 e.smp, 0⟩ :: ⟨tf, 1, e.frs.length, e.frs.map bs, 0⟩ :: T) K := by
 have hT' := hT e.pw
 rw [Qen, if_neg hp] at hT'
 have hE' := hE e.ch e.bits (tpE e) e.smp (QbI _ _) (Qri _ _) hI
 rw [Quq, if_neg (by omega)] at hE'
 rw [← tpE] at hT'
 have hel := (Qj7 (t := tpE e) hI ha).1
 have hTl : (tpE e).length = 16 := QbI _ _
 have oT := JP .i32 (tpE e)
 have kT : (ks .i32 (tpE e)).length = 16 := by rw [Qd, hTl]
 have tT : (ks .i32 (tpE e)).take 16 = ks .i32 (tpE e) := List.take_of_length_le (by omega)
 have tj1 := Qv .i32 e.smp
 have tTP := Qv .i32 (tpE e)
 have hcat : e.frs.map bs ++ [bs (Qdm e.ch.toNat e.bits (tpE e) e.smp)] = (Xj e).frs.map bs := by simp [Xj]
 have hml : (e.frs.map bs).length = e.frs.length := by simp
 rw [bs] at hE' hcat
 rw [shA, il] at hE'
 have hFD : isDL ((Xj e).frs.map bs) = true := Zk _
 generalize Qdm e.ch.toNat e.bits (tpE e) e.smp = EB at *
 generalize (Xj e).frs.map bs = FSx at *
 generalize tpE e = TP at *
 have z : ([.int .i32 0, .int .i32 0, .int .i32 0, .int .i32 0, .int .i32 0, .int .i32 0, .int .i32 0, .int .i32 0, .int .i32 0, .int .i32 0, .int .i32 0, .int .i32 0, .int .i32 0, .int .i32 0, .int .i32 0, .int .i32 0] : List AV) = ks .i32 JH := rfl
 have ol := JP .i32 JH
 have kl0 : (ks .i32 JH).length = 16 := rfl
 have zd : (ks .i32 JH).drop 16 = [] := rfl
 have kc := Qd .i32 e.smp
 refine ACall.low (ACall.of_body bd (by simp) ?_)
 unfold Zq
 rw [z]
 simp only [QeR] at hl hK ⊢
 have hl2 : ∀ y ∈ (⟨te, 10, 1, [.int .i64 e.ch, .int .i64 e.bits, .int .i64 e.rate, .str e.pw, vr, .emp true, .own 4 (e.frs.length + 1), vo, .bool e.done, .int .i64 e.err], 0⟩ :: x1 :: x2 :: ⟨tj, 1, e.smp.length, ks .i32 e.smp, e.smp.length⟩ :: ⟨tf, 1, e.frs.length + 1, FSx, 0⟩ :: T : List Ob), lowL (5 + T.length) y.cs = true := by
  have hx : ∀ y ∈ x1 :: x2 :: T, lowL (5 + T.length) y.cs = true := fun y hy => hl y (by simp only [List.mem_cons] at hy ⊢; rcases hy with h | h | h <;> simp [h])
  have hb0 := hl _ List.mem_cons_self
  have hFS : isDL FSx = true := hFD
  simp only [lowL, XV, Bool.and_eq_true, decide_eq_true_eq] at hb0
  intro y hy
  simp only [List.mem_cons] at hy hx
  rcases hy with rfl | rfl | rfl | rfl | rfl | hy
  ·simp only [lowL, XV, Bool.and_eq_true, decide_eq_true_eq, and_true, true_and]
   exact ⟨hb0.2.2.2.2.1, by omega, hb0.2.2.2.2.2.2.2.1⟩
  ·exact hx _ (.inl rfl)
  ·exact hx _ (.inr (.inl rfl))
  ·exact lowL_D _ (QB _ _)
  ·exact lowL_D _ hFS
  ·exact hx _ (.inr (.inr hy))
 rcases hT1 with rfl | ⟨x, y, rfl⟩
 all_goals
  simp (maxSteps := 4000000) (disch := omega) only [rq, simprocAttr]
  refine Qa.vc hT' ?_
  simp (maxSteps := 4000000) (disch := omega) only [rq, simprocAttr, ol, kl0, oT, kT, zd, List.append_nil, tT]
  refine Q5.still 1 3 rfl (by simp [ph]) hE' (by simp [QS, QG, frzL, QD, frzL_T _ tj1, frzL_T _ tTP]) ?_
  simp (maxSteps := 4000000) (disch := omega) only [rq, simprocAttr, kc, hml, hcat]
 ·exact ⟨[_, _, _, _, _], [_, _], rfl, by simp, hl2, by simp [XV], hK⟩
 ·exact ⟨[_, _, _, _, _, _, _], [_, _], rfl, by simp, hl2, by simp [XV], hK⟩
end Go.Am
