/- What the functions that the law reaches return, for every program that has their code; the conditions stand in each statement. -/
import Derived.Test.YtghngklehkkecabGreatDoorPushencNamesL2
set_option linter.unusedSectionVars false
set_option linter.unusedSimpArgs false
set_option linter.unusedVariables false
namespace Go.Am
open Go.RowKit
theorem Qhg (e : Enc) (l : List UInt8) (j : Nat) (h : j < l.length) (h0 : (QI e (l.take j)).2 = 0) : QI e (l.take (j + 1)) = Qal (QI e (l.take j)).1 l[j] := by
 rw [List.take_succ_eq_append_getElem h, QfJ, if_neg (by rw [h0]; simp), QI]
 by_cases h1 : (Qal (QI e (l.take j)).1 l[j]).2 ≠ 0
 ·rw [if_pos h1]
 ·rw [if_neg h1, QI]
  have : (Qal (QI e (l.take j)).1 l[j]).2 = 0 := by simpa using h1
  rw [← this]
theorem QoA {e : Enc} {l : List UInt8} {j : Nat} (h : j < l.length) (h0 : (QI e (l.take j)).2 = 0) {r : Enc × Int} (hb : Qal (QI e (l.take j)).1 l[j] = r) (hr : r.2 ≠ 0) : QI e l = r := by
 have hs := Qhg e l j h h0
 conv => lhs; rw [← List.take_append_drop (j + 1) l]
 rw [QfJ, hs, hb, if_pos hr]
theorem Qkt (e : Enc) (m : List UInt8) : (Xd (Z1 e m)).frs.length = e.frs.length + 1 := by simp [Xd, Z1]
def Qd3 (P : Prg) (f : Nat) : Prop := ∀ (e : Enc) (l : List UInt8), okC e → (∀ b ∈ e.frs, b.length ≤ 1000000) → l.length ≤ 1000000 → VC P f [XO e, bs l] (.tup [XO (Xb e l).1, .int .i64 (Xb e l).2])
def fdL (e : Enc) : List AV := Qe3 e (.own 2 e.rest.length) (.own 3 e.smp.length) (.own 4 e.frs.length) (.list 0 [])
def QcJ : List AV := [.int .i64 0, .int .i64 0, .int .i64 0, .str [], .emp true, .emp true, .emp true, .emp true, .bool false, .int .i64 0]
def fdS (t0 t1 tb tj tf : Nat) (e : Enc) : List Ob := [⟨t0, 10, 1, fdL e, 0⟩, ⟨t0, 10, 1, QcJ, 0⟩, ⟨tb, 1, e.rest.length, u8 e.rest, 0⟩, ⟨tj, 1, e.smp.length, ks .i32 e.smp, 0⟩, ⟨tf, 1, e.frs.length, e.frs.map bs, 0⟩, ⟨t1, 1, 1, [.int .i64 (Qf e.rate)], 0⟩]
set_option maxRecDepth 20000 in
set_option maxHeartbeats 4000000 in
theorem QjR {P : Prg} {f fB fM fW fF fC fL fT fK fJ fCt fR fS fc fTp fE t0 t1 tb tj tf tz : Nat} (bd : Qk P f 55 [.cell 4 t0, .tmp 5] (Qae fB fM fW fF t0 t1 tb)) (bB : Qk P fB 33 [.cell 2 t0, .tmp 3, .tmp 4] (Zb fC fL fT t0)) (hC : QaE P fC) (hL : QaF P fL) (bT : Qk P fT 42 [.cell 2 t0] (Q6 fK fJ t0 tf)) (hK1 : JR tb P fK) (hJ : Qai tj P fJ) (ht : ZP P t0 = some (some 10)) (hM : Qe4 P fM) (bW : Qk P fW 44 [.tmp 2] (Q3 fCt fR fS fc tj)) (hCt : Qd6 P fCt) (hR : QkX P fR) (hS : QdA P fS) (bc : Qk P fc 46 [.tmp 2] (Zr fTp fE tz tf)) (hT : QfY P fTp) (hE : QmO P fE) (hF : Qi3 P fF) : Qd3 P f := by
 intro e l ho hfr hl
 have isDenc : ∀ e : Enc, isD (XO e) = true := ZT
 refine VC.of_walk 2 (by simp [isDL, ZT, Zi]) (by simp [isD, isDL, ZT]) (ACall.of_body bd (by simp) ?_)
 have q1 : isDL (XQ e) = true := by simp [XQ, isDL, isD, Zi, ZC, QcK]
 have q2 : isDL QcJ = true := by simp [isDL, isD, QcJ]
 have hlow : Low 2 [⟨t0, 10, 1, XQ e, 0⟩, ⟨t0, 10, 1, QcJ, 0⟩] := Low.cons (lowL_D _ q1) (Low.cons (lowL_D _ q2) Low.nil)
 have t1' := Qy e.rest
 have t2' := QD .i32 e.smp
 have t3' := Zy e.frs
 have t4' := Qy e.out
 have beg := fun {K : AV → List Ob → Prop} => Qc9 bB hC hL bT hK1 hJ ht ho hfr (ob := [⟨t0, 10, 1, XQ e, 0⟩, ⟨t0, 10, 1, QcJ, 0⟩]) hlow (K := K)
 simp only [XO, XQ, il, bss, bs, QcJ, List.cons_append, List.nil_append, List.length_cons, List.length_nil, twA, twO] at beg ⊢
 simp (maxSteps := 4000000) (disch := omega) only [rq, simprocAttr, Qae]
 refine beg (fun h8 => ?_) (fun h0 => ?_)
 ·have hfe : Xb e l = (QdD, 8) := by rw [Xb, if_pos (by omega)]
  rw [hfe]
  simp (maxSteps := 4000000) (disch := omega) only [rq, simprocAttr, Qrp, ZG, ht, QU]
  simp [QS, QF, frzL, Qu, QdD, isDL, isD, ks, u8]
 have hr := QcN h0
 obtain ⟨⟨r1, r2, r3⟩, ⟨r4, r5⟩, r6⟩ := QJ.1 hr
 by_cases hst : Qcn e = 0
 case neg =>
  have hfe : Xb e l = (e, Qcn e) := by
   rw [Xb, if_neg (by omega)]
   unfold Qcn at hst ⊢
   by_cases h1 : e.err ≠ 0
   ·rw [if_pos h1, if_pos h1]
   ·rw [if_neg h1, if_neg h1]
    rw [if_neg h1] at hst
    by_cases h2 : e.done = true
    ·rw [if_pos h2, if_pos h2]
    ·rw [if_neg h2] at hst; simp at hst
  rw [hfe]
  simp (maxSteps := 4000000) (disch := omega) only [rq, simprocAttr, ZG, ht, QU]
  simp [QS, QF, frzL, Qu, frzL_T _ t1', frzL_T _ t2', frzL_T _ t3', frzL_T _ t4']
 rw [hst]
 have hG : OkG e := by
  unfold Qcn at hst
  by_cases h1 : e.err ≠ 0
  ·rw [if_pos h1] at hst; omega
  ·rw [if_neg h1] at hst
   refine Qs0 h0 (by simpa using h1) ?_
   cases hd : e.done
   ·rfl
   ·rw [hd] at hst; simp at hst
 have hM' := hM e.ch e.bits r2 r3 r1
 rw [shA] at hM'
 rw [QfB hG]
 have hout : e.out = [] := hG.out
 rw [hout]
 have hmul := J2 r2 r3 r1
 simp (maxSteps := 4000000) (disch := omega) only [rq, simprocAttr, JZ]
 refine Qb.vc hM' ?_
 simp (maxSteps := 4000000) (disch := omega) only [rq, simprocAttr]
 refine QP.by (ι := Nat) (fun j => ⟨[(29, .int .i64 j), (28, .int .i64 l.length), (27, .list l.length (u8 l)), (9, .fn (.func fW) [] [.ref 0 1 0, .ref 5 1 0]), (8, .int .i64 (e.ch * e.bits / 8)), (2, .ref 0 1 0), (4, .ref 1 1 0)], fdS t0 t1 tb tj tf (QI e (l.take j)).1⟩) (fun j => j ≤ l.length ∧ (QI e (l.take j)).2 = 0 ∧ OkG (QI e (l.take j)).1 ∧ Sib (QI e (l.take j)).1 e) (fun j => l.length - j) 0 ?_ ⟨by omega, rfl, hG, rfl, rfl, rfl, rfl⟩ ?_
 ·simp only [List.take_zero, QI, fdS, fdL, Qe3, QcJ]
  exact Le.slots (by simp [Am.look])
 intro j ⟨hj, hz, hGj, hsib⟩
 by_cases hlt : j < l.length
 ·have hu := QvD (l := l) (k := j) hlt
  have hsn := Qhg e l j hlt hz
  have hstop := fun r hb hr => QoA (e := e) (l := l) (j := j) hlt hz (r := r) hb hr
  generalize hEq : (QI e (l.take j)).1 = E at *
  generalize hcq : l[j] = c at *
  obtain ⟨s1, s2, s3, s4⟩ := hsib
  have hrest := hGj.rest
  have hbe : Qal E c = if (E.rest.length : Int) + 1 < E.ch * E.bits / 8 then ({ E with rest := E.rest ++ [c] }, 0)
    else if Qak E.ch (E.frs.length + 1) (Qx E (Qf E.rate) + 1) = false then (ZK E 18, 18) else (Z8 E (E.rest ++ [c]), 0) := rfl
  have hcat : u8 E.rest ++ [.int .u8 (c.toNat : Int)] = u8 (E.rest ++ [c]) := by simp [u8]
  have hml : (E.rest ++ [c]).length = E.rest.length + 1 := by simp
  have ku := QH E.rest
  have ku2 := QH (E.rest ++ [c])
  have hb18 : E.ch * E.bits / 8 ≤ 18 := by rw [s1, s2]; omega
  simp only [fdS, fdL, Qe3, QcJ]
  by_cases hsz : (E.rest.length : Int) + 1 < E.ch * E.bits / 8
  ·rw [if_pos hsz] at hbe
   have hsz' : (E.rest.length : Int) + 1 < e.ch * e.bits / 8 := by rw [← s1, ← s2]; exact hsz
   simp (maxSteps := 4000000) (disch := omega) only [rq, simprocAttr, hu, ku, hcat, ku2]
   rw [hbe] at hsn
   have hb := Qmp c hGj
   rw [hbe] at hb
   refine ⟨j + 1, ⟨by omega, by rw [hsn], ?_, ?_⟩, by omega, ?_⟩
   ·rw [hsn]
    rcases hb with hb | hb
    ·exact hb.2
    ·have := congrArg Prod.snd hb; simp at this
   ·rw [hsn]; exact ⟨s1, s2, s3, s4⟩
   ·rw [hsn]
    simp only [fdS, fdL, Qe3, QcJ, hml]
    exact Le.pickTo [0, 1, 2, 3, 4, 5] (by decide) (by simp) (by simp [Am.look, rnV, rnL, pk, rnL_D _ _ (QR _), List.idxOf_cons]) (by simp [pkO, rnV, rnL, pk, rnL_D _ _ (QR _), rnL_D _ _ (QG _ _), rnL_D _ _ (Zf _), List.idxOf_cons])
  ·rw [if_neg hsz] at hbe
   have hsz' : ¬ (E.rest.length : Int) + 1 < e.ch * e.bits / 8 := by rw [← s1, ← s2]; exact hsz
   have hm : ((E.rest ++ [c]).length : Int) = E.ch * E.bits / 8 := by rw [hml]; omega
   simp (maxSteps := 4000000) (disch := omega) only [rq, simprocAttr, hu, ku, hcat, ku2]
   rw [← hml]
   refine QhU bW hCt hR hS bc hT hE hGj hm (x1 := ⟨t0, 10, 1, QcJ, 0⟩) (x6 := ⟨tb, 1, 1, [.int .u8 (c.toNat : Int)], 0⟩) q2 (by simp [isDL, isD]) (fun h18 => ?_) (fun hA hlt2 => ?_) (fun hB hnlt => ?_)
   ·rw [if_pos h18] at hbe
    rw [hstop _ hbe (by simp)]
    let E1 : Enc := { E with rest := E.rest ++ [c] }
    have hF' := hF E1 18
    have u1 := Qy (E.rest ++ [c])
    have u2 := QD .i32 E.smp
    have u3 := Zy E.frs
    have hoE : bs E.out = .list 0 [] := by rw [hGj.out]; rfl
    simp only [XO, XQ, il, bss, E1] at hF'
    rw [hoE, bs] at hF'
    simp (maxSteps := 4000000) (disch := omega) only [rq, simprocAttr, Qe3]
    refine Qb.still 1 [2, 3, 4] hF' (by simp [QS, QF, frzL, Qu, isDL, isD, frzL_T _ u1, frzL_T _ u2, frzL_T _ u3]) ?_
    simp (maxSteps := 4000000) (disch := omega) only [rq, simprocAttr, Qm, Qrp, QcJ, ZG, ht, QU]
    simp [QS, QF, frzL, Qu, ZK, isDL, isD, ks, u8]
   ·rw [if_neg (by rw [hA]; simp)] at hbe
    have hw : Z8 E (E.rest ++ [c]) = Z1 E (E.rest ++ [c]) := by rw [Z8, if_pos hlt2]
    obtain ⟨hGw, _⟩ := QeK hGj hm hA
    rw [hw] at hbe hGw
    rw [hbe] at hsn
    simp (maxSteps := 4000000) (disch := omega) only [rq, simprocAttr, Qe3]
    refine ⟨j + 1, ⟨by omega, by rw [hsn], by rw [hsn]; exact hGw, by rw [hsn]; exact ⟨s1, s2, s3, s4⟩⟩, by omega, ?_⟩
    rw [hsn]
    simp only [fdS, fdL, Qe3, QcJ]
    refine Le.trans (Le.virtC 0 4 tb 1 (by decide) rfl rfl) (Le.pickTo [0, 1, 7, 3, 4, 5] (by decide) (by simp) (by simp [Am.look, rnV, rnL, pk, rnL_D _ _ (QR _), List.idxOf_cons]) ?_)
    simp [pkO, rnV, rnL, pk, rnL_D _ _ (QR _), rnL_D _ _ (QG _ _), rnL_D _ _ (Zf _), List.idxOf_cons, Z1, JZ, J5]
   ·rw [if_neg (by rw [hB]; simp)] at hbe
    have hw : Z8 E (E.rest ++ [c]) = Xd (Z1 E (E.rest ++ [c])) := by rw [Z8, if_neg hnlt]
    obtain ⟨hGw, _⟩ := QeK hGj hm hB
    rw [hw] at hbe hGw
    rw [hbe] at hsn
    simp (maxSteps := 4000000) (disch := omega) only [rq, simprocAttr, Qe3]
    refine ⟨j + 1, ⟨by omega, by rw [hsn], by rw [hsn]; exact hGw, by rw [hsn]; exact ⟨s1, s2, s3, s4⟩⟩, by omega, ?_⟩
    rw [hsn]
    simp only [fdS, fdL, Qe3, QcJ, Qkt]
    refine Le.trans (Le.virtC 0 4 tb 1 (by decide) rfl rfl) (Le.trans (Le.virtC 0 5 tj 1 (by decide) rfl rfl) (Le.pickTo [0, 1, 7, 8, 4, 5] (by decide) (by simp) (by simp [Am.look, rnV, rnL, pk, rnL_D _ _ (QR _), List.idxOf_cons]) ?_))
    simp [pkO, rnV, rnL, pk, rnL_D _ _ (QR _), rnL_D _ _ (QG _ _), rnL_D _ _ (Zf _), List.idxOf_cons]
    simp [Z1, Xd, JZ, J5]
 ·have ej : j = l.length := by omega
  subst ej
  rw [List.take_length] at hz hGj ⊢
  have hoE : bs (QI e l).1.out = .list 0 [] := by rw [hGj.out]; rfl
  have hoE2 : (QI e l).1.out.length = 0 ∧ u8 (QI e l).1.out = [] := by rw [hGj.out]; exact ⟨rfl, rfl⟩
  rw [hz]
  generalize (QI e l).1 = E at *
  have u1 := Qy E.rest
  have u2 := QD .i32 E.smp
  have u3 := Zy E.frs
  simp only [fdS, fdL, Qe3, QcJ]
  simp (maxSteps := 4000000) (disch := omega) only [rq, simprocAttr, ZG, ht, QU]
  simp [QS, QF, frzL, Qu, frzL_T _ u1, frzL_T _ u2, frzL_T _ u3, hoE2]
def Qga (P : Prg) (f : Nat) : Prop := ∀ p : List UInt8, p.length ≤ 64 → VC P f [.str p] (.tup [.int .i64 (QbT p), .int .i64 0])
theorem Qiq {P : Prg} {f : Nat} (bd : Qk P f 12 [.tmp 2, .tmp 3] Xn) : Qga P f := by
 intro p hp
 refine VC.of_acall rfl rfl (ACall.of_body bd (by simp) ?_)
 by_cases hn : p = []
 ·subst hn
  have : QbT [] = 1 := rfl
  rw [this]
  simp (maxSteps := 4000000) (disch := omega) only [rq, simprocAttr, Xn]
 ·have hl : p.length ≠ 0 := by simpa using hn
  rw [QbT, if_neg hn]
  simp (maxSteps := 4000000) (disch := omega) only [rq, simprocAttr, Xn]
def Qd5 (t : Nat) (P : Prg) (g : Nat) : Prop := ∀ f c b r n : Int, hdN f c b r n = 0 → VO P g [hdA f c b r n] (.tup [.own 0 22, .int .i64 0]) ⟨t, 1, 22, u8 (hdB f.toNat c.toNat b.toNat r.toNat n.toNat), 1⟩
set_option maxHeartbeats 2000000 in
theorem Qid {P : Prg} {g fC fB fS t0 t1 g0 : Nat} (bd : Qk P g 63 [.tmp 2, .tmp 3] (Zs fC fB fS t0 t1 g0)) (hC : QdB P fC) (hB : Qah P fB) (hS : Qhj P fS) (h0 : P.G.lookup g0 = some QuF) : Qd5 t1 P g := by
 intro f c b r n h
 refine VO.of_walk rfl (QR _) (by simp [okr, Am.flat]) (ACall.of_body bd (by simp) ?_)
 have hC' := hC f c b r n
 have g0' : Qsp P.G g0 = .cell QuF := by simp [Qsp, h0]
 rw [h] at hC'
 obtain ⟨f, c, b, r, n, rfl, rfl, rfl, rfl, rfl, a1, a2, a3, a4, a5⟩ := QlS h
 simp only [Int.toNat_natCast]
 rw [hdA] at hC' ⊢
 have B1 := hB f 2 (by omega) (by omega) (by simp; omega)
 have B2 := hB c 2 (by omega) (by omega) (by simp; omega)
 have B3 := hB b 2 (by omega) (by omega) (by simp; omega)
 have B4 := hB r 4 (by omega) (by omega) (by simp; omega)
 have B5 := hB n 4 (by omega) (by omega) (by simp; omega)
 rw [bs, Qc] at B1 B2 B3 B4 B5
 have u2 : ∀ m, (u8 (leB m 2)).length = 2 := fun m => by rw [QH, Qc]
 have u4 : ∀ m, (u8 (leB m 4)).length = 4 := fun m => by rw [QH, Qc]
 have c0 : u8 (hdP f c b r n 0) ++ u8 (leB f 2) = u8 (hdP f c b r n 1) := by simp [hdP, u8]
 have c1 : u8 (hdP f c b r n 1) ++ u8 (leB c 2) = u8 (hdP f c b r n 2) := by simp [hdP, u8]
 have c2 : u8 (hdP f c b r n 2) ++ u8 (leB b 2) = u8 (hdP f c b r n 3) := by simp [hdP, u8]
 have c3 : u8 (hdP f c b r n 3) ++ u8 (leB r 4) = u8 (hdP f c b r n 4) := by simp [hdP, u8]
 have c4 : u8 (hdP f c b r n 4) ++ u8 (leB n 4) = u8 (hdP f c b r n 5) := by simp [hdP, u8]
 have l0 : (hdP f c b r n 0).length = 4 := rfl
 have l1 : (hdP f c b r n 1).length = 6 := by simp [hdP, Qc]
 have l2 : (hdP f c b r n 2).length = 8 := by simp [hdP, Qc]
 have l3 : (hdP f c b r n 3).length = 10 := by simp [hdP, Qc]
 have l4 : (hdP f c b r n 4).length = 14 := by simp [hdP, Qc]
 have l5 : (hdP f c b r n 5).length = 18 := by simp [hdP, Qc]
 have e0 : u8 (hdP f c b r n 0) = [.int .u8 84, .int .u8 84, .int .u8 65, .int .u8 49] := rfl
 have hcat : u8 (hdP f c b r n 5) ++ u8 (leB (QbN (hdP f c b r n 5)) 4) = u8 (hdB f c b r n) := by simp [u8, hdB, Zh]
 have hlen : (hdB f c b r n).length = 22 := by rw [hdB, Zh, List.length_append, Qc, l5]
 have hS' := hS (hdP f c b r n 5)
 rw [if_neg (by omega), ← QbN, bs, l5] at hS'
 have hsm : QbN (hdP f c b r n 5) < 4294967296 := by unfold QbN; omega
 have B6 := hB (QbN (hdP f c b r n 5)) 4 (by omega) (by omega) (by simpa using hsm)
 rw [bs, Qc] at B6
 have t5 := Qy (hdP f c b r n 5)
 have tb := Qy (hdB f c b r n)
 obtain ⟨H, hH⟩ : ∃ H, H = hdP f c b r n := ⟨_, rfl⟩
 rw [← hH] at c0 c1 c2 c3 c4 l0 l1 l2 l3 l4 l5 e0 hcat hS' hsm B6 t5
 generalize QbN (H 5) = sm at *
 generalize hdB f c b r n = D at *
 have g0'' : Qsp P.G g0 = .cell [.int .i64 2, .int .i64 2, .int .i64 2, .int .i64 4, .int .i64 4] := g0'
 simp (maxSteps := 4000000) (disch := omega) only [rq, simprocAttr, Zs]
 refine Qb.vc hC' ?_
 simp (maxSteps := 4000000) (disch := omega) only [rq, simprocAttr]
 refine QP.by (ι := Nat) (fun j => ⟨[(32, .int .i64 j), (31, .agg [.int .i64 f, .int .i64 c, .int .i64 b, .int .i64 r, .int .i64 n]), (5, .own 1 (H j).length)], [⟨t0, 5, 1, [.int .i64 f, .int .i64 c, .int .i64 b, .int .i64 r, .int .i64 n], 0⟩, ⟨t1, 1, (H j).length, u8 (H j), 1⟩]⟩) (fun j => j ≤ 5) (fun j => 5 - j) 0 ?_ (by omega) ?_
 ·simp only [e0, l0]
  exact Le.slots (by simp [Am.look])
 intro j hj
 have hj5 : j = 0 ∨ j = 1 ∨ j = 2 ∨ j = 3 ∨ j = 4 ∨ j = 5 := by omega
 rcases hj5 with rfl | rfl | rfl | rfl | rfl | rfl
 ·simp (maxSteps := 4000000) (disch := omega) only [rq, simprocAttr, g0'', l0]
  refine Qb.vc B1 ?_
  simp (maxSteps := 4000000) (disch := omega) only [rq, simprocAttr, u2, c0]
  exact ⟨1, by omega, by omega, by rw [l1]; exact Le.slots (by simp [Am.look])⟩
 ·simp (maxSteps := 4000000) (disch := omega) only [rq, simprocAttr, g0'', l1]
  refine Qb.vc B2 ?_
  simp (maxSteps := 4000000) (disch := omega) only [rq, simprocAttr, u2, c1]
  exact ⟨2, by omega, by omega, by rw [l2]; exact Le.slots (by simp [Am.look])⟩
 ·simp (maxSteps := 4000000) (disch := omega) only [rq, simprocAttr, g0'', l2]
  refine Qb.vc B3 ?_
  simp (maxSteps := 4000000) (disch := omega) only [rq, simprocAttr, u2, c2]
  exact ⟨3, by omega, by omega, by rw [l3]; exact Le.slots (by simp [Am.look])⟩
 ·simp (maxSteps := 4000000) (disch := omega) only [rq, simprocAttr, g0'', l3]
  refine Qb.vc B4 ?_
  simp (maxSteps := 4000000) (disch := omega) only [rq, simprocAttr, u4, c3]
  exact ⟨4, by omega, by omega, by rw [l4]; exact Le.slots (by simp [Am.look])⟩
 ·simp (maxSteps := 4000000) (disch := omega) only [rq, simprocAttr, g0'', l4]
  refine Qb.vc B5 ?_
  simp (maxSteps := 4000000) (disch := omega) only [rq, simprocAttr, u4, c4]
  exact ⟨5, by omega, by omega, by rw [l5]; exact Le.slots (by simp [Am.look])⟩
 ·simp (maxSteps := 4000000) (disch := omega) only [rq, simprocAttr, l5]
  refine Qb.flat 1 hS' rfl (by simp [QS, QF, frzL, Qu, frzL_T _ t5]) ?_
  simp (maxSteps := 4000000) (disch := omega) only [rq, simprocAttr]
  refine Qb.vc B6 ?_
  simp (maxSteps := 4000000) (disch := omega) only [rq, simprocAttr, u4, hcat]
  exact ⟨1, rfl, rfl⟩
def pfB (e : Enc) (mo : Int) : List UInt8 := hdB (QbT e.pw).toNat e.ch.toNat e.bits.toNat e.rate.toNat mo.toNat ++ (QmX e.pw ++ (Zh (Jo (Zo e.frs)) ++ e.frs.flatten))
def QmK (P : Prg) (f : Nat) : Prop := ∀ (e : Enc) (mo : Int), okC e → e.pw.length ≤ 64 → hdN (QbT e.pw) e.ch e.bits e.rate mo = 0 → skN (Zo e.frs) = 0 → VC P f [XO e, .int .i64 mo] (.tup [bs (pfB e mo), .int .i64 0])
set_option maxRecDepth 20000 in
set_option maxHeartbeats 4000000 in
theorem QjP {P : Prg} {f fF fW fD fS fC t0 tb ti : Nat} (bd : Qk P f 85 [.tmp 4, .tmp 5] (Qac fF fW fD fS fC t0 tb ti)) (hF : Qga P fF) (hW : Qd5 tb P fW) (hD : Qcl P fD) (hS : Qdy P fS) (hC : Qe5 P fC) : QmK P f := by
 intro e mo ho hp hh hs
 obtain ⟨o0, o1, o2, o3, o4, o5⟩ := ho
 refine VC.of_walk 1 (by simp [isDL, ZT, isD]) (by simp [isD, isDL, Zi]) (ACall.of_cut 1 bd (by simp) ?_)
 have hF' := hF e.pw hp
 have hW' := hW (QbT e.pw) e.ch e.bits e.rate mo hh
 have hD' := hD e.pw
 rw [Qur, if_neg (by omega)] at hD'
 rcases Qfi (Zo e.frs) with h8 | ⟨_, n1, n2, hr⟩
 ·omega
 have t1' := Qy e.rest
 have t2' := QD .i32 e.smp
 have t3' := Zy e.frs
 have t4' := Qy e.out
 have hlen := Qce e.frs
 have hmb : (e.frs.map bs).length = e.frs.length := by simp
 simp only [XO, XQ, il, bss, bs, hdA] at hW' ⊢
 simp (maxSteps := 4000000) (disch := omega) only [rq, simprocAttr, Qac, XY]
 refine ⟨⟨[(2, .cell [.int .i64 e.ch, .int .i64 e.bits, .int .i64 e.rate, .str e.pw, .list e.rest.length (u8 e.rest), .list e.smp.length (ks .i32 e.smp), .list e.frs.length (e.frs.map bs), .list e.out.length (u8 e.out), .bool e.done, .int .i64 e.err]), (1, .int .i64 mo)], []⟩, Le.dropT [] (by simp) (by simp [Am.look, QF, frzL, Qu, frzL_T _ t1', frzL_T _ t2', frzL_T _ t3', frzL_T _ t4']), ?_⟩
 simp (maxSteps := 4000000) (disch := omega) only [rq, simprocAttr, XY]
 refine Qb.vc hF' ?_
 simp (maxSteps := 4000000) (disch := omega) only [rq, simprocAttr, XY]
 refine Qb.vo hW' ?_
 simp (maxSteps := 4000000) (disch := omega) only [rq, simprocAttr, XY, shr]
 have hS' := hS (Zo e.frs) (by omega) (fun v hv => by
  obtain ⟨i, hi, rfl⟩ := List.mem_iff_getElem.1 hv
  have := hr i hi
  rw [List.getD_eq_getElem?_getD, List.getElem?_eq_getElem hi] at this
  simp only [Option.getD_some] at this
  omega)
 rw [skA, if_pos hs, QoJ, hlen, bs] at hS'
 have hsum : e.frs.flatten.length ≤ 100000 := by
  have hok2 : Qls 100000 (Zo e.frs) := by
   have hs' := hs
   unfold skN at hs'
   split at hs'
   ·cases hs'
   split at hs'
   ·assumption
   ·cases hs'
  have hff := Qc1 e.frs
  rcases QhP hok2 with q | q
  ·rw [hff] at q; omega
  ·rw [q] at n1; simp at n1
 have tle := QD .i64 (Zo e.frs)
 have hTl := QjH (Zo e.frs)
 rw [hlen] at hTl
 have hpos : 0 < e.frs.flatten.length := by
  have hff := Qc1 e.frs
  have h0 := hr 0 (by omega)
  have h1 : ∀ (L : List (List UInt8)), 0 < L.length → 5 ≤ (Zo L).getD 0 0 → 0 < L.flatten.length := fun L hL h5 => by
   cases L with
   | nil => simp at hL
   | cons a L => simp [Zo] at h5 ⊢; omega
  exact h1 _ (by omega) h0.1
 have hC' := hC e.frs (by omega) hpos (by omega)
 rw [QjT, bs] at hC'
 by_cases hn : e.pw = []
 ·have hsb : QmX e.pw = [] := by rw [QmX, if_pos hn]
  have hpf : pfB e mo = hdB (QbT e.pw).toNat e.ch.toNat e.bits.toNat e.rate.toNat mo.toNat ++ (Zh (Jo (Zo e.frs)) ++ e.frs.flatten) := by rw [pfB, hsb, List.nil_append]
  have hpe : (!(e.pw == [])) = false := by simp [hn]
  have hOl := Qie (QbT e.pw).toNat e.ch.toNat e.bits.toNat e.rate.toNat mo.toNat
  rw [hpf]
  generalize hdB (QbT e.pw).toNat e.ch.toNat e.bits.toNat e.rate.toNat mo.toNat = O at *
  simp (maxSteps := 4000000) (disch := omega) only [rq, simprocAttr, XY, QnO, hpe]
  refine QP.by (ι := Nat) (fun k => ⟨[(60, .int .i64 k), (59, .int .i64 e.frs.length), (58, .list e.frs.length (e.frs.map bs)), (11, .own 1 k), (8, .own 0 22), (2, .cell [.int .i64 e.ch, .int .i64 e.bits, .int .i64 e.rate, .str e.pw, .list e.rest.length (u8 e.rest), .list e.smp.length (ks .i32 e.smp), .list e.frs.length (e.frs.map bs), .list e.out.length (u8 e.out), .bool e.done, .int .i64 e.err])], [⟨tb, 1, 22, u8 O, 1⟩, ⟨ti, 1, k, ks .i64 ((Zo e.frs).take k), 0⟩]⟩) (fun k => k ≤ e.frs.length) (fun k => e.frs.length - k) 0 (Le.trans (Le.virt 11 ti 1 (by decide) rfl) (Le.slots (by simp [Am.look]))) (by omega) ?_
  intro k hk
  have hkl : ((Zo e.frs).take k).length = k := by rw [List.length_take]; omega
  have kkl : (ks .i64 ((Zo e.frs).take k)).length = k := by rw [Qh, hkl]
  have hcc : u8 O ++ u8 (Zh (Jo (Zo e.frs))) ++ u8 e.frs.flatten = u8 (O ++ (Zh (Jo (Zo e.frs)) ++ e.frs.flatten)) := by simp [u8]
  have tX := Qy (O ++ (Zh (Jo (Zo e.frs)) ++ e.frs.flatten))
  have kT : (u8 (Zh (Jo (Zo e.frs)))).length = (Zh (Jo (Zo e.frs))).length := QH _
  have kF : (u8 e.frs.flatten).length = e.frs.flatten.length := QH _
  by_cases hlt : k < e.frs.length
  ·have e1 := Qeo (L := e.frs) (k := k) hlt
   have hst : ks .i64 ((Zo e.frs).take k) ++ [.int .i64 ((e.frs.getD k []).length : Int)] = ks .i64 ((Zo e.frs).take (k + 1)) := by
    have hq : (Zo e.frs)[k]? = some ((e.frs.getD k []).length : Int) := by simp [Zo, List.getD_eq_getElem?_getD, List.getElem?_eq_getElem hlt]
    have htk : (Zo e.frs).take (k + 1) = (Zo e.frs).take k ++ [((e.frs.getD k []).length : Int)] := by rw [List.take_add_one, hq]; rfl
    rw [htk]; simp [ks]
   rw [bs] at e1
   generalize e.frs.getD k [] = F at *
   simp (maxSteps := 4000000) (disch := omega) only [rq, simprocAttr, XY, e1, hmb, kkl, hst]
   refine ⟨k + 1, by omega, by omega, ?_⟩
   exact Le.pickTo [0, 1] (by decide) (by simp) (by simp [Am.look, rnV, rnL, pk, rnL_D _ _ (QR _), rnL_D _ _ (Zf _), rnL_D _ _ (QG _ _), List.idxOf_cons]) (by simp [pkO, rnV, rnL, pk, rnL_D _ _ (QR _), rnL_D _ _ (QG _ _), rnL_D _ _ (Zf _), List.idxOf_cons])
  ·have ek : k = e.frs.length := by omega
   subst ek
   rw [show (Zo e.frs).take e.frs.length = Zo e.frs from List.take_of_length_le (by omega)] at kkl ⊢
   simp (maxSteps := 4000000) (disch := omega) only [rq, simprocAttr, XY]
   refine Qb.still 1 [1] hS' (by simp [QS, QF, frzL, Qu, frzL_T _ tle]) ?_
   simp (maxSteps := 4000000) (disch := omega) only [rq, simprocAttr, XY, Qm]
   refine Q2.vc hC' ?_
   simp (maxSteps := 4000000) (disch := omega) only [rq, simprocAttr, XY, hcc, kT, kF]
   simp [QS, QF, frzL, Qu, frzL_T _ tX]
   try omega
 ·have hsb : QmX e.pw = leB (ZZ 0 e.pw) 8 := by rw [QmX, if_neg hn]
  have hpf : pfB e mo = (hdB (QbT e.pw).toNat e.ch.toNat e.bits.toNat e.rate.toNat mo.toNat ++ leB (ZZ 0 e.pw) 8) ++ (Zh (Jo (Zo e.frs)) ++ e.frs.flatten) := by rw [pfB, hsb, List.append_assoc]
  have hpe : (!(e.pw == [])) = true := by simp [hn]
  have hOc : u8 (hdB (QbT e.pw).toNat e.ch.toNat e.bits.toNat e.rate.toNat mo.toNat) ++ u8 (leB (ZZ 0 e.pw) 8) = u8 (hdB (QbT e.pw).toNat e.ch.toNat e.bits.toNat e.rate.toNat mo.toNat ++ leB (ZZ 0 e.pw) 8) := by simp [u8]
  have hOl : (hdB (QbT e.pw).toNat e.ch.toNat e.bits.toNat e.rate.toNat mo.toNat ++ leB (ZZ 0 e.pw) 8).length = 30 := by rw [List.length_append, Qie, Qc]
  rw [hpf]
  rw [bs, Qc] at hD'
  have l8 : (u8 (leB (ZZ 0 e.pw) 8)).length = 8 := by rw [QH, Qc]
  generalize hdB (QbT e.pw).toNat e.ch.toNat e.bits.toNat e.rate.toNat mo.toNat ++ leB (ZZ 0 e.pw) 8 = O at *
  simp (maxSteps := 4000000) (disch := omega) only [rq, simprocAttr, XY, QnO, hpe]
  refine Qb.vc hD' ?_
  simp (maxSteps := 4000000) (disch := omega) only [rq, simprocAttr, XY, hOc, l8, Qie]
  refine QP.by (ι := Nat) (fun k => ⟨[(60, .int .i64 k), (59, .int .i64 e.frs.length), (58, .list e.frs.length (e.frs.map bs)), (11, .own 1 k), (8, .own 0 30), (2, .cell [.int .i64 e.ch, .int .i64 e.bits, .int .i64 e.rate, .str e.pw, .list e.rest.length (u8 e.rest), .list e.smp.length (ks .i32 e.smp), .list e.frs.length (e.frs.map bs), .list e.out.length (u8 e.out), .bool e.done, .int .i64 e.err])], [⟨tb, 1, 30, u8 O, 1⟩, ⟨ti, 1, k, ks .i64 ((Zo e.frs).take k), 0⟩]⟩) (fun k => k ≤ e.frs.length) (fun k => e.frs.length - k) 0 (Le.trans (Le.virt 11 ti 1 (by decide) rfl) (Le.slots (by simp [Am.look]))) (by omega) ?_
  intro k hk
  have hkl : ((Zo e.frs).take k).length = k := by rw [List.length_take]; omega
  have kkl : (ks .i64 ((Zo e.frs).take k)).length = k := by rw [Qh, hkl]
  have hcc : u8 O ++ u8 (Zh (Jo (Zo e.frs))) ++ u8 e.frs.flatten = u8 (O ++ (Zh (Jo (Zo e.frs)) ++ e.frs.flatten)) := by simp [u8]
  have tX := Qy (O ++ (Zh (Jo (Zo e.frs)) ++ e.frs.flatten))
  have kT : (u8 (Zh (Jo (Zo e.frs)))).length = (Zh (Jo (Zo e.frs))).length := QH _
  have kF : (u8 e.frs.flatten).length = e.frs.flatten.length := QH _
  by_cases hlt : k < e.frs.length
  ·have e1 := Qeo (L := e.frs) (k := k) hlt
   have hst : ks .i64 ((Zo e.frs).take k) ++ [.int .i64 ((e.frs.getD k []).length : Int)] = ks .i64 ((Zo e.frs).take (k + 1)) := by
    have hq : (Zo e.frs)[k]? = some ((e.frs.getD k []).length : Int) := by simp [Zo, List.getD_eq_getElem?_getD, List.getElem?_eq_getElem hlt]
    have htk : (Zo e.frs).take (k + 1) = (Zo e.frs).take k ++ [((e.frs.getD k []).length : Int)] := by rw [List.take_add_one, hq]; rfl
    rw [htk]; simp [ks]
   rw [bs] at e1
   generalize e.frs.getD k [] = F at *
   simp (maxSteps := 4000000) (disch := omega) only [rq, simprocAttr, XY, e1, hmb, kkl, hst]
   refine ⟨k + 1, by omega, by omega, ?_⟩
   exact Le.pickTo [0, 1] (by decide) (by simp) (by simp [Am.look, rnV, rnL, pk, rnL_D _ _ (QR _), rnL_D _ _ (Zf _), rnL_D _ _ (QG _ _), List.idxOf_cons]) (by simp [pkO, rnV, rnL, pk, rnL_D _ _ (QR _), rnL_D _ _ (QG _ _), rnL_D _ _ (Zf _), List.idxOf_cons])
  ·have ek : k = e.frs.length := by omega
   subst ek
   rw [show (Zo e.frs).take e.frs.length = Zo e.frs from List.take_of_length_le (by omega)] at kkl ⊢
   simp (maxSteps := 4000000) (disch := omega) only [rq, simprocAttr, XY]
   refine Qb.still 1 [1] hS' (by simp [QS, QF, frzL, Qu, frzL_T _ tle]) ?_
   simp (maxSteps := 4000000) (disch := omega) only [rq, simprocAttr, XY, Qm]
   refine Q2.vc hC' ?_
   simp (maxSteps := 4000000) (disch := omega) only [rq, simprocAttr, XY, hcc, kT, kF]
   simp [QS, QF, frzL, Qu, frzL_T _ tX]
   try omega
def Xc (e : Enc) (b : List UInt8) : Enc := ⟨e.ch, e.bits, e.rate, e.pw, [], [], [], b, true, 0⟩
def Qco (e : Enc) : Enc := if e.smp = [] then e else Xd e
def Qg5 (e : Enc) : Enc × Int := if Qs e ≠ 0 then (QdD, 8) else if Qcn e ≠ 0 then (e, Qcn e) else
 if e.rest ≠ [] ∨ Qx e (Qf e.rate) = 0 then (ZK e 24, 24) else (Xc e (pfB (Qco e) (Qx e (Qf e.rate))), 0)
theorem OkG.ask {e : Enc} (h : OkG e) (hs : e.smp ≠ []) : QbZ e.ch e.bits e.smp = 0 := by
 obtain ⟨⟨r1, r2, r3⟩, _, _⟩ := QJ.1 h.r
 have he0 : QT e.ch e.bits = 0 := by
  rcases Q0 e.ch e.bits with q' | q'
  ·unfold QT at q'; split at q' <;> omega
  ·exact q'.1
 have hl : e.smp.length ≠ 0 := by simpa using hs
 exact Qq1 he0 h.ck (by have := h.dv; omega)
theorem OkG.hd {e : Enc} (h : OkG e) (hc : Qx e (Qf e.rate) ≠ 0) : hdN (QbT e.pw) e.ch e.bits e.rate (Qx e (Qf e.rate)) = 0 := by
 obtain ⟨k, L, q, hk, k1, k6, hL, L1, L2, hlen, hq, hx, hrm, hcn, hbits⟩ := h.nat
 obtain ⟨_, ⟨r4, r5⟩, _⟩ := QJ.1 h.r
 have hrm2 := ((Qbh _ _ _).1 h.rm).1
 have hf : QbT e.pw = 1 ∨ QbT e.pw = 2 := by unfold QbT; split <;> simp
 rw [hcn] at hc ⊢
 have hn1 : 1 ≤ e.frs.length * L + q := by omega
 have hle : e.frs.length * L + q ≤ 4000 / k := (Nat.le_div_iff_mul_le (by omega)).2 hrm
 have hle4 : e.frs.length * L + q ≤ 4000 := Nat.le_trans hle (Nat.div_le_self _ _)
 have hnum : (((e.frs.length * L + q : Nat) : Int) + (L : Int) - 1) / (L : Int) ≤ 1000 := by
  have e1 : ((e.frs.length * L + q : Nat) : Int) + (L : Int) - 1 = ((e.frs.length * L + (q + L - 1) : Nat) : Int) := by omega
  rw [e1, ← Int.natCast_ediv]
  have e2 : (e.frs.length * L + (q + L - 1)) / L = e.frs.length + (q + L - 1) / L := by rw [Nat.add_comm, Nat.add_mul_div_right _ _ (by omega), Nat.add_comm]
  rw [e2]
  have hs : 0 < q ↔ 0 < e.smp.length := by
   rw [hlen]
   constructor
   ·intro h'; exact Nat.mul_pos h' (by omega)
   ·intro h'; exact Nat.pos_of_mul_pos_right h'
  by_cases hq0 : q = 0
  ·have : (q + L - 1) / L = 0 := Nat.div_eq_of_lt (by omega)
   have := h.fr
   omega
  ·have h1 : (q + L - 1) / L = 1 := by
    have : q + L - 1 = (q - 1) + L := by omega
    rw [this, Nat.add_div_right _ (by omega), Nat.div_eq_of_lt (by omega)]
   have h2 := hs.1 (by omega)
   rw [if_pos h2] at hrm2
   omega
 rw [hdN, if_pos]
 refine ⟨⟨hbits, hf, by omega, by omega, r4, r5, by omega⟩, ?_, ?_⟩
 ·rw [hk]
  have : ((4000 : Int) / (k : Int)) = ((4000 / k : Nat) : Int) := by simp
  rw [this]; omega
 ·unfold Qit
  rw [if_neg (by omega), if_neg (by omega), hL, if_neg (by omega)]
def Qhh (P : Prg) (f : Nat) : Prop := ∀ e : Enc, okC e → (∀ b ∈ e.frs, b.length ≤ 1000000) → (OkG e → e.rest = [] → Qx e (Qf e.rate) ≠ 0 → skN (Zo (Qco e).frs) = 0) → VC P f [XO e] (.tup [XO (Qg5 e).1, .int .i64 (Qg5 e).2])
set_option maxRecDepth 20000 in
set_option maxHeartbeats 4000000 in
theorem Qgq {P : Prg} {f fB fc fF fFi fC fL fT fK fJ fTp fE fCt t0 tb tj tf tz : Nat} (bd : Qk P f 67 [.cell 2 t0, .tmp 3] (X5 fB fCt fF fc fFi t0)) (bB : Qk P fB 33 [.cell 2 t0, .tmp 3, .tmp 4] (Zb fC fL fT t0)) (hC : QaE P fC) (hL : QaF P fL) (bT : Qk P fT 42 [.cell 2 t0] (Q6 fK fJ t0 tf)) (hK1 : JR tb P fK) (hJ : Qai tj P fJ) (ht : ZP P t0 = some (some 10)) (hCt : Qd6 P fCt) (hF : Qi3 P fF) (bc : Qk P fc 46 [.tmp 2] (Zr fTp fE tz tf)) (hT : QfY P fTp) (hE : QmO P fE) (hFi : QmK P fFi) : Qhh P f := by
 intro e ho hfr hsk
 refine VC.of_walk 2 (by simp [isDL, ZT]) (by simp [isD, isDL, ZT]) (ACall.of_body bd (by simp) ?_)
 have q1 : isDL (XQ e) = true := by simp [XQ, isDL, isD, Zi, ZC, QcK]
 have q2 : isDL QcJ = true := by simp [isDL, isD, QcJ]
 have hlow : Low 2 [⟨t0, 10, 1, XQ e, 0⟩, ⟨t0, 10, 1, QcJ, 0⟩] := Low.cons (lowL_D _ q1) (Low.cons (lowL_D _ q2) Low.nil)
 have t1' := Qy e.rest
 have t2' := QD .i32 e.smp
 have t3' := Zy e.frs
 have t4' := Qy e.out
 have ho' := ho
 obtain ⟨o0, o1, o2, o3, o4, o5⟩ := ho'
 have beg := fun {K : AV → List Ob → Prop} => Qc9 bB hC hL bT hK1 hJ ht ho hfr (ob := [⟨t0, 10, 1, XQ e, 0⟩, ⟨t0, 10, 1, QcJ, 0⟩]) hlow (K := K)
 have hCt0 := hCt e (Qf e.rate)
 have hF' := hF e 24
 simp only [XO, XQ, il, bss, bs, QcJ, List.cons_append, List.nil_append, List.length_cons, List.length_nil, twA, twO] at beg hCt0 hF' ⊢
 simp (maxSteps := 4000000) (disch := omega) only [rq, simprocAttr, X5]
 refine beg (fun h8 => ?_) (fun h0 => ?_)
 ·have hfe : Qg5 e = (QdD, 8) := by rw [Qg5, if_pos (by omega)]
  rw [hfe]
  simp (maxSteps := 4000000) (disch := omega) only [rq, simprocAttr, Qrp, ZG, ht, QU]
  simp [QS, QF, frzL, Qu, QdD, isDL, isD, ks, u8]
 have hr := QcN h0
 obtain ⟨⟨r1, r2, r3⟩, ⟨r4, r5⟩, r6⟩ := QJ.1 hr
 by_cases hst : Qcn e = 0
 case neg =>
  have hfe : Qg5 e = (e, Qcn e) := by rw [Qg5, if_neg (by omega), if_pos hst]
  rw [hfe]
  simp (maxSteps := 4000000) (disch := omega) only [rq, simprocAttr, ZG, ht, QU]
  simp [QS, QF, frzL, Qu, frzL_T _ t1', frzL_T _ t2', frzL_T _ t3', frzL_T _ t4']
 have hG : OkG e := by
  unfold Qcn at hst
  by_cases h1 : e.err ≠ 0
  ·rw [if_pos h1] at hst; omega
  ·rw [if_neg h1] at hst
   refine Qs0 h0 (by simpa using h1) ?_
   cases hd : e.done
   ·rfl
   ·rw [hd] at hst; simp at hst
 have hlz := ZS e.rate
 have hlz2 := QeT r5
 have hCt' := hCt0 ⟨r2, r3, hG.fr, o2, o3⟩ (by omega) hlz2
 have hfe : Qg5 e = if e.rest ≠ [] ∨ Qx e (Qf e.rate) = 0 then (ZK e 24, 24) else (Xc e (pfB (Qco e) (Qx e (Qf e.rate))), 0) := by rw [Qg5, if_neg (by omega), if_neg (by omega)]
 rw [hst, hfe]
 have hrl : e.rest = [] ↔ e.rest.length = 0 := by simp
 have hsl : e.smp = [] ↔ e.smp.length = 0 := by simp
 have hdz : e.done = false := hG.done
 have hez : e.err = 0 := hG.err
 have hcpos : 0 ≤ Qx e (Qf e.rate) := by
  obtain ⟨k, L, q, _, _, _, _, _, _, _, _, _, _, hcn, _⟩ := hG.nat
  omega
 simp (maxSteps := 4000000) (disch := omega) only [rq, simprocAttr]
 refine Qb.flat 1 hCt' rfl (by simp [QS, QF, frzL, Qu, isDL, isD, frzL_T _ t1', frzL_T _ t2', frzL_T _ t3', frzL_T _ t4']) ?_
 by_cases h24 : e.rest ≠ [] ∨ Qx e (Qf e.rate) = 0
 ·rw [if_pos h24]
  by_cases hr0 : e.rest.length = 0
  ·have hc0 : Qx e (Qf e.rate) = 0 := h24.resolve_left fun h => h (hrl.2 hr0)
   simp (maxSteps := 4000000) (disch := omega) only [rq, simprocAttr, hc0]
   refine Qb.still 1 [2, 3, 4] hF' (by simp [QS, QF, frzL, Qu, isDL, isD, frzL_T _ t1', frzL_T _ t2', frzL_T _ t3', frzL_T _ t4']) ?_
   simp (maxSteps := 4000000) (disch := omega) only [rq, simprocAttr, Qm, Qrp, QcJ, ZG, ht, QU]
   simp [QS, QF, frzL, Qu, ZK, isDL, isD, ks, u8]
  ·simp (maxSteps := 4000000) (disch := omega) only [rq, simprocAttr]
   refine Qb.still 1 [2, 3, 4] hF' (by simp [QS, QF, frzL, Qu, isDL, isD, frzL_T _ t1', frzL_T _ t2', frzL_T _ t3', frzL_T _ t4']) ?_
   simp (maxSteps := 4000000) (disch := omega) only [rq, simprocAttr, Qm, Qrp, QcJ, ZG, ht, QU]
   simp [QS, QF, frzL, Qu, ZK, isDL, isD, ks, u8]
 ·rw [if_neg h24]
  have hr0 : e.rest.length = 0 := by
   by_cases h : e.rest = []
   ·exact hrl.1 h
   ·exact absurd (.inl h) h24
  have hc0 : Qx e (Qf e.rate) ≠ 0 := fun h => h24 (.inr h)
  have hhd := hG.hd hc0
  have hsk' := hsk hG (hrl.2 hr0) hc0
  generalize hcc : Qx e (Qf e.rate) = CC at *
  by_cases hs0 : e.smp.length = 0
  ·have hle : Qco e = e := by rw [Qco, if_pos (hsl.2 hs0)]
   rw [hle] at hsk' ⊢
   have hFi' := hFi e CC ho r6 hhd hsk'
   have tp := Qy (pfB e CC)
   generalize pfB e CC = PB at *
   simp only [XO, XQ, il, bss, bs] at hFi'
   simp (maxSteps := 4000000) (disch := omega) only [rq, simprocAttr]
   refine Qb.still 1 [2, 3, 4] hFi' (by simp [QS, QF, frzL, Qu, isDL, isD, frzL_T _ t1', frzL_T _ t2', frzL_T _ t3', frzL_T _ t4']) ?_
   simp (maxSteps := 4000000) (disch := omega) only [rq, simprocAttr, Qm, QcJ, ZG, ht, QU]
   simp [QS, QF, frzL, Qu, Xc, isDL, isD, J5, JZ, frzL_T _ tp]
  ·have hle : Qco e = Xd e := by rw [Qco, if_neg fun h => hs0 (hsl.1 h)]
   have hask := hG.ask fun h => hs0 (hsl.1 h)
   rw [hle] at hsk' ⊢
   have hfl := hG.fr
   have hoc : okC (Xd e) := ⟨o0, by simp [Xd]; omega, by simp [Xd], by intro v hv; simp [Xd] at hv, o4, o5⟩
   have hFi0 := hFi (Xd e) CC hoc r6 hhd hsk'
   have tp := Qy (pfB (Xd e) CC)
   have tcf := Zy (Xd e).frs
   have hcl : (Xd e).frs.length = e.frs.length + 1 := by simp [Xd]
   generalize pfB (Xd e) CC = PB at *
   have cK := fun {K : AV → List Ob → Prop} => Qej (K := K) (e := e) bc hT hE (by omega) hask o3 (by omega) ((QbU hG.ck).2.1) (te := t0) (tj := tj) (x1 := ⟨t0, 10, 1, QcJ, 0⟩) (x2 := ⟨tb, 1, e.rest.length, u8 e.rest, 0⟩) (T := []) (.inl rfl) (vr := .own 2 e.rest.length) (vo := .list e.out.length (u8 e.out))
    (Low.cons (by simp [Qe3, lowL, Ja, lowL_D _ (QR _)]) (Low.cons (lowL_D _ q2) (Low.cons (lowL_D _ (QR _)) (Low.cons (lowL_D _ (QG _ _)) (Low.cons (lowL_D _ (Zf _)) Low.nil)))))
   have hFi' : VC P fFi [.agg [.int .i64 e.ch, .int .i64 e.bits, .int .i64 e.rate, .str e.pw, .list e.rest.length (u8 e.rest), .list 0 [], .list (Xd e).frs.length ((Xd e).frs.map bs), .list e.out.length (u8 e.out), .bool e.done, .int .i64 e.err], .int .i64 CC] (.tup [.list PB.length (u8 PB), .int .i64 0]) := hFi0
   rw [hcl] at hFi'
   generalize (Xd e).frs.map bs = FSx at *
   simp (maxSteps := 4000000) (disch := omega) only [rq, simprocAttr]
   refine cK ?_
   simp only [Qe3, QcJ]
   simp (maxSteps := 4000000) (disch := omega) only [rq, simprocAttr]
   refine Qb.still 1 [2, 3, 4] hFi' (by simp [QS, QF, frzL, Qu, isDL, isD, frzL_T _ t1', frzL_T _ t2', frzL_T _ tcf, frzL_T _ t4', J5]) ?_
   simp (maxSteps := 4000000) (disch := omega) only [rq, simprocAttr, Qm, QcJ, ZG, ht, QU]
   simp [QS, QF, frzL, Qu, Xc, isDL, isD, J5, JZ, frzL_T _ tp]
def Qmb (e : Enc) (m : Int) : Enc × List UInt8 × Int := if Qs e ≠ 0 then (QdD, [], 8) else if m < 0 then (QdD, [], 2) else ({ e with out := e.out.drop m.toNat }, e.out.take m.toNat, 0)
def QkY (P : Prg) (f : Nat) : Prop := ∀ (e : Enc) (m : Int), okC e → (∀ b ∈ e.frs, b.length ≤ 1000000) → VC P f [XO e, .int .i64 m] (.tup [XO (Qmb e m).1, bs (Qmb e m).2.1, .int .i64 (Qmb e m).2.2])
set_option maxRecDepth 20000 in
set_option maxHeartbeats 4000000 in
theorem QhX {P : Prg} {f fC fT fK fJ t0 tb tj tf : Nat} (bd : Qk P f 38 [.cell 4 t0, .tmp 5, .tmp 6] (ZE fC fT fK t0)) (hC : QaE P fC) (bT : Qk P fT 42 [.cell 2 t0] (Q6 fK fJ t0 tf)) (hK1 : JR tb P fK) (hJ : Qai tj P fJ) (ht : ZP P t0 = some (some 10)) : QkY P f := by
 intro e m ho hfr
 refine VC.of_walk 2 (by simp [isDL, ZT, isD]) (by simp [isD, isDL, ZT, Zi]) (ACall.of_body bd (by simp) ?_)
 have q1 : isDL (XQ e) = true := by simp [XQ, isDL, isD, Zi, ZC, QcK]
 have q2 : isDL QcJ = true := by simp [isDL, isD, QcJ]
 have hlow : Low 2 [⟨t0, 10, 1, XQ e, 0⟩, ⟨t0, 10, 1, QcJ, 0⟩] := Low.cons (lowL_D _ q1) (Low.cons (lowL_D _ q2) Low.nil)
 have t1' := Qy e.rest
 have t2' := QD .i32 e.smp
 have t3' := Zy e.frs
 have hC' := hC e ho
 have hc : Qs e = 0 ∨ Qs e = 8 := by unfold Qs; split <;> simp
 have ho' := ho
 obtain ⟨o0, o1, o2, o3, o4, o5⟩ := ho'
 have tw := fun {K : AV → List Ob → Prop} => Qei bT hK1 hJ ht ho hfr (ob := [⟨t0, 10, 1, XQ e, 0⟩, ⟨t0, 10, 1, QcJ, 0⟩]) hlow (K := K)
 simp only [XO, XQ, il, bss, bs, QcJ, List.cons_append, List.nil_append, List.length_cons, List.length_nil, twA, twO] at tw hC' ⊢
 rcases hc with hc | hc
 case inr =>
  have hd : Qmb e m = (QdD, [], 8) := by rw [Qmb, if_pos (by omega)]
  rw [hd]
  rw [hc] at hC'
  simp (maxSteps := 4000000) (disch := omega) only [rq, simprocAttr, ZE]
  refine Qb.vc hC' ?_
  simp (maxSteps := 4000000) (disch := omega) only [rq, simprocAttr, ZG, ht, QU]
  simp [QS, QF, frzL, Qu, QdD, isDL, isD, J5, JZ]
 rw [hc] at hC'
 by_cases hm : m < 0
 ·have hd : Qmb e m = (QdD, [], 2) := by rw [Qmb, if_neg (by omega), if_pos hm]
  rw [hd]
  simp (maxSteps := 4000000) (disch := omega) only [rq, simprocAttr, ZE]
  refine Qb.vc hC' ?_
  simp (maxSteps := 4000000) (disch := omega) only [rq, simprocAttr, ZG, ht, QU]
  simp [QS, QF, frzL, Qu, QdD, isDL, isD, J5, JZ]
 obtain ⟨n, rfl⟩ : ∃ n : Nat, m = n := ⟨m.toNat, by omega⟩
 have hd : Qmb e n = ({ e with out := e.out.drop n }, e.out.take n, 0) := by rw [Qmb, if_neg (by omega), if_neg hm, Int.toNat_natCast]
 rw [hd]
 have hmi : (if (e.out.length : Int) < (n : Int) then (e.out.length : Int) else (n : Int)) = ((min n e.out.length : Nat) : Int) := by split <;> omega
 have hmi2 : (if (n : Int) < (e.out.length : Int) then (n : Int) else (e.out.length : Int)) = ((min n e.out.length : Nat) : Int) := by split <;> omega
 have hkl : min n e.out.length ≤ e.out.length := Nat.min_le_right _ _
 have htk : e.out.take n = e.out.take (min n e.out.length) := by
  rcases Nat.le_total n e.out.length with h | h
  ·rw [Nat.min_eq_left h]
  ·rw [Nat.min_eq_right h, List.take_length, List.take_of_length_le h]
 have hdr : e.out.drop n = e.out.drop (min n e.out.length) := by
  rcases Nat.le_total n e.out.length with h | h
  ·rw [Nat.min_eq_left h]
  ·rw [Nat.min_eq_right h, List.drop_length, List.drop_of_length_le h]
 rw [htk, hdr]
 generalize hk : min n e.out.length = k at *
 have hlt : (e.out.take k).length = k := by rw [List.length_take]; omega
 have hld : (e.out.drop k).length = e.out.length - k := List.length_drop
 have hOv := VC.of_vo (hK1 (e.out.take k) (by omega)) (Qy _) (QR _)
 rw [bs, hlt] at hOv
 have tk := Qy (e.out.take k)
 have td := Qy (e.out.drop k)
 have hut : (u8 e.out).take k = u8 (e.out.take k) := Qts _ _
 have hud : (u8 e.out).drop k = u8 (e.out.drop k) := QhI _ _
 have hkm : min k e.out.length = k := Nat.min_eq_left hkl
 have htd : (u8 (e.out.drop k)).take (e.out.length - k) = u8 (e.out.drop k) := List.take_of_length_le (by rw [QH, hld]; omega)
 simp (maxSteps := 4000000) (disch := omega) only [rq, simprocAttr, ZE]
 refine Qb.vc hC' ?_
 simp (maxSteps := 4000000) (disch := omega) only [rq, simprocAttr]
 refine tw ?_
 simp (maxSteps := 4000000) (disch := omega) only [rq, simprocAttr, hmi, hmi2, hut, hud, hkm, hk, Nat.sub_zero]
 refine Qb.vc hOv ?_
 simp (maxSteps := 4000000) (disch := omega) only [rq, simprocAttr, hut, hud, hkm, hlt, hld, htd]
 simp (maxSteps := 4000000) (disch := omega) only [rq, simprocAttr, htd, ZG, ht, QU, QcJ]
 simp [QS, QF, frzL, Qu, frzL_T _ t1', frzL_T _ t2', frzL_T _ t3', frzL_T _ tk, frzL_T _ td, hlt, hld, htd]
theorem QrN {b : Int} {w m : List UInt8} (hd : 0 < (b / 8).toNat) (h : w.length % (b / 8).toNat = 0) : ZY b (w ++ m) = ZY b w ++ ZY b m := by
 have hq := Nat.div_mul_cancel (Nat.dvd_of_mod_eq_zero h)
 unfold ZY
 generalize (b / 8).toNat = d at *
 generalize hqq : w.length / d = q at *
 have hl : (w ++ m).length / d = q + m.length / d := by
  rw [List.length_append, ← hq, Nat.add_comm, Nat.add_mul_div_right _ _ hd, Nat.add_comm]
 rw [hl, List.range_add, List.map_append, List.map_map]
 congr 1
 ·refine List.map_congr_left fun i hi => ?_
  have hi' : i < q := List.mem_range.1 hi
  have h1 : (i + 1) * d ≤ q * d := Nat.mul_le_mul_right d hi'
  rw [Nat.add_mul, Nat.one_mul] at h1
  rw [List.drop_append_of_le_length (by omega), List.take_append_of_le_length (by rw [List.length_drop]; omega)]
 ·refine List.map_congr_left fun i _ => ?_
  simp only [Function.comp]
  have : (w ++ m).drop ((q + i) * d) = m.drop (i * d) := by
   rw [Nat.add_mul, hq, ← List.drop_drop, List.drop_left]
  rw [this]
def Qt (c x r : Int) (p : List UInt8) : Enc := ⟨c, x, r, p, [], [], [], [], false, 0⟩
theorem QpL {c x r : Int} {p : List UInt8} (h : Qz c x r p = true) : OkG (Qt c x r p) := by
 obtain ⟨⟨r1, r2, r3⟩, ⟨r4, r5⟩, r6⟩ := QJ.1 h
 have hm := J2 r2 r3 r1
 have hL := ZS r
 refine ⟨h, rfl, rfl, rfl, ?_, by simp [Qt], ?_, by simp [Qt], ?_, ?_, rfl⟩
 ·show ((0 : Nat) : Int) < c * x / 8; omega
 ·show (((0 : Nat) : Int)) / c < Qf r
  simp; omega
 ·exact Qe1 (x := x) r1 (by simp [Qt]) (by simp [Qt])
 ·refine (Qbh _ _ _).2 ⟨?_, ?_⟩
  ·show (((0 : Nat) : Int)) + (if 0 < (0 : Nat) then 1 else 0) ≤ 1000
   simp
  ·show ((((0 : Nat) : Int)) * Qf r + ((0 : Nat) : Int) / c) * c ≤ 4000
   simp
def LcE (e : Enc) : Nat := (Qf e.rate).toNat * e.ch.toNat
def Qtg (e : Enc) (q : List Int) : List UInt8 := QcT e.ch.toNat e.bits (tpE e) q
structure Qrk (e : Enc) (S : List Int) : Prop where
 frs : e.frs = (List.range e.frs.length).map fun i => Qtg e (Z0 (LcE e) S i)
 smp : e.smp = S.drop (e.frs.length * LcE e)
 len : S.length = e.frs.length * LcE e + e.smp.length
theorem QpD {L i : Nat} {S T : List Int} (h : (i + 1) * L ≤ S.length) : Z0 L (S ++ T) i = Z0 L S i := by
 rw [Nat.add_mul, Nat.one_mul] at h
 unfold Z0
 rw [List.drop_append_of_le_length (by omega), List.take_append_of_le_length (by rw [List.length_drop]; omega)]
theorem Que {e : Enc} {S T : List Int} (h : Qrk e S) : e.frs = (List.range e.frs.length).map fun i => Qtg e (Z0 (LcE e) (S ++ T) i) := by
 conv => lhs; rw [h.frs]
 refine List.map_congr_left fun i hi => ?_
 have hi' : i < e.frs.length := List.mem_range.1 hi
 have h1 : (i + 1) * LcE e ≤ e.frs.length * LcE e := Nat.mul_le_mul_right _ hi'
 rw [QpD (by have := h.len; omega)]
theorem QoQ {e : Enc} {m : List UInt8} {S : List Int} (h : OkG e) (hf : Qrk e S) (hm : (m.length : Int) = e.ch * e.bits / 8) : Qrk (Z8 e m) (S ++ ZY e.bits m) := by
 obtain ⟨k, L, q, hk, k1, k6, hL, L1, L2, hlen, hq, hx, hrm, hcn, hbits⟩ := h.nat
 obtain ⟨⟨r1, r2, r3⟩, ⟨r4, r5⟩, r6⟩ := QJ.1 h.r
 have hsl := Qlq hx r2 r3 hm
 have hLc : LcE e = L * k := by rw [LcE, hk, hL]; simp
 have hA := Que (T := ZY e.bits m) hf
 have hD : e.smp ++ ZY e.bits m = (S ++ ZY e.bits m).drop (e.frs.length * LcE e) := by
  rw [List.drop_append_of_le_length (by have := hf.len; omega), ← hf.smp]
 have hl2 := hf.len
 have hml : (Z1 e m).smp = e.smp ++ ZY e.bits m := rfl
 have hml2 : (Z1 e m).smp.length = (q + 1) * k := by
  rw [hk] at hsl
  have : (ZY e.bits m).length = k := by exact_mod_cast hsl
  rw [hml, List.length_append, hlen, this, Nat.add_mul, Nat.one_mul]
 unfold Z8
 by_cases hlt : ((Z1 e m).smp.length : Int) < Qf e.rate * e.ch
 ·rw [if_pos hlt]
  refine ⟨hA, hD, ?_⟩
  show (S ++ ZY e.bits m).length = e.frs.length * LcE e + (e.smp ++ ZY e.bits m).length
  rw [List.length_append, List.length_append]; omega
 ·rw [if_neg hlt, ]
  rw [hml2, hL, hk] at hlt
  have hlt' : L * k ≤ (q + 1) * k := by
   have := Int.not_lt.1 hlt
   exact_mod_cast this
  have hq1 : q + 1 = L := by
   have := Nat.le_of_mul_le_mul_right hlt' (by omega)
   omega
  have hsz : (e.smp ++ ZY e.bits m).length = LcE e := by rw [← hml, hml2, hLc, hq1]
  have hP : Z0 (LcE e) (S ++ ZY e.bits m) e.frs.length = e.smp ++ ZY e.bits m := by
   unfold Z0
   rw [← hD, List.take_of_length_le (by omega)]
  have hfl : (Xd (Z1 e m)).frs.length = e.frs.length + 1 := Qkt e m
  have hSl : (S ++ ZY e.bits m).length = (e.frs.length + 1) * LcE e := by
   rw [List.length_append] at hsz ⊢
   rw [Nat.add_mul, Nat.one_mul]; omega
  refine ⟨?_, ?_, ?_⟩
  ·rw [hfl, List.range_succ, List.map_append]
   show e.frs ++ [Qtg e (e.smp ++ ZY e.bits m)] = (List.range e.frs.length).map (fun i => Qtg e (Z0 (LcE e) (S ++ ZY e.bits m) i)) ++ [Qtg e (Z0 (LcE e) (S ++ ZY e.bits m) e.frs.length)]
   rw [hP, ← hA]
  ·rw [hfl]
   show [] = (S ++ ZY e.bits m).drop ((e.frs.length + 1) * LcE e)
   rw [List.drop_of_length_le (by omega)]
  ·rw [hfl]
   show (S ++ ZY e.bits m).length = (e.frs.length + 1) * LcE e + 0
   omega
def Qrl (e : Enc) (b : List UInt8) : Prop := ∃ w, b = w ++ e.rest ∧ (w.length : Int) % (e.ch * e.bits / 8) = 0 ∧ Qrk e (ZY e.bits w)
theorem QlG (c x r : Int) (p : List UInt8) : Qrl (Qt c x r p) [] :=
 ⟨[], rfl, by simp, ⟨rfl, by simp [Qt, ZY], by simp [Qt, ZY]⟩⟩
theorem QpN {e : Enc} (h : OkG e) : ∃ k d : Nat, e.ch * e.bits / 8 = ((k * d : Nat) : Int) ∧ d = (e.bits / 8).toNat ∧ 0 < d ∧ 1 ≤ k := by
 obtain ⟨k, L, q, hk, k1, k6, hL, L1, L2, hlen, hq, hx, hrm, hcn, hbits⟩ := h.nat
 refine ⟨k, (e.bits / 8).toNat, ?_, rfl, ?_, k1⟩
 ·rw [hk]
  rcases hbits with b | b | b <;> rw [b] <;> simp <;> omega
 ·rcases hbits with b | b | b <;> rw [b] <;> decide
theorem QvC {e : Enc} (h : OkG e) {w : List UInt8} (hw : (w.length : Int) % (e.ch * e.bits / 8) = 0) : 0 < (e.bits / 8).toNat ∧ w.length % (e.bits / 8).toNat = 0 := by
 obtain ⟨k, d, h1, h2, h3, h4⟩ := QpN h
 rw [h1] at hw
 have hw' : w.length % (k * d) = 0 := by exact_mod_cast hw
 refine ⟨h2 ▸ h3, h2 ▸ Nat.mod_eq_zero_of_dvd (Nat.dvd_trans (Nat.dvd_mul_left d k) (Nat.dvd_of_mod_eq_zero hw'))⟩
theorem QsL {e : Enc} {c : UInt8} {b : List UInt8} (h : OkG e) (hf : Qrl e b) (h0 : (Qal e c).2 = 0) : Qrl (Qal e c).1 (b ++ [c]) := by
 obtain ⟨w, hb, hw, hS⟩ := hf
 have hrest := h.rest
 unfold Qal at h0 ⊢
 split
 ·rename_i h1
  exact ⟨w, by rw [hb, List.append_assoc], hw, hS.frs, hS.smp, hS.len⟩
 ·rename_i h1
  rw [if_neg h1] at h0
  split
  ·rename_i h2
   rw [if_pos h2] at h0; cases h0
  ·have hm : ((e.rest ++ [c]).length : Int) = e.ch * e.bits / 8 := by
    simp only [List.length_append, List.length_cons, List.length_nil]; omega
   have hs : Sib (Z8 e (e.rest ++ [c])) e := by
    unfold Z8
    split <;> exact ⟨rfl, rfl, rfl, rfl⟩
   have hr : (Z8 e (e.rest ++ [c])).rest = [] := by
    unfold Z8
    split <;> rfl
   obtain ⟨d1, d2⟩ := QvC h hw
   refine ⟨w ++ (e.rest ++ [c]), ?_, ?_, ?_⟩
   ·show b ++ [c] = w ++ (e.rest ++ [c]) ++ (Z8 e (e.rest ++ [c])).rest
    rw [hb, hr]; simp
   ·show ((w ++ (e.rest ++ [c])).length : Int) % ((Z8 e (e.rest ++ [c])).ch * (Z8 e (e.rest ++ [c])).bits / 8) = 0
    rw [hs.1, hs.2.1, List.length_append, Int.natCast_add, hm, Int.add_emod_right, hw]
   ·show Qrk (Z8 e (e.rest ++ [c])) (ZY (Z8 e (e.rest ++ [c])).bits (w ++ (e.rest ++ [c])))
    rw [hs.2.1, QrN d1 d2]
    exact QoQ h hS hm
theorem QkE : ∀ (l : List UInt8) {e : Enc} {b : List UInt8}, OkG e → Qrl e b → (QI e l).2 = 0 → Qrl (QI e l).1 (b ++ l)
 | [], e, b, _, hf, _ => by rw [List.append_nil]; exact hf
 | c :: l, e, b, h, hf, h0 => by
  rw [QI] at h0 ⊢
  rcases Qmp c h with ⟨h1, h2⟩ | h1
  ·rw [if_neg (by rw [h1]; simp)] at h0 ⊢
   have := QkE l h2 (QsL h hf h1) h0
   rwa [List.append_assoc] at this
  ·rw [if_pos (by rw [h1]; simp), h1] at h0; cases h0
theorem Qdo {c x r : Int} {p : List UInt8} (h : Qz c x r p = true) (b : List UInt8) : ((Xb (Qt c x r p) b).2 = 0 ∧ OkG (Xb (Qt c x r p) b).1 ∧ Sib (Xb (Qt c x r p) b).1 (Qt c x r p) ∧ Qrl (Xb (Qt c x r p) b).1 b) ∨ Xb (Qt c x r p) b = (ZK (Qt c x r p) 18, 18) := by
 have hn := QpL h
 rw [QfB hn]
 obtain ⟨h1, ⟨h2, h3⟩ | h2⟩ := Qnv b hn
 ·exact .inl ⟨h2, h3, h1, by have := QkE b hn (QlG c x r p) h2; simpa using this⟩
 ·exact .inr h2
theorem Qig {c x r : Int} {p b : List UInt8} {e : Enc} (h : OkG e) (hs : Sib e (Qt c x r p)) (hf : Qrl e b) :
  (e.rest = [] ↔ (b.length : Int) % (c * x / 8) = 0) ∧ (Qx e (Qf e.rate) = 0 ↔ (b.length : Int) < c * x / 8) ∧ (e.rest = [] → Qx e (Qf e.rate) ≠ 0 → ZL c x r (ZY x b) = 0 ∧ (Qco e).frs = Qq c x r (ZY x b) (ofK (ZZ 0 p) 8) ∧ Qx e (Qf e.rate) = (((ZY x b).length / c.toNat : Nat) : Int)) := by
 obtain ⟨w, hb, hw, hS⟩ := hf
 obtain ⟨k, L, q, hk, k1, k6, hL, L1, L2, hlen, hq, hx, hrm, hcn, hbits⟩ := h.nat
 obtain ⟨kk, d, m1, m2, m3, m4⟩ := QpN h
 obtain ⟨s1, s2, s3, s4⟩ := hs
 simp only [Qt] at s1 s2 s3 s4
 have hrest := h.rest
 have hrs : e.rest.length = 0 ↔ e.rest = [] := by simp
 rw [s1, s2] at hrest hw m1
 have hM : 0 < c * x / 8 := by omega
 have hbl : (b.length : Int) = w.length + e.rest.length := by rw [hb, List.length_append]; simp
 have hLc : LcE e = L * k := by rw [LcE, hk, hL]; simp
 have hkk : kk = k := by
  rw [← s1, ← s2, hk] at m1
  have : (k : Int) * e.bits / 8 = ((k * d : Nat) : Int) := by
   rw [m2]
   rcases hbits with b | b | b <;> rw [b] <;> simp <;> omega
  rw [this] at m1
  have : k * d = kk * d := by exact_mod_cast m1
  exact (Nat.eq_of_mul_eq_mul_right m3 this).symm
 subst hkk
 have hSl : (ZY x w).length = (e.frs.length * L + q) * kk := by
  have := hS.len
  rw [s2] at this
  rw [this, hLc, hlen, Nat.add_mul, Nat.mul_assoc]
 have hwl : w.length = (e.frs.length * L + q) * (kk * d) := by
  have h1 : w.length / d * d = w.length := by
   have : w.length % d = 0 := by
    have hw' : w.length % (kk * d) = 0 := by rw [m1] at hw; exact_mod_cast hw
    exact Nat.mod_eq_zero_of_dvd (Nat.dvd_trans (Nat.dvd_mul_left d kk) (Nat.dvd_of_mod_eq_zero hw'))
   exact Nat.div_mul_cancel (Nat.dvd_of_mod_eq_zero this)
  have h2 : w.length / d = (e.frs.length * L + q) * kk := by
   rw [← hSl, XT, m2, s2]
  rw [← h1, h2, Nat.mul_assoc]
 have hkd : 0 < kk * d := Nat.mul_pos (by omega) m3
 generalize hn : e.frs.length * L + q = n at *
 have hre : (b.length : Int) % (c * x / 8) = e.rest.length := by
  rw [hbl, Int.add_emod, hw, Int.zero_add, Int.emod_emod, Int.emod_eq_of_lt (by omega) hrest]
 refine ⟨by rw [hre, ← hrs]; omega, ?_, ?_⟩
 ·rw [hcn, m1]
  rw [m1] at hrest
  have hr' : e.rest.length < kk * d := by exact_mod_cast hrest
  have hb' : b.length = n * (kk * d) + e.rest.length := by omega
  constructor
  ·intro h0
   have : n = 0 := by omega
   subst this
   rw [hb', Nat.zero_mul]; omega
  ·intro h0
   have h1 : b.length < kk * d := by exact_mod_cast h0
   rcases Nat.eq_zero_or_pos n with h2 | h2
   ·omega
   ·have := Nat.le_mul_of_pos_left (kk * d) h2
    omega
 ·intro hr hc
  have hwb : b = w := by rw [hb, hr, List.append_nil]
  rw [hwb]
  have hn1 : 1 ≤ n := by omega
  have hct : c.toNat = kk := by rw [← s1, hk]; simp
  have hdv : (ZY x w).length / kk = n := by rw [hSl, Nat.mul_div_cancel _ (by omega)]
  have hhd := h.hd hc
  rw [s1, s2, s3] at hhd
  rw [s3] at hcn
  rw [s3] at hc hL
  have hcI : Qx e (Qf r) = (n : Int) := hcn
  refine ⟨?_, ?_, ?_⟩
  ·have hlenI : ((ZY x w).length : Int) / c = (n : Int) := by
    rw [← s1, hk, ← Int.natCast_ediv, hdv]
   have hmod : ((ZY x w).length : Int) % c = 0 := by
    rw [← s1, hk, hSl, Int.natCast_mul]; exact Int.mul_emod_left _ _
   have hxx : Xk x ≠ 0 := by rw [← s2]; exact hx
   have hle : (ZY x w).length ≤ 4000 := by omega
   have hck : QM x (ZY x w) = 0 := Qe1 hxx hle fun y hy => QdI hxx w y hy
   rw [hcI] at hhd
   unfold hdN at hhd
   split at hhd
   ·rename_i hh
    obtain ⟨⟨_, _, g1, g2, g3, g4, g5⟩, g6, g7⟩ := hh
    have he0 : QT c x = 0 := by
     rcases Q0 c x with q' | q'
     ·unfold QT at q'; split at q' <;> omega
     ·exact q'.1
    unfold ZL
    rw [if_neg (by omega), if_neg (by omega), if_neg, if_neg (by omega)]
    rw [hlenI]
    unfold XV
    rw [if_neg (by omega), if_neg (by omega), if_neg (by omega), if_neg (by omega)]
    omega
   ·cases hhd
  ·have hpn : (Zx (Qf r).toNat ((ZY x w).length / c.toNat)).length = (n - 1) / L + 1 := by
    rw [XC, hct, hdv, hL, Int.toNat_natCast]
   have hE : ∀ q, Qtg e q = QcT c.toNat x (ofK (ZZ 0 p) 8) q := fun q => by rw [Qtg, tpE, s1, s2, s4]
   have hfr := hS.frs
   have hsm := hS.smp
   rw [s2] at hfr hsm
   unfold Qq QY
   rw [hpn, List.map_map, hct, hL, Int.toNat_natCast]
   rw [hLc] at hfr hsm
   by_cases hq0 : q = 0
   ·have hnil : e.smp = [] := List.eq_nil_of_length_eq_zero (by rw [hlen, hq0, Nat.zero_mul])
    have hF : (n - 1) / L + 1 = e.frs.length := by
     have hF1 : 1 ≤ e.frs.length := by
      rcases Nat.eq_zero_or_pos e.frs.length with z | z
      ·rw [z, Nat.zero_mul] at hn; omega
      ·exact z
     obtain ⟨F, hFF⟩ : ∃ F, e.frs.length = F + 1 := ⟨e.frs.length - 1, by omega⟩
     rw [hFF] at hn ⊢
     have : n - 1 = (L - 1) + F * L := by rw [← hn, Nat.add_mul]; omega
     rw [this, Nat.add_mul_div_right _ _ (by omega), Nat.div_eq_of_lt (by omega), Nat.zero_add]
    rw [hF, Qco, if_pos hnil]
    conv => lhs; rw [hfr]
    exact List.map_congr_left fun i _ => by rw [hE, hct]; rfl
   ·have hnn : e.smp ≠ [] := fun h0 => by
     rw [h0] at hlen
     have := Nat.mul_pos (Nat.pos_of_ne_zero hq0) (show 0 < kk by omega)
     simp at hlen; omega
    have hF : (n - 1) / L + 1 = e.frs.length + 1 := by
     have : n - 1 = (q - 1) + e.frs.length * L := by omega
     rw [this, Nat.add_mul_div_right _ _ (by omega), Nat.div_eq_of_lt (by omega), Nat.zero_add]
    rw [hF, Qco, if_neg hnn, List.range_succ, List.map_append]
    have hP : Z0 (L * kk) (ZY x w) e.frs.length = e.smp := by
     unfold Z0
     have : e.smp.length ≤ L * kk := by rw [hlen]; exact Nat.mul_le_mul_right _ (by omega)
     rw [← hsm, List.take_of_length_le this]
    show e.frs ++ [Qtg e e.smp] = _
    conv => lhs; lhs; rw [hfr]
    rw [List.map_cons, List.map_nil]
    simp only [Function.comp]
    rw [hP, hE, hct]
    congr 1
    exact List.map_congr_left fun i _ => by rw [hE, hct]; rfl
  ·rw [s3, hcI, hct, hdv]
theorem Qif {c x r : Int} {p b : List UInt8} {e : Enc} (h : OkG e) (hs : Sib e (Qt c x r p)) (hf : Qrl e b) :
  ((¬ (0 < b.length ∧ (b.length : Int) % (c * x / 8) = 0)) ∧ Qg5 e = (ZK (Qt c x r p) 24, 24)) ∨ ((0 < b.length ∧ (b.length : Int) % (c * x / 8) = 0) ∧ ZL c x r (ZY x b) = 0 ∧ skN (Zo (Qco e).frs) = 0 ∧ Qg5 e = (Xc (Qt c x r p) (QdS c x r (ZY x b) p), 0)) := by
 obtain ⟨f1, f2, f3⟩ := Qig h hs hf
 have hst : Qcn e = 0 := by unfold Qcn; rw [if_neg (by rw [h.err]; simp), if_neg (by rw [h.done]; simp)]
 have hfe : Qg5 e = if e.rest ≠ [] ∨ Qx e (Qf e.rate) = 0 then (ZK e 24, 24) else (Xc e (pfB (Qco e) (Qx e (Qf e.rate))), 0) := by rw [Qg5, if_neg (by rw [Qdd h]; simp), if_neg (by omega)]
 have hM : 0 < c * x / 8 := by
  have := h.rest
  rw [hs.1, hs.2.1] at this
  simp only [Qt] at this
  omega
 rw [hfe]
 by_cases h24 : e.rest ≠ [] ∨ Qx e (Qf e.rate) = 0
 ·refine .inl ⟨?_, by rw [if_pos h24, Qki e _ 24 hs]⟩
  rintro ⟨g1, g2⟩
  rcases h24 with g | g
  ·exact g (f1.2 g2)
  ·have := f2.1 g
   rw [Int.emod_eq_of_lt (by omega) this] at g2
   omega
 ·have hr : e.rest = [] := by
   by_cases hh : e.rest = []
   ·exact hh
   ·exact absurd (.inl hh) h24
  have hc : Qx e (Qf e.rate) ≠ 0 := fun g => h24 (.inr g)
  obtain ⟨g1, g2, g3⟩ := f3 hr hc
  obtain ⟨⟨r1, r2, r3⟩, ⟨r4, r5⟩, r6⟩ := QJ.1 h.r
  have hxx : Xk x ≠ 0 := by rw [← show e.bits = x from hs.2.1]; exact r1
  have hsk := (QhO (T := ofK (ZZ 0 p) 8) g1 (QhM hxx b)).1
  refine .inr ⟨⟨?_, f1.1 hr⟩, g1, by rw [g2]; exact hsk, ?_⟩
  ·rcases Nat.eq_zero_or_pos b.length with z | z
   ·exact absurd (f2.2 (by rw [z]; exact hM)) hc
   ·exact z
  ·rw [if_neg h24, g3]
   have hl : ∀ g : Enc, Sib g (Qt c x r p) → Sib (Qco g) (Qt c x r p) := fun g hg => by
    unfold Qco
    split
    ·exact hg
    ·exact hg
   have hl' := hl e hs
   obtain ⟨t1, t2, t3, t4⟩ := hl'
   obtain ⟨s1, s2, s3, s4⟩ := hs
   simp only [Qt] at s1 s2 s3 s4 t1 t2 t3 t4
   have : pfB (Qco e) (((ZY x b).length / c.toNat : Nat) : Int) = QdS c x r (ZY x b) p := by
    rw [pfB, QdS, t1, t2, t3, t4, g2, Int.toNat_natCast]
   rw [this]
   simp only [Xc, Qt, s1, s2, s3, s4]
theorem Qnl : ∀ l : List UInt8, emA (u8 l) = u8 l
 | [] => rfl
 | a :: l => by
  show emV (.int .u8 (a.toNat : Int)) :: emA (u8 l) = .int .u8 (a.toNat : Int) :: u8 l
  rw [Qnl l]; rfl
def QmJ (P : Prg) (f : Nat) : Prop := ∀ e : Enc, okC e → VC P f [XO e, XO e] (.bool true)
set_option maxHeartbeats 2000000 in
theorem QlC {P : Prg} {f t0 : Nat} (b : Qk P f 114 [.tmp 4] (Z5 t0)) : QmJ P f := by
 rintro ⟨c, x, r, p, q, s, F, o, d, y⟩ ⟨o0, o1, o2, o3, o4, o5⟩
 simp only at o0 o1 o2 o4 o5
 refine VC.of_acall (by simp [isDL, ZT]) rfl (ACall.of_body b (by simp) ?_)
 have d1 := Qaw q
 have d2 := Qaw o
 have e0 : (p == p) = true := by simp
 have e1 : (q == q) = true := by simp
 have e2 : (o == o) = true := by simp
 have hb : (F.map bs).length = F.length := by simp
 simp only [XO, XQ, il, bss, bs]
 cases d
 all_goals
  simp (maxSteps := 4000000) (disch := omega) only [rq, simprocAttr, Z5, QnO, e0, e1, e2, d1, d2]
 case false =>
  refine QP.by (ι := Nat) (fun k => ⟨[(5, .int .i64 k), (3, .ref 1 1 0), (2, .ref 0 1 0)], [⟨t0, 10, 1, XQ ⟨c, x, r, p, q, s, F, o, false, y⟩, 0⟩, ⟨t0, 10, 1, XQ ⟨c, x, r, p, q, s, F, o, false, y⟩, 0⟩]⟩) (fun k => k ≤ s.length) (fun k => s.length - k) 0 (Le.slots (by simp [Am.look])) (by omega) ?_
  intro k hk
  by_cases hlt : k < s.length
  ·have c1 := Qfx (K := .i32) (l := s) (i := k) hlt
   simp (maxSteps := 4000000) (disch := omega) only [rq, simprocAttr, XQ, il, bss, bs, c1]
   exact ⟨k + 1, by omega, by omega, Le.slots (by simp [Am.look])⟩
  simp (maxSteps := 4000000) (disch := omega) only [rq, simprocAttr, XQ, il, bss, bs]
  refine QP.by (ι := Nat) (fun k => ⟨[(6, .int .i64 k), (3, .ref 1 1 0), (2, .ref 0 1 0)], [⟨t0, 10, 1, XQ ⟨c, x, r, p, q, s, F, o, false, y⟩, 0⟩, ⟨t0, 10, 1, XQ ⟨c, x, r, p, q, s, F, o, false, y⟩, 0⟩]⟩) (fun k => k ≤ F.length) (fun k => F.length - k) 0 (Le.slots (by simp [Am.look])) (by omega) ?_
  intro j hj
  by_cases hlt2 : j < F.length
  ·have c1 := Qeo (L := F) (k := j) hlt2
   have d3 := Qaw (F.getD j [])
   have e4 : (F.getD j [] == F.getD j []) = true := by simp
   rw [bs] at c1
   generalize F.getD j [] = G at *
   simp (maxSteps := 4000000) (disch := omega) only [rq, simprocAttr, XQ, il, bss, bs, c1, hb, QnO, d3, e4]
   exact ⟨j + 1, by omega, by omega, Le.slots (by simp [Am.look])⟩
  ·simp (maxSteps := 4000000) (disch := omega) only [rq, simprocAttr, XQ, il, bss, bs, hb]
 case true =>
  refine QP.by (ι := Nat) (fun k => ⟨[(5, .int .i64 k), (3, .ref 1 1 0), (2, .ref 0 1 0)], [⟨t0, 10, 1, XQ ⟨c, x, r, p, q, s, F, o, true, y⟩, 0⟩, ⟨t0, 10, 1, XQ ⟨c, x, r, p, q, s, F, o, true, y⟩, 0⟩]⟩) (fun k => k ≤ s.length) (fun k => s.length - k) 0 (Le.slots (by simp [Am.look])) (by omega) ?_
  intro k hk
  by_cases hlt : k < s.length
  ·have c1 := Qfx (K := .i32) (l := s) (i := k) hlt
   simp (maxSteps := 4000000) (disch := omega) only [rq, simprocAttr, XQ, il, bss, bs, c1]
   exact ⟨k + 1, by omega, by omega, Le.slots (by simp [Am.look])⟩
  simp (maxSteps := 4000000) (disch := omega) only [rq, simprocAttr, XQ, il, bss, bs]
  refine QP.by (ι := Nat) (fun k => ⟨[(6, .int .i64 k), (3, .ref 1 1 0), (2, .ref 0 1 0)], [⟨t0, 10, 1, XQ ⟨c, x, r, p, q, s, F, o, true, y⟩, 0⟩, ⟨t0, 10, 1, XQ ⟨c, x, r, p, q, s, F, o, true, y⟩, 0⟩]⟩) (fun k => k ≤ F.length) (fun k => F.length - k) 0 (Le.slots (by simp [Am.look])) (by omega) ?_
  intro j hj
  by_cases hlt2 : j < F.length
  ·have c1 := Qeo (L := F) (k := j) hlt2
   have d3 := Qaw (F.getD j [])
   have e4 : (F.getD j [] == F.getD j []) = true := by simp
   rw [bs] at c1
   generalize F.getD j [] = G at *
   simp (maxSteps := 4000000) (disch := omega) only [rq, simprocAttr, XQ, il, bss, bs, c1, hb, QnO, d3, e4]
   exact ⟨j + 1, by omega, by omega, Le.slots (by simp [Am.look])⟩
  ·simp (maxSteps := 4000000) (disch := omega) only [rq, simprocAttr, XQ, il, bss, bs, hb]
def QnC (P : Prg) (f : Nat) : Prop := VC P f [] (shA 1 8)
theorem Qn7 {P : Prg} {f t0 : Nat} (bd : Qk P f 2 [.cell 0 t0] (Z6 t0)) (ht : ZP P t0 = some (some 2)) : QnC P f := by
 refine VC.of_acall rfl rfl (ACall.of_body bd (by simp) ?_)
 simp (maxSteps := 4000000) (disch := omega) only [rq, simprocAttr, Z6, shA, ZG, ht]
theorem QjZ {c x r : Int} {p : List UInt8} (h : Qz c x r p = true) : okC (Qt c x r p) := by
 obtain ⟨_, _, r6⟩ := QJ.1 h
 exact ⟨by show p.length ≤ 100000; omega, by simp [Qt], by simp [Qt], by intro v hv; simp [Qt] at hv, by simp [Qt], by simp [Qt]⟩
theorem Qsx {P : Prg} {fF : Nat} (hF : Qd3 P fF) {c x r : Int} {p b : List UInt8} (h : Qz c x r p = true) (hb : b.length ≤ 1000000) : VC P fF [.agg (QlH c x r p), bs b] (.tup [XO (Xb (Qt c x r p) b).1, .int .i64 (Xb (Qt c x r p) b).2]) := by
 refine VC.em _ ?_ (by simp [isDL, isD, QlH, Zi])
 have := hF (Qt c x r p) b (QjZ h) (by simp [Qt]) hb
 simp only [emA, emV, QlH, bs, Qnl]
 exact this
def QnD (P : Prg) (f : Nat) : Prop := ∀ (c x r : Int) (p b : List UInt8), Qz c x r p = true → b.length ≤ 1000000 → VC P f [shA c x, .int .i64 r, .str p, bs b] (.tup [XO (Xb (Qt c x r p) b).1, .bool (decide ((Xb (Qt c x r p) b).2 = 0))])
theorem Qn8 {P : Prg} {f fN fF t0 t1 : Nat} (bd : Qk P f 34 [.cell 8 t1, .tmp 9] (Z7 fN fF t0 t1)) (hN : QmM P fN) (hF : Qd3 P fF) (ht : ZP P t1 = some (some 10)) : QnD P f := by
 intro c x r p b h hb
 refine VC.of_acall (by simp [isDL, isD, shA, Zi]) (by simp [isD, isDL, ZT]) (ACall.of_body bd (by simp) ?_)
 obtain ⟨_, _, r6⟩ := QJ.1 h
 have hN' := hN c x r p (by omega)
 rw [Qr6, if_pos h] at hN'
 have hF' := Qsx hF h hb
 have hz : (Xb (Qt c x r p) b).2 = 0 ∨ (Xb (Qt c x r p) b).2 = 18 := by
  rcases Qdo h b with h1 | h1
  ·exact .inl h1.1
  ·exact .inr (by rw [h1])
 generalize Xb (Qt c x r p) b = R at *
 obtain ⟨E, y⟩ := R
 simp only [shA, bs, QlH, XO, XQ, il, bss] at hN' hF' hz ⊢
 rcases hz with rfl | rfl
 all_goals
  simp (maxSteps := 4000000) (disch := omega) only [rq, simprocAttr, Z7]
  refine Qb.vc hN' ?_
  simp (maxSteps := 4000000) (disch := omega) only [rq, simprocAttr]
  refine Qb.vc hF' ?_
  simp (maxSteps := 4000000) (disch := omega) only [rq, simprocAttr, ZG, ht]
theorem Qci {c x r : Int} {p o : List UInt8} (h : Qz c x r p = true) (ho : o.length ≤ 100000) : Qs (Xc (Qt c x r p) o) = 0 := by
 unfold Qs
 rw [if_neg]
 rintro (h1 | h1)
 ·simp only [Xc, Qt] at h1; rw [h] at h1; cases h1
 ·unfold Q5 at h1
  simp [Xc] at h1
  omega
theorem Qno {c x r : Int} {p o : List UInt8} (h : Qz c x r p = true) (ho : o.length ≤ 100000) (n : Nat) : Qmb (Xc (Qt c x r p) o) n = (Xc (Qt c x r p) (o.drop n), o.take n, 0) := by
 rw [Qmb, if_neg (by rw [Qci h ho]; simp), if_neg (by omega)]
 rfl
theorem Qnk {c x r : Int} {p b : List UInt8} {e : Enc} (hs : Sib e (Qt c x r p)) (hf : Qrl e b) : OkG e → e.rest = [] → Qx e (Qf e.rate) ≠ 0 → skN (Zo (Qco e).frs) = 0 := fun h hr hc => by
 obtain ⟨_, _, f3⟩ := Qig h hs hf
 obtain ⟨g1, g2, _⟩ := f3 hr hc
 obtain ⟨⟨r1, r2, r3⟩, _, _⟩ := QJ.1 h.r
 have hxx : Xk x ≠ 0 := by rw [← show e.bits = x from hs.2.1]; exact r1
 rw [g2]
 exact (QhO g1 (QhM hxx b)).1
theorem QdT {e : Enc} (h : OkG e) : ∀ b ∈ e.frs, b.length ≤ 1000000 := by
 intro b hb
 have h1 := List.any_eq_false.1 h.bd b hb
 simp only [Qcx, Bool.or_eq_true, decide_eq_true_eq] at h1
 obtain ⟨k, L, q, hk, k1, k6, hL, L1, L2, hlen, hq, hx, hrm, hcn, hbits⟩ := h.nat
 have hF : 1 ≤ e.frs.length := List.length_pos_of_mem hb
 have h2 : L * k ≤ 4000 := by
  have : L * k ≤ (e.frs.length * L + q) * k := Nat.mul_le_mul_right k (Nat.le_trans (Nat.le_mul_of_pos_left L hF) (Nat.le_add_right _ _))
  omega
 rw [hL, hk] at h1
 have h3 : (81 * (L : Int) * (k : Int) + 7) / 8 ≤ 40501 := by
  have : 81 * (L : Int) * (k : Int) = ((81 * (L * k) : Nat) : Int) := by rw [Int.natCast_mul, Int.natCast_mul, Int.mul_assoc]; rfl
  omega
 omega
theorem QcL {e : Enc} (h : OkG e) : okC e := by
 obtain ⟨⟨r1, r2, r3⟩, _, r6⟩ := QJ.1 h.r
 have h1 := h.fr
 have h2 := (QbU h.ck).2.1
 have h3 := h.rest
 have h4 := J2 r2 r3 r1
 exact ⟨by omega, by omega, by omega, Qmj h.ck, by omega, by rw [h.out]; simp⟩
theorem Qda {c x r y : Int} {p o : List UInt8} {d : Bool} (h : Qz c x r p = true) (ho : o.length ≤ 100000) : okC ⟨c, x, r, p, [], [], [], o, d, y⟩ := by
 obtain ⟨_, _, r6⟩ := QJ.1 h
 exact ⟨by show p.length ≤ 100000; omega, by simp, by simp, by intro v hv; simp at hv, by simp, by show o.length ≤ 1000000; omega⟩
theorem Qui {c x r : Int} {p : List UInt8} (h : Qz c x r p = true) : Qg5 (Qt c x r p) = (ZK (Qt c x r p) 24, 24) := by
 rcases Qif (QpL h) ⟨rfl, rfl, rfl, rfl⟩ (QlG c x r p) with h1 | h1
 ·exact h1.2
 ·have := h1.1.1; simp at this
theorem Qst {P : Prg} {fF : Nat} (hF : Qhh P fF) {c x r : Int} {p : List UInt8} (h : Qz c x r p = true) : VC P fF [.agg (QlH c x r p)] (.tup [XO (ZK (Qt c x r p) 24), .int .i64 24]) := by
 refine VC.em _ ?_ (by simp [isDL, isD, QlH])
 have := hF (Qt c x r p) (QjZ h) (by simp [Qt]) (Qnk ⟨rfl, rfl, rfl, rfl⟩ (QlG c x r p))
 rw [Qui h] at this
 exact this
theorem Qql : Xb (Qt 1 8 8000 []) [128] = (⟨1, 8, 8000, [], [], [0], [], [], false, 0⟩, 0) := by rfl
theorem QuQ : ZY 8 [128] = [0] := by rfl
theorem Qaq : Qz 1 8 8000 [] = true := by decide +kernel
set_option maxHeartbeats 4000000 in
theorem QlM {P : Prg} {f fO fM fFi fD fE fN t0 t1 t2 : Nat} (bd : Qk P f 117 [.tmp 0] (ZX fO fM fFi fD fE fN t0 t1 t2)) (hO : QnC P fO) (hM : QnD P fM) (hFi : Qhh P fFi) (hD : QkY P fD) (hE : QmQ P fE) (hN : QmM P fN) : Qgd P f := by
 refine VC.of_acall rfl rfl (ACall.of_body bd (by simp) ?_)
 have hO' : VC P fO [] (.agg [.int .i64 1, .int .i64 8]) := hO
 have hM' := hM 1 8 8000 [] [128] Qaq (by simp)
 have hN' := hN 1 8 8000 [] (by simp)
 rw [Qr6, if_pos Qaq] at hN'
 have hX' := Qst hFi Qaq
 have i1 : I32 [0] := by intro v hv; simp at hv; omega
 have hE0 := hE 1 8 8000 [0] [] i1 (by simp)
 rw [QvQ] at hE0
 rcases Qdo Qaq [128] with ⟨g1, g2, g3, g4⟩ | g
 case inr => rw [Qql] at g; have := congrArg Prod.snd g; simp at this
 have hFi0 := hFi _ (QcL g2) (QdT g2) (Qnk g3 g4)
 rcases Qif g2 g3 g4 with ⟨h1, _⟩ | ⟨_, hcl, _, h1⟩
 ·exact absurd ⟨by simp, by simp⟩ h1
 rw [QuQ] at h1 hcl
 rw [h1] at hFi0
 rw [Qql] at hM' hFi0
 have hlen := Quk.1
 have hfx : QdS 1 8 8000 [0] [] = fEx := rfl
 rw [hfx] at hFi0
 have hD1 := hD (Xc (Qt 1 8 8000 []) fEx) ((22 : Nat) : Int) (Qda Qaq (by omega)) (by simp [Xc])
 rw [Qno Qaq (by omega)] at hD1
 have hD2 := hD (Xc (Qt 1 8 8000 []) (fEx.drop 22)) ((100 : Nat) : Int) (Qda Qaq (by rw [List.length_drop]; omega)) (by simp [Xc])
 rw [Qno Qaq (by rw [List.length_drop]; omega)] at hD2
 have k1 : (fEx.take 22).length = 22 := by rw [List.length_take]; omega
 have k2 : (fEx.drop 22).length = 14 := by rw [List.length_drop]; omega
 have k3 : (fEx.drop 22).take 100 = fEx.drop 22 := List.take_of_length_le (by omega)
 have k4 : (fEx.drop 22).drop 100 = [] := List.drop_of_length_le (by omega)
 have k5 : u8 (fEx.take 22) ++ u8 (fEx.drop 22) = u8 fEx := by rw [QcY, List.take_append_drop]
 have d1 := Qaw fEx
 have e1 : (fEx == fEx) = true := by simp
 rw [k3, k4] at hD2
 simp only [XO, XQ, il, bss, bs, Xc, Qt, ZK, shA, QlH, k1, k2, hlen, List.length_nil, List.length_cons, List.map_nil, J5, JZ, clA] at hM' hN' hX' hE0 hFi0 hD1 hD2
 have ku1 : (u8 (fEx.take 22)).length = 22 := by rw [QH, k1]
 have ku2 : (u8 (fEx.drop 22)).length = 14 := by rw [QH, k2]
 have hM'' : VC P fM [.agg [.int .i64 1, .int .i64 8], .int .i64 8000, .str [], .list 1 [.int .u8 128]] _ := hM'
 have hE' : VC P fE [.agg [.int .i64 1, .int .i64 8, .int .i64 8000, .list 1 [.int .i32 0]], .str []] (.tup [.list 36 (u8 fEx), .int .i64 0]) := hE0
 simp (maxSteps := 4000000) (disch := omega) only [rq, simprocAttr, ZX]
 refine Qb.vc hO' ?_
 simp (maxSteps := 4000000) (disch := omega) only [rq, simprocAttr]
 refine Qb.still 1 [0] hM'' (by simp [QS, QF, frzL, Qu, isDL, isD]) ?_
 simp (maxSteps := 4000000) (disch := omega) only [rq, simprocAttr, Qm]
 refine Qb.vc hFi0 ?_
 simp (maxSteps := 4000000) (disch := omega) only [rq, simprocAttr]
 refine Qb.vc hD1 ?_
 simp (maxSteps := 4000000) (disch := omega) only [rq, simprocAttr]
 refine Qb.vc hD2 ?_
 simp (maxSteps := 4000000) (disch := omega) only [rq, simprocAttr]
 refine Qb.still 1 [5] hE' (by simp [QS, QF, frzL, Qu, isDL, isD]) ?_
 simp (maxSteps := 4000000) (disch := omega) only [rq, simprocAttr, Qm]
 refine Qb.vc hO' ?_
 simp (maxSteps := 4000000) (disch := omega) only [rq, simprocAttr]
 refine Qb.vc hN' ?_
 simp (maxSteps := 4000000) (disch := omega) only [rq, simprocAttr]
 refine Qb.vc hX' ?_
 simp (maxSteps := 4000000) (disch := omega) only [rq, simprocAttr, ku1, ku2, k5, QnO, d1, e1, hlen]
theorem Quq {e : Enc} (h : Qs e = 0) (ho : e.out = []) (n : Nat) : Qmb e n = (e, [], 0) := by
 rw [Qmb, if_neg (by omega), if_neg (by omega)]
 obtain ⟨c, x, r, p, q, s, F, o, d, y⟩ := e
 simp only at ho
 subst ho
 simp
theorem Quj {c x r : Int} {p : List UInt8} {y : Int} (h : Qz c x r p = true) (hy : y = 18 ∨ y = 24) : Qg5 (ZK (Qt c x r p) y) = (ZK (Qt c x r p) y, y) := by
 have hs : Qcn (ZK (Qt c x r p) y) = y := by
  unfold Qcn
  rw [if_pos (by show y ≠ 0; omega)]
  rfl
 rw [Qg5, if_neg (by rw [Qg7 h hy]; simp), hs, if_pos (by omega)]
theorem Qsy {c x r : Int} {p : List UInt8} {y : Int} (h : Qz c x r p = true) (hy : y = 18 ∨ y = 24) (l : List UInt8) : Xb (ZK (Qt c x r p) y) l = (ZK (Qt c x r p) y, y) := Qqk h hy l
theorem Qqx (c x r : Int) (p o : List UInt8) : Qcn (Xc (Qt c x r p) o) = 36 := rfl
theorem Qqm {c x r : Int} {p o : List UInt8} (h : Qz c x r p = true) (ho : o.length ≤ 100000) (l : List UInt8) : Xb (Xc (Qt c x r p) o) l = (Xc (Qt c x r p) o, 36) := by
 rw [Xb, if_neg (by rw [Qci h ho]; simp)]
 rfl
theorem Qsu {c x r : Int} {p o : List UInt8} (h : Qz c x r p = true) (ho : o.length ≤ 100000) : Qg5 (Xc (Qt c x r p) o) = (Xc (Qt c x r p) o, 36) := by
 rw [Qg5, if_neg (by rw [Qci h ho]; simp), Qqx]
 rfl
theorem Qth (K : IntKind) : ∀ l : List Int, emA (ks K l) = ks K l
 | [] => rfl
 | a :: l => by
  show emV (.int K a) :: emA (ks K l) = .int K a :: ks K l
  rw [Qth K l]; rfl
theorem Qqo : ∀ l : List (List UInt8), emA (l.map bs) = l.map bs
 | [] => rfl
 | a :: l => by
  show emV (bs a) :: emA (l.map bs) = bs a :: l.map bs
  rw [Qqo l, bs, emV, Qnl]
theorem QeW {P : Prg} {f : Nat} {e : Enc} {r : AV} (h : VC P f [XO e, bs []] r) : VC P f [XO e, .emp true] r := by
 refine VC.em _ ?_ (by simp [isDL, isD, ZT])
 simpa only [XO, XQ, il, bss, bs, emA, emV, Qnl, Qth, Qqo, JZ, List.length_nil] using h
def Zt (P : Prg) (f : Nat) : Prop := ∀ e : Enc, okC e → (∀ b ∈ e.frs, b.length ≤ 1000000) → Qs e = 8 → VC P f [XO e] (.bool true)
set_option maxHeartbeats 1000000 in
theorem QpU {P : Prg} {f fF fi fD fC t0 : Nat} (bd : Qk P f 41 [.tmp 2] (Xr fF fi fD fC t0)) (hF : Qd3 P fF) (hi : Qhh P fi) (hD : QkY P fD) (hC : QaE P fC) : Zt P f := by
 intro e ho hfr h8
 refine VC.of_acall (by simp [isDL, ZT]) rfl (ACall.of_body bd (by simp) ?_)
 have hF' := QeW (hF e [] ho hfr (by simp))
 have hi' := hi e ho hfr (fun h => by have := Qdd h; omega)
 have hD' := hD e (-1) ho hfr
 have hC' := hC e ho
 rw [Xb, if_pos (by omega)] at hF'
 rw [Qg5, if_pos (by omega)] at hi'
 rw [Qmb, if_pos (by omega)] at hD'
 rw [h8] at hC'
 simp only [XO, XQ, il, bss, bs, QdD, List.length_nil, JZ, J5, List.map_nil] at hF' hi' hD' hC' ⊢
 simp (maxSteps := 4000000) (disch := omega) only [rq, simprocAttr, Xr]
 refine Qb.vc hF' ?_
 simp (maxSteps := 4000000) (disch := omega) only [rq, simprocAttr]
 refine Qb.vc hi' ?_
 simp (maxSteps := 4000000) (disch := omega) only [rq, simprocAttr]
 refine Qb.vc hD' ?_
 simp (maxSteps := 4000000) (disch := omega) only [rq, simprocAttr]
 refine Qb.vc hC' ?_
 simp (maxSteps := 4000000) (disch := omega) only [rq, simprocAttr]
def Qrt : List UInt8 := QcT 1 8 (ofK (ZZ 0 []) 8) [-128]
theorem Qss : Qrt.length = 6 := by decide +kernel
def Ji (n : Nat) : Enc := { Qt 1 8 1 [] with frs := List.replicate n Qrt }
theorem Qu4 : Qf 1 = 1 := by decide +kernel
theorem QdJ (n : Nat) : Qx (Ji n) (Qf (Ji n).rate) = n := by
 show (((List.replicate n Qrt).length : Nat) : Int) * Qf 1 + ((0 : Nat) : Int) / 1 = n
 rw [Qu4, List.length_replicate]
 omega
theorem Qph (n : Nat) (h : n < 1000) : Qal (Ji n) 0 = (Ji (n + 1), 0) := by
 unfold Qal
 rw [if_neg (by show ¬ (((0 : Nat) : Int) + 1 < 1 * 8 / 8); decide), QdJ, if_neg]
 ·have hm : Z1 (Ji n) ((Ji n).rest ++ [0]) = { Ji n with smp := [-128] } := by
   have h0 : ZY 8 [0] = [-128] := by decide +kernel
   show { Ji n with smp := [] ++ ZY 8 [0], rest := [] } = _
   rw [h0]; rfl
  unfold Z8
  rw [hm, if_neg (by show ¬ (((1 : Nat) : Int) < Qf 1 * 1); rw [Qu4]; decide)]
  have hc : Xd { Ji n with smp := [-128] } = { Qt 1 8 1 [] with frs := List.replicate n Qrt ++ [Qrt] } := rfl
  rw [hc, ← List.replicate_succ']
  rfl
 ·intro hr
  have h2 : Qak 1 ((List.replicate n Qrt).length + 1) ((n : Int) + 1) = true := by rw [List.length_replicate]; exact (Qbh _ _ _).2 ⟨by omega, by omega⟩
  have hr' : Qak 1 ((List.replicate n Qrt).length + 1) ((n : Int) + 1) = false := hr
  rw [h2] at hr'; cases hr'
theorem QgS : ∀ (m n : Nat), n + m ≤ 1000 → QI (Ji n) (List.replicate m 0) = (Ji (n + m), 0)
 | 0, n, _ => rfl
 | m + 1, n, h => by
  rw [List.replicate_succ, QI, Qph n (by omega), if_neg (by simp), QgS m (n + 1) (by omega)]
  congr 2
  omega
theorem ZF : Qz 1 8 1 [] = true := by decide +kernel
theorem Qfh : Xb (Qt 1 8 1 []) (List.replicate 1000 0) = (Ji 1000, 0) := by
 rw [QfB (QpL ZF), show Qt 1 8 1 [] = Ji 0 from rfl, QgS 1000 0 (by omega)]
theorem XA : OkG (Ji 1000) ∧ Sib (Ji 1000) (Qt 1 8 1 []) ∧ Qrl (Ji 1000) (List.replicate 1000 0) := by
 rcases Qdo ZF (List.replicate 1000 0) with ⟨_, h2, h3, h4⟩ | h
 ·rw [Qfh] at h2 h3 h4
  exact ⟨h2, h3, h4⟩
 ·rw [Qfh] at h
  have := congrArg Prod.snd h
  simp at this
theorem Qpg : Xb (Ji 1000) [0] = (ZK (Qt 1 8 1 []) 18, 18) := by
 rw [QfB XA.1, QI]
 have hb : Qal (Ji 1000) 0 = (ZK (Ji 1000) 18, 18) := by
  unfold Qal
  rw [if_neg (by show ¬ (((0 : Nat) : Int) + 1 < 1 * 8 / 8); decide), QdJ, if_pos]
  show Qak 1 ((List.replicate 1000 Qrt).length + 1) (((1000 : Nat) : Int) + 1) = false
  rw [List.length_replicate]
  decide
 rw [hb, if_pos (by simp)]
 rfl
theorem Qni (a : List UInt8) : ∀ n : Nat, (List.replicate n a).flatten.length = n * a.length
 | 0 => by simp
 | n + 1 => by rw [List.replicate_succ, List.flatten_cons, List.length_append, Qni a n, Nat.add_mul]; omega
def Qew : List UInt8 := QdS 1 8 1 (ZY 8 (List.replicate 1000 0)) []
theorem JG : Qg5 (Ji 1000) = (Xc (Qt 1 8 1 []) Qew, 0) ∧ Qew.length = 10026 := by
 obtain ⟨h1, h2, h3⟩ := XA
 obtain ⟨f1, f2, f3⟩ := Qig h1 h2 h3
 obtain ⟨g1, g2, g3⟩ := f3 rfl (by rw [QdJ]; decide)
 rcases Qif h1 h2 h3 with ⟨q, _⟩ | ⟨_, hcl, _, q⟩
 ·exact absurd ⟨by rw [List.length_replicate]; decide, by rw [List.length_replicate]; decide⟩ q
 ·refine ⟨q, ?_⟩
  have hl := (Qsw (p := []) hcl (QhM (by decide) _)).1
  have hF : Qq 1 8 1 (ZY 8 (List.replicate 1000 0)) (ofK (ZZ 0 []) 8) = List.replicate 1000 Qrt := by
   rw [← g2]; rfl
  rw [hF, List.length_replicate, Qni, Qss] at hl
  exact hl
theorem Qr3 : ∃ E : Enc, Xb (Qt 1 24 8000 [120]) [1, 2, 3, 4] = (E, 0) ∧ OkG E ∧ Sib E (Qt 1 24 8000 [120]) ∧ Qrl E [1, 2, 3, 4] ∧ Qg5 E = (ZK (Qt 1 24 8000 [120]) 24, 24) := by
 have hr : Qz 1 24 8000 [120] = true := by decide +kernel
 rcases Qdo hr [1, 2, 3, 4] with ⟨h1, h2, h3, h4⟩ | h
 ·refine ⟨_, Prod.ext rfl h1, h2, h3, h4, ?_⟩
  rcases Qif h2 h3 h4 with ⟨_, q⟩ | ⟨q, _⟩
  ·exact q
  ·have := q.2; simp at this
 ·have h0 : (Xb (Qt 1 24 8000 [120]) [1, 2, 3, 4]).2 = 0 := by decide +kernel
  rw [h] at h0; simp at h0
def bE0 : Enc := ⟨2, 12, 1, z64, [], [], [], [], false, 0⟩
def bE1 : Enc := ⟨2, 16, 0, z64, [], [], [], [], false, 0⟩
def bE2 : Enc := ⟨2, 16, 1, z65, [], [], [], [], false, 0⟩
def bE3 : Enc := ⟨2, 16, 1, z64, [], [], [], [1], false, 0⟩
def bE4 : Enc := ⟨2, 16, 1, z64, [0, 0, 0, 0], [], [], [], false, 0⟩
def bE5 : Enc := ⟨2, 16, 1, z64, [], [1], [], [], false, 0⟩
def bE6 : Enc := ⟨2, 16, 1, z64, [], [1, 2], [], [], false, 0⟩
def bE7 : Enc := ⟨2, 16, 3, z64, [], [1, 32768], [], [], false, 0⟩
def bE8 : Enc := ⟨2, 16, 1, z64, [], [], [[0, 0, 0, 0]], [], false, 0⟩
def bE9 : Enc := ⟨2, 16, 1, z64, [], [], [List.replicate 26 0], [], false, 0⟩
def QvZ : Enc := ⟨2, 16, 1, z64, [], [], List.replicate 1001 [], [], false, 0⟩
def QvA : Enc := ⟨2, 16, 1, z64, [], [], [], [], false, 12⟩
def Qvz : Enc := ⟨2, 16, 1, z64, [], [], [], [], true, 18⟩
def Qvy : Enc := ⟨2, 16, 1, z64, [1], [], [], [], false, 24⟩
def Qvx : Enc := ⟨2, 16, 1, z64, [], [1, 2], [], [], true, 0⟩
def Quy : Enc := ⟨2, 16, 1, z64, [], [], [], List.replicate 100001 0, true, 0⟩
theorem Qaa : Qs bE0 = 8 ∧ Qs bE1 = 8 ∧ Qs bE2 = 8 ∧ Qs bE3 = 8 ∧ Qs bE4 = 8 ∧ Qs bE5 = 8 ∧ Qs bE6 = 8 ∧ Qs bE7 = 8 ∧ Qs bE8 = 8 ∧ Qs bE9 = 8 ∧ Qs QvZ = 8 ∧ Qs QvA = 8 ∧ Qs Qvz = 8 ∧ Qs Qvy = 8 ∧ Qs Qvx = 8 := by
 refine ⟨?_, ?_, ?_, ?_, ?_, ?_, ?_, ?_, ?_, ?_, ?_, ?_, ?_, ?_, ?_⟩ <;> decide +kernel
theorem QsR : Qs Quy = 8 := by
 have hp : Q5 Quy = false := by
  unfold Q5
  rw [if_neg (by decide), if_pos (show Quy.done = true from rfl)]
  refine decide_eq_false fun h => ?_
  have := h.2
  simp only [Quy, List.length_replicate] at this
  omega
 unfold Qs
 rw [if_pos (.inr hp)]
def gdE : Enc := ⟨2, 16, 1, z64, [1, 2, 3], [], [List.replicate 25 0, List.replicate 5 0], [], false, 0⟩
theorem Qu6 : Qs gdE = 0 := by decide +kernel
theorem Qc8 (z : List AV) : ∀ n, Qe z n ++ z = Qe z (n + 1)
 | 0 => by simp [Qe]
 | n + 1 => by
  show (z ++ Qe z n) ++ z = z ++ Qe z (n + 1)
  rw [List.append_assoc, Qc8 z n]
theorem QjY {P : Prg} {fN : Nat} (hN : QmM P fN) {c x r : Int} {p : List UInt8} (hp : p.length ≤ 100000) (h : Qz c x r p = false) : VC P fN [.agg [.int .i64 c, .int .i64 x], .int .i64 r, .str p] (.tup [.agg [.int .i64 0, .int .i64 0, .int .i64 0, .str [], .emp true, .emp true, .emp true, .emp true, .bool false, .int .i64 0], .int .i64 2]) := by
 have := hN c x r p hp
 rw [Qr6, if_neg (by rw [h]; simp)] at this
 exact this
theorem QtT {P : Prg} {fN : Nat} (hN : QmM P fN) {c x r : Int} {p : List UInt8} (hp : p.length ≤ 100000) (h : Qz c x r p = true) : VC P fN [.agg [.int .i64 c, .int .i64 x], .int .i64 r, .str p] (.tup [.agg (QlH c x r p), .int .i64 0]) := by
 have := hN c x r p hp
 rw [Qr6, if_pos h] at this
 exact this
def zcE : List AV := [.int .i64 0, .int .i64 0, .int .i64 0, .str [], .emp true, .emp true, .emp true, .emp true, .bool false, .int .i64 0]
def Qhb (B : List AV) (k : Nat) : List AV := Qe B k ++ Qe zcE (16 - k)
def s25 : List UInt8 := List.replicate 25 0
def s5 : List UInt8 := List.replicate 5 0
def sK : List UInt8 := List.replicate 1000 0
theorem QsY : sK.length = 1000 := List.length_replicate
def Qte : List AV := (List.replicate 1000 Qrt).map bs
theorem QeX : XO (Ji 1000) = .agg [.int .i64 1, .int .i64 8, .int .i64 1, .str [], .list 0 [], .list 0 [], .list 1000 Qte, .list 0 [], .bool false, .int .i64 0] := by
 simp only [XO, XQ, Ji, Qt, il, bss, bs, List.length_replicate, List.length_nil, J5, JZ, Qte]
theorem QeY (c x r : Int) (p o : List UInt8) : XO (Xc (Qt c x r p) o) = .agg [.int .i64 c, .int .i64 x, .int .i64 r, .str p, .list 0 [], .list 0 [], .list 0 [], .list o.length (u8 o), .bool true, .int .i64 0] := rfl
def oC : List UInt8 := List.replicate 100001 0
def s26 : List UInt8 := List.replicate 26 0
def frC : List AV := Qe [.emp true] 1001
theorem Qu0 : oC.length = 100001 := List.length_replicate
theorem QtL : s26.length = 26 := List.length_replicate
theorem Qug : frC.length = 1001 := by rw [frC, Qv]; rfl
theorem zO1 : Qe [.int .u8 0] 100001 = u8 oC := J0 100001
theorem Qv5 : Qe [.int .u8 0] 26 = u8 s26 := J0 26
theorem zF1 : Qe [.emp true] 1001 = frC := by rw [frC]
theorem Qib : ∀ (a b : List AV), isDL (a ++ b) = (isDL a && isDL b)
 | [], b => by simp [isDL]
 | x :: a, b => by simp only [List.cons_append, isDL, Qib a b, Bool.and_assoc]
theorem QeU {z : List AV} (h : isDL z = true) : ∀ n, isDL (Qe z n) = true
 | 0 => rfl
 | n + 1 => by rw [Qe, Qib, h, QeU h n]; rfl
def frB : List AV := (List.replicate 1001 ([] : List UInt8)).map bs
theorem Qng (f : List AV → Option (List AV)) (kp ok : Nat → Bool) (ob : List Ob) : ∀ n, frzL f kp ok ob (Qe [.emp true] n) = some ((List.replicate n ([] : List UInt8)).map bs)
 | 0 => rfl
 | n + 1 => by
  rw [show Qe [.emp true] (n + 1) = .emp true :: Qe [.emp true] n from rfl, frzL, Qng f kp ok ob n]; rfl
theorem Qud (f : List AV → Option (List AV)) (kp ok : Nat → Bool) (ob : List Ob) : frzL f kp ok ob frC = some frB := by rw [frC, Qng, frB]
theorem Qt5 : isDL frC = true := QeU rfl 1001
theorem Qvd {B : List AV} (h : isDL B = true) (k : Nat) : isDL (Qhb B k) = true := by
 rw [Qhb, Qib, QeU h, QeU rfl]; rfl
theorem Qa {F : List AV → Option (List AV)} {kp ok : Nat → Bool} {ob : List Ob} {c c' : AV} {cs cs' : List AV} (h1 : Qu F kp ok ob c = some c') (h2 : frzL F kp ok ob cs = some cs') : frzL F kp ok ob (c :: cs) = some (c' :: cs') := by rw [frzL, h1, h2]
theorem QbC {F : List AV → Option (List AV)} {kp ok : Nat → Bool} {ob : List Ob} : frzL F kp ok ob [] = some [] := rfl
theorem ZM {F : List AV → Option (List AV)} {kp ok : Nat → Bool} {ob : List Ob} {o n : Nat} {x : Ob} {cs' : List AV} (h0 : kp o = false) (hx : ob[o]? = some x) (hn : x.n = n) (ho : ok o = true) (hf : F x.cs = some cs') : Qu F kp ok ob (.own o n) = some (.list n cs') := by
 simp only [Qu, h0, hx, hn, ho, hf, Bool.false_eq_true, if_false, and_self, if_true, Option.map_some]
set_option maxRecDepth 20000 in
theorem QvR (Y : List UInt8) : Qhb (QlH 2 16 1 Y) 16 = [.int .i64 2, .int .i64 16, .int .i64 1, .str Y, .emp true, .emp true, .emp true, .emp true, .bool false, .int .i64 0, .int .i64 2, .int .i64 16, .int .i64 1, .str Y, .emp true, .emp true, .emp true, .emp true, .bool false, .int .i64 0, .int .i64 2, .int .i64 16, .int .i64 1, .str Y, .emp true, .emp true, .emp true, .emp true, .bool false, .int .i64 0, .int .i64 2, .int .i64 16, .int .i64 1, .str Y, .emp true, .emp true, .emp true, .emp true, .bool false, .int .i64 0, .int .i64 2, .int .i64 16, .int .i64 1, .str Y, .emp true, .emp true, .emp true, .emp true, .bool false, .int .i64 0, .int .i64 2, .int .i64 16, .int .i64 1, .str Y, .emp true, .emp true, .emp true, .emp true, .bool false, .int .i64 0, .int .i64 2, .int .i64 16, .int .i64 1, .str Y, .emp true, .emp true, .emp true, .emp true, .bool false, .int .i64 0, .int .i64 2, .int .i64 16, .int .i64 1, .str Y, .emp true, .emp true, .emp true, .emp true, .bool false, .int .i64 0, .int .i64 2, .int .i64 16, .int .i64 1, .str Y, .emp true, .emp true, .emp true, .emp true, .bool false, .int .i64 0, .int .i64 2, .int .i64 16, .int .i64 1, .str Y, .emp true, .emp true, .emp true, .emp true, .bool false, .int .i64 0, .int .i64 2, .int .i64 16, .int .i64 1, .str Y, .emp true, .emp true, .emp true, .emp true, .bool false, .int .i64 0, .int .i64 2, .int .i64 16, .int .i64 1, .str Y, .emp true, .emp true, .emp true, .emp true, .bool false, .int .i64 0, .int .i64 2, .int .i64 16, .int .i64 1, .str Y, .emp true, .emp true, .emp true, .emp true, .bool false, .int .i64 0, .int .i64 2, .int .i64 16, .int .i64 1, .str Y, .emp true, .emp true, .emp true, .emp true, .bool false, .int .i64 0, .int .i64 2, .int .i64 16, .int .i64 1, .str Y, .emp true, .emp true, .emp true, .emp true, .bool false, .int .i64 0, .int .i64 2, .int .i64 16, .int .i64 1, .str Y, .emp true, .emp true, .emp true, .emp true, .bool false, .int .i64 0] := rfl
theorem QqC {B : List AV} (hB : B.length = 10) {k : Nat} (h : k < 16) : (Qhb B k).take (k * 10) ++ B ++ (Qhb B k).drop (k * 10 + 10) = Qhb B (k + 1) := by
 have h1 : (Qe B k).length = k * 10 := by rw [Qv, hB]
 have h2 : Qe zcE (16 - k) = zcE ++ Qe zcE (16 - (k + 1)) := by
  obtain ⟨j, hj⟩ : ∃ j, 16 - k = j + 1 := ⟨16 - k - 1, by omega⟩
  rw [hj, show 16 - (k + 1) = j by omega]; rfl
 have h3 : (Qhb B k).take (k * 10) = Qe B k := by rw [Qhb, ← h1, List.take_left]
 have h4 : (Qhb B k).drop (k * 10 + 10) = Qe zcE (16 - (k + 1)) := by
  rw [Qhb, ← List.drop_drop, ← h1, List.drop_left, h2]; rfl
 rw [h3, h4, Qc8, Qhb]
theorem QsE {B : List AV} (hB : B.length = 10) {k : Nat} (h : k ≤ 16) : (Qhb B k).length = 160 := by
 have h1 : (Qe B k).length = k * 10 := by rw [Qv, hB]
 have h2 : (Qe zcE (16 - k)).length = (16 - k) * 10 := by rw [Qv]; rfl
 rw [Qhb, List.length_append, h1, h2]; omega
def QuI (Z Y : List UInt8) (FR : List AV) (OO S26 : List UInt8) : List AV := [.int .i64 2, .int .i64 12, .int .i64 1, .str Y, .list 0 [], .list 0 [], .list 0 [], .list 0 [], .bool false, .int .i64 0, .int .i64 2, .int .i64 16, .int .i64 0, .str Y, .list 0 [], .list 0 [], .list 0 [], .list 0 [], .bool false, .int .i64 0, .int .i64 2, .int .i64 16, .int .i64 1, .str Z, .list 0 [], .list 0 [], .list 0 [], .list 0 [], .bool false, .int .i64 0, .int .i64 2, .int .i64 16, .int .i64 1, .str Y, .list 0 [], .list 0 [], .list 0 [], .list 1 [.int .u8 1], .bool false, .int .i64 0, .int .i64 2, .int .i64 16, .int .i64 1, .str Y, .list 4 [.int .u8 0, .int .u8 0, .int .u8 0, .int .u8 0], .list 0 [], .list 0 [], .list 0 [], .bool false, .int .i64 0, .int .i64 2, .int .i64 16, .int .i64 1, .str Y, .list 0 [], .list 1 [.int .i32 1], .list 0 [], .list 0 [], .bool false, .int .i64 0, .int .i64 2, .int .i64 16, .int .i64 1, .str Y, .list 0 [], .list 2 [.int .i32 1, .int .i32 2], .list 0 [], .list 0 [], .bool false, .int .i64 0, .int .i64 2, .int .i64 16, .int .i64 3, .str Y, .list 0 [], .list 2 [.int .i32 1, .int .i32 32768], .list 0 [], .list 0 [], .bool false, .int .i64 0, .int .i64 2, .int .i64 16, .int .i64 1, .str Y, .list 0 [], .list 0 [], .list 1 [.list 4 [.int .u8 0, .int .u8 0, .int .u8 0, .int .u8 0]], .list 0 [], .bool false, .int .i64 0, .int .i64 2, .int .i64 16, .int .i64 1, .str Y, .list 0 [], .list 0 [], .list 1 [.list 26 (u8 S26)], .list 0 [], .bool false, .int .i64 0, .int .i64 2, .int .i64 16, .int .i64 1, .str Y, .list 0 [], .list 0 [], .list 1001 FR, .list 0 [], .bool false, .int .i64 0, .int .i64 2, .int .i64 16, .int .i64 1, .str Y, .list 0 [], .list 0 [], .list 0 [], .list 0 [], .bool false, .int .i64 12, .int .i64 2, .int .i64 16, .int .i64 1, .str Y, .list 0 [], .list 0 [], .list 0 [], .list 0 [], .bool true, .int .i64 18, .int .i64 2, .int .i64 16, .int .i64 1, .str Y, .list 1 [.int .u8 1], .list 0 [], .list 0 [], .list 0 [], .bool false, .int .i64 24, .int .i64 2, .int .i64 16, .int .i64 1, .str Y, .list 0 [], .list 2 [.int .i32 1, .int .i32 2], .list 0 [], .list 0 [], .bool true, .int .i64 0, .int .i64 2, .int .i64 16, .int .i64 1, .str Y, .list 0 [], .list 0 [], .list 0 [], .list 100001 (u8 OO), .bool true, .int .i64 0]
set_option maxRecDepth 20000 in
theorem QsQ (Z Y : List UInt8) (FR : List AV) (OO S26 : List UInt8) : (QuI Z Y FR OO S26).length = 160 := rfl
theorem QwB {P : Prg} {fb : Nat} (hb : Zt P fb) : VC P fb [.agg [.int .i64 2, .int .i64 12, .int .i64 1, .str z64, .list 0 [], .list 0 [], .list 0 [], .list 0 [], .bool false, .int .i64 0]] (.bool true) := by
 have h := hb bE0 ⟨by decide +kernel, by decide +kernel, by decide +kernel, by intro v hv; simp [bE0] at hv; try omega, by decide +kernel, by decide +kernel⟩ (by simp [bE0]) Qaa.1
 exact h
theorem QwA {P : Prg} {fb : Nat} (hb : Zt P fb) : VC P fb [.agg [.int .i64 2, .int .i64 16, .int .i64 0, .str z64, .list 0 [], .list 0 [], .list 0 [], .list 0 [], .bool false, .int .i64 0]] (.bool true) := by
 have h := hb bE1 ⟨by decide +kernel, by decide +kernel, by decide +kernel, by intro v hv; simp [bE1] at hv; try omega, by decide +kernel, by decide +kernel⟩ (by simp [bE1]) Qaa.2.1
 exact h
theorem Qwz {P : Prg} {fb : Nat} (hb : Zt P fb) : VC P fb [.agg [.int .i64 2, .int .i64 16, .int .i64 1, .str z65, .list 0 [], .list 0 [], .list 0 [], .list 0 [], .bool false, .int .i64 0]] (.bool true) := by
 have h := hb bE2 ⟨by decide +kernel, by decide +kernel, by decide +kernel, by intro v hv; simp [bE2] at hv; try omega, by decide +kernel, by decide +kernel⟩ (by simp [bE2]) Qaa.2.2.1
 exact h
theorem Qwy {P : Prg} {fb : Nat} (hb : Zt P fb) : VC P fb [.agg [.int .i64 2, .int .i64 16, .int .i64 1, .str z64, .list 0 [], .list 0 [], .list 0 [], .list 1 [.int .u8 1], .bool false, .int .i64 0]] (.bool true) := by
 have h := hb bE3 ⟨by decide +kernel, by decide +kernel, by decide +kernel, by intro v hv; simp [bE3] at hv; try omega, by decide +kernel, by decide +kernel⟩ (by simp [bE3]) Qaa.2.2.2.1
 exact h
theorem Qwx {P : Prg} {fb : Nat} (hb : Zt P fb) : VC P fb [.agg [.int .i64 2, .int .i64 16, .int .i64 1, .str z64, .list 4 [.int .u8 0, .int .u8 0, .int .u8 0, .int .u8 0], .list 0 [], .list 0 [], .list 0 [], .bool false, .int .i64 0]] (.bool true) := by
 have h := hb bE4 ⟨by decide +kernel, by decide +kernel, by decide +kernel, by intro v hv; simp [bE4] at hv; try omega, by decide +kernel, by decide +kernel⟩ (by simp [bE4]) Qaa.2.2.2.2.1
 exact h
theorem Qww {P : Prg} {fb : Nat} (hb : Zt P fb) : VC P fb [.agg [.int .i64 2, .int .i64 16, .int .i64 1, .str z64, .list 0 [], .list 1 [.int .i32 1], .list 0 [], .list 0 [], .bool false, .int .i64 0]] (.bool true) := by
 have h := hb bE5 ⟨by decide +kernel, by decide +kernel, by decide +kernel, by intro v hv; simp [bE5] at hv; try omega, by decide +kernel, by decide +kernel⟩ (by simp [bE5]) Qaa.2.2.2.2.2.1
 exact h
theorem Qwv {P : Prg} {fb : Nat} (hb : Zt P fb) : VC P fb [.agg [.int .i64 2, .int .i64 16, .int .i64 1, .str z64, .list 0 [], .list 2 [.int .i32 1, .int .i32 2], .list 0 [], .list 0 [], .bool false, .int .i64 0]] (.bool true) := by
 have h := hb bE6 ⟨by decide +kernel, by decide +kernel, by decide +kernel, by intro v hv; simp [bE6] at hv; try omega, by decide +kernel, by decide +kernel⟩ (by simp [bE6]) Qaa.2.2.2.2.2.2.1
 exact h
theorem Qwu {P : Prg} {fb : Nat} (hb : Zt P fb) : VC P fb [.agg [.int .i64 2, .int .i64 16, .int .i64 3, .str z64, .list 0 [], .list 2 [.int .i32 1, .int .i32 32768], .list 0 [], .list 0 [], .bool false, .int .i64 0]] (.bool true) := by
 have h := hb bE7 ⟨by decide +kernel, by decide +kernel, by decide +kernel, by intro v hv; simp [bE7] at hv; try omega, by decide +kernel, by decide +kernel⟩ (by simp [bE7]) Qaa.2.2.2.2.2.2.2.1
 exact h
theorem Qwt {P : Prg} {fb : Nat} (hb : Zt P fb) : VC P fb [.agg [.int .i64 2, .int .i64 16, .int .i64 1, .str z64, .list 0 [], .list 0 [], .list 1 [.list 4 [.int .u8 0, .int .u8 0, .int .u8 0, .int .u8 0]], .list 0 [], .bool false, .int .i64 0]] (.bool true) := by
 have h := hb bE8 ⟨by decide +kernel, by decide +kernel, by decide +kernel, by intro v hv; simp [bE8] at hv; try omega, by decide +kernel, by decide +kernel⟩ (by intro b hb; simp [bE8] at hb; subst hb; simp) Qaa.2.2.2.2.2.2.2.2.1
 exact h
theorem Qws {P : Prg} {fb : Nat} (hb : Zt P fb) : VC P fb [.agg [.int .i64 2, .int .i64 16, .int .i64 1, .str z64, .list 0 [], .list 0 [], .list 1 [.list 26 (u8 s26)], .list 0 [], .bool false, .int .i64 0]] (.bool true) := by
 have h := hb bE9 ⟨by decide +kernel, by decide +kernel, by decide +kernel, by intro v hv; simp [bE9] at hv; try omega, by decide +kernel, by decide +kernel⟩ (by intro b hb; simp [bE9] at hb; subst hb; simp) Qaa.2.2.2.2.2.2.2.2.2.1
 exact h
theorem QvY {P : Prg} {fb : Nat} (hb : Zt P fb) : VC P fb [.agg [.int .i64 2, .int .i64 16, .int .i64 1, .str z64, .list 0 [], .list 0 [], .list 1001 frB, .list 0 [], .bool false, .int .i64 0]] (.bool true) := by
 have h := hb QvZ ⟨by decide +kernel, by decide +kernel, by decide +kernel, (by intro v hv; cases hv), by decide +kernel, by decide +kernel⟩ (by intro b hb; rw [List.eq_of_mem_replicate (show b ∈ List.replicate 1001 [] from hb)]; simp) Qaa.2.2.2.2.2.2.2.2.2.2.1
 simp only [XO, XQ, il, bss, bs, QvZ, List.length_replicate, List.length_nil, J5, JZ] at h
 simp only [frB]
 exact h
theorem QvX {P : Prg} {fb : Nat} (hb : Zt P fb) : VC P fb [.agg [.int .i64 2, .int .i64 16, .int .i64 1, .str z64, .list 0 [], .list 0 [], .list 0 [], .list 0 [], .bool false, .int .i64 12]] (.bool true) := by
 have h := hb QvA ⟨by decide +kernel, by decide +kernel, by decide +kernel, by intro v hv; simp [QvA] at hv; try omega, by decide +kernel, by decide +kernel⟩ (by simp [QvA]) Qaa.2.2.2.2.2.2.2.2.2.2.2.1
 exact h
theorem QvW {P : Prg} {fb : Nat} (hb : Zt P fb) : VC P fb [.agg [.int .i64 2, .int .i64 16, .int .i64 1, .str z64, .list 0 [], .list 0 [], .list 0 [], .list 0 [], .bool true, .int .i64 18]] (.bool true) := by
 have h := hb Qvz ⟨by decide +kernel, by decide +kernel, by decide +kernel, by intro v hv; simp [Qvz] at hv; try omega, by decide +kernel, by decide +kernel⟩ (by simp [Qvz]) Qaa.2.2.2.2.2.2.2.2.2.2.2.2.1
 exact h
theorem QvV {P : Prg} {fb : Nat} (hb : Zt P fb) : VC P fb [.agg [.int .i64 2, .int .i64 16, .int .i64 1, .str z64, .list 1 [.int .u8 1], .list 0 [], .list 0 [], .list 0 [], .bool false, .int .i64 24]] (.bool true) := by
 have h := hb Qvy ⟨by decide +kernel, by decide +kernel, by decide +kernel, by intro v hv; simp [Qvy] at hv; try omega, by decide +kernel, by decide +kernel⟩ (by simp [Qvy]) Qaa.2.2.2.2.2.2.2.2.2.2.2.2.2.1
 exact h
theorem QvU {P : Prg} {fb : Nat} (hb : Zt P fb) : VC P fb [.agg [.int .i64 2, .int .i64 16, .int .i64 1, .str z64, .list 0 [], .list 2 [.int .i32 1, .int .i32 2], .list 0 [], .list 0 [], .bool true, .int .i64 0]] (.bool true) := by
 have h := hb Qvx ⟨by decide +kernel, by decide +kernel, by decide +kernel, by intro v hv; simp [Qvx] at hv; try omega, by decide +kernel, by decide +kernel⟩ (by simp [Qvx]) Qaa.2.2.2.2.2.2.2.2.2.2.2.2.2.2
 exact h
theorem QvT {P : Prg} {fb : Nat} (hb : Zt P fb) : VC P fb [.agg [.int .i64 2, .int .i64 16, .int .i64 1, .str z64, .list 0 [], .list 0 [], .list 0 [], .list 100001 (u8 oC), .bool true, .int .i64 0]] (.bool true) := by
 have h := hb Quy ⟨by decide +kernel, by decide +kernel, by decide +kernel, (by intro v hv; cases hv), by decide +kernel, Nat.le_trans (Nat.le_of_eq (show Quy.out.length = 100001 from List.length_replicate)) (by omega)⟩ (by intro b hb; cases hb) QsR
 simp only [XO, XQ, il, bss, bs, Quy, List.length_replicate, List.length_nil, List.map_nil, J5, JZ] at h
 simp only [oC]
 exact h
theorem Qux {P : Prg} {fb : Nat} (hb : Zt P fb) : ∀ i < 16, VC P fb [.agg (((QuI z65 z64 frB oC s26).drop (i * 10)).take 10)] (.bool true)
 | 0, _ => QwB hb
 | 1, _ => QwA hb
 | 2, _ => Qwz hb
 | 3, _ => Qwy hb
 | 4, _ => Qwx hb
 | 5, _ => Qww hb
 | 6, _ => Qwv hb
 | 7, _ => Qwu hb
 | 8, _ => Qwt hb
 | 9, _ => Qws hb
 | 10, _ => QvY hb
 | 11, _ => QvX hb
 | 12, _ => QvW hb
 | 13, _ => QvV hb
 | 14, _ => QvU hb
 | 15, _ => QvT hb
 | n + 16, h => absurd h (by omega)
theorem Qd {F : List AV → Option (List AV)} {kp ok : Nat → Bool} {ob : List Ob} {k : IntKind} {n : Int} : Qu F kp ok ob (.int k n) = some (.int k n) := by simp only [Qu]
theorem Zj {F : List AV → Option (List AV)} {kp ok : Nat → Bool} {ob : List Ob} {s : List UInt8} : Qu F kp ok ob (.str s) = some (.str s) := by simp only [Qu]
theorem QW {F : List AV → Option (List AV)} {kp ok : Nat → Bool} {ob : List Ob} {b : Bool} : Qu F kp ok ob (.bool b) = some (.bool b) := by simp only [Qu]
theorem Qg {F : List AV → Option (List AV)} {kp ok : Nat → Bool} {ob : List Ob} {b : Bool} : Qu F kp ok ob (.emp b) = some (.list 0 []) := by simp only [Qu]
set_option maxRecDepth 20000 in
theorem Quw {F : List AV → Option (List AV)} {kp ok : Nat → Bool} {ob : List Ob} {Z Y OO S26 : List UInt8} {FB : List AV} (h2 : Qu F kp ok ob (.own 2 1) = some (.list 1 [.int .u8 1])) (h3 : Qu F kp ok ob (.own 3 4) = some (.list 4 [.int .u8 0, .int .u8 0, .int .u8 0, .int .u8 0])) (h4 : Qu F kp ok ob (.own 4 1) = some (.list 1 [.int .i32 1])) (h5 : Qu F kp ok ob (.own 5 2) = some (.list 2 [.int .i32 1, .int .i32 2])) (h6 : Qu F kp ok ob (.own 6 2) = some (.list 2 [.int .i32 1, .int .i32 32768])) (h8 : Qu F kp ok ob (.own 8 1) = some (.list 1 [.list 4 [.int .u8 0, .int .u8 0, .int .u8 0, .int .u8 0]])) (h10 : Qu F kp ok ob (.own 10 1) = some (.list 1 [.list 26 (u8 S26)])) (h11 : Qu F kp ok ob (.own 11 1001) = some (.list 1001 FB)) (h12 : Qu F kp ok ob (.own 12 1) = some (.list 1 [.int .u8 1])) (h13 : Qu F kp ok ob (.own 13 2) = some (.list 2 [.int .i32 1, .int .i32 2])) (h14 : Qu F kp ok ob (.own 14 100001) = some (.list 100001 (u8 OO))) : frzL F kp ok ob [.int .i64 2, .int .i64 12, .int .i64 1, .str Y, .emp true, .emp true, .emp true, .emp true, .bool false, .int .i64 0, .int .i64 2, .int .i64 16, .int .i64 0, .str Y, .emp true, .emp true, .emp true, .emp true, .bool false, .int .i64 0, .int .i64 2, .int .i64 16, .int .i64 1, .str Z, .emp true, .emp true, .emp true, .emp true, .bool false, .int .i64 0, .int .i64 2, .int .i64 16, .int .i64 1, .str Y, .emp true, .emp true, .emp true, .own 2 1, .bool false, .int .i64 0, .int .i64 2, .int .i64 16, .int .i64 1, .str Y, .own 3 4, .emp true, .emp true, .emp true, .bool false, .int .i64 0, .int .i64 2, .int .i64 16, .int .i64 1, .str Y, .emp true, .own 4 1, .emp true, .emp true, .bool false, .int .i64 0, .int .i64 2, .int .i64 16, .int .i64 1, .str Y, .emp true, .own 5 2, .emp true, .emp true, .bool false, .int .i64 0, .int .i64 2, .int .i64 16, .int .i64 3, .str Y, .emp true, .own 6 2, .emp true, .emp true, .bool false, .int .i64 0, .int .i64 2, .int .i64 16, .int .i64 1, .str Y, .emp true, .emp true, .own 8 1, .emp true, .bool false, .int .i64 0, .int .i64 2, .int .i64 16, .int .i64 1, .str Y, .emp true, .emp true, .own 10 1, .emp true, .bool false, .int .i64 0, .int .i64 2, .int .i64 16, .int .i64 1, .str Y, .emp true, .emp true, .own 11 1001, .emp true, .bool false, .int .i64 0, .int .i64 2, .int .i64 16, .int .i64 1, .str Y, .emp true, .emp true, .emp true, .emp true, .bool false, .int .i64 12, .int .i64 2, .int .i64 16, .int .i64 1, .str Y, .emp true, .emp true, .emp true, .emp true, .bool true, .int .i64 18, .int .i64 2, .int .i64 16, .int .i64 1, .str Y, .own 12 1, .emp true, .emp true, .emp true, .bool false, .int .i64 24, .int .i64 2, .int .i64 16, .int .i64 1, .str Y, .emp true, .own 13 2, .emp true, .emp true, .bool true, .int .i64 0, .int .i64 2, .int .i64 16, .int .i64 1, .str Y, .emp true, .emp true, .emp true, .own 14 100001, .bool true, .int .i64 0] = some (QuI Z Y FB OO S26) := by
 unfold QuI
 exact Qa Qd (Qa Qd (Qa Qd (Qa Zj (Qa Qg (Qa Qg (Qa Qg (Qa Qg (Qa QW (Qa Qd (Qa Qd (Qa Qd (Qa Qd (Qa Zj (Qa Qg (Qa Qg (Qa Qg (Qa Qg (Qa QW (Qa Qd (Qa Qd (Qa Qd (Qa Qd (Qa Zj (Qa Qg (Qa Qg (Qa Qg (Qa Qg (Qa QW (Qa Qd (Qa Qd (Qa Qd (Qa Qd (Qa Zj (Qa Qg (Qa Qg (Qa Qg (Qa h2 (Qa QW (Qa Qd (Qa Qd (Qa Qd (Qa Qd (Qa Zj (Qa h3 (Qa Qg (Qa Qg (Qa Qg (Qa QW (Qa Qd (Qa Qd (Qa Qd (Qa Qd (Qa Zj (Qa Qg (Qa h4 (Qa Qg (Qa Qg (Qa QW (Qa Qd (Qa Qd (Qa Qd (Qa Qd (Qa Zj (Qa Qg (Qa h5 (Qa Qg (Qa Qg (Qa QW (Qa Qd (Qa Qd (Qa Qd (Qa Qd (Qa Zj (Qa Qg (Qa h6 (Qa Qg (Qa Qg (Qa QW (Qa Qd (Qa Qd (Qa Qd (Qa Qd (Qa Zj (Qa Qg (Qa Qg (Qa h8 (Qa Qg (Qa QW (Qa Qd (Qa Qd (Qa Qd (Qa Qd (Qa Zj (Qa Qg (Qa Qg (Qa h10 (Qa Qg (Qa QW (Qa Qd (Qa Qd (Qa Qd (Qa Qd (Qa Zj (Qa Qg (Qa Qg (Qa h11 (Qa Qg (Qa QW (Qa Qd (Qa Qd (Qa Qd (Qa Qd (Qa Zj (Qa Qg (Qa Qg (Qa Qg (Qa Qg (Qa QW (Qa Qd (Qa Qd (Qa Qd (Qa Qd (Qa Zj (Qa Qg (Qa Qg (Qa Qg (Qa Qg (Qa QW (Qa Qd (Qa Qd (Qa Qd (Qa Qd (Qa Zj (Qa h12 (Qa Qg (Qa Qg (Qa Qg (Qa QW (Qa Qd (Qa Qd (Qa Qd (Qa Qd (Qa Zj (Qa Qg (Qa h13 (Qa Qg (Qa Qg (Qa QW (Qa Qd (Qa Qd (Qa Qd (Qa Qd (Qa Zj (Qa Qg (Qa Qg (Qa Qg (Qa h14 (Qa QW (Qa Qd QbC)))))))))))))))))))))))))))))))))))))))))))))))))))))))))))))))))))))))))))))))))))))))))))))))))))))))))))))))))))))))))))))))))))))))))))))))))))))))))))))))
set_option maxRecDepth 20000 in
set_option maxHeartbeats 8000000 in
theorem Qdj {P : Prg} {f fN fO fb fM fF fi fD fC fS fA t0 t1 t2 t3 : Nat} (bd : Qk P f 353 [.tmp 0] (QZ fN fO fb fM fF fi fD fC fS fA t0 t1 t2 t3)) (hN : QmM P fN) (hO : QnC P fO) (hb : Zt P fb) (hM : QnD P fM) (hF : Qd3 P fF) (hi : Qhh P fi) (hD : QkY P fD) (hC : QaE P fC) (hS : QmJ P fS) (hA : Qgd P fA) : Qgd P f := by
 refine VC.of_acall rfl rfl (ACall.of_cut 31 bd (by simp) ?_)
 have hA' : VC P fA [] (.bool true) := hA
 have hO' : VC P fO [] (.agg [.int .i64 1, .int .i64 8]) := hO
 have hl65 : z65.length = 65 := by decide +kernel
 have hl64 : z64.length = 64 := by decide +kernel
 have ht : z65.take 64 = z64 := by decide +kernel
 have n1 := QjY hN (p := []) (by simp) (show Qz 7 8 1 [] = false by decide +kernel)
 have n2 := QjY hN (p := []) (by simp) (show Qz 1 9 1 [] = false by decide +kernel)
 have n3 := QjY hN (p := []) (by simp) (show Qz 1 8 0 [] = false by decide +kernel)
 have n4 := QjY hN (p := []) (by simp) (show Qz 1 8 1048577 [] = false by decide +kernel)
 have n5 := QjY hN (p := z65) (by omega) (show Qz 1 8 1 z65 = false by decide +kernel)
 have rB : Qz 2 16 1 z64 = true := by decide +kernel
 have n6 := QtT hN (p := z64) (by omega) rB
 have hz : Qe [.int .u8 0] 65 = u8 z65 := J0 65
 have hz2 : Qe [.int .u8 0] (Int.toNat 65) = u8 z65 := J0 65
 have d3 := Qaw z65
 obtain ⟨BB, hBB⟩ : ∃ BB, BB = QlH 2 16 1 z64 := ⟨_, rfl⟩
 rw [← hBB] at n6
 have b1 : BB.length = 10 := by rw [hBB]; rfl
 have b2 : BB.all AV.one = true := by rw [hBB]; rfl
 have b3 : BB.take 10 = BB := by rw [hBB]; rfl
 have b4 : BB.drop 10 = [] := by rw [hBB]; rfl
 have b5 : isDL BB = true := by rw [hBB]; rfl
 have hbad := Qux hb
 have m1 : VC P fM [.agg [.int .i64 1, .int .i64 8], .int .i64 1, .str [], .list 1000 (u8 sK)] (.tup [.agg [.int .i64 1, .int .i64 8, .int .i64 1, .str [], .list 0 [], .list 0 [], .list 1000 Qte, .list 0 [], .bool false, .int .i64 0], .bool true]) := by
  have h := hM 1 8 1 [] sK ZF (by rw [QsY]; omega)
  rw [show Xb (Qt 1 8 1 []) sK = (Ji 1000, 0) from Qfh, QeX, bs, QsY] at h
  exact h
 have f1 : VC P fF [.agg [.int .i64 1, .int .i64 8, .int .i64 1, .str [], .list 0 [], .list 0 [], .list 1000 Qte, .list 0 [], .bool false, .int .i64 0], .list 1 [.int .u8 0]] (.tup [.agg [.int .i64 1, .int .i64 8, .int .i64 1, .str [], .list 0 [], .list 0 [], .list 0 [], .list 0 [], .bool false, .int .i64 18], .int .i64 18]) := by
  have h := hF (Ji 1000) [0] (QcL XA.1) (QdT XA.1) (by simp)
  rw [Qpg, QeX] at h
  exact h
 have okF : okC (ZK (Qt 1 8 1 []) 18) := Qda ZF (by simp [Qt])
 have f2 : VC P fF [.agg [.int .i64 1, .int .i64 8, .int .i64 1, .str [], .list 0 [], .list 0 [], .list 0 [], .list 0 [], .bool false, .int .i64 18], .emp true] (.tup [.agg [.int .i64 1, .int .i64 8, .int .i64 1, .str [], .list 0 [], .list 0 [], .list 0 [], .list 0 [], .bool false, .int .i64 18], .int .i64 18]) := by
  have h := QeW (hF (ZK (Qt 1 8 1 []) 18) [] okF (by simp [ZK]) (by simp))
  rw [Qsy ZF (.inl rfl)] at h
  exact h
 have i1 : VC P fi [.agg [.int .i64 1, .int .i64 8, .int .i64 1, .str [], .list 0 [], .list 0 [], .list 0 [], .list 0 [], .bool false, .int .i64 18]] (.tup [.agg [.int .i64 1, .int .i64 8, .int .i64 1, .str [], .list 0 [], .list 0 [], .list 0 [], .list 0 [], .bool false, .int .i64 18], .int .i64 18]) := by
  have h := hi (ZK (Qt 1 8 1 []) 18) okF (by simp [ZK]) (fun h => by have := h.err; simp [ZK] at this)
  rw [Quj ZF (.inl rfl)] at h
  exact h
 have f3 : VC P fF [.agg [.int .i64 1, .int .i64 8, .int .i64 1, .str [], .list 0 [], .list 0 [], .list 1000 Qte, .list 0 [], .bool false, .int .i64 0], .emp true] (.tup [.agg [.int .i64 1, .int .i64 8, .int .i64 1, .str [], .list 0 [], .list 0 [], .list 1000 Qte, .list 0 [], .bool false, .int .i64 0], .int .i64 0]) := by
  have h := QeW (hF (Ji 1000) [] (QcL XA.1) (QdT XA.1) (by simp))
  rw [QfB XA.1, QI, QeX] at h
  exact h
 have i2 : VC P fi [.agg [.int .i64 1, .int .i64 8, .int .i64 1, .str [], .list 0 [], .list 0 [], .list 1000 Qte, .list 0 [], .bool false, .int .i64 0]] (.tup [.agg [.int .i64 1, .int .i64 8, .int .i64 1, .str [], .list 0 [], .list 0 [], .list 0 [], .list 10026 (u8 Qew), .bool true, .int .i64 0], .int .i64 0]) := by
  have h := hi (Ji 1000) (QcL XA.1) (QdT XA.1) (Qnk XA.2.1 XA.2.2)
  rw [JG.1, QeX, QeY, JG.2] at h
  exact h
 have okD : okC (Xc (Qt 1 8 1 []) Qew) := Qda ZF (by rw [JG.2]; omega)
 have f4 : VC P fF [.agg [.int .i64 1, .int .i64 8, .int .i64 1, .str [], .list 0 [], .list 0 [], .list 0 [], .list 10026 (u8 Qew), .bool true, .int .i64 0], .emp true] (.tup [.agg [.int .i64 1, .int .i64 8, .int .i64 1, .str [], .list 0 [], .list 0 [], .list 0 [], .list 10026 (u8 Qew), .bool true, .int .i64 0], .int .i64 36]) := by
  have h := QeW (hF (Xc (Qt 1 8 1 []) Qew) [] okD (by simp [Xc]) (by simp))
  rw [Qqm ZF (by rw [JG.2]; omega), QeY, JG.2] at h
  exact h
 have i3 : VC P fi [.agg [.int .i64 1, .int .i64 8, .int .i64 1, .str [], .list 0 [], .list 0 [], .list 0 [], .list 10026 (u8 Qew), .bool true, .int .i64 0]] (.tup [.agg [.int .i64 1, .int .i64 8, .int .i64 1, .str [], .list 0 [], .list 0 [], .list 0 [], .list 10026 (u8 Qew), .bool true, .int .i64 0], .int .i64 36]) := by
  have h := hi (Xc (Qt 1 8 1 []) Qew) okD (by simp [Xc]) (fun h => by have := h.done; simp [Xc] at this)
  rw [Qsu ZF (by rw [JG.2]; omega), QeY, JG.2] at h
  exact h
 have D1 : VC P fD [.agg [.int .i64 1, .int .i64 8, .int .i64 1, .str [], .list 0 [], .list 0 [], .list 0 [], .list 10026 (u8 Qew), .bool true, .int .i64 0], .int .i64 (-1)] (.tup [.agg [.int .i64 0, .int .i64 0, .int .i64 0, .str [], .list 0 [], .list 0 [], .list 0 [], .list 0 [], .bool false, .int .i64 0], .list 0 [], .int .i64 2]) := by
  have h := hD (Xc (Qt 1 8 1 []) Qew) (-1) okD (by simp [Xc])
  rw [Qmb, if_neg (by rw [Qci ZF (by rw [JG.2]; omega)]; simp), if_pos (by omega), QeY, JG.2] at h
  exact h
 have rP : Qz 1 24 8000 [120] = true := by decide +kernel
 obtain ⟨E, pe1, pe2, pe3, pe4, pe5⟩ := Qr3
 have m2 : VC P fM [.agg [.int .i64 1, .int .i64 24], .int .i64 8000, .str [120], .list 4 [.int .u8 1, .int .u8 2, .int .u8 3, .int .u8 4]] (.tup [XO E, .bool true]) := by
  have h := hM 1 24 8000 [120] [1, 2, 3, 4] rP (by simp)
  rw [pe1] at h
  exact h
 have i4 : VC P fi [XO E] (.tup [.agg [.int .i64 1, .int .i64 24, .int .i64 8000, .str [120], .list 0 [], .list 0 [], .list 0 [], .list 0 [], .bool false, .int .i64 24], .int .i64 24]) := by
  have h := hi E (QcL pe2) (QdT pe2) (Qnk pe3 pe4)
  rw [pe5] at h
  exact h
 have D2 : VC P fD [XO E, .int .i64 5] (.tup [XO E, .list 0 [], .int .i64 0]) := by
  have h := hD E ((5 : Nat) : Int) (QcL pe2) (QdT pe2)
  rw [Quq (Qdd pe2) pe2.out] at h
  exact h
 have S1 := hS E (QcL pe2)
 have G1 : VC P fC [.agg [.int .i64 2, .int .i64 16, .int .i64 1, .str z64, .list 3 [.int .u8 1, .int .u8 2, .int .u8 3], .list 0 [], .list 2 [.list 25 (u8 s25), .list 5 (u8 s5)], .list 0 [], .bool false, .int .i64 0]] (.int .i64 0) := by
  have h := hC gdE ⟨by decide +kernel, by decide +kernel, by decide +kernel, (by intro v hv; cases hv), by decide +kernel, by decide +kernel⟩
  rw [Qu6] at h
  exact h
 clear hN hb hM hF hi hD hC hS
 generalize hZ : z65 = Z at *
 generalize hY : z64 = Y at *
 simp (maxSteps := 4000000) (disch := omega) only [rq, simprocAttr, QZ, XY, ↓hz, ↓hz2, d3, hl65]
 refine Qb.vc n1 ?_
 simp (maxSteps := 4000000) (disch := omega) only [rq, simprocAttr, XY, d3]
 refine Qb.vc n2 ?_
 simp (maxSteps := 4000000) (disch := omega) only [rq, simprocAttr, XY, d3]
 refine Qb.vc hO' ?_
 simp (maxSteps := 4000000) (disch := omega) only [rq, simprocAttr, XY, d3]
 refine Qb.vc n3 ?_
 simp (maxSteps := 4000000) (disch := omega) only [rq, simprocAttr, XY, d3]
 refine Qb.vc hO' ?_
 simp (maxSteps := 4000000) (disch := omega) only [rq, simprocAttr, XY, d3]
 refine Qb.vc n4 ?_
 simp (maxSteps := 4000000) (disch := omega) only [rq, simprocAttr, XY, d3]
 refine Qb.vc hO' ?_
 simp (maxSteps := 4000000) (disch := omega) only [rq, simprocAttr, XY, d3]
 refine Qb.vc n5 ?_
 simp (maxSteps := 4000000) (disch := omega) only [rq, simprocAttr, XY, ht]
 refine Qb.vc n6 ?_
 have hm : Qe [.int .i64 0, .int .i64 0, .int .i64 0, .str [], .emp true, .emp true, .emp true, .emp true, .bool false, .int .i64 0] 16 = Qhb BB 0 := rfl
 have hm2 : Qe [.int .i64 0, .int .i64 0, .int .i64 0, .str [], .emp true, .emp true, .emp true, .emp true, .bool false, .int .i64 0] (Int.toNat 16) = Qhb BB 0 := rfl
 simp (maxSteps := 4000000) (disch := omega) only [rq, simprocAttr, XY, b1, b2, b3, b4, b5, ↓hm, ↓hm2]
 refine QP.by (ι := Nat) (fun k => ⟨[(15, .int .i64 k), (14, .own 1 16), (12, .ref 0 1 0), (1, .str Z), (3, .int .i64 2), (5, .int .i64 2), (7, .int .i64 2), (9, .int .i64 2), (11, .int .i64 2), (13, .int .i64 0), (0, .bool false)], [⟨t1, 10, 1, BB, 0⟩, ⟨t1, 10, 16, Qhb BB k, 0⟩]⟩) (fun k => k ≤ 16) (fun k => 16 - k) 0 (Le.pickTo [6, 7] (by decide) (by simp) (by simp [Am.look, rnV, rnL, pk, List.idxOf_cons]) (by simp [pkO, rnV, rnL, pk, rnL_D _ _ b5, rnL_D _ _ (Qvd b5 _)])) (by omega) ?_
 intro k hk
 by_cases hlt : k < 16
 ·have c1 := QsE b1 hk
  have c2 := QqC b1 hlt
  have c3 : Qhb BB (k + 1) = Qhb BB (k + 1) := rfl
  generalize hq : Qhb BB (k + 1) = CL at *
  generalize Qhb BB k = CK at *
  simp (maxSteps := 4000000) (disch := omega) only [rq, simprocAttr, XY, b1, b2, b3, b4, c1, c2]
  refine ⟨k + 1, by omega, by omega, ?_⟩
  rw [hq]
  exact Le.slots (by simp [Am.look])
 ·obtain rfl : k = 16 := by omega
  subst hBB
  rw [QvR]
  have z26 := Qv5
  have z26' : Qe [.int .u8 0] (Int.toNat 26) = u8 s26 := Qv5
  have zO := zO1
  have zO' : Qe [.int .u8 0] (Int.toNat 100001) = u8 oC := zO1
  have zF := zF1
  have zF' : Qe [.emp true] (Int.toNat 1001) = frC := zF1
  have kF := Qug
  have kO := Qu0
  have k26 := QtL
  have hFD := Qt5
  have hFz := Qud
  have hFB : isDL frB = true := Zf _
  have hOT := Qy oC
  have h26 := Qy s26
  generalize frC = FR at *
  generalize frB = FB at *
  generalize oC = OO at *
  generalize s26 = S26 at *
  simp (maxSteps := 4000000) (disch := omega) only [rq, simprocAttr, XY, ↓z26, ↓z26', ↓zO, ↓zO', ↓zF, ↓zF', QlH]
  refine ⟨⟨[(0, .bool false), (3, .int .i64 2), (5, .int .i64 2), (7, .int .i64 2), (9, .int .i64 2), (11, .int .i64 2), (13, .int .i64 0), (12, .cell [.int .i64 2, .int .i64 16, .int .i64 1, .str Y, .list 0 [], .list 0 [], .list 0 [], .list 0 [], .bool false, .int .i64 0]), (14, .list 16 (QuI Z Y FB OO S26))], []⟩, Le.drop 0 4 (by omega) rfl (by
   intro p hp
   simp only [List.mem_cons, List.not_mem_nil, or_false] at hp
   rcases hp with rfl | rfl | rfl | rfl | rfl | rfl | rfl | rfl | rfl
   ·simp [Am.look, QF, frzL, Qu]
   ·simp [Am.look, QF, frzL, Qu]
   ·simp [Am.look, QF, frzL, Qu]
   ·simp [Am.look, QF, frzL, Qu]
   ·simp [Am.look, QF, frzL, Qu]
   ·simp [Am.look, QF, frzL, Qu]
   ·simp [Am.look, QF, frzL, Qu]
   ·simp [Am.look, QF, frzL, Qu, isDL, isD]
   ·refine .inr ?_
    simp only [Am.look, Nat.reduceEqDiff, ↓reduceIte]
    exact Qa (ZM rfl rfl rfl rfl (Quw (ZM rfl rfl rfl rfl (Qa Qd QbC)) (ZM rfl rfl rfl rfl (Qa Qd (Qa Qd (Qa Qd (Qa Qd QbC))))) (ZM rfl rfl rfl rfl (Qa Qd QbC)) (ZM rfl rfl rfl rfl (Qa Qd (Qa Qd QbC))) (ZM rfl rfl rfl rfl (Qa Qd (Qa Qd QbC))) (ZM rfl rfl rfl rfl (Qa (ZM rfl rfl rfl rfl (Qa Qd (Qa Qd (Qa Qd (Qa Qd QbC))))) QbC)) (ZM rfl rfl rfl rfl (Qa (ZM rfl rfl rfl rfl (frzL_T _ h26)) QbC)) (ZM rfl rfl rfl rfl (hFz _ _ _ _)) (ZM rfl rfl rfl rfl (Qa Qd QbC)) (ZM rfl rfl rfl rfl (Qa Qd (Qa Qd QbC))) (ZM rfl rfl rfl rfl (frzL_T _ hOT)))) QbC) (by intro i y hy; simp at hy), ?_⟩
  have kBC := QsQ Z Y FB OO S26
  generalize QuI Z Y FB OO S26 = BC at *
  simp (maxSteps := 4000000) (disch := omega) only [rq, simprocAttr]
  refine QP.by (ι := Nat) (fun k => ⟨[(16, .int .i64 k), (14, .list 16 BC), (12, .cell [.int .i64 2, .int .i64 16, .int .i64 1, .str Y, .list 0 [], .list 0 [], .list 0 [], .list 0 [], .bool false, .int .i64 0]), (0, .bool false), (3, .int .i64 2), (5, .int .i64 2), (7, .int .i64 2), (9, .int .i64 2), (11, .int .i64 2), (13, .int .i64 0)], []⟩) (fun k => k ≤ 16) (fun k => 16 - k) 0 (Le.slots (by simp [Am.look])) (by omega) ?_
  intro k hk
  by_cases hlt2 : k < 16
  ·have hb' := hbad k hlt2
   have h10 : 10 ≤ (BC.drop (k * 10)).length := by rw [List.length_drop, kBC]; omega
   simp (maxSteps := 4000000) (disch := omega) only [rq, simprocAttr, h10]
   refine Qb.vc hb' ?_
   simp (maxSteps := 4000000) (disch := omega) only [rq, simprocAttr]
   exact ⟨k + 1, by omega, by omega, Le.slots (by simp [Am.look])⟩
  obtain rfl : k = 16 := by omega
  clear hbad kBC
  have tSK := Qy sK
  have hKT : isTL Qte = true := Zy _
  have t25 := Qy s25
  have t5 := Qy s5
  have hl25 : s25.length = 25 := List.length_replicate
  have hl5 : s5.length = 5 := List.length_replicate
  have z25 : Qe [.int .u8 0] 25 = u8 s25 := J0 25
  have z25' : Qe [.int .u8 0] (Int.toNat 25) = u8 s25 := J0 25
  have z5 : Qe [.int .u8 0] 5 = u8 s5 := J0 5
  have z5' : Qe [.int .u8 0] (Int.toNat 5) = u8 s5 := J0 5
  have zK : Qe [.int .u8 0] 1000 = u8 sK := J0 1000
  have zK' : Qe [.int .u8 0] (Int.toNat 1000) = u8 sK := J0 1000
  generalize s25 = S25 at *
  generalize s5 = S5 at *
  generalize sK = SK at *
  simp (maxSteps := 4000000) (disch := omega) only [rq, simprocAttr, ↓z25, ↓z25', ↓z5, ↓z5', ↓zK, ↓zK']
  refine Q2.vc hO' ?_
  simp (maxSteps := 4000000) (disch := omega) only [rq, simprocAttr, ↓zK, ↓zK', QR]
  refine Q2.vc m1 ?_
  simp (maxSteps := 4000000) (disch := omega) only [rq, simprocAttr]
  refine Qb.still 1 [7] f1 (by simp [QS, QF, frzL, Qu, isDL, isD, frzL_T _ hKT]) ?_
  simp (maxSteps := 4000000) (disch := omega) only [rq, simprocAttr, Qm]
  refine Qb.vc f2 ?_
  simp (maxSteps := 4000000) (disch := omega) only [rq, simprocAttr]
  refine Qb.vc i1 ?_
  simp (maxSteps := 4000000) (disch := omega) only [rq, simprocAttr]
  refine Qb.vc f3 ?_
  simp (maxSteps := 4000000) (disch := omega) only [rq, simprocAttr]
  refine Qb.vc i2 ?_
  simp (maxSteps := 4000000) (disch := omega) only [rq, simprocAttr]
  refine Qb.vc f4 ?_
  simp (maxSteps := 4000000) (disch := omega) only [rq, simprocAttr]
  refine Qb.vc i3 ?_
  simp (maxSteps := 4000000) (disch := omega) only [rq, simprocAttr]
  refine Qb.vc D1 ?_
  simp only [XO, XQ, il, bss, bs] at m2 i4 D2 S1
  simp (maxSteps := 4000000) (disch := omega) only [rq, simprocAttr]
  refine Qb.still 1 [16] m2 (by simp [QS, QF, frzL, Qu, isDL, isD]) ?_
  simp (maxSteps := 4000000) (disch := omega) only [rq, simprocAttr, Qm]
  refine Qb.vc i4 ?_
  simp (maxSteps := 4000000) (disch := omega) only [rq, simprocAttr]
  refine Qb.vc D2 ?_
  simp (maxSteps := 4000000) (disch := omega) only [rq, simprocAttr]
  refine Qb.flat 2 G1 rfl (by simp [QS, QF, frzL, Qu, isDL, isD, frzL_T _ t25, frzL_T _ t5]) ?_
  simp (maxSteps := 4000000) (disch := omega) only [rq, simprocAttr]
  refine Qb.vc S1 ?_
  simp (maxSteps := 4000000) (disch := omega) only [rq, simprocAttr]
  refine Qb.vc hA' ?_
  simp (maxSteps := 4000000) (disch := omega) only [rq, simprocAttr]
end Go.Am
