/- What the functions that the law reaches return, for every program that has their code; the conditions stand in each statement. -/
import Derived.Test.YtghngklehkkecacGreatDoorPushencPiecesL2
set_option linter.unusedSectionVars false
set_option linter.unusedSimpArgs false
set_option linter.unusedVariables false
namespace Go.Am
open Go.RowKit
set_option maxRecDepth 20000 in
set_option maxHeartbeats 4000000 in
theorem QhF {P : Prg} {f fC fR fS fK fT fE t0 tf tj : Nat} (bd : Qf P f 44 [.tmp 2] (Q1 fC fR fS fK tj)) (hC : Qd6 P fC) (hR : QkQ P fR) (hS : Qdz P fS) (bK : Qf P fK 46 [.tmp 2] (Zr fT fE t0 tf)) (hT : QfO P fT) (hE : QmH P fE)
  {e : Enc} (h : OkG e) {m : List UInt8} (hm : (m.length : Int) = e.ch * e.bits / 8) {te tb tl : Nat} {x1 x6 : Ob} (hx1 : isDL x1.cs = true) (hx6 : isDL x6.cs = true) {K : AV → List Ob → Prop}
  (h18 : Qa3 e.ch (e.frs.length + 1) (Qt e (Qd e.rate) + 1) = false → K (.int .i64 18) [⟨te, 10, 1, QeY e (.own 2 m.length) (.own 3 e.smp.length) (.own 4 e.frs.length) (.list 0 []), 0⟩, x1, ⟨tb, 1, m.length, u8 m, 0⟩, ⟨tj, 1, e.smp.length, ks .i32 e.smp, 0⟩, ⟨tf, 1, e.frs.length, e.frs.map bs, 0⟩, ⟨tl, 1, 1, [.int .i64 (Qd e.rate)], 0⟩, x6])
  (hA : Qa3 e.ch (e.frs.length + 1) (Qt e (Qd e.rate) + 1) = true → ((ZV e m).smp.length : Int) < Qd e.rate * e.ch → K (.int .i64 0) [⟨te, 10, 1, QeY e (.emp true) (.own 3 (ZV e m).smp.length) (.own 4 e.frs.length) (.list 0 []), 0⟩, x1, ⟨tb, 1, m.length, u8 m, m.length⟩, ⟨tj, 1, (ZV e m).smp.length, ks .i32 (ZV e m).smp, 0⟩, ⟨tf, 1, e.frs.length, e.frs.map bs, 0⟩, ⟨tl, 1, 1, [.int .i64 (Qd e.rate)], 0⟩, x6])
  (hB : Qa3 e.ch (e.frs.length + 1) (Qt e (Qd e.rate) + 1) = true → ¬ ((ZV e m).smp.length : Int) < Qd e.rate * e.ch → K (.int .i64 0) [⟨te, 10, 1, QeY e (.emp true) (.emp true) (.own 4 (e.frs.length + 1)) (.list 0 []), 0⟩, x1, ⟨tb, 1, m.length, u8 m, m.length⟩, ⟨tj, 1, (ZV e m).smp.length, ks .i32 (ZV e m).smp, (ZV e m).smp.length⟩, ⟨tf, 1, e.frs.length + 1, (Xj (ZV e m)).frs.map bs, 0⟩, ⟨tl, 1, 1, [.int .i64 (Qd e.rate)], 0⟩, x6]) :
  ACall P f [.ref 0 1 0, .ref 5 1 0] [⟨te, 10, 1, QeY e (.own 2 m.length) (.own 3 e.smp.length) (.own 4 e.frs.length) (.list 0 []), 0⟩, x1, ⟨tb, 1, m.length, u8 m, 0⟩, ⟨tj, 1, e.smp.length, ks .i32 e.smp, 0⟩, ⟨tf, 1, e.frs.length, e.frs.map bs, 0⟩, ⟨tl, 1, 1, [.int .i64 (Qd e.rate)], 0⟩, x6] K := by
 obtain ⟨k, L, q, hk, k1, k6, hL, L1, L2, hlen, hq, hx, hrm, hcn, hbits⟩ := h.nat
 obtain ⟨⟨r1, r2, r3⟩, ⟨r4, r5⟩, r6⟩ := QD.1 h.r
 have hI := Qmd h.ck
 have h4 := (QbP h.ck).2.1
 have hfr := h.fr
 have hmm := JS r2 r3 r1
 let e1 : Enc := { e with rest := m }
 have hC' := hC e1 (Qd e.rate) ⟨r2, r3, hfr, by show e.smp.length ≤ 400000; omega, hI⟩ (by omega) (by omega)
 have hcn1 : Qt e1 (Qd e.rate) = Qt e (Qd e.rate) := rfl
 rw [hcn1] at hC'
 have hc0 : 0 ≤ Qt e (Qd e.rate) ∧ Qt e (Qd e.rate) ≤ 4000 := by
  rw [hcn]
  have : e.frs.length * L + q ≤ 4000 := Nat.le_trans (Nat.le_mul_of_pos_right _ (by omega)) hrm
  omega
 have hR' := hR e1 (e.frs.length + 1) (Qt e (Qd e.rate) + 1) r2 r3 (by omega) (by omega)
 have hml : m.length ≤ 18 := by omega
 have hS' := hS e.bits m (by omega)
 have hsl := Qli hx r2 r3 hm
 have t1 := Qr m
 have t2 := Qq .i32 e.smp
 have t3 := Q7 e.frs
 have e1c : e1.ch = e.ch := rfl
 have hout : bs e.out = .list 0 [] := by rw [h.out]; rfl
 simp only [Jf, ZI, il, bss, e1] at hC' hR'
 rw [hout] at hC' hR'
 rw [bs] at hC' hR' hS'
 have kc := Qe .i32 e.smp
 have hbl : (e.frs.map bs).length = e.frs.length := by simp
 cases hroom : Qa3 e.ch (e.frs.length + 1) (Qt e (Qd e.rate) + 1) with
 | false =>
  have hk18 := h18 hroom
  rw [hroom] at hR'
  generalize hcc : Qt e (Qd e.rate) = CC at *
  simp only [QeY] at hk18 ⊢
  refine ACall.of_body bd (by simp) ?_
  simp (maxSteps := 4000000) (disch := omega) only [rq, simprocAttr, Q1]
  refine Q4.ro (fun K hK => ACall.of_vc_flat 1 (by simp [QT, QF, frzL, QE, isDL, isD, frzL_T _ t1, frzL_T _ t2, frzL_T _ t3]) hC' rfl hK) ?_
  simp (maxSteps := 4000000) (disch := omega) only [rq, simprocAttr]
  refine callE.ro (fun K hK => ACall.of_vc_flat 1 (by simp [QT, QF, frzL, QE, isDL, isD, frzL_T _ t1, frzL_T _ t2, frzL_T _ t3]) hR' rfl hK) ?_
  simp (maxSteps := 4000000) (disch := omega) only [rq, simprocAttr]
  exact hk18
 | true =>
  have hkA := hA hroom
  have hkB := hB hroom
  obtain ⟨_, hask, hs4, hI4⟩ := QeH h hm hroom
  have cK := fun (x2 : Ob) (hx2 : isDL x2.cs = true) (T : List Ob) (hT1 : T = [] ∨ ∃ x y, T = [x, y]) (hlo : Low (5 + T.length) (⟨te, 10, 1, QeY (ZV e m) (.emp true) (.own 3 (ZV e m).smp.length) (.own 4 (ZV e m).frs.length) (.list 0 []), 0⟩ :: x1 :: x2 :: ⟨tj, 1, (ZV e m).smp.length, ks .i32 (ZV e m).smp, 0⟩ :: ⟨tf, 1, (ZV e m).frs.length, (ZV e m).frs.map bs, 0⟩ :: T)) (K : AV → List Ob → Prop) hK =>
   Qeh (e := ZV e m) bK hT hE (by show ¬ 64 < e.pw.length; omega) hask hI4 (by show e.frs.length ≤ 1001; omega) hs4 hT1 hlo (K := K) hK
  rw [hroom] at hR'
  generalize hcc : Qt e (Qd e.rate) = CC at *
  simp only [QeY] at hkA hkB ⊢
  have hsm : (ZV e m).smp = e.smp ++ Z2 e.bits m := rfl
  have hml2 : (ZV e m).smp.length = e.smp.length + (Z2 e.bits m).length := by rw [hsm, List.length_append]
  have hkk : ks .i32 e.smp ++ ks .i32 (Z2 e.bits m) = ks .i32 (ZV e m).smp := by rw [hsm, Qfq]
  have kc2 := Qe .i32 (Z2 e.bits m)
  have hsA : Jt e.bits m = .tup [.list (Z2 e.bits m).length (ks .i32 (Z2 e.bits m)), .int .i64 0] := by
   have hd0 : 0 < (e.bits / 8).toNat := by rcases hbits with b | b | b <;> rw [b] <;> decide
   have hd1 : m.length % (e.bits / 8).toNat = 0 := by rcases hbits with b | b | b <;> rw [b] at hm ⊢ <;> simp at hm ⊢ <;> omega
   have hd2 : m.length / (e.bits / 8).toNat ≤ 4000 := Nat.le_trans (Nat.div_le_self _ _) (by omega)
   rw [Jt, if_neg hx, if_neg (by omega), if_neg (by omega), il]
  rw [hsA] at hS'
  have hmul : Qd e.rate * e.ch = ((L * k : Nat) : Int) := by rw [hL, hk]; simp
  have hLk : L * k ≤ 6573924 := by
   have : L * k ≤ 1095654 * 6 := Nat.mul_le_mul L2 k6
   omega
  rw [hmul] at hkA hkB
  generalize Z2 e.bits m = SL at *
  by_cases hlt : ((ZV e m).smp.length : Int) < ((L * k : Nat) : Int)
  ·have hk' := hkA hlt
   refine ACall.of_body bd (by simp) ?_
   simp (maxSteps := 4000000) (disch := omega) only [rq, simprocAttr, Q1]
   refine Q4.ro (fun K hK => ACall.of_vc_flat 1 (by simp [QT, QF, frzL, QE, isDL, isD, frzL_T _ t1, frzL_T _ t2, frzL_T _ t3]) hC' rfl hK) ?_
   simp (maxSteps := 4000000) (disch := omega) only [rq, simprocAttr]
   refine callE.ro (fun K hK => ACall.of_vc_flat 1 (by simp [QT, QF, frzL, QE, isDL, isD, frzL_T _ t1, frzL_T _ t2, frzL_T _ t3]) hR' rfl hK) ?_
   simp (maxSteps := 4000000) (disch := omega) only [rq, simprocAttr]
   refine Qa.still 1 [2] hS' (by simp [QT, QF, frzL, QE, frzL_T _ t1]) ?_
   simp (maxSteps := 4000000) (disch := omega) only [rq, simprocAttr, Qi, kc, kc2, hkk, hmul]
   simpa only [hml2] using hk'
  ·have hk' := hkB hlt
   refine ACall.of_body bd (by simp) ?_
   simp (maxSteps := 4000000) (disch := omega) only [rq, simprocAttr, Q1]
   refine Q4.ro (fun K hK => ACall.of_vc_flat 1 (by simp [QT, QF, frzL, QE, isDL, isD, frzL_T _ t1, frzL_T _ t2, frzL_T _ t3]) hC' rfl hK) ?_
   simp (maxSteps := 4000000) (disch := omega) only [rq, simprocAttr]
   refine callE.ro (fun K hK => ACall.of_vc_flat 1 (by simp [QT, QF, frzL, QE, isDL, isD, frzL_T _ t1, frzL_T _ t2, frzL_T _ t3]) hR' rfl hK) ?_
   simp (maxSteps := 4000000) (disch := omega) only [rq, simprocAttr]
   refine Qa.still 1 [2] hS' (by simp [QT, QF, frzL, QE, frzL_T _ t1]) ?_
   simp (maxSteps := 4000000) (disch := omega) only [rq, simprocAttr, Qi, kc, kc2, hkk, hmul]
   rw [← hml2]
   refine cK ⟨tb, 1, m.length, u8 m, m.length⟩ (QV _) [⟨tl, 1, 1, [.int .i64 (Qd e.rate)], 0⟩, x6] (.inr ⟨_, _, rfl⟩) ?_ _ ?_
   ·refine Low.cons ?_ (Low.cons (lowL_D _ hx1) (Low.cons (lowL_D _ (QV _)) (Low.cons (lowL_D _ (QB _ _)) (Low.cons (lowL_D _ (Zl _)) (Low.cons (lowL_D _ (by simp [isDL, isD])) (Low.cons (lowL_D _ hx6) Low.nil))))))
    simp [QeY, lowL, XV]
   ·simp (maxSteps := 4000000) (disch := omega) only [rq, simprocAttr]
    exact hk'
theorem Qg3 (e : Enc) (l : List UInt8) (j : Nat) (h : j < l.length) (h0 : (QJ e (l.take j)).2 = 0) : QJ e (l.take (j + 1)) = Qbt (QJ e (l.take j)).1 l[j] := by
 rw [List.take_succ_eq_append_getElem h, Qdr, if_neg (by rw [h0]; simp), QJ]
 by_cases h1 : (Qbt (QJ e (l.take j)).1 l[j]).2 ≠ 0
 ·rw [if_pos h1]
 ·rw [if_neg h1, QJ]
  have : (Qbt (QJ e (l.take j)).1 l[j]).2 = 0 := by simpa using h1
  rw [← this]
theorem Qoz {e : Enc} {l : List UInt8} {j : Nat} (h : j < l.length) (h0 : (QJ e (l.take j)).2 = 0) {r : Enc × Int} (hb : Qbt (QJ e (l.take j)).1 l[j] = r) (hr : r.2 ≠ 0) : QJ e l = r := by
 have hs := Qg3 e l j h h0
 conv => lhs; rw [← List.take_append_drop (j + 1) l]
 rw [Qdr, hs, hb, if_pos hr]
theorem Qkl (e : Enc) (m : List UInt8) : (Xj (ZV e m)).frs.length = e.frs.length + 1 := by simp [Xj, ZV]
def Qd3 (P : Prg) (f : Nat) : Prop := ∀ (e : Enc) (l : List UInt8), okC e → (∀ b ∈ e.frs, b.length ≤ 1000000) → l.length ≤ 1000000 → VC P f [Jf e, bs l] (.tup [Jf (ZB e l).1, .int .i64 (ZB e l).2])
def fdL (e : Enc) : List AV := QeY e (.own 2 e.rest.length) (.own 3 e.smp.length) (.own 4 e.frs.length) (.list 0 [])
def QcI : List AV := [.int .i64 0, .int .i64 0, .int .i64 0, .str [], .emp true, .emp true, .emp true, .emp true, .bool false, .int .i64 0]
def fdS (t0 t1 tb tj tf : Nat) (e : Enc) : List Ob := [⟨t0, 10, 1, fdL e, 0⟩, ⟨t0, 10, 1, QcI, 0⟩, ⟨tb, 1, e.rest.length, u8 e.rest, 0⟩, ⟨tj, 1, e.smp.length, ks .i32 e.smp, 0⟩, ⟨tf, 1, e.frs.length, e.frs.map bs, 0⟩, ⟨t1, 1, 1, [.int .i64 (Qd e.rate)], 0⟩]
set_option maxRecDepth 20000 in
set_option maxHeartbeats 4000000 in
theorem QjG {P : Prg} {f fB fM fW fF fC fL fT fK fJ fCt fR fS fc fTp fE t0 t1 tb tj tf tz : Nat} (bd : Qf P f 55 [.cell 4 t0, .tmp 5] (J1 fB fM fW fF t0 t1 tb)) (bB : Qf P fB 33 [.cell 2 t0, .tmp 3, .tmp 4] (Zc fC fL fT t0)) (hC : Qch P fC) (hL : Xf P fL) (bT : Qf P fT 42 [.cell 2 t0] (Q5 fK fJ t0 tf)) (hK1 : JH tb P fK) (hJ : J5 tj P fJ) (ht : ZK P t0 = some (some 10)) (hM : QeZ P fM) (bW : Qf P fW 44 [.tmp 2] (Q1 fCt fR fS fc tj)) (hCt : Qd6 P fCt) (hR : QkQ P fR) (hS : Qdz P fS) (bc : Qf P fc 46 [.tmp 2] (Zr fTp fE tz tf)) (hT : QfO P fTp) (hE : QmH P fE) (hF : QiN P fF) : Qd3 P f := by
 intro e l ho hfr hl
 have isDenc : ∀ e : Enc, isD (Jf e) = true := Xi
 refine VC.of_walk 2 (by simp [isDL, Xi, QP]) (by simp [isD, isDL, Xi]) (ACall.of_body bd (by simp) ?_)
 have q1 : isDL (ZI e) = true := by simp [ZI, isDL, isD, QP, Zu, QbN]
 have q2 : isDL QcI = true := by simp [isDL, isD, QcI]
 have hlow : Low 2 [⟨t0, 10, 1, ZI e, 0⟩, ⟨t0, 10, 1, QcI, 0⟩] := Low.cons (lowL_D _ q1) (Low.cons (lowL_D _ q2) Low.nil)
 have t1' := Qr e.rest
 have t2' := Qq .i32 e.smp
 have t3' := Q7 e.frs
 have t4' := Qr e.out
 have beg := fun {K : AV → List Ob → Prop} => Qda bB hC hL bT hK1 hJ ht ho hfr (ob := [⟨t0, 10, 1, ZI e, 0⟩, ⟨t0, 10, 1, QcI, 0⟩]) hlow (K := K)
 simp only [Jf, ZI, il, bss, bs, QcI, List.cons_append, List.nil_append, List.length_cons, List.length_nil, twA, twO] at beg ⊢
 simp (maxSteps := 4000000) (disch := omega) only [rq, simprocAttr, J1]
 refine beg (fun h8 => ?_) (fun h0 => ?_)
 ·have hfe : ZB e l = (Qen, 8) := by rw [ZB, if_pos (by omega)]
  rw [hfe]
  simp (maxSteps := 4000000) (disch := omega) only [rq, simprocAttr, QrB, ZL, ht, Q3]
  simp [QT, QF, frzL, QE, Qen, isDL, isD, ks, u8]
 have hr := QcL h0
 obtain ⟨⟨r1, r2, r3⟩, ⟨r4, r5⟩, r6⟩ := QD.1 hr
 by_cases hst : QcE e = 0
 case neg =>
  have hfe : ZB e l = (e, QcE e) := by
   rw [ZB, if_neg (by omega)]
   unfold QcE at hst ⊢
   by_cases h1 : e.err ≠ 0
   ·rw [if_pos h1, if_pos h1]
   ·rw [if_neg h1, if_neg h1]
    rw [if_neg h1] at hst
    by_cases h2 : e.done = true
    ·rw [if_pos h2, if_pos h2]
    ·rw [if_neg h2] at hst; simp at hst
  rw [hfe]
  simp (maxSteps := 4000000) (disch := omega) only [rq, simprocAttr, ZL, ht, Q3]
  simp [QT, QF, frzL, QE, frzL_T _ t1', frzL_T _ t2', frzL_T _ t3', frzL_T _ t4']
 rw [hst]
 have hG : OkG e := by
  unfold QcE at hst
  by_cases h1 : e.err ≠ 0
  ·rw [if_pos h1] at hst; omega
  ·rw [if_neg h1] at hst
   refine Qs5 h0 (by simpa using h1) ?_
   cases hd : e.done
   ·rfl
   ·rw [hd] at hst; simp at hst
 have hM' := hM e.ch e.bits r2 r3 r1
 rw [shA] at hM'
 rw [QdS hG]
 have hout : e.out = [] := hG.out
 rw [hout]
 have hmul := JS r2 r3 r1
 simp (maxSteps := 4000000) (disch := omega) only [rq, simprocAttr, Qab]
 refine Qa.vc hM' ?_
 simp (maxSteps := 4000000) (disch := omega) only [rq, simprocAttr]
 refine QN.by (ι := Nat) (fun j => ⟨[(29, .int .i64 j), (28, .int .i64 l.length), (27, .list l.length (u8 l)), (9, .fn (.func fW) [] [.ref 0 1 0, .ref 5 1 0]), (8, .int .i64 (e.ch * e.bits / 8)), (2, .ref 0 1 0), (4, .ref 1 1 0)], fdS t0 t1 tb tj tf (QJ e (l.take j)).1⟩) (fun j => j ≤ l.length ∧ (QJ e (l.take j)).2 = 0 ∧ OkG (QJ e (l.take j)).1 ∧ Sib (QJ e (l.take j)).1 e) (fun j => l.length - j) 0 ?_ ⟨by omega, rfl, hG, rfl, rfl, rfl, rfl⟩ ?_
 ·simp only [List.take_zero, QJ, fdS, fdL, QeY, QcI]
  exact Le.slots (by simp [Am.look])
 intro j ⟨hj, hz, hGj, hsib⟩
 by_cases hlt : j < l.length
 ·have hu := QvH (l := l) (k := j) hlt
  have hsn := Qg3 e l j hlt hz
  have hstop := fun r hb hr => Qoz (e := e) (l := l) (j := j) hlt hz (r := r) hb hr
  generalize hEq : (QJ e (l.take j)).1 = E at *
  generalize hcq : l[j] = c at *
  obtain ⟨s1, s2, s3, s4⟩ := hsib
  have hrest := hGj.rest
  have hbe : Qbt E c = if (E.rest.length : Int) + 1 < E.ch * E.bits / 8 then ({ E with rest := E.rest ++ [c] }, 0)
    else if Qa3 E.ch (E.frs.length + 1) (Qt E (Qd E.rate) + 1) = false then (Xt E 18, 18) else (Xn E (E.rest ++ [c]), 0) := rfl
  have hcat : u8 E.rest ++ [.int .u8 (c.toNat : Int)] = u8 (E.rest ++ [c]) := by simp [u8]
  have hml : (E.rest ++ [c]).length = E.rest.length + 1 := by simp
  have ku := Qz E.rest
  have ku2 := Qz (E.rest ++ [c])
  have hb18 : E.ch * E.bits / 8 ≤ 18 := by rw [s1, s2]; omega
  simp only [fdS, fdL, QeY, QcI]
  by_cases hsz : (E.rest.length : Int) + 1 < E.ch * E.bits / 8
  ·rw [if_pos hsz] at hbe
   have hsz' : (E.rest.length : Int) + 1 < e.ch * e.bits / 8 := by rw [← s1, ← s2]; exact hsz
   simp (maxSteps := 4000000) (disch := omega) only [rq, simprocAttr, hu, ku, hcat, ku2]
   rw [hbe] at hsn
   have hb := Qmj c hGj
   rw [hbe] at hb
   refine ⟨j + 1, ⟨by omega, by rw [hsn], ?_, ?_⟩, by omega, ?_⟩
   ·rw [hsn]
    rcases hb with hb | hb
    ·exact hb.2
    ·have := congrArg Prod.snd hb; simp at this
   ·rw [hsn]; exact ⟨s1, s2, s3, s4⟩
   ·rw [hsn]
    simp only [fdS, fdL, QeY, QcI, hml]
    exact Le.pickTo [0, 1, 2, 3, 4, 5] (by decide) (by simp) (by simp [Am.look, rnV, rnL, pk, rnL_D _ _ (QV _), List.idxOf_cons]) (by simp [pkO, rnV, rnL, pk, rnL_D _ _ (QV _), rnL_D _ _ (QB _ _), rnL_D _ _ (Zl _), List.idxOf_cons])
  ·rw [if_neg hsz] at hbe
   have hsz' : ¬ (E.rest.length : Int) + 1 < e.ch * e.bits / 8 := by rw [← s1, ← s2]; exact hsz
   have hm : ((E.rest ++ [c]).length : Int) = E.ch * E.bits / 8 := by rw [hml]; omega
   simp (maxSteps := 4000000) (disch := omega) only [rq, simprocAttr, hu, ku, hcat, ku2]
   rw [← hml]
   refine QhF bW hCt hR hS bc hT hE hGj hm (x1 := ⟨t0, 10, 1, QcI, 0⟩) (x6 := ⟨tb, 1, 1, [.int .u8 (c.toNat : Int)], 0⟩) q2 (by simp [isDL, isD]) (fun h18 => ?_) (fun hA hlt2 => ?_) (fun hB hnlt => ?_)
   ·rw [if_pos h18] at hbe
    rw [hstop _ hbe (by simp)]
    let E1 : Enc := { E with rest := E.rest ++ [c] }
    have hF' := hF E1 18
    have u1 := Qr (E.rest ++ [c])
    have u2 := Qq .i32 E.smp
    have u3 := Q7 E.frs
    have hoE : bs E.out = .list 0 [] := by rw [hGj.out]; rfl
    simp only [Jf, ZI, il, bss, E1] at hF'
    rw [hoE, bs] at hF'
    simp (maxSteps := 4000000) (disch := omega) only [rq, simprocAttr, QeY]
    refine Qa.still 1 [2, 3, 4] hF' (by simp [QT, QF, frzL, QE, isDL, isD, frzL_T _ u1, frzL_T _ u2, frzL_T _ u3]) ?_
    simp (maxSteps := 4000000) (disch := omega) only [rq, simprocAttr, Qi, QrB, QcI, ZL, ht, Q3]
    simp [QT, QF, frzL, QE, Xt, isDL, isD, ks, u8]
   ·rw [if_neg (by rw [hA]; simp)] at hbe
    have hw : Xn E (E.rest ++ [c]) = ZV E (E.rest ++ [c]) := by rw [Xn, if_pos hlt2]
    obtain ⟨hGw, _⟩ := QeH hGj hm hA
    rw [hw] at hbe hGw
    rw [hbe] at hsn
    simp (maxSteps := 4000000) (disch := omega) only [rq, simprocAttr, QeY]
    refine ⟨j + 1, ⟨by omega, by rw [hsn], by rw [hsn]; exact hGw, by rw [hsn]; exact ⟨s1, s2, s3, s4⟩⟩, by omega, ?_⟩
    rw [hsn]
    simp only [fdS, fdL, QeY, QcI]
    refine Le.trans (Le.virtC 0 4 tb 1 (by decide) rfl rfl) (Le.pickTo [0, 1, 7, 3, 4, 5] (by decide) (by simp) (by simp [Am.look, rnV, rnL, pk, rnL_D _ _ (QV _), List.idxOf_cons]) ?_)
    simp [pkO, rnV, rnL, pk, rnL_D _ _ (QV _), rnL_D _ _ (QB _ _), rnL_D _ _ (Zl _), List.idxOf_cons, ZV, Qab, QaL]
   ·rw [if_neg (by rw [hB]; simp)] at hbe
    have hw : Xn E (E.rest ++ [c]) = Xj (ZV E (E.rest ++ [c])) := by rw [Xn, if_neg hnlt]
    obtain ⟨hGw, _⟩ := QeH hGj hm hB
    rw [hw] at hbe hGw
    rw [hbe] at hsn
    simp (maxSteps := 4000000) (disch := omega) only [rq, simprocAttr, QeY]
    refine ⟨j + 1, ⟨by omega, by rw [hsn], by rw [hsn]; exact hGw, by rw [hsn]; exact ⟨s1, s2, s3, s4⟩⟩, by omega, ?_⟩
    rw [hsn]
    simp only [fdS, fdL, QeY, QcI, Qkl]
    refine Le.trans (Le.virtC 0 4 tb 1 (by decide) rfl rfl) (Le.trans (Le.virtC 0 5 tj 1 (by decide) rfl rfl) (Le.pickTo [0, 1, 7, 8, 4, 5] (by decide) (by simp) (by simp [Am.look, rnV, rnL, pk, rnL_D _ _ (QV _), List.idxOf_cons]) ?_))
    simp [pkO, rnV, rnL, pk, rnL_D _ _ (QV _), rnL_D _ _ (QB _ _), rnL_D _ _ (Zl _), List.idxOf_cons]
    simp [ZV, Xj, Qab, QaL]
 ·have ej : j = l.length := by omega
  subst ej
  rw [List.take_length] at hz hGj ⊢
  have hoE : bs (QJ e l).1.out = .list 0 [] := by rw [hGj.out]; rfl
  have hoE2 : (QJ e l).1.out.length = 0 ∧ u8 (QJ e l).1.out = [] := by rw [hGj.out]; exact ⟨rfl, rfl⟩
  rw [hz]
  generalize (QJ e l).1 = E at *
  have u1 := Qr E.rest
  have u2 := Qq .i32 E.smp
  have u3 := Q7 E.frs
  simp only [fdS, fdL, QeY, QcI]
  simp (maxSteps := 4000000) (disch := omega) only [rq, simprocAttr, ZL, ht, Q3]
  simp [QT, QF, frzL, QE, frzL_T _ u1, frzL_T _ u2, frzL_T _ u3, hoE2]
def Qf1 (P : Prg) (f : Nat) : Prop := ∀ p : List UInt8, p.length ≤ 64 → VC P f [.str p] (.tup [.int .i64 (QbO p), .int .i64 0])
theorem Qh9 {P : Prg} {f : Nat} (bd : Qf P f 12 [.tmp 2, .tmp 3] Xe) : Qf1 P f := by
 intro p hp
 refine VC.of_acall rfl rfl (ACall.of_body bd (by simp) ?_)
 by_cases hn : p = []
 ·subst hn
  have : QbO [] = 1 := rfl
  rw [this]
  simp (maxSteps := 4000000) (disch := omega) only [rq, simprocAttr, Xe]
 ·have hl : p.length ≠ 0 := by simpa using hn
  rw [QbO, if_neg hn]
  simp (maxSteps := 4000000) (disch := omega) only [rq, simprocAttr, Xe]
def Qd5 (t : Nat) (P : Prg) (g : Nat) : Prop := ∀ f c b r n : Int, hdN f c b r n = 0 → VO P g [hdA f c b r n] (.tup [.own 0 22, .int .i64 0]) ⟨t, 1, 22, u8 (hdB f.toNat c.toNat b.toNat r.toNat n.toNat), 1⟩
set_option maxHeartbeats 2000000 in
theorem QhX {P : Prg} {g fC fB fS t0 t1 g0 : Nat} (bd : Qf P g 63 [.tmp 2, .tmp 3] (Zs fC fB fS t0 t1 g0)) (hC : QdA P fC) (hB : J4 P fB) (hS : Qg5 P fS) (h0 : P.G.lookup g0 = some QuD) : Qd5 t1 P g := by
 intro f c b r n h
 refine VO.of_walk rfl (QV _) (by simp [okr, Am.flat]) (ACall.of_body bd (by simp) ?_)
 have hC' := hC f c b r n
 have g0' : Qsy P.G g0 = .cell QuD := by simp [Qsy, h0]
 rw [h] at hC'
 obtain ⟨f, c, b, r, n, rfl, rfl, rfl, rfl, rfl, a1, a2, a3, a4, a5⟩ := QlK h
 simp only [Int.toNat_natCast]
 rw [hdA] at hC' ⊢
 have B1 := hB f 2 (by omega) (by omega) (by simp; omega)
 have B2 := hB c 2 (by omega) (by omega) (by simp; omega)
 have B3 := hB b 2 (by omega) (by omega) (by simp; omega)
 have B4 := hB r 4 (by omega) (by omega) (by simp; omega)
 have B5 := hB n 4 (by omega) (by omega) (by simp; omega)
 rw [bs, Qb] at B1 B2 B3 B4 B5
 have u2 : ∀ m, (u8 (leB m 2)).length = 2 := fun m => by rw [Qz, Qb]
 have u4 : ∀ m, (u8 (leB m 4)).length = 4 := fun m => by rw [Qz, Qb]
 have c0 : u8 (hdP f c b r n 0) ++ u8 (leB f 2) = u8 (hdP f c b r n 1) := by simp [hdP, u8]
 have c1 : u8 (hdP f c b r n 1) ++ u8 (leB c 2) = u8 (hdP f c b r n 2) := by simp [hdP, u8]
 have c2 : u8 (hdP f c b r n 2) ++ u8 (leB b 2) = u8 (hdP f c b r n 3) := by simp [hdP, u8]
 have c3 : u8 (hdP f c b r n 3) ++ u8 (leB r 4) = u8 (hdP f c b r n 4) := by simp [hdP, u8]
 have c4 : u8 (hdP f c b r n 4) ++ u8 (leB n 4) = u8 (hdP f c b r n 5) := by simp [hdP, u8]
 have l0 : (hdP f c b r n 0).length = 4 := rfl
 have l1 : (hdP f c b r n 1).length = 6 := by simp [hdP, Qb]
 have l2 : (hdP f c b r n 2).length = 8 := by simp [hdP, Qb]
 have l3 : (hdP f c b r n 3).length = 10 := by simp [hdP, Qb]
 have l4 : (hdP f c b r n 4).length = 14 := by simp [hdP, Qb]
 have l5 : (hdP f c b r n 5).length = 18 := by simp [hdP, Qb]
 have e0 : u8 (hdP f c b r n 0) = [.int .u8 84, .int .u8 84, .int .u8 65, .int .u8 49] := rfl
 have hcat : u8 (hdP f c b r n 5) ++ u8 (leB (QbG (hdP f c b r n 5)) 4) = u8 (hdB f c b r n) := by simp [u8, hdB, Zj]
 have hlen : (hdB f c b r n).length = 22 := by rw [hdB, Zj, List.length_append, Qb, l5]
 have hS' := hS (hdP f c b r n 5)
 rw [if_neg (by omega), ← QbG, bs, l5] at hS'
 have hsm : QbG (hdP f c b r n 5) < 4294967296 := by unfold QbG; omega
 have B6 := hB (QbG (hdP f c b r n 5)) 4 (by omega) (by omega) (by simpa using hsm)
 rw [bs, Qb] at B6
 have t5 := Qr (hdP f c b r n 5)
 have tb := Qr (hdB f c b r n)
 obtain ⟨H, hH⟩ : ∃ H, H = hdP f c b r n := ⟨_, rfl⟩
 rw [← hH] at c0 c1 c2 c3 c4 l0 l1 l2 l3 l4 l5 e0 hcat hS' hsm B6 t5
 generalize QbG (H 5) = sm at *
 generalize hdB f c b r n = D at *
 have g0'' : Qsy P.G g0 = .cell [.int .i64 2, .int .i64 2, .int .i64 2, .int .i64 4, .int .i64 4] := g0'
 simp (maxSteps := 4000000) (disch := omega) only [rq, simprocAttr, Zs]
 refine Qa.vc hC' ?_
 simp (maxSteps := 4000000) (disch := omega) only [rq, simprocAttr]
 refine QN.by (ι := Nat) (fun j => ⟨[(32, .int .i64 j), (31, .agg [.int .i64 f, .int .i64 c, .int .i64 b, .int .i64 r, .int .i64 n]), (5, .own 1 (H j).length)], [⟨t0, 5, 1, [.int .i64 f, .int .i64 c, .int .i64 b, .int .i64 r, .int .i64 n], 0⟩, ⟨t1, 1, (H j).length, u8 (H j), 1⟩]⟩) (fun j => j ≤ 5) (fun j => 5 - j) 0 ?_ (by omega) ?_
 ·simp only [e0, l0]
  exact Le.slots (by simp [Am.look])
 intro j hj
 have hj5 : j = 0 ∨ j = 1 ∨ j = 2 ∨ j = 3 ∨ j = 4 ∨ j = 5 := by omega
 rcases hj5 with rfl | rfl | rfl | rfl | rfl | rfl
 ·simp (maxSteps := 4000000) (disch := omega) only [rq, simprocAttr, g0'', l0]
  refine Qa.vc B1 ?_
  simp (maxSteps := 4000000) (disch := omega) only [rq, simprocAttr, u2, c0]
  exact ⟨1, by omega, by omega, by rw [l1]; exact Le.slots (by simp [Am.look])⟩
 ·simp (maxSteps := 4000000) (disch := omega) only [rq, simprocAttr, g0'', l1]
  refine Qa.vc B2 ?_
  simp (maxSteps := 4000000) (disch := omega) only [rq, simprocAttr, u2, c1]
  exact ⟨2, by omega, by omega, by rw [l2]; exact Le.slots (by simp [Am.look])⟩
 ·simp (maxSteps := 4000000) (disch := omega) only [rq, simprocAttr, g0'', l2]
  refine Qa.vc B3 ?_
  simp (maxSteps := 4000000) (disch := omega) only [rq, simprocAttr, u2, c2]
  exact ⟨3, by omega, by omega, by rw [l3]; exact Le.slots (by simp [Am.look])⟩
 ·simp (maxSteps := 4000000) (disch := omega) only [rq, simprocAttr, g0'', l3]
  refine Qa.vc B4 ?_
  simp (maxSteps := 4000000) (disch := omega) only [rq, simprocAttr, u4, c3]
  exact ⟨4, by omega, by omega, by rw [l4]; exact Le.slots (by simp [Am.look])⟩
 ·simp (maxSteps := 4000000) (disch := omega) only [rq, simprocAttr, g0'', l4]
  refine Qa.vc B5 ?_
  simp (maxSteps := 4000000) (disch := omega) only [rq, simprocAttr, u4, c4]
  exact ⟨5, by omega, by omega, by rw [l5]; exact Le.slots (by simp [Am.look])⟩
 ·simp (maxSteps := 4000000) (disch := omega) only [rq, simprocAttr, l5]
  refine Qa.flat 1 hS' rfl (by simp [QT, QF, frzL, QE, frzL_T _ t5]) ?_
  simp (maxSteps := 4000000) (disch := omega) only [rq, simprocAttr]
  refine Qa.vc B6 ?_
  simp (maxSteps := 4000000) (disch := omega) only [rq, simprocAttr, u4, hcat]
  exact ⟨1, rfl, rfl⟩
def pfB (e : Enc) (mo : Int) : List UInt8 := hdB (QbO e.pw).toNat e.ch.toNat e.bits.toNat e.rate.toNat mo.toNat ++ (QmR e.pw ++ (Zj (Jd (Zo e.frs)) ++ e.frs.flatten))
def QmE (P : Prg) (f : Nat) : Prop := ∀ (e : Enc) (mo : Int), okC e → e.pw.length ≤ 64 → hdN (QbO e.pw) e.ch e.bits e.rate mo = 0 → skN (Zo e.frs) = 0 → VC P f [Jf e, .int .i64 mo] (.tup [bs (pfB e mo), .int .i64 0])
set_option maxRecDepth 20000 in
set_option maxHeartbeats 4000000 in
theorem QjE {P : Prg} {f fF fW fD fS fC t0 tb ti : Nat} (bd : Qf P f 85 [.tmp 4, .tmp 5] (JZ fF fW fD fS fC t0 tb ti)) (hF : Qf1 P fF) (hW : Qd5 tb P fW) (hD : Qci P fD) (hS : Qdx P fS) (hC : Qe0 P fC) : QmE P f := by
 intro e mo ho hp hh hs
 obtain ⟨o0, o1, o2, o3, o4, o5⟩ := ho
 refine VC.of_walk 1 (by simp [isDL, Xi, isD]) (by simp [isD, isDL, QP]) (ACall.of_cut 1 bd (by simp) ?_)
 have hF' := hF e.pw hp
 have hW' := hW (QbO e.pw) e.ch e.bits e.rate mo hh
 have hD' := hD e.pw
 rw [Qup, if_neg (by omega)] at hD'
 rcases Qfc (Zo e.frs) with h8 | ⟨_, n1, n2, hr⟩
 ·omega
 have t1' := Qr e.rest
 have t2' := Qq .i32 e.smp
 have t3' := Q7 e.frs
 have t4' := Qr e.out
 have hlen := Qcb e.frs
 have hmb : (e.frs.map bs).length = e.frs.length := by simp
 simp only [Jf, ZI, il, bss, bs, hdA] at hW' ⊢
 simp (maxSteps := 4000000) (disch := omega) only [rq, simprocAttr, JZ, Qas]
 refine ⟨⟨[(2, .cell [.int .i64 e.ch, .int .i64 e.bits, .int .i64 e.rate, .str e.pw, .list e.rest.length (u8 e.rest), .list e.smp.length (ks .i32 e.smp), .list e.frs.length (e.frs.map bs), .list e.out.length (u8 e.out), .bool e.done, .int .i64 e.err]), (1, .int .i64 mo)], []⟩, Le.dropT [] (by simp) (by simp [Am.look, QF, frzL, QE, frzL_T _ t1', frzL_T _ t2', frzL_T _ t3', frzL_T _ t4']), ?_⟩
 simp (maxSteps := 4000000) (disch := omega) only [rq, simprocAttr, Qas]
 refine Qa.vc hF' ?_
 simp (maxSteps := 4000000) (disch := omega) only [rq, simprocAttr, Qas]
 refine Qa.vo hW' ?_
 simp (maxSteps := 4000000) (disch := omega) only [rq, simprocAttr, Qas, shr]
 have hS' := hS (Zo e.frs) (by omega) (fun v hv => by
  obtain ⟨i, hi, rfl⟩ := List.mem_iff_getElem.1 hv
  have := hr i hi
  rw [List.getD_eq_getElem?_getD, List.getElem?_eq_getElem hi] at this
  simp only [Option.getD_some] at this
  omega)
 rw [skA, if_pos hs, QoJ, hlen, bs] at hS'
 have hsum : e.frs.flatten.length ≤ 100000 := by
  have hok2 : Qlk 100000 (Zo e.frs) := by
   have hs' := hs
   unfold skN at hs'
   split at hs'
   ·cases hs'
   split at hs'
   ·assumption
   ·cases hs'
  have hff := Qc2 e.frs
  rcases Qhz hok2 with q | q
  ·rw [hff] at q; omega
  ·rw [q] at n1; simp at n1
 have tle := Qq .i64 (Zo e.frs)
 have hTl := Qjv (Zo e.frs)
 rw [hlen] at hTl
 have hpos : 0 < e.frs.flatten.length := by
  have hff := Qc2 e.frs
  have h0 := hr 0 (by omega)
  have h1 : ∀ (L : List (List UInt8)), 0 < L.length → 5 ≤ (Zo L).getD 0 0 → 0 < L.flatten.length := fun L hL h5 => by
   cases L with
   | nil => simp at hL
   | cons a L => simp [Zo] at h5 ⊢; omega
  exact h1 _ (by omega) h0.1
 have hC' := hC e.frs (by omega) hpos (by omega)
 rw [QjI, bs] at hC'
 by_cases hn : e.pw = []
 ·have hsb : QmR e.pw = [] := by rw [QmR, if_pos hn]
  have hpf : pfB e mo = hdB (QbO e.pw).toNat e.ch.toNat e.bits.toNat e.rate.toNat mo.toNat ++ (Zj (Jd (Zo e.frs)) ++ e.frs.flatten) := by rw [pfB, hsb, List.nil_append]
  have hpe : (!(e.pw == [])) = false := by simp [hn]
  have hOl := QhY (QbO e.pw).toNat e.ch.toNat e.bits.toNat e.rate.toNat mo.toNat
  rw [hpf]
  generalize hdB (QbO e.pw).toNat e.ch.toNat e.bits.toNat e.rate.toNat mo.toNat = O at *
  simp (maxSteps := 4000000) (disch := omega) only [rq, simprocAttr, Qas, QmS, hpe]
  refine QN.by (ι := Nat) (fun k => ⟨[(60, .int .i64 k), (59, .int .i64 e.frs.length), (58, .list e.frs.length (e.frs.map bs)), (11, .own 1 k), (8, .own 0 22), (2, .cell [.int .i64 e.ch, .int .i64 e.bits, .int .i64 e.rate, .str e.pw, .list e.rest.length (u8 e.rest), .list e.smp.length (ks .i32 e.smp), .list e.frs.length (e.frs.map bs), .list e.out.length (u8 e.out), .bool e.done, .int .i64 e.err])], [⟨tb, 1, 22, u8 O, 1⟩, ⟨ti, 1, k, ks .i64 ((Zo e.frs).take k), 0⟩]⟩) (fun k => k ≤ e.frs.length) (fun k => e.frs.length - k) 0 (Le.trans (Le.virt 11 ti 1 (by decide) rfl) (Le.slots (by simp [Am.look]))) (by omega) ?_
  intro k hk
  have hkl : ((Zo e.frs).take k).length = k := by rw [List.length_take]; omega
  have kkl : (ks .i64 ((Zo e.frs).take k)).length = k := by rw [Qe, hkl]
  have hcc : u8 O ++ u8 (Zj (Jd (Zo e.frs))) ++ u8 e.frs.flatten = u8 (O ++ (Zj (Jd (Zo e.frs)) ++ e.frs.flatten)) := by simp [u8]
  have tX := Qr (O ++ (Zj (Jd (Zo e.frs)) ++ e.frs.flatten))
  have kT : (u8 (Zj (Jd (Zo e.frs)))).length = (Zj (Jd (Zo e.frs))).length := Qz _
  have kF : (u8 e.frs.flatten).length = e.frs.flatten.length := Qz _
  by_cases hlt : k < e.frs.length
  ·have e1 := Qem (L := e.frs) (k := k) hlt
   have hst : ks .i64 ((Zo e.frs).take k) ++ [.int .i64 ((e.frs.getD k []).length : Int)] = ks .i64 ((Zo e.frs).take (k + 1)) := by
    have hq : (Zo e.frs)[k]? = some ((e.frs.getD k []).length : Int) := by simp [Zo, List.getD_eq_getElem?_getD, List.getElem?_eq_getElem hlt]
    have htk : (Zo e.frs).take (k + 1) = (Zo e.frs).take k ++ [((e.frs.getD k []).length : Int)] := by rw [List.take_add_one, hq]; rfl
    rw [htk]; simp [ks]
   rw [bs] at e1
   generalize e.frs.getD k [] = F at *
   simp (maxSteps := 4000000) (disch := omega) only [rq, simprocAttr, Qas, e1, hmb, kkl, hst]
   refine ⟨k + 1, by omega, by omega, ?_⟩
   exact Le.pickTo [0, 1] (by decide) (by simp) (by simp [Am.look, rnV, rnL, pk, rnL_D _ _ (QV _), rnL_D _ _ (Zl _), rnL_D _ _ (QB _ _), List.idxOf_cons]) (by simp [pkO, rnV, rnL, pk, rnL_D _ _ (QV _), rnL_D _ _ (QB _ _), rnL_D _ _ (Zl _), List.idxOf_cons])
  ·have ek : k = e.frs.length := by omega
   subst ek
   rw [show (Zo e.frs).take e.frs.length = Zo e.frs from List.take_of_length_le (by omega)] at kkl ⊢
   simp (maxSteps := 4000000) (disch := omega) only [rq, simprocAttr, Qas]
   refine Qa.still 1 [1] hS' (by simp [QT, QF, frzL, QE, frzL_T _ tle]) ?_
   simp (maxSteps := 4000000) (disch := omega) only [rq, simprocAttr, Qas, Qi]
   refine Q4.vc hC' ?_
   simp (maxSteps := 4000000) (disch := omega) only [rq, simprocAttr, Qas, hcc, kT, kF]
   simp [QT, QF, frzL, QE, frzL_T _ tX]
   try omega
 ·have hsb : QmR e.pw = leB (ZX 0 e.pw) 8 := by rw [QmR, if_neg hn]
  have hpf : pfB e mo = (hdB (QbO e.pw).toNat e.ch.toNat e.bits.toNat e.rate.toNat mo.toNat ++ leB (ZX 0 e.pw) 8) ++ (Zj (Jd (Zo e.frs)) ++ e.frs.flatten) := by rw [pfB, hsb, List.append_assoc]
  have hpe : (!(e.pw == [])) = true := by simp [hn]
  have hOc : u8 (hdB (QbO e.pw).toNat e.ch.toNat e.bits.toNat e.rate.toNat mo.toNat) ++ u8 (leB (ZX 0 e.pw) 8) = u8 (hdB (QbO e.pw).toNat e.ch.toNat e.bits.toNat e.rate.toNat mo.toNat ++ leB (ZX 0 e.pw) 8) := by simp [u8]
  have hOl : (hdB (QbO e.pw).toNat e.ch.toNat e.bits.toNat e.rate.toNat mo.toNat ++ leB (ZX 0 e.pw) 8).length = 30 := by rw [List.length_append, QhY, Qb]
  rw [hpf]
  rw [bs, Qb] at hD'
  have l8 : (u8 (leB (ZX 0 e.pw) 8)).length = 8 := by rw [Qz, Qb]
  generalize hdB (QbO e.pw).toNat e.ch.toNat e.bits.toNat e.rate.toNat mo.toNat ++ leB (ZX 0 e.pw) 8 = O at *
  simp (maxSteps := 4000000) (disch := omega) only [rq, simprocAttr, Qas, QmS, hpe]
  refine Qa.vc hD' ?_
  simp (maxSteps := 4000000) (disch := omega) only [rq, simprocAttr, Qas, hOc, l8, QhY]
  refine QN.by (ι := Nat) (fun k => ⟨[(60, .int .i64 k), (59, .int .i64 e.frs.length), (58, .list e.frs.length (e.frs.map bs)), (11, .own 1 k), (8, .own 0 30), (2, .cell [.int .i64 e.ch, .int .i64 e.bits, .int .i64 e.rate, .str e.pw, .list e.rest.length (u8 e.rest), .list e.smp.length (ks .i32 e.smp), .list e.frs.length (e.frs.map bs), .list e.out.length (u8 e.out), .bool e.done, .int .i64 e.err])], [⟨tb, 1, 30, u8 O, 1⟩, ⟨ti, 1, k, ks .i64 ((Zo e.frs).take k), 0⟩]⟩) (fun k => k ≤ e.frs.length) (fun k => e.frs.length - k) 0 (Le.trans (Le.virt 11 ti 1 (by decide) rfl) (Le.slots (by simp [Am.look]))) (by omega) ?_
  intro k hk
  have hkl : ((Zo e.frs).take k).length = k := by rw [List.length_take]; omega
  have kkl : (ks .i64 ((Zo e.frs).take k)).length = k := by rw [Qe, hkl]
  have hcc : u8 O ++ u8 (Zj (Jd (Zo e.frs))) ++ u8 e.frs.flatten = u8 (O ++ (Zj (Jd (Zo e.frs)) ++ e.frs.flatten)) := by simp [u8]
  have tX := Qr (O ++ (Zj (Jd (Zo e.frs)) ++ e.frs.flatten))
  have kT : (u8 (Zj (Jd (Zo e.frs)))).length = (Zj (Jd (Zo e.frs))).length := Qz _
  have kF : (u8 e.frs.flatten).length = e.frs.flatten.length := Qz _
  by_cases hlt : k < e.frs.length
  ·have e1 := Qem (L := e.frs) (k := k) hlt
   have hst : ks .i64 ((Zo e.frs).take k) ++ [.int .i64 ((e.frs.getD k []).length : Int)] = ks .i64 ((Zo e.frs).take (k + 1)) := by
    have hq : (Zo e.frs)[k]? = some ((e.frs.getD k []).length : Int) := by simp [Zo, List.getD_eq_getElem?_getD, List.getElem?_eq_getElem hlt]
    have htk : (Zo e.frs).take (k + 1) = (Zo e.frs).take k ++ [((e.frs.getD k []).length : Int)] := by rw [List.take_add_one, hq]; rfl
    rw [htk]; simp [ks]
   rw [bs] at e1
   generalize e.frs.getD k [] = F at *
   simp (maxSteps := 4000000) (disch := omega) only [rq, simprocAttr, Qas, e1, hmb, kkl, hst]
   refine ⟨k + 1, by omega, by omega, ?_⟩
   exact Le.pickTo [0, 1] (by decide) (by simp) (by simp [Am.look, rnV, rnL, pk, rnL_D _ _ (QV _), rnL_D _ _ (Zl _), rnL_D _ _ (QB _ _), List.idxOf_cons]) (by simp [pkO, rnV, rnL, pk, rnL_D _ _ (QV _), rnL_D _ _ (QB _ _), rnL_D _ _ (Zl _), List.idxOf_cons])
  ·have ek : k = e.frs.length := by omega
   subst ek
   rw [show (Zo e.frs).take e.frs.length = Zo e.frs from List.take_of_length_le (by omega)] at kkl ⊢
   simp (maxSteps := 4000000) (disch := omega) only [rq, simprocAttr, Qas]
   refine Qa.still 1 [1] hS' (by simp [QT, QF, frzL, QE, frzL_T _ tle]) ?_
   simp (maxSteps := 4000000) (disch := omega) only [rq, simprocAttr, Qas, Qi]
   refine Q4.vc hC' ?_
   simp (maxSteps := 4000000) (disch := omega) only [rq, simprocAttr, Qas, hcc, kT, kF]
   simp [QT, QF, frzL, QE, frzL_T _ tX]
   try omega
def Jv (e : Enc) (b : List UInt8) : Enc := ⟨e.ch, e.bits, e.rate, e.pw, [], [], [], b, true, 0⟩
def Qcj (e : Enc) : Enc := if e.smp = [] then e else Xj e
def QlR (e : Enc) : Enc × Int := if QU e ≠ 0 then (Qen, 8) else if QcE e ≠ 0 then (e, QcE e) else
 if e.rest ≠ [] ∨ Qt e (Qd e.rate) = 0 then (Xt e 24, 24) else (Jv e (pfB (Qcj e) (Qt e (Qd e.rate))), 0)
theorem OkG.ask {e : Enc} (h : OkG e) (hs : e.smp ≠ []) : QbU e.ch e.bits e.smp = 0 := by
 obtain ⟨⟨r1, r2, r3⟩, _, _⟩ := QD.1 h.r
 have he0 : QH e.ch e.bits = 0 := by
  rcases QZ e.ch e.bits with q' | q'
  ·unfold QH at q'; split at q' <;> omega
  ·exact q'.1
 have hl : e.smp.length ≠ 0 := by simpa using hs
 exact Qra he0 h.ck (by have := h.dv; omega)
theorem OkG.hd {e : Enc} (h : OkG e) (hc : Qt e (Qd e.rate) ≠ 0) : hdN (QbO e.pw) e.ch e.bits e.rate (Qt e (Qd e.rate)) = 0 := by
 obtain ⟨k, L, q, hk, k1, k6, hL, L1, L2, hlen, hq, hx, hrm, hcn, hbits⟩ := h.nat
 obtain ⟨_, ⟨r4, r5⟩, _⟩ := QD.1 h.r
 have hrm2 := ((Qb4 _ _ _).1 h.rm).1
 have hf : QbO e.pw = 1 ∨ QbO e.pw = 2 := by unfold QbO; split <;> simp
 rw [hcn] at hc ⊢
 have hn1 : 1 ≤ e.frs.length * L + q := by omega
 have hle : e.frs.length * L + q ≤ 4000 / k := (Nat.le_div_iff_mul_le (by omega)).2 hrm
 have hle4 : e.frs.length * L + q ≤ 4000 := Nat.le_trans hle (Nat.div_le_self _ _)
 have hnum : (((e.frs.length * L + q : Nat) : Int) + (L : Int) - 1) / (L : Int) ≤ 1000 := by
  have e1 : ((e.frs.length * L + q : Nat) : Int) + (L : Int) - 1 = ((e.frs.length * L + (q + L - 1) : Nat) : Int) := by omega
  rw [e1, ← Int.natCast_ediv]
  have e2 : (e.frs.length * L + (q + L - 1)) / L = e.frs.length + (q + L - 1) / L := by rw [Nat.add_comm, Nat.add_mul_div_right _ _ (by omega), Nat.add_comm]
  rw [e2]
  have hs : 0 < q ↔ 0 < e.smp.length := by
   rw [hlen]
   constructor
   ·intro h'; exact Nat.mul_pos h' (by omega)
   ·intro h'; exact Nat.pos_of_mul_pos_right h'
  by_cases hq0 : q = 0
  ·have : (q + L - 1) / L = 0 := Nat.div_eq_of_lt (by omega)
   have := h.fr
   omega
  ·have h1 : (q + L - 1) / L = 1 := by
    have : q + L - 1 = (q - 1) + L := by omega
    rw [this, Nat.add_div_right _ (by omega), Nat.div_eq_of_lt (by omega)]
   have h2 := hs.1 (by omega)
   rw [if_pos h2] at hrm2
   omega
 rw [hdN, if_pos]
 refine ⟨⟨hbits, hf, by omega, by omega, r4, r5, by omega⟩, ?_, ?_⟩
 ·rw [hk]
  have : ((4000 : Int) / (k : Int)) = ((4000 / k : Nat) : Int) := by simp
  rw [this]; omega
 ·unfold Qic
  rw [if_neg (by omega), if_neg (by omega), hL, if_neg (by omega)]
def QkR (P : Prg) (f : Nat) : Prop := ∀ e : Enc, okC e → (∀ b ∈ e.frs, b.length ≤ 1000000) → (OkG e → e.rest = [] → Qt e (Qd e.rate) ≠ 0 → skN (Zo (Qcj e).frs) = 0) → VC P f [Jf e] (.tup [Jf (QlR e).1, .int .i64 (QlR e).2])
set_option maxRecDepth 20000 in
set_option maxHeartbeats 4000000 in
theorem Qgg {P : Prg} {f fB fc fF fFi fC fL fT fK fJ fTp fE fCt t0 tb tj tf tz : Nat} (bd : Qf P f 67 [.cell 2 t0, .tmp 3] (XR fB fCt fF fc fFi t0)) (bB : Qf P fB 33 [.cell 2 t0, .tmp 3, .tmp 4] (Zc fC fL fT t0)) (hC : Qch P fC) (hL : Xf P fL) (bT : Qf P fT 42 [.cell 2 t0] (Q5 fK fJ t0 tf)) (hK1 : JH tb P fK) (hJ : J5 tj P fJ) (ht : ZK P t0 = some (some 10)) (hCt : Qd6 P fCt) (hF : QiN P fF) (bc : Qf P fc 46 [.tmp 2] (Zr fTp fE tz tf)) (hT : QfO P fTp) (hE : QmH P fE) (hFi : QmE P fFi) : QkR P f := by
 intro e ho hfr hsk
 refine VC.of_walk 2 (by simp [isDL, Xi]) (by simp [isD, isDL, Xi]) (ACall.of_body bd (by simp) ?_)
 have q1 : isDL (ZI e) = true := by simp [ZI, isDL, isD, QP, Zu, QbN]
 have q2 : isDL QcI = true := by simp [isDL, isD, QcI]
 have hlow : Low 2 [⟨t0, 10, 1, ZI e, 0⟩, ⟨t0, 10, 1, QcI, 0⟩] := Low.cons (lowL_D _ q1) (Low.cons (lowL_D _ q2) Low.nil)
 have t1' := Qr e.rest
 have t2' := Qq .i32 e.smp
 have t3' := Q7 e.frs
 have t4' := Qr e.out
 have ho' := ho
 obtain ⟨o0, o1, o2, o3, o4, o5⟩ := ho'
 have beg := fun {K : AV → List Ob → Prop} => Qda bB hC hL bT hK1 hJ ht ho hfr (ob := [⟨t0, 10, 1, ZI e, 0⟩, ⟨t0, 10, 1, QcI, 0⟩]) hlow (K := K)
 have hCt0 := hCt e (Qd e.rate)
 have hF' := hF e 24
 simp only [Jf, ZI, il, bss, bs, QcI, List.cons_append, List.nil_append, List.length_cons, List.length_nil, twA, twO] at beg hCt0 hF' ⊢
 simp (maxSteps := 4000000) (disch := omega) only [rq, simprocAttr, XR]
 refine beg (fun h8 => ?_) (fun h0 => ?_)
 ·have hfe : QlR e = (Qen, 8) := by rw [QlR, if_pos (by omega)]
  rw [hfe]
  simp (maxSteps := 4000000) (disch := omega) only [rq, simprocAttr, QrB, ZL, ht, Q3]
  simp [QT, QF, frzL, QE, Qen, isDL, isD, ks, u8]
 have hr := QcL h0
 obtain ⟨⟨r1, r2, r3⟩, ⟨r4, r5⟩, r6⟩ := QD.1 hr
 by_cases hst : QcE e = 0
 case neg =>
  have hfe : QlR e = (e, QcE e) := by rw [QlR, if_neg (by omega), if_pos hst]
  rw [hfe]
  simp (maxSteps := 4000000) (disch := omega) only [rq, simprocAttr, ZL, ht, Q3]
  simp [QT, QF, frzL, QE, frzL_T _ t1', frzL_T _ t2', frzL_T _ t3', frzL_T _ t4']
 have hG : OkG e := by
  unfold QcE at hst
  by_cases h1 : e.err ≠ 0
  ·rw [if_pos h1] at hst; omega
  ·rw [if_neg h1] at hst
   refine Qs5 h0 (by simpa using h1) ?_
   cases hd : e.done
   ·rfl
   ·rw [hd] at hst; simp at hst
 have hlz := ZN e.rate
 have hlz2 := QeQ r5
 have hCt' := hCt0 ⟨r2, r3, hG.fr, o2, o3⟩ (by omega) hlz2
 have hfe : QlR e = if e.rest ≠ [] ∨ Qt e (Qd e.rate) = 0 then (Xt e 24, 24) else (Jv e (pfB (Qcj e) (Qt e (Qd e.rate))), 0) := by rw [QlR, if_neg (by omega), if_neg (by omega)]
 rw [hst, hfe]
 have hrl : e.rest = [] ↔ e.rest.length = 0 := by simp
 have hsl : e.smp = [] ↔ e.smp.length = 0 := by simp
 have hdz : e.done = false := hG.done
 have hez : e.err = 0 := hG.err
 have hcpos : 0 ≤ Qt e (Qd e.rate) := by
  obtain ⟨k, L, q, _, _, _, _, _, _, _, _, _, _, hcn, _⟩ := hG.nat
  omega
 simp (maxSteps := 4000000) (disch := omega) only [rq, simprocAttr]
 refine Qa.flat 1 hCt' rfl (by simp [QT, QF, frzL, QE, isDL, isD, frzL_T _ t1', frzL_T _ t2', frzL_T _ t3', frzL_T _ t4']) ?_
 by_cases h24 : e.rest ≠ [] ∨ Qt e (Qd e.rate) = 0
 ·rw [if_pos h24]
  by_cases hr0 : e.rest.length = 0
  ·have hc0 : Qt e (Qd e.rate) = 0 := h24.resolve_left fun h => h (hrl.2 hr0)
   simp (maxSteps := 4000000) (disch := omega) only [rq, simprocAttr, hc0]
   refine Qa.still 1 [2, 3, 4] hF' (by simp [QT, QF, frzL, QE, isDL, isD, frzL_T _ t1', frzL_T _ t2', frzL_T _ t3', frzL_T _ t4']) ?_
   simp (maxSteps := 4000000) (disch := omega) only [rq, simprocAttr, Qi, QrB, QcI, ZL, ht, Q3]
   simp [QT, QF, frzL, QE, Xt, isDL, isD, ks, u8]
  ·simp (maxSteps := 4000000) (disch := omega) only [rq, simprocAttr]
   refine Qa.still 1 [2, 3, 4] hF' (by simp [QT, QF, frzL, QE, isDL, isD, frzL_T _ t1', frzL_T _ t2', frzL_T _ t3', frzL_T _ t4']) ?_
   simp (maxSteps := 4000000) (disch := omega) only [rq, simprocAttr, Qi, QrB, QcI, ZL, ht, Q3]
   simp [QT, QF, frzL, QE, Xt, isDL, isD, ks, u8]
 ·rw [if_neg h24]
  have hr0 : e.rest.length = 0 := by
   by_cases h : e.rest = []
   ·exact hrl.1 h
   ·exact absurd (.inl h) h24
  have hc0 : Qt e (Qd e.rate) ≠ 0 := fun h => h24 (.inr h)
  have hhd := hG.hd hc0
  have hsk' := hsk hG (hrl.2 hr0) hc0
  generalize hcc : Qt e (Qd e.rate) = CC at *
  by_cases hs0 : e.smp.length = 0
  ·have hle : Qcj e = e := by rw [Qcj, if_pos (hsl.2 hs0)]
   rw [hle] at hsk' ⊢
   have hFi' := hFi e CC ho r6 hhd hsk'
   have tp := Qr (pfB e CC)
   generalize pfB e CC = PB at *
   simp only [Jf, ZI, il, bss, bs] at hFi'
   simp (maxSteps := 4000000) (disch := omega) only [rq, simprocAttr]
   refine Qa.still 1 [2, 3, 4] hFi' (by simp [QT, QF, frzL, QE, isDL, isD, frzL_T _ t1', frzL_T _ t2', frzL_T _ t3', frzL_T _ t4']) ?_
   simp (maxSteps := 4000000) (disch := omega) only [rq, simprocAttr, Qi, QcI, ZL, ht, Q3]
   simp [QT, QF, frzL, QE, Jv, isDL, isD, QaL, Qab, frzL_T _ tp]
  ·have hle : Qcj e = Xj e := by rw [Qcj, if_neg fun h => hs0 (hsl.1 h)]
   have hask := hG.ask fun h => hs0 (hsl.1 h)
   rw [hle] at hsk' ⊢
   have hfl := hG.fr
   have hoc : okC (Xj e) := ⟨o0, by simp [Xj]; omega, by simp [Xj], by intro v hv; simp [Xj] at hv, o4, o5⟩
   have hFi0 := hFi (Xj e) CC hoc r6 hhd hsk'
   have tp := Qr (pfB (Xj e) CC)
   have tcf := Q7 (Xj e).frs
   have hcl : (Xj e).frs.length = e.frs.length + 1 := by simp [Xj]
   generalize pfB (Xj e) CC = PB at *
   have cK := fun {K : AV → List Ob → Prop} => Qeh (K := K) (e := e) bc hT hE (by omega) hask o3 (by omega) ((QbP hG.ck).2.1) (te := t0) (tj := tj) (x1 := ⟨t0, 10, 1, QcI, 0⟩) (x2 := ⟨tb, 1, e.rest.length, u8 e.rest, 0⟩) (T := []) (.inl rfl) (vr := .own 2 e.rest.length) (vo := .list e.out.length (u8 e.out))
    (Low.cons (by simp [QeY, lowL, XV, lowL_D _ (QV _)]) (Low.cons (lowL_D _ q2) (Low.cons (lowL_D _ (QV _)) (Low.cons (lowL_D _ (QB _ _)) (Low.cons (lowL_D _ (Zl _)) Low.nil)))))
   have hFi' : VC P fFi [.agg [.int .i64 e.ch, .int .i64 e.bits, .int .i64 e.rate, .str e.pw, .list e.rest.length (u8 e.rest), .list 0 [], .list (Xj e).frs.length ((Xj e).frs.map bs), .list e.out.length (u8 e.out), .bool e.done, .int .i64 e.err], .int .i64 CC] (.tup [.list PB.length (u8 PB), .int .i64 0]) := hFi0
   rw [hcl] at hFi'
   generalize (Xj e).frs.map bs = FSx at *
   simp (maxSteps := 4000000) (disch := omega) only [rq, simprocAttr]
   refine cK ?_
   simp only [QeY, QcI]
   simp (maxSteps := 4000000) (disch := omega) only [rq, simprocAttr]
   refine Qa.still 1 [2, 3, 4] hFi' (by simp [QT, QF, frzL, QE, isDL, isD, frzL_T _ t1', frzL_T _ t2', frzL_T _ tcf, frzL_T _ t4', QaL]) ?_
   simp (maxSteps := 4000000) (disch := omega) only [rq, simprocAttr, Qi, QcI, ZL, ht, Q3]
   simp [QT, QF, frzL, QE, Jv, isDL, isD, QaL, Qab, frzL_T _ tp]
def QqF (e : Enc) (m : Int) : Enc × List UInt8 × Int := if QU e ≠ 0 then (Qen, [], 8) else if m < 0 then (Qen, [], 2) else ({ e with out := e.out.drop m.toNat }, e.out.take m.toNat, 0)
def Qnx (P : Prg) (f : Nat) : Prop := ∀ (e : Enc) (m : Int), okC e → (∀ b ∈ e.frs, b.length ≤ 1000000) → VC P f [Jf e, .int .i64 m] (.tup [Jf (QqF e m).1, bs (QqF e m).2.1, .int .i64 (QqF e m).2.2])
set_option maxRecDepth 20000 in
set_option maxHeartbeats 4000000 in
theorem QhI {P : Prg} {f fC fT fK fJ t0 tb tj tf : Nat} (bd : Qf P f 38 [.cell 4 t0, .tmp 5, .tmp 6] (ZC fC fT fK t0)) (hC : Qch P fC) (bT : Qf P fT 42 [.cell 2 t0] (Q5 fK fJ t0 tf)) (hK1 : JH tb P fK) (hJ : J5 tj P fJ) (ht : ZK P t0 = some (some 10)) : Qnx P f := by
 intro e m ho hfr
 refine VC.of_walk 2 (by simp [isDL, Xi, isD]) (by simp [isD, isDL, Xi, QP]) (ACall.of_body bd (by simp) ?_)
 have q1 : isDL (ZI e) = true := by simp [ZI, isDL, isD, QP, Zu, QbN]
 have q2 : isDL QcI = true := by simp [isDL, isD, QcI]
 have hlow : Low 2 [⟨t0, 10, 1, ZI e, 0⟩, ⟨t0, 10, 1, QcI, 0⟩] := Low.cons (lowL_D _ q1) (Low.cons (lowL_D _ q2) Low.nil)
 have t1' := Qr e.rest
 have t2' := Qq .i32 e.smp
 have t3' := Q7 e.frs
 have hC' := hC e ho
 have hc : QU e = 0 ∨ QU e = 8 := by unfold QU; split <;> simp
 have ho' := ho
 obtain ⟨o0, o1, o2, o3, o4, o5⟩ := ho'
 have tw := fun {K : AV → List Ob → Prop} => Qeg bT hK1 hJ ht ho hfr (ob := [⟨t0, 10, 1, ZI e, 0⟩, ⟨t0, 10, 1, QcI, 0⟩]) hlow (K := K)
 simp only [Jf, ZI, il, bss, bs, QcI, List.cons_append, List.nil_append, List.length_cons, List.length_nil, twA, twO] at tw hC' ⊢
 rcases hc with hc | hc
 case inr =>
  have hd : QqF e m = (Qen, [], 8) := by rw [QqF, if_pos (by omega)]
  rw [hd]
  rw [hc] at hC'
  simp (maxSteps := 4000000) (disch := omega) only [rq, simprocAttr, ZC]
  refine Qa.vc hC' ?_
  simp (maxSteps := 4000000) (disch := omega) only [rq, simprocAttr, ZL, ht, Q3]
  simp [QT, QF, frzL, QE, Qen, isDL, isD, QaL, Qab]
 rw [hc] at hC'
 by_cases hm : m < 0
 ·have hd : QqF e m = (Qen, [], 2) := by rw [QqF, if_neg (by omega), if_pos hm]
  rw [hd]
  simp (maxSteps := 4000000) (disch := omega) only [rq, simprocAttr, ZC]
  refine Qa.vc hC' ?_
  simp (maxSteps := 4000000) (disch := omega) only [rq, simprocAttr, ZL, ht, Q3]
  simp [QT, QF, frzL, QE, Qen, isDL, isD, QaL, Qab]
 obtain ⟨n, rfl⟩ : ∃ n : Nat, m = n := ⟨m.toNat, by omega⟩
 have hd : QqF e n = ({ e with out := e.out.drop n }, e.out.take n, 0) := by rw [QqF, if_neg (by omega), if_neg hm, Int.toNat_natCast]
 rw [hd]
 have hmi : (if (e.out.length : Int) < (n : Int) then (e.out.length : Int) else (n : Int)) = ((min n e.out.length : Nat) : Int) := by split <;> omega
 have hmi2 : (if (n : Int) < (e.out.length : Int) then (n : Int) else (e.out.length : Int)) = ((min n e.out.length : Nat) : Int) := by split <;> omega
 have hkl : min n e.out.length ≤ e.out.length := Nat.min_le_right _ _
 have htk : e.out.take n = e.out.take (min n e.out.length) := by
  rcases Nat.le_total n e.out.length with h | h
  ·rw [Nat.min_eq_left h]
  ·rw [Nat.min_eq_right h, List.take_length, List.take_of_length_le h]
 have hdr : e.out.drop n = e.out.drop (min n e.out.length) := by
  rcases Nat.le_total n e.out.length with h | h
  ·rw [Nat.min_eq_left h]
  ·rw [Nat.min_eq_right h, List.drop_length, List.drop_of_length_le h]
 rw [htk, hdr]
 generalize hk : min n e.out.length = k at *
 have hlt : (e.out.take k).length = k := by rw [List.length_take]; omega
 have hld : (e.out.drop k).length = e.out.length - k := List.length_drop
 have hOv := VC.of_vo (hK1 (e.out.take k) (by omega)) (Qr _) (QV _)
 rw [bs, hlt] at hOv
 have tk := Qr (e.out.take k)
 have td := Qr (e.out.drop k)
 have hut : (u8 e.out).take k = u8 (e.out.take k) := Qlc _ _
 have hud : (u8 e.out).drop k = u8 (e.out.drop k) := QdF _ _
 have hkm : min k e.out.length = k := Nat.min_eq_left hkl
 have htd : (u8 (e.out.drop k)).take (e.out.length - k) = u8 (e.out.drop k) := List.take_of_length_le (by rw [Qz, hld]; omega)
 simp (maxSteps := 4000000) (disch := omega) only [rq, simprocAttr, ZC]
 refine Qa.vc hC' ?_
 simp (maxSteps := 4000000) (disch := omega) only [rq, simprocAttr]
 refine tw ?_
 simp (maxSteps := 4000000) (disch := omega) only [rq, simprocAttr, hmi, hmi2, hut, hud, hkm, hk, Nat.sub_zero]
 refine Qa.vc hOv ?_
 simp (maxSteps := 4000000) (disch := omega) only [rq, simprocAttr, hut, hud, hkm, hlt, hld, htd]
 simp (maxSteps := 4000000) (disch := omega) only [rq, simprocAttr, htd, ZL, ht, Q3, QcI]
 simp [QT, QF, frzL, QE, frzL_T _ t1', frzL_T _ t2', frzL_T _ t3', frzL_T _ tk, frzL_T _ td, hlt, hld, htd]
theorem QrX {b : Int} {w m : List UInt8} (hd : 0 < (b / 8).toNat) (h : w.length % (b / 8).toNat = 0) : Z2 b (w ++ m) = Z2 b w ++ Z2 b m := by
 have hq := Nat.div_mul_cancel (Nat.dvd_of_mod_eq_zero h)
 unfold Z2
 generalize (b / 8).toNat = d at *
 generalize hqq : w.length / d = q at *
 have hl : (w ++ m).length / d = q + m.length / d := by
  rw [List.length_append, ← hq, Nat.add_comm, Nat.add_mul_div_right _ _ hd, Nat.add_comm]
 rw [hl, List.range_add, List.map_append, List.map_map]
 congr 1
 ·refine List.map_congr_left fun i hi => ?_
  have hi' : i < q := List.mem_range.1 hi
  have h1 : (i + 1) * d ≤ q * d := Nat.mul_le_mul_right d hi'
  rw [Nat.add_mul, Nat.one_mul] at h1
  rw [List.drop_append_of_le_length (by omega), List.take_append_of_le_length (by rw [List.length_drop]; omega)]
 ·refine List.map_congr_left fun i _ => ?_
  simp only [Function.comp]
  have : (w ++ m).drop ((q + i) * d) = m.drop (i * d) := by
   rw [Nat.add_mul, hq, ← List.drop_drop, List.drop_left]
  rw [this]
def Qu (c x r : Int) (p : List UInt8) : Enc := ⟨c, x, r, p, [], [], [], [], false, 0⟩
theorem Qm6 {c x r : Int} {p : List UInt8} (h : Qv c x r p = true) : OkG (Qu c x r p) := by
 obtain ⟨⟨r1, r2, r3⟩, ⟨r4, r5⟩, r6⟩ := QD.1 h
 have hm := JS r2 r3 r1
 have hL := ZN r
 refine ⟨h, rfl, rfl, rfl, ?_, by simp [Qu], ?_, by simp [Qu], ?_, ?_, rfl⟩
 ·show ((0 : Nat) : Int) < c * x / 8; omega
 ·show (((0 : Nat) : Int)) / c < Qd r
  simp; omega
 ·exact QeW (x := x) r1 (by simp [Qu]) (by simp [Qu])
 ·refine (Qb4 _ _ _).2 ⟨?_, ?_⟩
  ·show (((0 : Nat) : Int)) + (if 0 < (0 : Nat) then 1 else 0) ≤ 1000
   simp
  ·show ((((0 : Nat) : Int)) * Qd r + ((0 : Nat) : Int) / c) * c ≤ 4000
   simp
def LcE (e : Enc) : Nat := (Qd e.rate).toNat * e.ch.toNat
def Qtj (e : Enc) (q : List Int) : List UInt8 := Qdm e.ch.toNat e.bits (tpE e) q
structure Qrx (e : Enc) (S : List Int) : Prop where
 frs : e.frs = (List.range e.frs.length).map fun i => Qtj e (ZS (LcE e) S i)
 smp : e.smp = S.drop (e.frs.length * LcE e)
 len : S.length = e.frs.length * LcE e + e.smp.length
theorem QpJ {L i : Nat} {S T : List Int} (h : (i + 1) * L ≤ S.length) : ZS L (S ++ T) i = ZS L S i := by
 rw [Nat.add_mul, Nat.one_mul] at h
 unfold ZS
 rw [List.drop_append_of_le_length (by omega), List.take_append_of_le_length (by rw [List.length_drop]; omega)]
theorem Qud {e : Enc} {S T : List Int} (h : Qrx e S) : e.frs = (List.range e.frs.length).map fun i => Qtj e (ZS (LcE e) (S ++ T) i) := by
 conv => lhs; rw [h.frs]
 refine List.map_congr_left fun i hi => ?_
 have hi' : i < e.frs.length := List.mem_range.1 hi
 have h1 : (i + 1) * LcE e ≤ e.frs.length * LcE e := Nat.mul_le_mul_right _ hi'
 rw [QpJ (by have := h.len; omega)]
theorem QoS {e : Enc} {m : List UInt8} {S : List Int} (h : OkG e) (hf : Qrx e S) (hm : (m.length : Int) = e.ch * e.bits / 8) : Qrx (Xn e m) (S ++ Z2 e.bits m) := by
 obtain ⟨k, L, q, hk, k1, k6, hL, L1, L2, hlen, hq, hx, hrm, hcn, hbits⟩ := h.nat
 obtain ⟨⟨r1, r2, r3⟩, ⟨r4, r5⟩, r6⟩ := QD.1 h.r
 have hsl := Qli hx r2 r3 hm
 have hLc : LcE e = L * k := by rw [LcE, hk, hL]; simp
 have hA := Qud (T := Z2 e.bits m) hf
 have hD : e.smp ++ Z2 e.bits m = (S ++ Z2 e.bits m).drop (e.frs.length * LcE e) := by
  rw [List.drop_append_of_le_length (by have := hf.len; omega), ← hf.smp]
 have hl2 := hf.len
 have hml : (ZV e m).smp = e.smp ++ Z2 e.bits m := rfl
 have hml2 : (ZV e m).smp.length = (q + 1) * k := by
  rw [hk] at hsl
  have : (Z2 e.bits m).length = k := by exact_mod_cast hsl
  rw [hml, List.length_append, hlen, this, Nat.add_mul, Nat.one_mul]
 unfold Xn
 by_cases hlt : ((ZV e m).smp.length : Int) < Qd e.rate * e.ch
 ·rw [if_pos hlt]
  refine ⟨hA, hD, ?_⟩
  show (S ++ Z2 e.bits m).length = e.frs.length * LcE e + (e.smp ++ Z2 e.bits m).length
  rw [List.length_append, List.length_append]; omega
 ·rw [if_neg hlt, ]
  rw [hml2, hL, hk] at hlt
  have hlt' : L * k ≤ (q + 1) * k := by
   have := Int.not_lt.1 hlt
   exact_mod_cast this
  have hq1 : q + 1 = L := by
   have := Nat.le_of_mul_le_mul_right hlt' (by omega)
   omega
  have hsz : (e.smp ++ Z2 e.bits m).length = LcE e := by rw [← hml, hml2, hLc, hq1]
  have hP : ZS (LcE e) (S ++ Z2 e.bits m) e.frs.length = e.smp ++ Z2 e.bits m := by
   unfold ZS
   rw [← hD, List.take_of_length_le (by omega)]
  have hfl : (Xj (ZV e m)).frs.length = e.frs.length + 1 := Qkl e m
  have hSl : (S ++ Z2 e.bits m).length = (e.frs.length + 1) * LcE e := by
   rw [List.length_append] at hsz ⊢
   rw [Nat.add_mul, Nat.one_mul]; omega
  refine ⟨?_, ?_, ?_⟩
  ·rw [hfl, List.range_succ, List.map_append]
   show e.frs ++ [Qtj e (e.smp ++ Z2 e.bits m)] = (List.range e.frs.length).map (fun i => Qtj e (ZS (LcE e) (S ++ Z2 e.bits m) i)) ++ [Qtj e (ZS (LcE e) (S ++ Z2 e.bits m) e.frs.length)]
   rw [hP, ← hA]
  ·rw [hfl]
   show [] = (S ++ Z2 e.bits m).drop ((e.frs.length + 1) * LcE e)
   rw [List.drop_of_length_le (by omega)]
  ·rw [hfl]
   show (S ++ Z2 e.bits m).length = (e.frs.length + 1) * LcE e + 0
   omega
def QsZ (e : Enc) (b : List UInt8) : Prop := ∃ w, b = w ++ e.rest ∧ (w.length : Int) % (e.ch * e.bits / 8) = 0 ∧ Qrx e (Z2 e.bits w)
theorem Qlz (c x r : Int) (p : List UInt8) : QsZ (Qu c x r p) [] :=
 ⟨[], rfl, by simp, ⟨rfl, by simp [Qu, Z2], by simp [Qu, Z2]⟩⟩
theorem QpS {e : Enc} (h : OkG e) : ∃ k d : Nat, e.ch * e.bits / 8 = ((k * d : Nat) : Int) ∧ d = (e.bits / 8).toNat ∧ 0 < d ∧ 1 ≤ k := by
 obtain ⟨k, L, q, hk, k1, k6, hL, L1, L2, hlen, hq, hx, hrm, hcn, hbits⟩ := h.nat
 refine ⟨k, (e.bits / 8).toNat, ?_, rfl, ?_, k1⟩
 ·rw [hk]
  rcases hbits with b | b | b <;> rw [b] <;> simp <;> omega
 ·rcases hbits with b | b | b <;> rw [b] <;> decide
theorem QvG {e : Enc} (h : OkG e) {w : List UInt8} (hw : (w.length : Int) % (e.ch * e.bits / 8) = 0) : 0 < (e.bits / 8).toNat ∧ w.length % (e.bits / 8).toNat = 0 := by
 obtain ⟨k, d, h1, h2, h3, h4⟩ := QpS h
 rw [h1] at hw
 have hw' : w.length % (k * d) = 0 := by exact_mod_cast hw
 refine ⟨h2 ▸ h3, h2 ▸ Nat.mod_eq_zero_of_dvd (Nat.dvd_trans (Nat.dvd_mul_left d k) (Nat.dvd_of_mod_eq_zero hw'))⟩
theorem QsS {e : Enc} {c : UInt8} {b : List UInt8} (h : OkG e) (hf : QsZ e b) (h0 : (Qbt e c).2 = 0) : QsZ (Qbt e c).1 (b ++ [c]) := by
 obtain ⟨w, hb, hw, hS⟩ := hf
 have hrest := h.rest
 unfold Qbt at h0 ⊢
 split
 ·rename_i h1
  exact ⟨w, by rw [hb, List.append_assoc], hw, hS.frs, hS.smp, hS.len⟩
 ·rename_i h1
  rw [if_neg h1] at h0
  split
  ·rename_i h2
   rw [if_pos h2] at h0; cases h0
  ·have hm : ((e.rest ++ [c]).length : Int) = e.ch * e.bits / 8 := by
    simp only [List.length_append, List.length_cons, List.length_nil]; omega
   have hs : Sib (Xn e (e.rest ++ [c])) e := by
    unfold Xn
    split <;> exact ⟨rfl, rfl, rfl, rfl⟩
   have hr : (Xn e (e.rest ++ [c])).rest = [] := by
    unfold Xn
    split <;> rfl
   obtain ⟨d1, d2⟩ := QvG h hw
   refine ⟨w ++ (e.rest ++ [c]), ?_, ?_, ?_⟩
   ·show b ++ [c] = w ++ (e.rest ++ [c]) ++ (Xn e (e.rest ++ [c])).rest
    rw [hb, hr]; simp
   ·show ((w ++ (e.rest ++ [c])).length : Int) % ((Xn e (e.rest ++ [c])).ch * (Xn e (e.rest ++ [c])).bits / 8) = 0
    rw [hs.1, hs.2.1, List.length_append, Int.natCast_add, hm, Int.add_emod_right, hw]
   ·show Qrx (Xn e (e.rest ++ [c])) (Z2 (Xn e (e.rest ++ [c])).bits (w ++ (e.rest ++ [c])))
    rw [hs.2.1, QrX d1 d2]
    exact QoS h hS hm
theorem Qkw : ∀ (l : List UInt8) {e : Enc} {b : List UInt8}, OkG e → QsZ e b → (QJ e l).2 = 0 → QsZ (QJ e l).1 (b ++ l)
 | [], e, b, _, hf, _ => by rw [List.append_nil]; exact hf
 | c :: l, e, b, h, hf, h0 => by
  rw [QJ] at h0 ⊢
  rcases Qmj c h with ⟨h1, h2⟩ | h1
  ·rw [if_neg (by rw [h1]; simp)] at h0 ⊢
   have := Qkw l h2 (QsS h hf h1) h0
   rwa [List.append_assoc] at this
  ·rw [if_pos (by rw [h1]; simp), h1] at h0; cases h0
theorem Qdl {c x r : Int} {p : List UInt8} (h : Qv c x r p = true) (b : List UInt8) : ((ZB (Qu c x r p) b).2 = 0 ∧ OkG (ZB (Qu c x r p) b).1 ∧ Sib (ZB (Qu c x r p) b).1 (Qu c x r p) ∧ QsZ (ZB (Qu c x r p) b).1 b) ∨ ZB (Qu c x r p) b = (Xt (Qu c x r p) 18, 18) := by
 have hn := Qm6 h
 rw [QdS hn]
 obtain ⟨h1, ⟨h2, h3⟩ | h2⟩ := Qie b hn
 ·exact .inl ⟨h2, h3, h1, by have := Qkw b hn (Qlz c x r p) h2; simpa using this⟩
 ·exact .inr h2
theorem Qng {c x r : Int} {p b : List UInt8} {e : Enc} (h : OkG e) (hs : Sib e (Qu c x r p)) (hf : QsZ e b) :
  (e.rest = [] ↔ (b.length : Int) % (c * x / 8) = 0) ∧ (Qt e (Qd e.rate) = 0 ↔ (b.length : Int) < c * x / 8) ∧ (e.rest = [] → Qt e (Qd e.rate) ≠ 0 → ZH c x r (Z2 x b) = 0 ∧ (Qcj e).frs = Qn c x r (Z2 x b) (ofK (ZX 0 p) 8) ∧ Qt e (Qd e.rate) = (((Z2 x b).length / c.toNat : Nat) : Int)) := by
 obtain ⟨w, hb, hw, hS⟩ := hf
 obtain ⟨k, L, q, hk, k1, k6, hL, L1, L2, hlen, hq, hx, hrm, hcn, hbits⟩ := h.nat
 obtain ⟨kk, d, m1, m2, m3, m4⟩ := QpS h
 obtain ⟨s1, s2, s3, s4⟩ := hs
 simp only [Qu] at s1 s2 s3 s4
 have hrest := h.rest
 have hrs : e.rest.length = 0 ↔ e.rest = [] := by simp
 rw [s1, s2] at hrest hw m1
 have hM : 0 < c * x / 8 := by omega
 have hbl : (b.length : Int) = w.length + e.rest.length := by rw [hb, List.length_append]; simp
 have hLc : LcE e = L * k := by rw [LcE, hk, hL]; simp
 have hkk : kk = k := by
  rw [← s1, ← s2, hk] at m1
  have : (k : Int) * e.bits / 8 = ((k * d : Nat) : Int) := by
   rw [m2]
   rcases hbits with b | b | b <;> rw [b] <;> simp <;> omega
  rw [this] at m1
  have : k * d = kk * d := by exact_mod_cast m1
  exact (Nat.eq_of_mul_eq_mul_right m3 this).symm
 subst hkk
 have hSl : (Z2 x w).length = (e.frs.length * L + q) * kk := by
  have := hS.len
  rw [s2] at this
  rw [this, hLc, hlen, Nat.add_mul, Nat.mul_assoc]
 have hwl : w.length = (e.frs.length * L + q) * (kk * d) := by
  have h1 : w.length / d * d = w.length := by
   have : w.length % d = 0 := by
    have hw' : w.length % (kk * d) = 0 := by rw [m1] at hw; exact_mod_cast hw
    exact Nat.mod_eq_zero_of_dvd (Nat.dvd_trans (Nat.dvd_mul_left d kk) (Nat.dvd_of_mod_eq_zero hw'))
   exact Nat.div_mul_cancel (Nat.dvd_of_mod_eq_zero this)
  have h2 : w.length / d = (e.frs.length * L + q) * kk := by
   rw [← hSl, XJ, m2, s2]
  rw [← h1, h2, Nat.mul_assoc]
 have hkd : 0 < kk * d := Nat.mul_pos (by omega) m3
 generalize hn : e.frs.length * L + q = n at *
 have hre : (b.length : Int) % (c * x / 8) = e.rest.length := by
  rw [hbl, Int.add_emod, hw, Int.zero_add, Int.emod_emod, Int.emod_eq_of_lt (by omega) hrest]
 refine ⟨by rw [hre, ← hrs]; omega, ?_, ?_⟩
 ·rw [hcn, m1]
  rw [m1] at hrest
  have hr' : e.rest.length < kk * d := by exact_mod_cast hrest
  have hb' : b.length = n * (kk * d) + e.rest.length := by omega
  constructor
  ·intro h0
   have : n = 0 := by omega
   subst this
   rw [hb', Nat.zero_mul]; omega
  ·intro h0
   have h1 : b.length < kk * d := by exact_mod_cast h0
   rcases Nat.eq_zero_or_pos n with h2 | h2
   ·omega
   ·have := Nat.le_mul_of_pos_left (kk * d) h2
    omega
 ·intro hr hc
  have hwb : b = w := by rw [hb, hr, List.append_nil]
  rw [hwb]
  have hn1 : 1 ≤ n := by omega
  have hct : c.toNat = kk := by rw [← s1, hk]; simp
  have hdv : (Z2 x w).length / kk = n := by rw [hSl, Nat.mul_div_cancel _ (by omega)]
  have hhd := h.hd hc
  rw [s1, s2, s3] at hhd
  rw [s3] at hcn
  rw [s3] at hc hL
  have hcI : Qt e (Qd r) = (n : Int) := hcn
  refine ⟨?_, ?_, ?_⟩
  ·have hlenI : ((Z2 x w).length : Int) / c = (n : Int) := by
    rw [← s1, hk, ← Int.natCast_ediv, hdv]
   have hmod : ((Z2 x w).length : Int) % c = 0 := by
    rw [← s1, hk, hSl, Int.natCast_mul]; exact Int.mul_emod_left _ _
   have hxx : Z3 x ≠ 0 := by rw [← s2]; exact hx
   have hle : (Z2 x w).length ≤ 4000 := by omega
   have hck : QL x (Z2 x w) = 0 := QeW hxx hle fun y hy => QdG hxx w y hy
   rw [hcI] at hhd
   unfold hdN at hhd
   split at hhd
   ·rename_i hh
    obtain ⟨⟨_, _, g1, g2, g3, g4, g5⟩, g6, g7⟩ := hh
    have he0 : QH c x = 0 := by
     rcases QZ c x with q' | q'
     ·unfold QH at q'; split at q' <;> omega
     ·exact q'.1
    unfold ZH
    rw [if_neg (by omega), if_neg (by omega), if_neg, if_neg (by omega)]
    rw [hlenI]
    unfold XM
    rw [if_neg (by omega), if_neg (by omega), if_neg (by omega), if_neg (by omega)]
    omega
   ·cases hhd
  ·have hpn : (Zw (Qd r).toNat ((Z2 x w).length / c.toNat)).length = (n - 1) / L + 1 := by
    rw [Xv, hct, hdv, hL, Int.toNat_natCast]
   have hE : ∀ q, Qtj e q = Qdm c.toNat x (ofK (ZX 0 p) 8) q := fun q => by rw [Qtj, tpE, s1, s2, s4]
   have hfr := hS.frs
   have hsm := hS.smp
   rw [s2] at hfr hsm
   unfold Qn QY
   rw [hpn, List.map_map, hct, hL, Int.toNat_natCast]
   rw [hLc] at hfr hsm
   by_cases hq0 : q = 0
   ·have hnil : e.smp = [] := List.eq_nil_of_length_eq_zero (by rw [hlen, hq0, Nat.zero_mul])
    have hF : (n - 1) / L + 1 = e.frs.length := by
     have hF1 : 1 ≤ e.frs.length := by
      rcases Nat.eq_zero_or_pos e.frs.length with z | z
      ·rw [z, Nat.zero_mul] at hn; omega
      ·exact z
     obtain ⟨F, hFF⟩ : ∃ F, e.frs.length = F + 1 := ⟨e.frs.length - 1, by omega⟩
     rw [hFF] at hn ⊢
     have : n - 1 = (L - 1) + F * L := by rw [← hn, Nat.add_mul]; omega
     rw [this, Nat.add_mul_div_right _ _ (by omega), Nat.div_eq_of_lt (by omega), Nat.zero_add]
    rw [hF, Qcj, if_pos hnil]
    conv => lhs; rw [hfr]
    exact List.map_congr_left fun i _ => by rw [hE, hct]; rfl
   ·have hnn : e.smp ≠ [] := fun h0 => by
     rw [h0] at hlen
     have := Nat.mul_pos (Nat.pos_of_ne_zero hq0) (show 0 < kk by omega)
     simp at hlen; omega
    have hF : (n - 1) / L + 1 = e.frs.length + 1 := by
     have : n - 1 = (q - 1) + e.frs.length * L := by omega
     rw [this, Nat.add_mul_div_right _ _ (by omega), Nat.div_eq_of_lt (by omega), Nat.zero_add]
    rw [hF, Qcj, if_neg hnn, List.range_succ, List.map_append]
    have hP : ZS (L * kk) (Z2 x w) e.frs.length = e.smp := by
     unfold ZS
     have : e.smp.length ≤ L * kk := by rw [hlen]; exact Nat.mul_le_mul_right _ (by omega)
     rw [← hsm, List.take_of_length_le this]
    show e.frs ++ [Qtj e e.smp] = _
    conv => lhs; lhs; rw [hfr]
    rw [List.map_cons, List.map_nil]
    simp only [Function.comp]
    rw [hP, hE, hct]
    congr 1
    exact List.map_congr_left fun i _ => by rw [hE, hct]; rfl
  ·rw [s3, hcI, hct, hdv]
theorem QlQ {c x r : Int} {p b : List UInt8} {e : Enc} (h : OkG e) (hs : Sib e (Qu c x r p)) (hf : QsZ e b) :
  ((¬ (0 < b.length ∧ (b.length : Int) % (c * x / 8) = 0)) ∧ QlR e = (Xt (Qu c x r p) 24, 24)) ∨ ((0 < b.length ∧ (b.length : Int) % (c * x / 8) = 0) ∧ ZH c x r (Z2 x b) = 0 ∧ skN (Zo (Qcj e).frs) = 0 ∧ QlR e = (Jv (Qu c x r p) (QdR c x r (Z2 x b) p), 0)) := by
 obtain ⟨f1, f2, f3⟩ := Qng h hs hf
 have hst : QcE e = 0 := by unfold QcE; rw [if_neg (by rw [h.err]; simp), if_neg (by rw [h.done]; simp)]
 have hfe : QlR e = if e.rest ≠ [] ∨ Qt e (Qd e.rate) = 0 then (Xt e 24, 24) else (Jv e (pfB (Qcj e) (Qt e (Qd e.rate))), 0) := by rw [QlR, if_neg (by rw [QjM h]; simp), if_neg (by omega)]
 have hM : 0 < c * x / 8 := by
  have := h.rest
  rw [hs.1, hs.2.1] at this
  simp only [Qu] at this
  omega
 rw [hfe]
 by_cases h24 : e.rest ≠ [] ∨ Qt e (Qd e.rate) = 0
 ·refine .inl ⟨?_, by rw [if_pos h24, Qka e _ 24 hs]⟩
  rintro ⟨g1, g2⟩
  rcases h24 with g | g
  ·exact g (f1.2 g2)
  ·have := f2.1 g
   rw [Int.emod_eq_of_lt (by omega) this] at g2
   omega
 ·have hr : e.rest = [] := by
   by_cases hh : e.rest = []
   ·exact hh
   ·exact absurd (.inl hh) h24
  have hc : Qt e (Qd e.rate) ≠ 0 := fun g => h24 (.inr g)
  obtain ⟨g1, g2, g3⟩ := f3 hr hc
  obtain ⟨⟨r1, r2, r3⟩, ⟨r4, r5⟩, r6⟩ := QD.1 h.r
  have hxx : Z3 x ≠ 0 := by rw [← show e.bits = x from hs.2.1]; exact r1
  have hsk := (Qhy (T := ofK (ZX 0 p) 8) g1 (Qhw hxx b)).1
  refine .inr ⟨⟨?_, f1.1 hr⟩, g1, by rw [g2]; exact hsk, ?_⟩
  ·rcases Nat.eq_zero_or_pos b.length with z | z
   ·exact absurd (f2.2 (by rw [z]; exact hM)) hc
   ·exact z
  ·rw [if_neg h24, g3]
   have hl : ∀ g : Enc, Sib g (Qu c x r p) → Sib (Qcj g) (Qu c x r p) := fun g hg => by
    unfold Qcj
    split
    ·exact hg
    ·exact hg
   have hl' := hl e hs
   obtain ⟨t1, t2, t3, t4⟩ := hl'
   obtain ⟨s1, s2, s3, s4⟩ := hs
   simp only [Qu] at s1 s2 s3 s4 t1 t2 t3 t4
   have : pfB (Qcj e) (((Z2 x b).length / c.toNat : Nat) : Int) = QdR c x r (Z2 x b) p := by
    rw [pfB, QdR, t1, t2, t3, t4, g2, Int.toNat_natCast]
   rw [this]
   simp only [Jv, Qu, s1, s2, s3, s4]
theorem Qtk : ∀ l : List UInt8, emA (u8 l) = u8 l
 | [] => rfl
 | a :: l => by
  show emV (.int .u8 (a.toNat : Int)) :: emA (u8 l) = .int .u8 (a.toNat : Int) :: u8 l
  rw [Qtk l]; rfl
def QmD (P : Prg) (f : Nat) : Prop := ∀ e : Enc, okC e → VC P f [Jf e, Jf e] (.bool true)
set_option maxHeartbeats 2000000 in
theorem Qlu {P : Prg} {f t0 : Nat} (b : Qf P f 114 [.tmp 4] (ZY t0)) : QmD P f := by
 rintro ⟨c, x, r, p, q, s, F, o, d, y⟩ ⟨o0, o1, o2, o3, o4, o5⟩
 simp only at o0 o1 o2 o4 o5
 refine VC.of_acall (by simp [isDL, Xi]) rfl (ACall.of_body b (by simp) ?_)
 have d1 := Qai q
 have d2 := Qai o
 have e0 : (p == p) = true := by simp
 have e1 : (q == q) = true := by simp
 have e2 : (o == o) = true := by simp
 have hb : (F.map bs).length = F.length := by simp
 simp only [Jf, ZI, il, bss, bs]
 cases d
 all_goals
  simp (maxSteps := 4000000) (disch := omega) only [rq, simprocAttr, ZY, QmS, e0, e1, e2, d1, d2]
 case false =>
  refine QN.by (ι := Nat) (fun k => ⟨[(5, .int .i64 k), (3, .ref 1 1 0), (2, .ref 0 1 0)], [⟨t0, 10, 1, ZI ⟨c, x, r, p, q, s, F, o, false, y⟩, 0⟩, ⟨t0, 10, 1, ZI ⟨c, x, r, p, q, s, F, o, false, y⟩, 0⟩]⟩) (fun k => k ≤ s.length) (fun k => s.length - k) 0 (Le.slots (by simp [Am.look])) (by omega) ?_
  intro k hk
  by_cases hlt : k < s.length
  ·have c1 := QdQ (K := .i32) (l := s) (i := k) hlt
   simp (maxSteps := 4000000) (disch := omega) only [rq, simprocAttr, ZI, il, bss, bs, c1]
   exact ⟨k + 1, by omega, by omega, Le.slots (by simp [Am.look])⟩
  simp (maxSteps := 4000000) (disch := omega) only [rq, simprocAttr, ZI, il, bss, bs]
  refine QN.by (ι := Nat) (fun k => ⟨[(6, .int .i64 k), (3, .ref 1 1 0), (2, .ref 0 1 0)], [⟨t0, 10, 1, ZI ⟨c, x, r, p, q, s, F, o, false, y⟩, 0⟩, ⟨t0, 10, 1, ZI ⟨c, x, r, p, q, s, F, o, false, y⟩, 0⟩]⟩) (fun k => k ≤ F.length) (fun k => F.length - k) 0 (Le.slots (by simp [Am.look])) (by omega) ?_
  intro j hj
  by_cases hlt2 : j < F.length
  ·have c1 := Qem (L := F) (k := j) hlt2
   have d3 := Qai (F.getD j [])
   have e4 : (F.getD j [] == F.getD j []) = true := by simp
   rw [bs] at c1
   generalize F.getD j [] = G at *
   simp (maxSteps := 4000000) (disch := omega) only [rq, simprocAttr, ZI, il, bss, bs, c1, hb, QmS, d3, e4]
   exact ⟨j + 1, by omega, by omega, Le.slots (by simp [Am.look])⟩
  ·simp (maxSteps := 4000000) (disch := omega) only [rq, simprocAttr, ZI, il, bss, bs, hb]
 case true =>
  refine QN.by (ι := Nat) (fun k => ⟨[(5, .int .i64 k), (3, .ref 1 1 0), (2, .ref 0 1 0)], [⟨t0, 10, 1, ZI ⟨c, x, r, p, q, s, F, o, true, y⟩, 0⟩, ⟨t0, 10, 1, ZI ⟨c, x, r, p, q, s, F, o, true, y⟩, 0⟩]⟩) (fun k => k ≤ s.length) (fun k => s.length - k) 0 (Le.slots (by simp [Am.look])) (by omega) ?_
  intro k hk
  by_cases hlt : k < s.length
  ·have c1 := QdQ (K := .i32) (l := s) (i := k) hlt
   simp (maxSteps := 4000000) (disch := omega) only [rq, simprocAttr, ZI, il, bss, bs, c1]
   exact ⟨k + 1, by omega, by omega, Le.slots (by simp [Am.look])⟩
  simp (maxSteps := 4000000) (disch := omega) only [rq, simprocAttr, ZI, il, bss, bs]
  refine QN.by (ι := Nat) (fun k => ⟨[(6, .int .i64 k), (3, .ref 1 1 0), (2, .ref 0 1 0)], [⟨t0, 10, 1, ZI ⟨c, x, r, p, q, s, F, o, true, y⟩, 0⟩, ⟨t0, 10, 1, ZI ⟨c, x, r, p, q, s, F, o, true, y⟩, 0⟩]⟩) (fun k => k ≤ F.length) (fun k => F.length - k) 0 (Le.slots (by simp [Am.look])) (by omega) ?_
  intro j hj
  by_cases hlt2 : j < F.length
  ·have c1 := Qem (L := F) (k := j) hlt2
   have d3 := Qai (F.getD j [])
   have e4 : (F.getD j [] == F.getD j []) = true := by simp
   rw [bs] at c1
   generalize F.getD j [] = G at *
   simp (maxSteps := 4000000) (disch := omega) only [rq, simprocAttr, ZI, il, bss, bs, c1, hb, QmS, d3, e4]
   exact ⟨j + 1, by omega, by omega, Le.slots (by simp [Am.look])⟩
  ·simp (maxSteps := 4000000) (disch := omega) only [rq, simprocAttr, ZI, il, bss, bs, hb]
def QiR (P : Prg) (f : Nat) : Prop := ∀ (c x r : Int) (b : List UInt8), ∃ v : Bool, (v = false → b.length ≤ 1100) ∧ VC P f [shA c x, .int .i64 r, bs b] (.bool v)
theorem QnU {P : Prg} {f t0 : Nat} (bd : Qf P f 29 [.tmp 6] (Qw t0)) : QiR P f := by
 intro c x r b
 by_cases h1 : 1100 < b.length
 ·refine ⟨true, by simp, VC.of_acall (by simp [isDL, isD, shA, QP]) rfl (ACall.of_body bd (by simp) ?_)⟩
  by_cases a : c = 1 <;> by_cases a2 : x = 8 <;> by_cases a3 : 2 < r <;> simp (maxSteps := 4000000) (disch := omega) only [rq, simprocAttr, Qw, shA, bs]
 by_cases h2 : 600 < b.length
 ·by_cases a : c = 1
  ·by_cases a2 : x = 8
   ·by_cases a3 : 2 < r
    ·refine ⟨true, by simp, VC.of_acall (by simp [isDL, isD, shA, QP]) rfl (ACall.of_body bd (by simp) ?_)⟩
     simp (maxSteps := 4000000) (disch := omega) only [rq, simprocAttr, Qw, shA, bs]
    ·refine ⟨false, by omega, VC.of_acall (by simp [isDL, isD, shA, QP]) rfl (ACall.of_body bd (by simp) ?_)⟩
     simp (maxSteps := 4000000) (disch := omega) only [rq, simprocAttr, Qw, shA, bs]
   ·refine ⟨true, by simp, VC.of_acall (by simp [isDL, isD, shA, QP]) rfl (ACall.of_body bd (by simp) ?_)⟩
    simp (maxSteps := 4000000) (disch := omega) only [rq, simprocAttr, Qw, shA, bs]
  ·refine ⟨true, by simp, VC.of_acall (by simp [isDL, isD, shA, QP]) rfl (ACall.of_body bd (by simp) ?_)⟩
   simp (maxSteps := 4000000) (disch := omega) only [rq, simprocAttr, Qw, shA, bs]
 ·refine ⟨false, by omega, VC.of_acall (by simp [isDL, isD, shA, QP]) rfl (ACall.of_body bd (by simp) ?_)⟩
  simp (maxSteps := 4000000) (disch := omega) only [rq, simprocAttr, Qw, shA, bs]
def Qri (P : Prg) (f : Nat) : Prop := VC P f [] (shA 1 8)
theorem Qn4 {P : Prg} {f t0 : Nat} (bd : Qf P f 2 [.cell 0 t0] (Z0 t0)) (ht : ZK P t0 = some (some 2)) : Qri P f := by
 refine VC.of_acall rfl rfl (ACall.of_body bd (by simp) ?_)
 simp (maxSteps := 4000000) (disch := omega) only [rq, simprocAttr, Z0, shA, ZL, ht]
theorem QjO {c x r : Int} {p : List UInt8} (h : Qv c x r p = true) : okC (Qu c x r p) := by
 obtain ⟨_, _, r6⟩ := QD.1 h
 exact ⟨by show p.length ≤ 100000; omega, by simp [Qu], by simp [Qu], by intro v hv; simp [Qu] at hv, by simp [Qu], by simp [Qu]⟩
theorem QhZ {P : Prg} {fF : Nat} (hF : Qd3 P fF) {c x r : Int} {p b : List UInt8} (h : Qv c x r p = true) (hb : b.length ≤ 1000000) : VC P fF [.agg (Qm7 c x r p), bs b] (.tup [Jf (ZB (Qu c x r p) b).1, .int .i64 (ZB (Qu c x r p) b).2]) := by
 refine VC.em _ ?_ (by simp [isDL, isD, Qm7, QP])
 have := hF (Qu c x r p) b (QjO h) (by simp [Qu]) hb
 simp only [emA, emV, Qm7, bs, Qtk]
 exact this
def Qrj (P : Prg) (f : Nat) : Prop := ∀ (c x r : Int) (p b : List UInt8), Qv c x r p = true → b.length ≤ 1000000 → VC P f [shA c x, .int .i64 r, .str p, bs b] (.tup [Jf (ZB (Qu c x r p) b).1, .bool (decide ((ZB (Qu c x r p) b).2 = 0))])
theorem Qn5 {P : Prg} {f fN fF t0 t1 : Nat} (bd : Qf P f 34 [.cell 8 t1, .tmp 9] (Z1 fN fF t0 t1)) (hN : Qrh P fN) (hF : Qd3 P fF) (ht : ZK P t1 = some (some 10)) : Qrj P f := by
 intro c x r p b h hb
 refine VC.of_acall (by simp [isDL, isD, shA, QP]) (by simp [isD, isDL, Xi]) (ACall.of_body bd (by simp) ?_)
 obtain ⟨_, _, r6⟩ := QD.1 h
 have hN' := hN c x r p (by omega)
 rw [Qs7, if_pos h] at hN'
 have hF' := QhZ hF h hb
 have hz : (ZB (Qu c x r p) b).2 = 0 ∨ (ZB (Qu c x r p) b).2 = 18 := by
  rcases Qdl h b with h1 | h1
  ·exact .inl h1.1
  ·exact .inr (by rw [h1])
 generalize ZB (Qu c x r p) b = R at *
 obtain ⟨E, y⟩ := R
 simp only [shA, bs, Qm7, Jf, ZI, il, bss] at hN' hF' hz ⊢
 rcases hz with rfl | rfl
 all_goals
  simp (maxSteps := 4000000) (disch := omega) only [rq, simprocAttr, Z1]
  refine Qa.vc hN' ?_
  simp (maxSteps := 4000000) (disch := omega) only [rq, simprocAttr]
  refine Qa.vc hF' ?_
  simp (maxSteps := 4000000) (disch := omega) only [rq, simprocAttr, ZL, ht]
theorem Qoj {c x r : Int} {p o : List UInt8} (h : Qv c x r p = true) (ho : o.length ≤ 100000) : QU (Jv (Qu c x r p) o) = 0 := by
 unfold QU
 rw [if_neg]
 rintro (h1 | h1)
 ·simp only [Jv, Qu] at h1; rw [h] at h1; cases h1
 ·unfold Zk at h1
  simp [Jv] at h1
  omega
theorem QeT {c x r : Int} {p o : List UInt8} (h : Qv c x r p = true) (ho : o.length ≤ 100000) (n : Nat) : QqF (Jv (Qu c x r p) o) n = (Jv (Qu c x r p) (o.drop n), o.take n, 0) := by
 rw [QqF, if_neg (by rw [Qoj h ho]; simp), if_neg (by omega)]
 rfl
theorem Qqn {c x r : Int} {p b : List UInt8} {e : Enc} (hs : Sib e (Qu c x r p)) (hf : QsZ e b) : OkG e → e.rest = [] → Qt e (Qd e.rate) ≠ 0 → skN (Zo (Qcj e).frs) = 0 := fun h hr hc => by
 obtain ⟨_, _, f3⟩ := Qng h hs hf
 obtain ⟨g1, g2, _⟩ := f3 hr hc
 obtain ⟨⟨r1, r2, r3⟩, _, _⟩ := QD.1 h.r
 have hxx : Z3 x ≠ 0 := by rw [← show e.bits = x from hs.2.1]; exact r1
 rw [g2]
 exact (Qhy g1 (Qhw hxx b)).1
theorem Qqw {e : Enc} (h : OkG e) : ∀ b ∈ e.frs, b.length ≤ 1000000 := by
 intro b hb
 have h1 := List.any_eq_false.1 h.bd b hb
 simp only [Qcx, Bool.or_eq_true, decide_eq_true_eq] at h1
 obtain ⟨k, L, q, hk, k1, k6, hL, L1, L2, hlen, hq, hx, hrm, hcn, hbits⟩ := h.nat
 have hF : 1 ≤ e.frs.length := List.length_pos_of_mem hb
 have h2 : L * k ≤ 4000 := by
  have : L * k ≤ (e.frs.length * L + q) * k := Nat.mul_le_mul_right k (Nat.le_trans (Nat.le_mul_of_pos_left L hF) (Nat.le_add_right _ _))
  omega
 rw [hL, hk] at h1
 have h3 : (81 * (L : Int) * (k : Int) + 7) / 8 ≤ 40501 := by
  have : 81 * (L : Int) * (k : Int) = ((81 * (L * k) : Nat) : Int) := by rw [Int.natCast_mul, Int.natCast_mul, Int.mul_assoc]; rfl
  omega
 omega
theorem Qqu {e : Enc} (h : OkG e) : okC e := by
 obtain ⟨⟨r1, r2, r3⟩, _, r6⟩ := QD.1 h.r
 have h1 := h.fr
 have h2 := (QbP h.ck).2.1
 have h3 := h.rest
 have h4 := JS r2 r3 r1
 exact ⟨by omega, by omega, by omega, Qmd h.ck, by omega, by rw [h.out]; simp⟩
theorem QbI {c x r y : Int} {p o : List UInt8} {d : Bool} (h : Qv c x r p = true) (ho : o.length ≤ 100000) : okC ⟨c, x, r, p, [], [], [], o, d, y⟩ := by
 obtain ⟨_, _, r6⟩ := QD.1 h
 exact ⟨by show p.length ≤ 100000; omega, by simp, by simp, by intro v hv; simp at hv, by simp, by show o.length ≤ 1000000; omega⟩
theorem Qug {c x r : Int} {p : List UInt8} (h : Qv c x r p = true) : QlR (Qu c x r p) = (Xt (Qu c x r p) 24, 24) := by
 rcases QlQ (Qm6 h) ⟨rfl, rfl, rfl, rfl⟩ (Qlz c x r p) with h1 | h1
 ·exact h1.2
 ·have := h1.1.1; simp at this
theorem QsC {P : Prg} {fF : Nat} (hF : QkR P fF) {c x r : Int} {p : List UInt8} (h : Qv c x r p = true) : VC P fF [.agg (Qm7 c x r p)] (.tup [Jf (Xt (Qu c x r p) 24), .int .i64 24]) := by
 refine VC.em _ ?_ (by simp [isDL, isD, Qm7])
 have := hF (Qu c x r p) (QjO h) (by simp [Qu]) (Qqn ⟨rfl, rfl, rfl, rfl⟩ (Qlz c x r p))
 rw [Qug h] at this
 exact this
theorem Qqt : ZB (Qu 1 8 8000 []) [128] = (⟨1, 8, 8000, [], [], [0], [], [], false, 0⟩, 0) := by rfl
theorem QuP : Z2 8 [128] = [0] := by rfl
theorem Qac : Qv 1 8 8000 [] = true := by decide +kernel
set_option maxHeartbeats 4000000 in
theorem QlE {P : Prg} {f fO fM fFi fD fE fN t0 t1 t2 : Nat} (bd : Qf P f 117 [.tmp 0] (ZR fO fM fFi fD fE fN t0 t1 t2)) (hO : Qri P fO) (hM : Qrj P fM) (hFi : QkR P fFi) (hD : Qnx P fD) (hE : QmJ P fE) (hN : Qrh P fN) : QmN P f := by
 refine VC.of_acall rfl rfl (ACall.of_body bd (by simp) ?_)
 have hO' : VC P fO [] (.agg [.int .i64 1, .int .i64 8]) := hO
 have hM' := hM 1 8 8000 [] [128] Qac (by simp)
 have hN' := hN 1 8 8000 [] (by simp)
 rw [Qs7, if_pos Qac] at hN'
 have hX' := QsC hFi Qac
 have i1 : I32 [0] := by intro v hv; simp at hv; omega
 have hE0 := hE 1 8 8000 [0] [] i1 (by simp)
 rw [QvU] at hE0
 rcases Qdl Qac [128] with ⟨g1, g2, g3, g4⟩ | g
 case inr => rw [Qqt] at g; have := congrArg Prod.snd g; simp at this
 have hFi0 := hFi _ (Qqu g2) (Qqw g2) (Qqn g3 g4)
 rcases QlQ g2 g3 g4 with ⟨h1, _⟩ | ⟨_, hcl, _, h1⟩
 ·exact absurd ⟨by simp, by simp⟩ h1
 rw [QuP] at h1 hcl
 rw [h1] at hFi0
 rw [Qqt] at hM' hFi0
 have hlen := Qui.1
 have hfx : QdR 1 8 8000 [0] [] = fEx := rfl
 rw [hfx] at hFi0
 have hD1 := hD (Jv (Qu 1 8 8000 []) fEx) ((22 : Nat) : Int) (QbI Qac (by omega)) (by simp [Jv])
 rw [QeT Qac (by omega)] at hD1
 have hD2 := hD (Jv (Qu 1 8 8000 []) (fEx.drop 22)) ((100 : Nat) : Int) (QbI Qac (by rw [List.length_drop]; omega)) (by simp [Jv])
 rw [QeT Qac (by rw [List.length_drop]; omega)] at hD2
 have k1 : (fEx.take 22).length = 22 := by rw [List.length_take]; omega
 have k2 : (fEx.drop 22).length = 14 := by rw [List.length_drop]; omega
 have k3 : (fEx.drop 22).take 100 = fEx.drop 22 := List.take_of_length_le (by omega)
 have k4 : (fEx.drop 22).drop 100 = [] := List.drop_of_length_le (by omega)
 have k5 : u8 (fEx.take 22) ++ u8 (fEx.drop 22) = u8 fEx := by rw [QbF, List.take_append_drop]
 have d1 := Qai fEx
 have e1 : (fEx == fEx) = true := by simp
 rw [k3, k4] at hD2
 simp only [Jf, ZI, il, bss, bs, Jv, Qu, Xt, shA, Qm7, k1, k2, hlen, List.length_nil, List.length_cons, List.map_nil, QaL, Qab, clA] at hM' hN' hX' hE0 hFi0 hD1 hD2
 have ku1 : (u8 (fEx.take 22)).length = 22 := by rw [Qz, k1]
 have ku2 : (u8 (fEx.drop 22)).length = 14 := by rw [Qz, k2]
 have hM'' : VC P fM [.agg [.int .i64 1, .int .i64 8], .int .i64 8000, .str [], .list 1 [.int .u8 128]] _ := hM'
 have hE' : VC P fE [.agg [.int .i64 1, .int .i64 8, .int .i64 8000, .list 1 [.int .i32 0]], .str []] (.tup [.list 36 (u8 fEx), .int .i64 0]) := hE0
 simp (maxSteps := 4000000) (disch := omega) only [rq, simprocAttr, ZR]
 refine Qa.vc hO' ?_
 simp (maxSteps := 4000000) (disch := omega) only [rq, simprocAttr]
 refine Qa.still 1 [0] hM'' (by simp [QT, QF, frzL, QE, isDL, isD]) ?_
 simp (maxSteps := 4000000) (disch := omega) only [rq, simprocAttr, Qi]
 refine Qa.vc hFi0 ?_
 simp (maxSteps := 4000000) (disch := omega) only [rq, simprocAttr]
 refine Qa.vc hD1 ?_
 simp (maxSteps := 4000000) (disch := omega) only [rq, simprocAttr]
 refine Qa.vc hD2 ?_
 simp (maxSteps := 4000000) (disch := omega) only [rq, simprocAttr]
 refine Qa.still 1 [5] hE' (by simp [QT, QF, frzL, QE, isDL, isD]) ?_
 simp (maxSteps := 4000000) (disch := omega) only [rq, simprocAttr, Qi]
 refine Qa.vc hO' ?_
 simp (maxSteps := 4000000) (disch := omega) only [rq, simprocAttr]
 refine Qa.vc hN' ?_
 simp (maxSteps := 4000000) (disch := omega) only [rq, simprocAttr]
 refine Qa.vc hX' ?_
 simp (maxSteps := 4000000) (disch := omega) only [rq, simprocAttr, ku1, ku2, k5, QmS, d1, e1, hlen]
def Qd2 (P : Prg) (f : Nat) : Prop := ∀ (c b r : Int) (pw : List UInt8), VC P f [shA c b, .int .i64 r, .str pw] (.bool (Qv c b r pw))
theorem QjC {P : Prg} {f fL fE t0 : Nat} (b : Qf P f 26 [.tmp 6] (Zg fL fE t0)) (hL : Xf P fL) (hE : JG P fE) (c x r : Int) (pw : List UInt8) : VC P f [shA c x, .int .i64 r, .str pw] (.int .i64 (if Qv c x r pw = true then 0 else 2)) := by
 refine VC.of_acall rfl rfl (ACall.of_body b (by simp) ?_)
 have hE' := hE c x
 rw [shA] at hE' ⊢
 simp (maxSteps := 4000000) (disch := omega) only [rq, simprocAttr, Zg]
 refine Qa.vc (hL r) ?_
 have he : QH c x = 0 ∨ QH c x = 2 := by unfold QH; split <;> omega
 by_cases h1 : r < 1 ∨ 1048576 < r
 ·simp (maxSteps := 4000000) (disch := omega) only [rq, simprocAttr, Qa7, h1]
  refine Qa.vc hE' ?_
  have h2 : Qv c x r pw = false := by simp only [Qv]; rw [show decide (1 ≤ r ∧ r ≤ 1048576) = false by rw [decide_eq_false_iff_not]; omega]; simp
  rcases he with he | he
  ·simp (maxSteps := 4000000) (disch := omega) only [rq, simprocAttr, he, h2]
  ·simp (maxSteps := 4000000) (disch := omega) only [rq, simprocAttr, he, h2]
 ·simp (maxSteps := 4000000) (disch := omega) only [rq, simprocAttr, Qa7, h1]
  refine Qa.vc hE' ?_
  rcases he with he | he
  ·by_cases hp : pw.length ≤ 64
   ·have h2 : Qv c x r pw = true := by simp only [Qv, he]; rw [show decide (1 ≤ r ∧ r ≤ 1048576) = true by rw [decide_eq_true_eq]; omega]; simp [hp]
    simp (maxSteps := 4000000) (disch := omega) only [rq, simprocAttr, he, h2]
   ·have h2 : Qv c x r pw = false := by simp [Qv, hp]
    simp (maxSteps := 4000000) (disch := omega) only [rq, simprocAttr, he, h2]
  ·have h2 : Qv c x r pw = false := by simp [Qv, he]
   simp (maxSteps := 4000000) (disch := omega) only [rq, simprocAttr, he, h2]
theorem QjR {P : Prg} {f fA t0 fL fE t1 : Nat} (bd : Qf P f 12 [.tmp 6] (Zh fA t0)) (bA : Qf P fA 26 [.tmp 6] (Zg fL fE t1)) (hL : Xf P fL) (hE : JG P fE) : Qd2 P f := by
 intro c x r pw
 refine VC.of_acall (by simp [isDL, isD, shA]) rfl (ACall.of_body bd (by simp) ?_)
 have hA' := QjC bA hL hE c x r pw
 rw [shA] at hA' ⊢
 cases hr : Qv c x r pw with
 | true =>
  rw [hr] at hA'
  simp only [if_true] at hA'
  simp (maxSteps := 4000000) (disch := omega) only [rq, simprocAttr, Zh]
  refine Qa.vc hA' ?_
  simp (maxSteps := 4000000) (disch := omega) only [rq, simprocAttr]
 | false =>
  rw [hr] at hA'
  simp only [Bool.false_eq_true, if_false] at hA'
  simp (maxSteps := 4000000) (disch := omega) only [rq, simprocAttr, Zh]
  refine Qa.vc hA' ?_
  simp (maxSteps := 4000000) (disch := omega) only [rq, simprocAttr]
theorem Quh {c x r : Int} {p : List UInt8} {y : Int} (h : Qv c x r p = true) (hy : y = 18 ∨ y = 24) : QlR (Xt (Qu c x r p) y) = (Xt (Qu c x r p) y, y) := by
 have hs : QcE (Xt (Qu c x r p) y) = y := by
  unfold QcE
  rw [if_pos (by show y ≠ 0; omega)]
  rfl
 rw [QlR, if_neg (by rw [QgV h hy]; simp), hs, if_pos (by omega)]
def atN (n : Nat) (ps : List Int) : Nat → Nat
 | 0 => 0
 | k + 1 => atN n ps k + if k < ps.length then min (n - atN n ps k) (ps.getD k 0).toNat else n - atN n ps k
theorem Qns (n : Nat) (ps : List Int) : ∀ k, atN n ps k ≤ n
 | 0 => Nat.zero_le _
 | k + 1 => by
  have := Qns n ps k
  rw [atN]
  split
  ·have := Nat.min_le_left (n - atN n ps k) (ps.getD k 0).toNat
   omega
  ·omega
theorem Quu (n : Nat) (ps : List Int) : atN n ps (ps.length + 1) = n := by
 have := Qns n ps ps.length
 rw [atN, if_neg (by omega)]
 omega
def dnN (n : Nat) (ps : List Int) : Nat → Nat
 | 0 => 0
 | k + 1 => dnN n ps k + min (if k < ps.length then (ps.getD k 0).toNat else 200000) (n - dnN n ps k)
theorem QqH (n : Nat) (ps : List Int) : ∀ k, dnN n ps k ≤ n
 | 0 => Nat.zero_le _
 | k + 1 => by
  have := QqH n ps k
  have h2 := Nat.min_le_right (if k < ps.length then (ps.getD k 0).toNat else 200000) (n - dnN n ps k)
  rw [dnN]
  omega
theorem Quo {n : Nat} (ps : List Int) (h : n ≤ 200000) : dnN n ps (ps.length + 1) = n := by
 have := QqH n ps ps.length
 rw [dnN, if_neg (by omega), Nat.min_eq_right (by omega)]
 omega
theorem Qqv {c x r : Int} {p : List UInt8} (h : Qv c x r p = true) (b : List UInt8) : okC (ZB (Qu c x r p) b).1 ∧ (∀ q ∈ (ZB (Qu c x r p) b).1.frs, q.length ≤ 1000000) := by
 rcases Qdl h b with ⟨_, g, _, _⟩ | g
 ·exact ⟨Qqu g, Qqw g⟩
 ·rw [g]
  exact ⟨QbI h (by simp [Qu]), by simp [Xt]⟩
def Qck (c x r : Int) (p b : List UInt8) (k a : Nat) : List AV := if k = 0 then Qm7 c x r p else ZI (ZB (Qu c x r p) (b.take a)).1
theorem QsO (c x r : Int) (p b : List UInt8) (k a : Nat) : (Qck c x r p b k a).length = 10 ∧ (Qck c x r p b k a).all AV.one = true ∧ (Qck c x r p b k a).take 10 = Qck c x r p b k a ∧ (Qck c x r p b k a).drop 10 = [] ∧ isDL (Qck c x r p b k a) = true := by
 unfold Qck
 split
 ·exact ⟨rfl, rfl, rfl, rfl, rfl⟩
 ·exact ⟨rfl, rfl, rfl, rfl, by simp [ZI, isDL, isD, QP, Zu, QbN]⟩
theorem Qj8 {P : Prg} {fF : Nat} (hF : Qd3 P fF) {c x r : Int} {p b : List UInt8} (h : Qv c x r p = true) (hb : b.length ≤ 1100) (k a n : Nat) (ha : a + n ≤ b.length) (hk : k = 0 → a = 0) : VC P fF [.agg (Qck c x r p b k a), .list n (u8 ((b.drop a).take n))] (.tup [Jf (ZB (Qu c x r p) (b.take (a + n))).1, .int .i64 (ZB (Qu c x r p) (b.take (a + n))).2]) := by
 have hl : ((b.drop a).take n).length = n := by rw [List.length_take, List.length_drop]; omega
 have hbs : AV.list n (u8 ((b.drop a).take n)) = bs ((b.drop a).take n) := by rw [bs, hl]
 rw [hbs]
 unfold Qck
 by_cases h0 : k = 0
 ·have := hk h0
  subst this
  rw [if_pos h0]
  have := QhZ hF h (b := (b.drop 0).take n) (by omega)
  simpa using this
 ·rw [if_neg h0]
  obtain ⟨o1, o2⟩ := Qqv h (b.take a)
  have := hF _ ((b.drop a).take n) o1 o2 (by omega)
  rw [QsF (Qm6 h), ← List.take_add] at this
  exact this
def QfV (P : Prg) (f : Nat) : Prop := ∀ (c x r : Int) (p b : List UInt8) (ps : List Int), VC P f [shA c x, .int .i64 r, .str p, bs b, .list ps.length (ks .i64 ps)] (.bool true)
set_option maxRecDepth 20000 in
set_option maxHeartbeats 4000000 in
theorem QcJ {P : Prg} {f fA fR fU fN fF fS fi fD t0 t1 t2 : Nat} (bd : Qf P f 185 [.tmp 10] (Qp fA fR fU fN fF fS fi fD t0 t1 t2)) (hA : QmN P fA) (hR : Qd2 P fR) (hU : QiR P fU) (hN : Qrh P fN) (hF : Qd3 P fF) (hS : QmD P fS) (hFi : QkR P fi) (hD : Qnx P fD) : QfV P f := by
 intro c x r p b ps
 refine VC.of_acall (by simp [isDL, isD, shA, QP, QB]) rfl (ACall.of_body bd (by simp) ?_)
 have hA' : VC P fA [] (.bool true) := hA
 have hR' := hR c x r p
 obtain ⟨v, hv, hU'⟩ := hU c x r b
 rw [shA] at hR' hU' ⊢
 rw [bs] at hU' ⊢
 cases hr : Qv c x r p with
 | false =>
  rw [hr] at hR'
  simp (maxSteps := 4000000) (disch := omega) only [rq, simprocAttr, Qp]
  refine Qa.vc hA' ?_
  simp (maxSteps := 4000000) (disch := omega) only [rq, simprocAttr]
  refine Qa.vc hR' ?_
  simp (maxSteps := 4000000) (disch := omega) only [rq, simprocAttr]
 | true =>
 rw [hr] at hR'
 cases v with
 | true =>
  simp (maxSteps := 4000000) (disch := omega) only [rq, simprocAttr, Qp]
  refine Qa.vc hA' ?_
  simp (maxSteps := 4000000) (disch := omega) only [rq, simprocAttr]
  refine Qa.vc hR' ?_
  simp (maxSteps := 4000000) (disch := omega) only [rq, simprocAttr]
  refine Qa.vc hU' ?_
  simp (maxSteps := 4000000) (disch := omega) only [rq, simprocAttr]
 | false =>
 by_cases hps : 60 < ps.length
 ·simp (maxSteps := 4000000) (disch := omega) only [rq, simprocAttr, Qp]
  refine Qa.vc hA' ?_
  simp (maxSteps := 4000000) (disch := omega) only [rq, simprocAttr]
  refine Qa.vc hR' ?_
  simp (maxSteps := 4000000) (disch := omega) only [rq, simprocAttr]
  refine Qa.vc hU' ?_
  simp (maxSteps := 4000000) (disch := omega) only [rq, simprocAttr]
 have hb := hv rfl
 obtain ⟨⟨r1, r2, r3⟩, ⟨r4, r5⟩, r6⟩ := QD.1 hr
 have hN' := hN c x r p (by omega)
 rw [Qs7, if_pos hr, shA] at hN'
 have hF' := QhZ hF hr (b := b) (by omega)
 simp only [bs, Qm7, Jf, ZI, il, bss] at hN' hF'
 simp (maxSteps := 4000000) (disch := omega) only [rq, simprocAttr, Qp]
 refine Qa.vc hA' ?_
 simp (maxSteps := 4000000) (disch := omega) only [rq, simprocAttr]
 refine Qa.vc hR' ?_
 simp (maxSteps := 4000000) (disch := omega) only [rq, simprocAttr]
 refine Qa.vc hU' ?_
 simp (maxSteps := 4000000) (disch := omega) only [rq, simprocAttr]
 refine Qa.vc hN' ?_
 simp (maxSteps := 4000000) (disch := omega) only [rq, simprocAttr]
 refine Qa.vc hF' ?_
 simp (maxSteps := 4000000) (disch := omega) only [rq, simprocAttr]
 refine QN.by (ι := Nat) (fun k => ⟨[(18, .int .i64 k), (17, .int .i64 (atN b.length ps k)), (16, .int .i64 (ZB (Qu c x r p) (b.take (atN b.length ps k))).2), (12, .ref 1 1 0), (14, .ref 2 1 0), (15, .int .i64 (ZB (Qu c x r p) b).2), (3, .list b.length (u8 b)), (4, .list ps.length (ks .i64 ps)), (11, .bool true)], [⟨t0, 2, 1, [.int .i64 c, .int .i64 x], 0⟩, ⟨t1, 10, 1, Qck c x r p b k (atN b.length ps k), 0⟩, ⟨t1, 10, 1, ZI (ZB (Qu c x r p) b).1, 0⟩]⟩) (fun k => k ≤ ps.length + 1) (fun k => ps.length + 1 - k) 0 ?_ (by omega) ?_
 ·have e0 : ZB (Qu c x r p) [] = (Qu c x r p, 0) := by rw [QdS (Qm6 hr)]; rfl
  simp only [atN, List.take_zero, e0, Qck, if_true, Qm7, ZI, il, bss, bs]
  exact Le.slots (by simp [Am.look])
 intro k hk
 by_cases hlt : k ≤ ps.length
 ·have hA0 := Qns b.length ps k
  have hA1 := Qns b.length ps (k + 1)
  have hst : atN b.length ps (k + 1) = atN b.length ps k + if k < ps.length then min (b.length - atN b.length ps k) (ps.getD k 0).toNat else b.length - atN b.length ps k := rfl
  obtain ⟨c1, c2, c3, c4, c5⟩ := QsO c x r p b k (atN b.length ps k)
  have hk0 : k = 0 → atN b.length ps k = 0 := fun h => by rw [h]; rfl
  have hcell : ∀ a, Qck c x r p b (k + 1) a = ZI (ZB (Qu c x r p) (b.take a)).1 := fun a => if_neg (Nat.succ_ne_zero k)
  by_cases hlt2 : k < ps.length
  ·rw [if_pos hlt2] at hst
   have e1 := QdQ (K := .i64) (l := ps) (i := k) hlt2
   generalize ps.getD k 0 = v at *
   generalize hAq : atN b.length ps k = A at *
   have hmx : (if (0 : Int) < v then v else 0) = ((v.toNat : Nat) : Int) := by split <;> omega
   have hmn : (if ((v.toNat : Nat) : Int) < (b.length : Int) - (A : Int) then ((v.toNat : Nat) : Int) else (b.length : Int) - (A : Int)) = ((min (b.length - A) v.toNat : Nat) : Int) := by split <;> omega
   generalize hNq : min (b.length - A) v.toNat = N at *
   have hNl : A + N ≤ b.length := by omega
   have hstep := Qj8 hF hr hb k A N hNl hk0
   have hsl : ((u8 b).drop A).take N = u8 ((b.drop A).take N) := by rw [QdF, Qlc]
   generalize Qck c x r p b k A = CK at *
   simp only [Jf, ZI, il, bss, bs] at hstep
   simp (maxSteps := 4000000) (disch := omega) only [rq, simprocAttr, e1, hmx, hmn, c1, c2, c3, c4, c5, hsl, Nat.add_sub_cancel_left]
   refine Q4.vc hstep ?_
   simp (maxSteps := 4000000) (disch := omega) only [rq, simprocAttr, c1, c2, c3, c4, c5]
   refine ⟨k + 1, by omega, by omega, ?_⟩
   rw [hst, hcell]
   simp only [Int.natCast_add, ZI, il, bss, bs]
   exact Le.slots (by simp [Am.look])
  ·rw [if_neg hlt2] at hst
   generalize hAq : atN b.length ps k = A at *
   have hsub : (b.length : Int) - (A : Int) = ((b.length - A : Nat) : Int) := by omega
   generalize hNq : b.length - A = N at *
   have hNl : A + N ≤ b.length := by omega
   have hstep := Qj8 hF hr hb k A N hNl hk0
   have hsl : ((u8 b).drop A).take N = u8 ((b.drop A).take N) := by rw [QdF, Qlc]
   generalize Qck c x r p b k A = CK at *
   simp only [Jf, ZI, il, bss, bs] at hstep
   simp (maxSteps := 4000000) (disch := omega) only [rq, simprocAttr, hsub, c1, c2, c3, c4, c5, hsl, Nat.add_sub_cancel_left]
   refine Q4.vc hstep ?_
   simp (maxSteps := 4000000) (disch := omega) only [rq, simprocAttr, c1, c2, c3, c4, c5]
   refine ⟨k + 1, by omega, by omega, ?_⟩
   rw [hst, hcell]
   simp only [Int.natCast_add, ZI, il, bss, bs]
   exact Le.slots (by simp [Am.look])
 ·have ek : k = ps.length + 1 := by omega
  subst ek
  rw [Quu, List.take_length]
  have hcell : Qck c x r p b (ps.length + 1) b.length = ZI (ZB (Qu c x r p) b).1 := by rw [Qck, if_neg (Nat.succ_ne_zero _), List.take_length]
  rw [hcell]
  obtain ⟨o1, o2⟩ := Qqv hr b
  have hS' := hS _ o1
  rcases Qdl hr b with ⟨g1, g2, g3, g4⟩ | g
  case inr =>
   have hFi' := hFi (Xt (Qu c x r p) 18) (QbI hr (by simp [Qu])) (by simp [Xt]) (fun h => by have := h.err; simp [Xt] at this)
   rw [Quh hr (.inl rfl)] at hFi'
   rw [g] at hS' ⊢
   simp only [Jf, ZI, il, bss, bs] at hS' hFi' ⊢
   simp (maxSteps := 4000000) (disch := omega) only [rq, simprocAttr]
   refine Qa.vc hS' ?_
   simp (maxSteps := 4000000) (disch := omega) only [rq, simprocAttr]
   refine Qa.vc hFi' ?_
   simp (maxSteps := 4000000) (disch := omega) only [rq, simprocAttr]
  have hFi' := hFi _ o1 o2 (Qqn g3 g4)
  have hff := QlQ g2 g3 g4
  generalize ZB (Qu c x r p) b = R at *
  obtain ⟨E, y⟩ := R
  simp only at g1 hff hFi' hS'
  subst g1
  rcases hff with ⟨_, h2⟩ | ⟨_, hcl, _, h2⟩
  ·rw [h2] at hFi'
   simp only [Jf, ZI, il, bss, bs] at hS' hFi' ⊢
   simp (maxSteps := 4000000) (disch := omega) only [rq, simprocAttr]
   refine Qa.vc hS' ?_
   simp (maxSteps := 4000000) (disch := omega) only [rq, simprocAttr]
   refine Qa.vc hFi' ?_
   simp (maxSteps := 4000000) (disch := omega) only [rq, simprocAttr]
  rw [h2] at hFi'
  have hfl := (QsE (p := p) hcl (Qhw r1 b)).2
  generalize QdR c x r (Z2 x b) p = F at *
  simp only [Jf, ZI, il, bss, bs] at hS' hFi' ⊢
  simp (maxSteps := 4000000) (disch := omega) only [rq, simprocAttr]
  refine Qa.vc hS' ?_
  simp (maxSteps := 4000000) (disch := omega) only [rq, simprocAttr]
  refine Qa.vc hFi' ?_
  simp (maxSteps := 4000000) (disch := omega) only [rq, simprocAttr]
  refine QN.byP [0, 1, 2, 0, 0, 0, 0] (ι := Nat) (fun j => ⟨[(24, .int .i64 j), (22, .own 5 (dnN F.length ps j)), (23, .ref 4 1 0), (20, .ref 3 1 0), (4, .list ps.length (ks .i64 ps)), (11, .bool true)], [⟨t0, 2, 1, [.int .i64 c, .int .i64 x], 0⟩, ⟨t1, 10, 1, ZI E, 0⟩, ⟨t1, 10, 1, ZI E, 0⟩, ⟨t1, 10, 1, ZI (Jv (Qu c x r p) F), 0⟩, ⟨t1, 10, 1, ZI (Jv (Qu c x r p) (F.drop (dnN F.length ps j))), 0⟩, ⟨t2, 1, dnN F.length ps j, u8 (F.take (dnN F.length ps j)), 0⟩]⟩) (fun j => j ≤ ps.length + 1) (fun j => ps.length + 1 - j) 0 (Le.trans (Le.virt 22 t2 1 (by decide) rfl) ?_) (by omega) ?_
  ·simp only [dnN, List.take_zero, List.drop_zero, Qab, ZI, il, bss, bs]
   exact Le.slots (by simp [Am.look])
  intro j hj
  by_cases hjl : j ≤ ps.length
  ·have hA0 := QqH F.length ps j
   have hst : dnN F.length ps (j + 1) = dnN F.length ps j + min (if j < ps.length then (ps.getD j 0).toNat else 200000) (F.length - dnN F.length ps j) := rfl
   have hdr : ∀ (a n : Nat), a ≤ F.length → (F.drop a).drop n = F.drop (a + min n (F.length - a)) := fun a n ha => by
    rw [List.drop_drop]
    rcases Nat.le_total n (F.length - a) with h | h
    ·rw [Nat.min_eq_left h]
    ·rw [Nat.min_eq_right h, List.drop_of_length_le (by omega), List.drop_of_length_le (by omega)]
   have hcat : ∀ (a n : Nat), a ≤ F.length → u8 (F.take a) ++ u8 ((F.drop a).take n) = u8 (F.take (a + min n (F.length - a))) := fun a n ha => by
    rw [QbF]
    rcases Nat.le_total n (F.length - a) with h | h
    ·rw [Nat.min_eq_left h, ← List.take_add]
    ·rw [Nat.min_eq_right h, List.take_of_length_le (l := F.drop a) (by rw [List.length_drop]; omega), List.take_append_drop, List.take_of_length_le (by omega)]
   have hlen : ∀ (a n : Nat), ((F.drop a).take n).length = min n (F.length - a) := fun a n => by rw [List.length_take, List.length_drop]
   have hD' := fun (a n : Nat) => hD (Jv (Qu c x r p) (F.drop a)) (n : Int) (QbI hr (by rw [List.length_drop]; omega)) (by simp [Jv])
   by_cases hlt2 : j < ps.length
   ·rw [if_pos hlt2] at hst
    have e1 := QdQ (K := .i64) (l := ps) (i := j) hlt2
    generalize ps.getD j 0 = v at *
    generalize hAq : dnN F.length ps j = A at *
    have hmx : (if (0 : Int) < v then v else 0) = ((v.toNat : Nat) : Int) := by split <;> omega
    generalize hNq : v.toNat = n at *
    have hD2 := hD' A n
    rw [QeT hr (by rw [List.length_drop]; omega), hdr A n hA0] at hD2
    have hc2 := hcat A n hA0
    have hl2 := hlen A n
    have hmn := Nat.min_le_left n (F.length - A)
    generalize hM : min n (F.length - A) = m at *
    have ku := Qz ((F.drop A).take n)
    rw [hl2] at ku
    simp only [Jf, ZI, il, bss, bs, Jv, Qu, List.length_nil, List.map_nil, QaL, Qab, hl2, List.length_drop] at hD2 ⊢
    have tp1 := Qr ((F.drop A).take n)
    have tp2 := Qr (F.drop (A + m))
    simp (maxSteps := 4000000) (disch := omega) only [rq, simprocAttr, Qvf, e1, hmx]
    refine Qa.vc hD2 ?_
    simp (maxSteps := 4000000) (disch := omega) only [rq, simprocAttr, Qvf, e1, hmx]
    refine ⟨⟨[(24, .int .i64 j), (22, .own 5 A), (27, .list m (u8 ((F.drop A).take n))), (26, .cell [.int .i64 c, .int .i64 x, .int .i64 r, .str p, .list 0 [], .list 0 [], .list 0 [], .list (F.length - (A + m)) (u8 (F.drop (A + m))), .bool true, .int .i64 0]), (23, .ref 4 1 0), (20, .ref 3 1 0), (4, .list ps.length (ks .i64 ps)), (11, .bool true)], [⟨t0, 2, 1, [.int .i64 c, .int .i64 x], 0⟩, _, _, _, _, ⟨t2, 1, A, u8 (F.take A), 0⟩]⟩, Le.dropT [_, _, _, _, _, _] (by simp [isTL, isT, Qr, Qq, Q7]) (by simp [Am.look, QF, frzL, QE, isDL, isD, frzL_T _ tp1, frzL_T _ tp2, frzL_T _ (Qq .i64 ps)]), ?_⟩
    simp (maxSteps := 4000000) (disch := omega) only [rq, simprocAttr, hc2, ku]
    refine ⟨j + 1, by omega, by omega, ?_⟩
    rw [hst]
    simp only [Int.natCast_add]
    exact Le.dropT [_, _, _, _, _, _] (by simp [isTL, isT, Qr, Qq, Q7]) (by simp [Am.look, QF, frzL, QE, frzL_T _ (Qq .i64 ps)])
   ·rw [if_neg hlt2] at hst
    generalize hAq : dnN F.length ps j = A at *
    obtain ⟨n, hn⟩ : ∃ n : Nat, n = 200000 := ⟨_, rfl⟩
    have hD2 := hD' A n
    rw [QeT hr (by rw [List.length_drop]; omega), hdr A n hA0] at hD2
    have hc2 := hcat A n hA0
    have hl2 := hlen A n
    rw [← hn] at hst
    have hmn := Nat.min_le_left n (F.length - A)
    generalize hM : min n (F.length - A) = m at *
    have ku := Qz ((F.drop A).take n)
    rw [hl2] at ku
    have hnI : (n : Int) = 200000 := by omega
    rw [hnI] at hD2
    simp only [Jf, ZI, il, bss, bs, Jv, Qu, List.length_nil, List.map_nil, QaL, Qab, hl2, List.length_drop] at hD2 ⊢
    have tp1 := Qr ((F.drop A).take n)
    have tp2 := Qr (F.drop (A + m))
    simp (maxSteps := 4000000) (disch := omega) only [rq, simprocAttr, Qvf]
    refine Qa.vc hD2 ?_
    simp (maxSteps := 4000000) (disch := omega) only [rq, simprocAttr, Qvf]
    refine ⟨⟨[(24, .int .i64 j), (22, .own 5 A), (27, .list m (u8 ((F.drop A).take n))), (26, .cell [.int .i64 c, .int .i64 x, .int .i64 r, .str p, .list 0 [], .list 0 [], .list 0 [], .list (F.length - (A + m)) (u8 (F.drop (A + m))), .bool true, .int .i64 0]), (23, .ref 4 1 0), (20, .ref 3 1 0), (4, .list ps.length (ks .i64 ps)), (11, .bool true)], [⟨t0, 2, 1, [.int .i64 c, .int .i64 x], 0⟩, _, _, _, _, ⟨t2, 1, A, u8 (F.take A), 0⟩]⟩, Le.dropT [_, _, _, _, _, _] (by simp [isTL, isT, Qr, Qq, Q7]) (by simp [Am.look, QF, frzL, QE, isDL, isD, frzL_T _ tp1, frzL_T _ tp2, frzL_T _ (Qq .i64 ps)]), ?_⟩
    simp (maxSteps := 4000000) (disch := omega) only [rq, simprocAttr, hc2, ku]
    refine ⟨j + 1, by omega, by omega, ?_⟩
    rw [hst]
    simp only [Int.natCast_add]
    exact Le.dropT [_, _, _, _, _, _] (by simp [isTL, isT, Qr, Qq, Q7]) (by simp [Am.look, QF, frzL, QE, frzL_T _ (Qq .i64 ps)])
  ·have ej : j = ps.length + 1 := by omega
   subst ej
   rw [Quo ps (by omega), List.take_length, List.drop_length]
   have d1 := Qai F
   have e1 : (F == F) = true := by simp
   simp only [ZI, il, bss, bs, Jv, List.length_nil, Qab]
   simp (maxSteps := 4000000) (disch := omega) only [rq, simprocAttr, Qvf, QmS, d1, e1]
theorem Qqk {L : List (List AV)} (h : ∀ c ∈ L, Qbw (.int .i64) c) : ∃ l : List Int, L.length = l.length ∧ AV.list L.length L.flatten = .list l.length (ks .i64 l) := by
 obtain ⟨l, h1, h2, h3⟩ := Qj5 h
 exact ⟨l, h1, h2⟩
end Go.Am
