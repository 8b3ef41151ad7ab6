/- What the functions that the law reaches return, for every program that has their code; the conditions stand in each statement. -/
import Derived.Test.YtghngklehkkecadGreatDoorPushencFileL2
set_option linter.unusedSectionVars false
set_option linter.unusedSimpArgs false
set_option linter.unusedVariables false
namespace Go.Am
open Go.RowKit
set_option maxRecDepth 20000 in
set_option maxHeartbeats 4000000 in
theorem QhB {P : Prg} {f fC fR fS fK fT fE t0 tf tj : Nat} (bd : Qf P f 44 [.tmp 2] (QZ fC fR fS fK tj)) (hC : Qd0 P fC) (hR : QkL P fR) (hS : QbX P fS) (bK : Qf P fK 46 [.tmp 2] (Zq fT fE t0 tf)) (hT : QfI P fT) (hE : QmA P fE)
  {e : Enc} (h : OkG e) {m : List UInt8} (hm : (m.length : Int) = e.ch * e.bits / 8) {te tb tl : Nat} {x1 x6 : Ob} (hx1 : isDL x1.cs = true) (hx6 : isDL x6.cs = true) {K : AV → List Ob → Prop}
  (h18 : Qa1 e.ch (e.frs.length + 1) (Qr e (Qc e.rate) + 1) = false → K (.int .i64 18) [⟨te, 10, 1, QeR e (.own 2 m.length) (.own 3 e.smp.length) (.own 4 e.frs.length) (.list 0 []), 0⟩, x1, ⟨tb, 1, m.length, u8 m, 0⟩, ⟨tj, 1, e.smp.length, ks .i32 e.smp, 0⟩, ⟨tf, 1, e.frs.length, e.frs.map bs, 0⟩, ⟨tl, 1, 1, [.int .i64 (Qc e.rate)], 0⟩, x6])
  (hA : Qa1 e.ch (e.frs.length + 1) (Qr e (Qc e.rate) + 1) = true → ((ZX e m).smp.length : Int) < Qc e.rate * e.ch → K (.int .i64 0) [⟨te, 10, 1, QeR e (.emp true) (.own 3 (ZX e m).smp.length) (.own 4 e.frs.length) (.list 0 []), 0⟩, x1, ⟨tb, 1, m.length, u8 m, m.length⟩, ⟨tj, 1, (ZX e m).smp.length, ks .i32 (ZX e m).smp, 0⟩, ⟨tf, 1, e.frs.length, e.frs.map bs, 0⟩, ⟨tl, 1, 1, [.int .i64 (Qc e.rate)], 0⟩, x6])
  (hB : Qa1 e.ch (e.frs.length + 1) (Qr e (Qc e.rate) + 1) = true → ¬ ((ZX e m).smp.length : Int) < Qc e.rate * e.ch → K (.int .i64 0) [⟨te, 10, 1, QeR e (.emp true) (.emp true) (.own 4 (e.frs.length + 1)) (.list 0 []), 0⟩, x1, ⟨tb, 1, m.length, u8 m, m.length⟩, ⟨tj, 1, (ZX e m).smp.length, ks .i32 (ZX e m).smp, (ZX e m).smp.length⟩, ⟨tf, 1, e.frs.length + 1, (Xj (ZX e m)).frs.map bs, 0⟩, ⟨tl, 1, 1, [.int .i64 (Qc e.rate)], 0⟩, x6]) :
  ACall P f [.ref 0 1 0, .ref 5 1 0] [⟨te, 10, 1, QeR e (.own 2 m.length) (.own 3 e.smp.length) (.own 4 e.frs.length) (.list 0 []), 0⟩, x1, ⟨tb, 1, m.length, u8 m, 0⟩, ⟨tj, 1, e.smp.length, ks .i32 e.smp, 0⟩, ⟨tf, 1, e.frs.length, e.frs.map bs, 0⟩, ⟨tl, 1, 1, [.int .i64 (Qc e.rate)], 0⟩, x6] K := by
 obtain ⟨k, L, q, hk, k1, k6, hL, L1, L2, hlen, hq, hx, hrm, hcn, hbits⟩ := h.nat
 obtain ⟨⟨r1, r2, r3⟩, ⟨r4, r5⟩, r6⟩ := QA.1 h.r
 have hI := Ql7 h.ck
 have h4 := (QbM h.ck).2.1
 have hfr := h.fr
 have hmm := Xu r2 r3 r1
 let e1 : Enc := { e with rest := m }
 have hC' := hC e1 (Qc e.rate) ⟨r2, r3, hfr, by show e.smp.length ≤ 400000; omega, hI⟩ (by omega) (by omega)
 have hcn1 : Qr e1 (Qc e.rate) = Qr e (Qc e.rate) := rfl
 rw [hcn1] at hC'
 have hc0 : 0 ≤ Qr e (Qc e.rate) ∧ Qr e (Qc e.rate) ≤ 4000 := by
  rw [hcn]
  have : e.frs.length * L + q ≤ 4000 := Nat.le_trans (Nat.le_mul_of_pos_right _ (by omega)) hrm
  omega
 have hR' := hR e1 (e.frs.length + 1) (Qr e (Qc e.rate) + 1) r2 r3 (by omega) (by omega)
 have hml : m.length ≤ 18 := by omega
 have hS' := hS e.bits m (by omega)
 have hsl := Qlc hx r2 r3 hm
 have t1 := Qw m
 have t2 := Qv .i32 e.smp
 have t3 := ZH e.frs
 have e1c : e1.ch = e.ch := rfl
 have hout : bs e.out = .list 0 [] := by rw [h.out]; rfl
 simp only [QaD, Qbp, il, bss, e1] at hC' hR'
 rw [hout] at hC' hR'
 rw [bs] at hC' hR' hS'
 have kc := Qd .i32 e.smp
 have hbl : (e.frs.map bs).length = e.frs.length := by simp
 cases hroom : Qa1 e.ch (e.frs.length + 1) (Qr e (Qc e.rate) + 1) with
 | false =>
  have hk18 := h18 hroom
  rw [hroom] at hR'
  generalize hcc : Qr e (Qc e.rate) = CC at *
  simp only [QeR] at hk18 ⊢
  refine ACall.of_body bd (by simp) ?_
  simp (maxSteps := 4000000) (disch := omega) only [rq, simprocAttr, QZ]
  refine Q5.ro (fun K hK => ACall.of_vc_flat 1 (by simp [QS, QG, frzL, QD, isDL, isD, frzL_T _ t1, frzL_T _ t2, frzL_T _ t3]) hC' rfl hK) ?_
  simp (maxSteps := 4000000) (disch := omega) only [rq, simprocAttr]
  refine callE.ro (fun K hK => ACall.of_vc_flat 1 (by simp [QS, QG, frzL, QD, isDL, isD, frzL_T _ t1, frzL_T _ t2, frzL_T _ t3]) hR' rfl hK) ?_
  simp (maxSteps := 4000000) (disch := omega) only [rq, simprocAttr]
  exact hk18
 | true =>
  have hkA := hA hroom
  have hkB := hB hroom
  obtain ⟨_, hask, hs4, hI4⟩ := QeA h hm hroom
  have cK := fun (x2 : Ob) (hx2 : isDL x2.cs = true) (T : List Ob) (hT1 : T = [] ∨ ∃ x y, T = [x, y]) (hlo : Low (5 + T.length) (⟨te, 10, 1, QeR (ZX e m) (.emp true) (.own 3 (ZX e m).smp.length) (.own 4 (ZX e m).frs.length) (.list 0 []), 0⟩ :: x1 :: x2 :: ⟨tj, 1, (ZX e m).smp.length, ks .i32 (ZX e m).smp, 0⟩ :: ⟨tf, 1, (ZX e m).frs.length, (ZX e m).frs.map bs, 0⟩ :: T)) (K : AV → List Ob → Prop) hK =>
   Qeb (e := ZX e m) bK hT hE (by show ¬ 64 < e.pw.length; omega) hask hI4 (by show e.frs.length ≤ 1001; omega) hs4 hT1 hlo (K := K) hK
  rw [hroom] at hR'
  generalize hcc : Qr e (Qc e.rate) = CC at *
  simp only [QeR] at hkA hkB ⊢
  have hsm : (ZX e m).smp = e.smp ++ ZR e.bits m := rfl
  have hml2 : (ZX e m).smp.length = e.smp.length + (ZR e.bits m).length := by rw [hsm, List.length_append]
  have hkk : ks .i32 e.smp ++ ks .i32 (ZR e.bits m) = ks .i32 (ZX e m).smp := by rw [hsm, Qfj]
  have kc2 := Qd .i32 (ZR e.bits m)
  have hsA : ZS e.bits m = .tup [.list (ZR e.bits m).length (ks .i32 (ZR e.bits m)), .int .i64 0] := by
   have hd0 : 0 < (e.bits / 8).toNat := by rcases hbits with b | b | b <;> rw [b] <;> decide
   have hd1 : m.length % (e.bits / 8).toNat = 0 := by rcases hbits with b | b | b <;> rw [b] at hm ⊢ <;> simp at hm ⊢ <;> omega
   have hd2 : m.length / (e.bits / 8).toNat ≤ 4000 := Nat.le_trans (Nat.div_le_self _ _) (by omega)
   rw [ZS, if_neg hx, if_neg (by omega), if_neg (by omega), il]
  rw [hsA] at hS'
  have hmul : Qc e.rate * e.ch = ((L * k : Nat) : Int) := by rw [hL, hk]; simp
  have hLk : L * k ≤ 6573924 := by
   have : L * k ≤ 1095654 * 6 := Nat.mul_le_mul L2 k6
   omega
  rw [hmul] at hkA hkB
  generalize ZR e.bits m = SL at *
  by_cases hlt : ((ZX e m).smp.length : Int) < ((L * k : Nat) : Int)
  ·have hk' := hkA hlt
   refine ACall.of_body bd (by simp) ?_
   simp (maxSteps := 4000000) (disch := omega) only [rq, simprocAttr, QZ]
   refine Q5.ro (fun K hK => ACall.of_vc_flat 1 (by simp [QS, QG, frzL, QD, isDL, isD, frzL_T _ t1, frzL_T _ t2, frzL_T _ t3]) hC' rfl hK) ?_
   simp (maxSteps := 4000000) (disch := omega) only [rq, simprocAttr]
   refine callE.ro (fun K hK => ACall.of_vc_flat 1 (by simp [QS, QG, frzL, QD, isDL, isD, frzL_T _ t1, frzL_T _ t2, frzL_T _ t3]) hR' rfl hK) ?_
   simp (maxSteps := 4000000) (disch := omega) only [rq, simprocAttr]
   refine Qa.still 1 [2] hS' (by simp [QS, QG, frzL, QD, frzL_T _ t1]) ?_
   simp (maxSteps := 4000000) (disch := omega) only [rq, simprocAttr, Qj, kc, kc2, hkk, hmul]
   simpa only [hml2] using hk'
  ·have hk' := hkB hlt
   refine ACall.of_body bd (by simp) ?_
   simp (maxSteps := 4000000) (disch := omega) only [rq, simprocAttr, QZ]
   refine Q5.ro (fun K hK => ACall.of_vc_flat 1 (by simp [QS, QG, frzL, QD, isDL, isD, frzL_T _ t1, frzL_T _ t2, frzL_T _ t3]) hC' rfl hK) ?_
   simp (maxSteps := 4000000) (disch := omega) only [rq, simprocAttr]
   refine callE.ro (fun K hK => ACall.of_vc_flat 1 (by simp [QS, QG, frzL, QD, isDL, isD, frzL_T _ t1, frzL_T _ t2, frzL_T _ t3]) hR' rfl hK) ?_
   simp (maxSteps := 4000000) (disch := omega) only [rq, simprocAttr]
   refine Qa.still 1 [2] hS' (by simp [QS, QG, frzL, QD, frzL_T _ t1]) ?_
   simp (maxSteps := 4000000) (disch := omega) only [rq, simprocAttr, Qj, kc, kc2, hkk, hmul]
   rw [← hml2]
   refine cK ⟨tb, 1, m.length, u8 m, m.length⟩ (QT _) [⟨tl, 1, 1, [.int .i64 (Qc e.rate)], 0⟩, x6] (.inr ⟨_, _, rfl⟩) ?_ _ ?_
   ·refine Low.cons ?_ (Low.cons (lowL_D _ hx1) (Low.cons (lowL_D _ (QT _)) (Low.cons (lowL_D _ (QB _ _)) (Low.cons (lowL_D _ (Zk _)) (Low.cons (lowL_D _ (by simp [isDL, isD])) (Low.cons (lowL_D _ hx6) Low.nil))))))
    simp [QeR, lowL, XV]
   ·simp (maxSteps := 4000000) (disch := omega) only [rq, simprocAttr]
    exact hk'
theorem QgZ (e : Enc) (l : List UInt8) (j : Nat) (h : j < l.length) (h0 : (QJ e (l.take j)).2 = 0) : QJ e (l.take (j + 1)) = Qbt (QJ e (l.take j)).1 l[j] := by
 rw [List.take_succ_eq_append_getElem h, Qft, if_neg (by rw [h0]; simp), QJ]
 by_cases h1 : (Qbt (QJ e (l.take j)).1 l[j]).2 ≠ 0
 ·rw [if_pos h1]
 ·rw [if_neg h1, QJ]
  have : (Qbt (QJ e (l.take j)).1 l[j]).2 = 0 := by simpa using h1
  rw [← this]
theorem Qoq {e : Enc} {l : List UInt8} {j : Nat} (h : j < l.length) (h0 : (QJ e (l.take j)).2 = 0) {r : Enc × Int} (hb : Qbt (QJ e (l.take j)).1 l[j] = r) (hr : r.2 ≠ 0) : QJ e l = r := by
 have hs := QgZ e l j h h0
 conv => lhs; rw [← List.take_append_drop (j + 1) l]
 rw [Qft, hs, hb, if_pos hr]
theorem Qkh (e : Enc) (m : List UInt8) : (Xj (ZX e m)).frs.length = e.frs.length + 1 := by simp [Xj, ZX]
def QfO (P : Prg) (f : Nat) : Prop := ∀ (e : Enc) (l : List UInt8), okC e → (∀ b ∈ e.frs, b.length ≤ 1000000) → l.length ≤ 1000000 → VC P f [QaD e, bs l] (.tup [QaD (J1 e l).1, .int .i64 (J1 e l).2])
def fdL (e : Enc) : List AV := QeR e (.own 2 e.rest.length) (.own 3 e.smp.length) (.own 4 e.frs.length) (.list 0 [])
def QcI : List AV := [.int .i64 0, .int .i64 0, .int .i64 0, .str [], .emp true, .emp true, .emp true, .emp true, .bool false, .int .i64 0]
def fdS (t0 t1 tb tj tf : Nat) (e : Enc) : List Ob := [⟨t0, 10, 1, fdL e, 0⟩, ⟨t0, 10, 1, QcI, 0⟩, ⟨tb, 1, e.rest.length, u8 e.rest, 0⟩, ⟨tj, 1, e.smp.length, ks .i32 e.smp, 0⟩, ⟨tf, 1, e.frs.length, e.frs.map bs, 0⟩, ⟨t1, 1, 1, [.int .i64 (Qc e.rate)], 0⟩]
set_option maxRecDepth 20000 in
set_option maxHeartbeats 4000000 in
theorem QjE {P : Prg} {f fB fM fW fF fC fL fT fK fJ fCt fR fS fc fTp fE t0 t1 tb tj tf tz : Nat} (bd : Qf P f 55 [.cell 4 t0, .tmp 5] (JW fB fM fW fF t0 t1 tb)) (bB : Qf P fB 33 [.cell 2 t0, .tmp 3, .tmp 4] (Za fC fL fT t0)) (hC : Qch P fC) (hL : Xe P fL) (bT : Qf P fT 42 [.cell 2 t0] (Q3 fK fJ t0 tf)) (hK1 : JD tb P fK) (hJ : J0 tj P fJ) (ht : ZJ P t0 = some (some 10)) (hM : Qbl P fM) (bW : Qf P fW 44 [.tmp 2] (QZ fCt fR fS fc tj)) (hCt : Qd0 P fCt) (hR : QkL P fR) (hS : QbX P fS) (bc : Qf P fc 46 [.tmp 2] (Zq fTp fE tz tf)) (hT : QfI P fTp) (hE : QmA P fE) (hF : QiJ P fF) : QfO P f := by
 intro e l ho hfr hl
 have isDenc : ∀ e : Enc, isD (QaD e) = true := Xw
 refine VC.of_walk 2 (by simp [isDL, Xw, QQ]) (by simp [isD, isDL, Xw]) (ACall.of_body bd (by simp) ?_)
 have q1 : isDL (Qbp e) = true := by simp [Qbp, isDL, isD, QQ, Zy, QcJ]
 have q2 : isDL QcI = true := by simp [isDL, isD, QcI]
 have hlow : Low 2 [⟨t0, 10, 1, Qbp e, 0⟩, ⟨t0, 10, 1, QcI, 0⟩] := Low.cons (lowL_D _ q1) (Low.cons (lowL_D _ q2) Low.nil)
 have t1' := Qw e.rest
 have t2' := Qv .i32 e.smp
 have t3' := ZH e.frs
 have t4' := Qw e.out
 have beg := fun {K : AV → List Ob → Prop} => Qda bB hC hL bT hK1 hJ ht ho hfr (ob := [⟨t0, 10, 1, Qbp e, 0⟩, ⟨t0, 10, 1, QcI, 0⟩]) hlow (K := K)
 simp only [QaD, Qbp, il, bss, bs, QcI, List.cons_append, List.nil_append, List.length_cons, List.length_nil, twA, twO] at beg ⊢
 simp (maxSteps := 4000000) (disch := omega) only [rq, simprocAttr, JW]
 refine beg (fun h8 => ?_) (fun h0 => ?_)
 ·have hfe : J1 e l = (Qeg, 8) := by rw [J1, if_pos (by omega)]
  rw [hfe]
  simp (maxSteps := 4000000) (disch := omega) only [rq, simprocAttr, Qro, ZK, ht, Q2]
  simp [QS, QG, frzL, QD, Qeg, isDL, isD, ks, u8]
 have hr := QcL h0
 obtain ⟨⟨r1, r2, r3⟩, ⟨r4, r5⟩, r6⟩ := QA.1 hr
 by_cases hst : QcE e = 0
 case neg =>
  have hfe : J1 e l = (e, QcE e) := by
   rw [J1, if_neg (by omega)]
   unfold QcE at hst ⊢
   by_cases h1 : e.err ≠ 0
   ·rw [if_pos h1, if_pos h1]
   ·rw [if_neg h1, if_neg h1]
    rw [if_neg h1] at hst
    by_cases h2 : e.done = true
    ·rw [if_pos h2, if_pos h2]
    ·rw [if_neg h2] at hst; simp at hst
  rw [hfe]
  simp (maxSteps := 4000000) (disch := omega) only [rq, simprocAttr, ZK, ht, Q2]
  simp [QS, QG, frzL, QD, frzL_T _ t1', frzL_T _ t2', frzL_T _ t3', frzL_T _ t4']
 rw [hst]
 have hG : OkG e := by
  unfold QcE at hst
  by_cases h1 : e.err ≠ 0
  ·rw [if_pos h1] at hst; omega
  ·rw [if_neg h1] at hst
   refine QsP h0 (by simpa using h1) ?_
   cases hd : e.done
   ·rfl
   ·rw [hd] at hst; simp at hst
 have hM' := hM e.ch e.bits r2 r3 r1
 rw [shA] at hM'
 rw [Qqi hG]
 have hout : e.out = [] := hG.out
 rw [hout]
 have hmul := Xu r2 r3 r1
 simp (maxSteps := 4000000) (disch := omega) only [rq, simprocAttr, QaH]
 refine Qa.vc hM' ?_
 simp (maxSteps := 4000000) (disch := omega) only [rq, simprocAttr]
 refine Q0.by (ι := Nat) (fun j => ⟨[(29, .int .i64 j), (28, .int .i64 l.length), (27, .list l.length (u8 l)), (9, .fn (.func fW) [] [.ref 0 1 0, .ref 5 1 0]), (8, .int .i64 (e.ch * e.bits / 8)), (2, .ref 0 1 0), (4, .ref 1 1 0)], fdS t0 t1 tb tj tf (QJ e (l.take j)).1⟩) (fun j => j ≤ l.length ∧ (QJ e (l.take j)).2 = 0 ∧ OkG (QJ e (l.take j)).1 ∧ Sib (QJ e (l.take j)).1 e) (fun j => l.length - j) 0 ?_ ⟨by omega, rfl, hG, rfl, rfl, rfl, rfl⟩ ?_
 ·simp only [List.take_zero, QJ, fdS, fdL, QeR, QcI]
  exact Le.slots (by simp [Am.look])
 intro j ⟨hj, hz, hGj, hsib⟩
 by_cases hlt : j < l.length
 ·have hu := Qvq (l := l) (k := j) hlt
  have hsn := QgZ e l j hlt hz
  have hstop := fun r hb hr => Qoq (e := e) (l := l) (j := j) hlt hz (r := r) hb hr
  generalize hEq : (QJ e (l.take j)).1 = E at *
  generalize hcq : l[j] = c at *
  obtain ⟨s1, s2, s3, s4⟩ := hsib
  have hrest := hGj.rest
  have hbe : Qbt E c = if (E.rest.length : Int) + 1 < E.ch * E.bits / 8 then ({ E with rest := E.rest ++ [c] }, 0)
    else if Qa1 E.ch (E.frs.length + 1) (Qr E (Qc E.rate) + 1) = false then (Xi E 18, 18) else (Xn E (E.rest ++ [c]), 0) := rfl
  have hcat : u8 E.rest ++ [.int .u8 (c.toNat : Int)] = u8 (E.rest ++ [c]) := by simp [u8]
  have hml : (E.rest ++ [c]).length = E.rest.length + 1 := by simp
  have ku := QC E.rest
  have ku2 := QC (E.rest ++ [c])
  have hb18 : E.ch * E.bits / 8 ≤ 18 := by rw [s1, s2]; omega
  simp only [fdS, fdL, QeR, QcI]
  by_cases hsz : (E.rest.length : Int) + 1 < E.ch * E.bits / 8
  ·rw [if_pos hsz] at hbe
   have hsz' : (E.rest.length : Int) + 1 < e.ch * e.bits / 8 := by rw [← s1, ← s2]; exact hsz
   simp (maxSteps := 4000000) (disch := omega) only [rq, simprocAttr, hu, ku, hcat, ku2]
   rw [hbe] at hsn
   have hb := Qmd c hGj
   rw [hbe] at hb
   refine ⟨j + 1, ⟨by omega, by rw [hsn], ?_, ?_⟩, by omega, ?_⟩
   ·rw [hsn]
    rcases hb with hb | hb
    ·exact hb.2
    ·have := congrArg Prod.snd hb; simp at this
   ·rw [hsn]; exact ⟨s1, s2, s3, s4⟩
   ·rw [hsn]
    simp only [fdS, fdL, QeR, QcI, hml]
    exact Le.pickTo [0, 1, 2, 3, 4, 5] (by decide) (by simp) (by simp [Am.look, rnV, rnL, pk, rnL_D _ _ (QT _), List.idxOf_cons]) (by simp [pkO, rnV, rnL, pk, rnL_D _ _ (QT _), rnL_D _ _ (QB _ _), rnL_D _ _ (Zk _), List.idxOf_cons])
  ·rw [if_neg hsz] at hbe
   have hsz' : ¬ (E.rest.length : Int) + 1 < e.ch * e.bits / 8 := by rw [← s1, ← s2]; exact hsz
   have hm : ((E.rest ++ [c]).length : Int) = E.ch * E.bits / 8 := by rw [hml]; omega
   simp (maxSteps := 4000000) (disch := omega) only [rq, simprocAttr, hu, ku, hcat, ku2]
   rw [← hml]
   refine QhB bW hCt hR hS bc hT hE hGj hm (x1 := ⟨t0, 10, 1, QcI, 0⟩) (x6 := ⟨tb, 1, 1, [.int .u8 (c.toNat : Int)], 0⟩) q2 (by simp [isDL, isD]) (fun h18 => ?_) (fun hA hlt2 => ?_) (fun hB hnlt => ?_)
   ·rw [if_pos h18] at hbe
    rw [hstop _ hbe (by simp)]
    let E1 : Enc := { E with rest := E.rest ++ [c] }
    have hF' := hF E1 18
    have u1 := Qw (E.rest ++ [c])
    have u2 := Qv .i32 E.smp
    have u3 := ZH E.frs
    have hoE : bs E.out = .list 0 [] := by rw [hGj.out]; rfl
    simp only [QaD, Qbp, il, bss, E1] at hF'
    rw [hoE, bs] at hF'
    simp (maxSteps := 4000000) (disch := omega) only [rq, simprocAttr, QeR]
    refine Qa.still 1 [2, 3, 4] hF' (by simp [QS, QG, frzL, QD, isDL, isD, frzL_T _ u1, frzL_T _ u2, frzL_T _ u3]) ?_
    simp (maxSteps := 4000000) (disch := omega) only [rq, simprocAttr, Qj, Qro, QcI, ZK, ht, Q2]
    simp [QS, QG, frzL, QD, Xi, isDL, isD, ks, u8]
   ·rw [if_neg (by rw [hA]; simp)] at hbe
    have hw : Xn E (E.rest ++ [c]) = ZX E (E.rest ++ [c]) := by rw [Xn, if_pos hlt2]
    obtain ⟨hGw, _⟩ := QeA hGj hm hA
    rw [hw] at hbe hGw
    rw [hbe] at hsn
    simp (maxSteps := 4000000) (disch := omega) only [rq, simprocAttr, QeR]
    refine ⟨j + 1, ⟨by omega, by rw [hsn], by rw [hsn]; exact hGw, by rw [hsn]; exact ⟨s1, s2, s3, s4⟩⟩, by omega, ?_⟩
    rw [hsn]
    simp only [fdS, fdL, QeR, QcI]
    refine Le.trans (Le.virtC 0 4 tb 1 (by decide) rfl rfl) (Le.pickTo [0, 1, 7, 3, 4, 5] (by decide) (by simp) (by simp [Am.look, rnV, rnL, pk, rnL_D _ _ (QT _), List.idxOf_cons]) ?_)
    simp [pkO, rnV, rnL, pk, rnL_D _ _ (QT _), rnL_D _ _ (QB _ _), rnL_D _ _ (Zk _), List.idxOf_cons, ZX, QaH, Qac]
   ·rw [if_neg (by rw [hB]; simp)] at hbe
    have hw : Xn E (E.rest ++ [c]) = Xj (ZX E (E.rest ++ [c])) := by rw [Xn, if_neg hnlt]
    obtain ⟨hGw, _⟩ := QeA hGj hm hB
    rw [hw] at hbe hGw
    rw [hbe] at hsn
    simp (maxSteps := 4000000) (disch := omega) only [rq, simprocAttr, QeR]
    refine ⟨j + 1, ⟨by omega, by rw [hsn], by rw [hsn]; exact hGw, by rw [hsn]; exact ⟨s1, s2, s3, s4⟩⟩, by omega, ?_⟩
    rw [hsn]
    simp only [fdS, fdL, QeR, QcI, Qkh]
    refine Le.trans (Le.virtC 0 4 tb 1 (by decide) rfl rfl) (Le.trans (Le.virtC 0 5 tj 1 (by decide) rfl rfl) (Le.pickTo [0, 1, 7, 8, 4, 5] (by decide) (by simp) (by simp [Am.look, rnV, rnL, pk, rnL_D _ _ (QT _), List.idxOf_cons]) ?_))
    simp [pkO, rnV, rnL, pk, rnL_D _ _ (QT _), rnL_D _ _ (QB _ _), rnL_D _ _ (Zk _), List.idxOf_cons]
    simp [ZX, Xj, QaH, Qac]
 ·have ej : j = l.length := by omega
  subst ej
  rw [List.take_length] at hz hGj ⊢
  have hoE : bs (QJ e l).1.out = .list 0 [] := by rw [hGj.out]; rfl
  have hoE2 : (QJ e l).1.out.length = 0 ∧ u8 (QJ e l).1.out = [] := by rw [hGj.out]; exact ⟨rfl, rfl⟩
  rw [hz]
  generalize (QJ e l).1 = E at *
  have u1 := Qw E.rest
  have u2 := Qv .i32 E.smp
  have u3 := ZH E.frs
  simp only [fdS, fdL, QeR, QcI]
  simp (maxSteps := 4000000) (disch := omega) only [rq, simprocAttr, ZK, ht, Q2]
  simp [QS, QG, frzL, QD, frzL_T _ u1, frzL_T _ u2, frzL_T _ u3, hoE2]
def QfV (P : Prg) (f : Nat) : Prop := ∀ p : List UInt8, p.length ≤ 64 → VC P f [.str p] (.tup [.int .i64 (QbL p), .int .i64 0])
theorem Qh6 {P : Prg} {f : Nat} (bd : Qf P f 12 [.tmp 2, .tmp 3] Xd) : QfV P f := by
 intro p hp
 refine VC.of_acall rfl rfl (ACall.of_body bd (by simp) ?_)
 by_cases hn : p = []
 ·subst hn
  have : QbL [] = 1 := rfl
  rw [this]
  simp (maxSteps := 4000000) (disch := omega) only [rq, simprocAttr, Xd]
 ·have hl : p.length ≠ 0 := by simpa using hn
  rw [QbL, if_neg hn]
  simp (maxSteps := 4000000) (disch := omega) only [rq, simprocAttr, Xd]
def QdZ (t : Nat) (P : Prg) (g : Nat) : Prop := ∀ f c b r n : Int, hdN f c b r n = 0 → VO P g [hdA f c b r n] (.tup [.own 0 22, .int .i64 0]) ⟨t, 1, 22, u8 (hdB f.toNat c.toNat b.toNat r.toNat n.toNat), 1⟩
set_option maxHeartbeats 2000000 in
theorem QhU {P : Prg} {g fC fB fS t0 t1 g0 : Nat} (bd : Qf P g 63 [.tmp 2, .tmp 3] (Zr fC fB fS t0 t1 g0)) (hC : Qdy P fC) (hB : JZ P fB) (hS : Qg3 P fS) (h0 : P.G.lookup g0 = some Quo) : QdZ t1 P g := by
 intro f c b r n h
 refine VO.of_walk rfl (QT _) (by simp [okr, Am.flat]) (ACall.of_body bd (by simp) ?_)
 have hC' := hC f c b r n
 have g0' : Qsk P.G g0 = .cell Quo := by simp [Qsk, h0]
 rw [h] at hC'
 obtain ⟨f, c, b, r, n, rfl, rfl, rfl, rfl, rfl, a1, a2, a3, a4, a5⟩ := QlD h
 simp only [Int.toNat_natCast]
 rw [hdA] at hC' ⊢
 have B1 := hB f 2 (by omega) (by omega) (by simp; omega)
 have B2 := hB c 2 (by omega) (by omega) (by simp; omega)
 have B3 := hB b 2 (by omega) (by omega) (by simp; omega)
 have B4 := hB r 4 (by omega) (by omega) (by simp; omega)
 have B5 := hB n 4 (by omega) (by omega) (by simp; omega)
 rw [bs, Qb] at B1 B2 B3 B4 B5
 have u2 : ∀ m, (u8 (leB m 2)).length = 2 := fun m => by rw [QC, Qb]
 have u4 : ∀ m, (u8 (leB m 4)).length = 4 := fun m => by rw [QC, Qb]
 have c0 : u8 (hdP f c b r n 0) ++ u8 (leB f 2) = u8 (hdP f c b r n 1) := by simp [hdP, u8]
 have c1 : u8 (hdP f c b r n 1) ++ u8 (leB c 2) = u8 (hdP f c b r n 2) := by simp [hdP, u8]
 have c2 : u8 (hdP f c b r n 2) ++ u8 (leB b 2) = u8 (hdP f c b r n 3) := by simp [hdP, u8]
 have c3 : u8 (hdP f c b r n 3) ++ u8 (leB r 4) = u8 (hdP f c b r n 4) := by simp [hdP, u8]
 have c4 : u8 (hdP f c b r n 4) ++ u8 (leB n 4) = u8 (hdP f c b r n 5) := by simp [hdP, u8]
 have l0 : (hdP f c b r n 0).length = 4 := rfl
 have l1 : (hdP f c b r n 1).length = 6 := by simp [hdP, Qb]
 have l2 : (hdP f c b r n 2).length = 8 := by simp [hdP, Qb]
 have l3 : (hdP f c b r n 3).length = 10 := by simp [hdP, Qb]
 have l4 : (hdP f c b r n 4).length = 14 := by simp [hdP, Qb]
 have l5 : (hdP f c b r n 5).length = 18 := by simp [hdP, Qb]
 have e0 : u8 (hdP f c b r n 0) = [.int .u8 84, .int .u8 84, .int .u8 65, .int .u8 49] := rfl
 have hcat : u8 (hdP f c b r n 5) ++ u8 (leB (QbE (hdP f c b r n 5)) 4) = u8 (hdB f c b r n) := by simp [u8, hdB, Zi]
 have hlen : (hdB f c b r n).length = 22 := by rw [hdB, Zi, List.length_append, Qb, l5]
 have hS' := hS (hdP f c b r n 5)
 rw [if_neg (by omega), ← QbE, bs, l5] at hS'
 have hsm : QbE (hdP f c b r n 5) < 4294967296 := by unfold QbE; omega
 have B6 := hB (QbE (hdP f c b r n 5)) 4 (by omega) (by omega) (by simpa using hsm)
 rw [bs, Qb] at B6
 have t5 := Qw (hdP f c b r n 5)
 have tb := Qw (hdB f c b r n)
 obtain ⟨H, hH⟩ : ∃ H, H = hdP f c b r n := ⟨_, rfl⟩
 rw [← hH] at c0 c1 c2 c3 c4 l0 l1 l2 l3 l4 l5 e0 hcat hS' hsm B6 t5
 generalize QbE (H 5) = sm at *
 generalize hdB f c b r n = D at *
 have g0'' : Qsk P.G g0 = .cell [.int .i64 2, .int .i64 2, .int .i64 2, .int .i64 4, .int .i64 4] := g0'
 simp (maxSteps := 4000000) (disch := omega) only [rq, simprocAttr, Zr]
 refine Qa.vc hC' ?_
 simp (maxSteps := 4000000) (disch := omega) only [rq, simprocAttr]
 refine Q0.by (ι := Nat) (fun j => ⟨[(32, .int .i64 j), (31, .agg [.int .i64 f, .int .i64 c, .int .i64 b, .int .i64 r, .int .i64 n]), (5, .own 1 (H j).length)], [⟨t0, 5, 1, [.int .i64 f, .int .i64 c, .int .i64 b, .int .i64 r, .int .i64 n], 0⟩, ⟨t1, 1, (H j).length, u8 (H j), 1⟩]⟩) (fun j => j ≤ 5) (fun j => 5 - j) 0 ?_ (by omega) ?_
 ·simp only [e0, l0]
  exact Le.slots (by simp [Am.look])
 intro j hj
 have hj5 : j = 0 ∨ j = 1 ∨ j = 2 ∨ j = 3 ∨ j = 4 ∨ j = 5 := by omega
 rcases hj5 with rfl | rfl | rfl | rfl | rfl | rfl
 ·simp (maxSteps := 4000000) (disch := omega) only [rq, simprocAttr, g0'', l0]
  refine Qa.vc B1 ?_
  simp (maxSteps := 4000000) (disch := omega) only [rq, simprocAttr, u2, c0]
  exact ⟨1, by omega, by omega, by rw [l1]; exact Le.slots (by simp [Am.look])⟩
 ·simp (maxSteps := 4000000) (disch := omega) only [rq, simprocAttr, g0'', l1]
  refine Qa.vc B2 ?_
  simp (maxSteps := 4000000) (disch := omega) only [rq, simprocAttr, u2, c1]
  exact ⟨2, by omega, by omega, by rw [l2]; exact Le.slots (by simp [Am.look])⟩
 ·simp (maxSteps := 4000000) (disch := omega) only [rq, simprocAttr, g0'', l2]
  refine Qa.vc B3 ?_
  simp (maxSteps := 4000000) (disch := omega) only [rq, simprocAttr, u2, c2]
  exact ⟨3, by omega, by omega, by rw [l3]; exact Le.slots (by simp [Am.look])⟩
 ·simp (maxSteps := 4000000) (disch := omega) only [rq, simprocAttr, g0'', l3]
  refine Qa.vc B4 ?_
  simp (maxSteps := 4000000) (disch := omega) only [rq, simprocAttr, u4, c3]
  exact ⟨4, by omega, by omega, by rw [l4]; exact Le.slots (by simp [Am.look])⟩
 ·simp (maxSteps := 4000000) (disch := omega) only [rq, simprocAttr, g0'', l4]
  refine Qa.vc B5 ?_
  simp (maxSteps := 4000000) (disch := omega) only [rq, simprocAttr, u4, c4]
  exact ⟨5, by omega, by omega, by rw [l5]; exact Le.slots (by simp [Am.look])⟩
 ·simp (maxSteps := 4000000) (disch := omega) only [rq, simprocAttr, l5]
  refine Qa.flat 1 hS' rfl (by simp [QS, QG, frzL, QD, frzL_T _ t5]) ?_
  simp (maxSteps := 4000000) (disch := omega) only [rq, simprocAttr]
  refine Qa.vc B6 ?_
  simp (maxSteps := 4000000) (disch := omega) only [rq, simprocAttr, u4, hcat]
  exact ⟨1, rfl, rfl⟩
def pfB (e : Enc) (mo : Int) : List UInt8 := hdB (QbL e.pw).toNat e.ch.toNat e.bits.toNat e.rate.toNat mo.toNat ++ (QmJ e.pw ++ (Zi (Jd (Zn e.frs)) ++ e.frs.flatten))
def Qmx (P : Prg) (f : Nat) : Prop := ∀ (e : Enc) (mo : Int), okC e → e.pw.length ≤ 64 → hdN (QbL e.pw) e.ch e.bits e.rate mo = 0 → skN (Zn e.frs) = 0 → VC P f [QaD e, .int .i64 mo] (.tup [bs (pfB e mo), .int .i64 0])
set_option maxRecDepth 20000 in
set_option maxHeartbeats 4000000 in
theorem QjC {P : Prg} {f fF fW fD fS fC t0 tb ti : Nat} (bd : Qf P f 85 [.tmp 4, .tmp 5] (JU fF fW fD fS fC t0 tb ti)) (hF : QfV P fF) (hW : QdZ tb P fW) (hD : Qci P fD) (hS : Qdw P fS) (hC : QeS P fC) : Qmx P f := by
 intro e mo ho hp hh hs
 obtain ⟨o0, o1, o2, o3, o4, o5⟩ := ho
 refine VC.of_walk 1 (by simp [isDL, Xw, isD]) (by simp [isD, isDL, QQ]) (ACall.of_cut 1 bd (by simp) ?_)
 have hF' := hF e.pw hp
 have hW' := hW (QbL e.pw) e.ch e.bits e.rate mo hh
 have hD' := hD e.pw
 rw [Qub, if_neg (by omega)] at hD'
 rcases Qe4 (Zn e.frs) with h8 | ⟨_, n1, n2, hr⟩
 ·omega
 have t1' := Qw e.rest
 have t2' := Qv .i32 e.smp
 have t3' := ZH e.frs
 have t4' := Qw e.out
 have hlen := Qcb e.frs
 have hmb : (e.frs.map bs).length = e.frs.length := by simp
 simp only [QaD, Qbp, il, bss, bs, hdA] at hW' ⊢
 simp (maxSteps := 4000000) (disch := omega) only [rq, simprocAttr, JU, Qao]
 refine ⟨⟨[(2, .cell [.int .i64 e.ch, .int .i64 e.bits, .int .i64 e.rate, .str e.pw, .list e.rest.length (u8 e.rest), .list e.smp.length (ks .i32 e.smp), .list e.frs.length (e.frs.map bs), .list e.out.length (u8 e.out), .bool e.done, .int .i64 e.err]), (1, .int .i64 mo)], []⟩, Le.dropT [] (by simp) (by simp [Am.look, QG, frzL, QD, frzL_T _ t1', frzL_T _ t2', frzL_T _ t3', frzL_T _ t4']), ?_⟩
 simp (maxSteps := 4000000) (disch := omega) only [rq, simprocAttr, Qao]
 refine Qa.vc hF' ?_
 simp (maxSteps := 4000000) (disch := omega) only [rq, simprocAttr, Qao]
 refine Qa.vo hW' ?_
 simp (maxSteps := 4000000) (disch := omega) only [rq, simprocAttr, Qao, shr]
 have hS' := hS (Zn e.frs) (by omega) (fun v hv => by
  obtain ⟨i, hi, rfl⟩ := List.mem_iff_getElem.1 hv
  have := hr i hi
  rw [List.getD_eq_getElem?_getD, List.getElem?_eq_getElem hi] at this
  simp only [Option.getD_some] at this
  omega)
 rw [skA, if_pos hs, QoA, hlen, bs] at hS'
 have hsum : e.frs.flatten.length ≤ 100000 := by
  have hok2 : Qle 100000 (Zn e.frs) := by
   have hs' := hs
   unfold skN at hs'
   split at hs'
   ·cases hs'
   split at hs'
   ·assumption
   ·cases hs'
  have hff := Qc1 e.frs
  rcases Qhv hok2 with q | q
  ·rw [hff] at q; omega
  ·rw [q] at n1; simp at n1
 have tle := Qv .i64 (Zn e.frs)
 have hTl := Qjs (Zn e.frs)
 rw [hlen] at hTl
 have hpos : 0 < e.frs.flatten.length := by
  have hff := Qc1 e.frs
  have h0 := hr 0 (by omega)
  have h1 : ∀ (L : List (List UInt8)), 0 < L.length → 5 ≤ (Zn L).getD 0 0 → 0 < L.flatten.length := fun L hL h5 => by
   cases L with
   | nil => simp at hL
   | cons a L => simp [Zn] at h5 ⊢; omega
  exact h1 _ (by omega) h0.1
 have hC' := hC e.frs (by omega) hpos (by omega)
 rw [QjG, bs] at hC'
 by_cases hn : e.pw = []
 ·have hsb : QmJ e.pw = [] := by rw [QmJ, if_pos hn]
  have hpf : pfB e mo = hdB (QbL e.pw).toNat e.ch.toNat e.bits.toNat e.rate.toNat mo.toNat ++ (Zi (Jd (Zn e.frs)) ++ e.frs.flatten) := by rw [pfB, hsb, List.nil_append]
  have hpe : (!(e.pw == [])) = false := by simp [hn]
  have hOl := QhV (QbL e.pw).toNat e.ch.toNat e.bits.toNat e.rate.toNat mo.toNat
  rw [hpf]
  generalize hdB (QbL e.pw).toNat e.ch.toNat e.bits.toNat e.rate.toNat mo.toNat = O at *
  simp (maxSteps := 4000000) (disch := omega) only [rq, simprocAttr, Qao, Qo0, hpe]
  refine Q0.by (ι := Nat) (fun k => ⟨[(60, .int .i64 k), (59, .int .i64 e.frs.length), (58, .list e.frs.length (e.frs.map bs)), (11, .own 1 k), (8, .own 0 22), (2, .cell [.int .i64 e.ch, .int .i64 e.bits, .int .i64 e.rate, .str e.pw, .list e.rest.length (u8 e.rest), .list e.smp.length (ks .i32 e.smp), .list e.frs.length (e.frs.map bs), .list e.out.length (u8 e.out), .bool e.done, .int .i64 e.err])], [⟨tb, 1, 22, u8 O, 1⟩, ⟨ti, 1, k, ks .i64 ((Zn e.frs).take k), 0⟩]⟩) (fun k => k ≤ e.frs.length) (fun k => e.frs.length - k) 0 (Le.trans (Le.virt 11 ti 1 (by decide) rfl) (Le.slots (by simp [Am.look]))) (by omega) ?_
  intro k hk
  have hkl : ((Zn e.frs).take k).length = k := by rw [List.length_take]; omega
  have kkl : (ks .i64 ((Zn e.frs).take k)).length = k := by rw [Qd, hkl]
  have hcc : u8 O ++ u8 (Zi (Jd (Zn e.frs))) ++ u8 e.frs.flatten = u8 (O ++ (Zi (Jd (Zn e.frs)) ++ e.frs.flatten)) := by simp [u8]
  have tX := Qw (O ++ (Zi (Jd (Zn e.frs)) ++ e.frs.flatten))
  have kT : (u8 (Zi (Jd (Zn e.frs)))).length = (Zi (Jd (Zn e.frs))).length := QC _
  have kF : (u8 e.frs.flatten).length = e.frs.flatten.length := QC _
  by_cases hlt : k < e.frs.length
  ·have e1 := Qg0 (L := e.frs) (k := k) hlt
   have hst : ks .i64 ((Zn e.frs).take k) ++ [.int .i64 ((e.frs.getD k []).length : Int)] = ks .i64 ((Zn e.frs).take (k + 1)) := by
    have hq : (Zn e.frs)[k]? = some ((e.frs.getD k []).length : Int) := by simp [Zn, List.getD_eq_getElem?_getD, List.getElem?_eq_getElem hlt]
    have htk : (Zn e.frs).take (k + 1) = (Zn e.frs).take k ++ [((e.frs.getD k []).length : Int)] := by rw [List.take_add_one, hq]; rfl
    rw [htk]; simp [ks]
   rw [bs] at e1
   generalize e.frs.getD k [] = F at *
   simp (maxSteps := 4000000) (disch := omega) only [rq, simprocAttr, Qao, e1, hmb, kkl, hst]
   refine ⟨k + 1, by omega, by omega, ?_⟩
   exact Le.pickTo [0, 1] (by decide) (by simp) (by simp [Am.look, rnV, rnL, pk, rnL_D _ _ (QT _), rnL_D _ _ (Zk _), rnL_D _ _ (QB _ _), List.idxOf_cons]) (by simp [pkO, rnV, rnL, pk, rnL_D _ _ (QT _), rnL_D _ _ (QB _ _), rnL_D _ _ (Zk _), List.idxOf_cons])
  ·have ek : k = e.frs.length := by omega
   subst ek
   rw [show (Zn e.frs).take e.frs.length = Zn e.frs from List.take_of_length_le (by omega)] at kkl ⊢
   simp (maxSteps := 4000000) (disch := omega) only [rq, simprocAttr, Qao]
   refine Qa.still 1 [1] hS' (by simp [QS, QG, frzL, QD, frzL_T _ tle]) ?_
   simp (maxSteps := 4000000) (disch := omega) only [rq, simprocAttr, Qao, Qj]
   refine Q5.vc hC' ?_
   simp (maxSteps := 4000000) (disch := omega) only [rq, simprocAttr, Qao, hcc, kT, kF]
   simp [QS, QG, frzL, QD, frzL_T _ tX]
   try omega
 ·have hsb : QmJ e.pw = leB (ZW 0 e.pw) 8 := by rw [QmJ, if_neg hn]
  have hpf : pfB e mo = (hdB (QbL e.pw).toNat e.ch.toNat e.bits.toNat e.rate.toNat mo.toNat ++ leB (ZW 0 e.pw) 8) ++ (Zi (Jd (Zn e.frs)) ++ e.frs.flatten) := by rw [pfB, hsb, List.append_assoc]
  have hpe : (!(e.pw == [])) = true := by simp [hn]
  have hOc : u8 (hdB (QbL e.pw).toNat e.ch.toNat e.bits.toNat e.rate.toNat mo.toNat) ++ u8 (leB (ZW 0 e.pw) 8) = u8 (hdB (QbL e.pw).toNat e.ch.toNat e.bits.toNat e.rate.toNat mo.toNat ++ leB (ZW 0 e.pw) 8) := by simp [u8]
  have hOl : (hdB (QbL e.pw).toNat e.ch.toNat e.bits.toNat e.rate.toNat mo.toNat ++ leB (ZW 0 e.pw) 8).length = 30 := by rw [List.length_append, QhV, Qb]
  rw [hpf]
  rw [bs, Qb] at hD'
  have l8 : (u8 (leB (ZW 0 e.pw) 8)).length = 8 := by rw [QC, Qb]
  generalize hdB (QbL e.pw).toNat e.ch.toNat e.bits.toNat e.rate.toNat mo.toNat ++ leB (ZW 0 e.pw) 8 = O at *
  simp (maxSteps := 4000000) (disch := omega) only [rq, simprocAttr, Qao, Qo0, hpe]
  refine Qa.vc hD' ?_
  simp (maxSteps := 4000000) (disch := omega) only [rq, simprocAttr, Qao, hOc, l8, QhV]
  refine Q0.by (ι := Nat) (fun k => ⟨[(60, .int .i64 k), (59, .int .i64 e.frs.length), (58, .list e.frs.length (e.frs.map bs)), (11, .own 1 k), (8, .own 0 30), (2, .cell [.int .i64 e.ch, .int .i64 e.bits, .int .i64 e.rate, .str e.pw, .list e.rest.length (u8 e.rest), .list e.smp.length (ks .i32 e.smp), .list e.frs.length (e.frs.map bs), .list e.out.length (u8 e.out), .bool e.done, .int .i64 e.err])], [⟨tb, 1, 30, u8 O, 1⟩, ⟨ti, 1, k, ks .i64 ((Zn e.frs).take k), 0⟩]⟩) (fun k => k ≤ e.frs.length) (fun k => e.frs.length - k) 0 (Le.trans (Le.virt 11 ti 1 (by decide) rfl) (Le.slots (by simp [Am.look]))) (by omega) ?_
  intro k hk
  have hkl : ((Zn e.frs).take k).length = k := by rw [List.length_take]; omega
  have kkl : (ks .i64 ((Zn e.frs).take k)).length = k := by rw [Qd, hkl]
  have hcc : u8 O ++ u8 (Zi (Jd (Zn e.frs))) ++ u8 e.frs.flatten = u8 (O ++ (Zi (Jd (Zn e.frs)) ++ e.frs.flatten)) := by simp [u8]
  have tX := Qw (O ++ (Zi (Jd (Zn e.frs)) ++ e.frs.flatten))
  have kT : (u8 (Zi (Jd (Zn e.frs)))).length = (Zi (Jd (Zn e.frs))).length := QC _
  have kF : (u8 e.frs.flatten).length = e.frs.flatten.length := QC _
  by_cases hlt : k < e.frs.length
  ·have e1 := Qg0 (L := e.frs) (k := k) hlt
   have hst : ks .i64 ((Zn e.frs).take k) ++ [.int .i64 ((e.frs.getD k []).length : Int)] = ks .i64 ((Zn e.frs).take (k + 1)) := by
    have hq : (Zn e.frs)[k]? = some ((e.frs.getD k []).length : Int) := by simp [Zn, List.getD_eq_getElem?_getD, List.getElem?_eq_getElem hlt]
    have htk : (Zn e.frs).take (k + 1) = (Zn e.frs).take k ++ [((e.frs.getD k []).length : Int)] := by rw [List.take_add_one, hq]; rfl
    rw [htk]; simp [ks]
   rw [bs] at e1
   generalize e.frs.getD k [] = F at *
   simp (maxSteps := 4000000) (disch := omega) only [rq, simprocAttr, Qao, e1, hmb, kkl, hst]
   refine ⟨k + 1, by omega, by omega, ?_⟩
   exact Le.pickTo [0, 1] (by decide) (by simp) (by simp [Am.look, rnV, rnL, pk, rnL_D _ _ (QT _), rnL_D _ _ (Zk _), rnL_D _ _ (QB _ _), List.idxOf_cons]) (by simp [pkO, rnV, rnL, pk, rnL_D _ _ (QT _), rnL_D _ _ (QB _ _), rnL_D _ _ (Zk _), List.idxOf_cons])
  ·have ek : k = e.frs.length := by omega
   subst ek
   rw [show (Zn e.frs).take e.frs.length = Zn e.frs from List.take_of_length_le (by omega)] at kkl ⊢
   simp (maxSteps := 4000000) (disch := omega) only [rq, simprocAttr, Qao]
   refine Qa.still 1 [1] hS' (by simp [QS, QG, frzL, QD, frzL_T _ tle]) ?_
   simp (maxSteps := 4000000) (disch := omega) only [rq, simprocAttr, Qao, Qj]
   refine Q5.vc hC' ?_
   simp (maxSteps := 4000000) (disch := omega) only [rq, simprocAttr, Qao, hcc, kT, kF]
   simp [QS, QG, frzL, QD, frzL_T _ tX]
   try omega
def QaN (e : Enc) (b : List UInt8) : Enc := ⟨e.ch, e.bits, e.rate, e.pw, [], [], [], b, true, 0⟩
def Qcj (e : Enc) : Enc := if e.smp = [] then e else Xj e
def QlK (e : Enc) : Enc × Int := if QP e ≠ 0 then (Qeg, 8) else if QcE e ≠ 0 then (e, QcE e) else
 if e.rest ≠ [] ∨ Qr e (Qc e.rate) = 0 then (Xi e 24, 24) else (QaN e (pfB (Qcj e) (Qr e (Qc e.rate))), 0)
theorem OkG.ask {e : Enc} (h : OkG e) (hs : e.smp ≠ []) : QbS e.ch e.bits e.smp = 0 := by
 obtain ⟨⟨r1, r2, r3⟩, _, _⟩ := QA.1 h.r
 have he0 : QH e.ch e.bits = 0 := by
  rcases QX e.ch e.bits with q' | q'
  ·unfold QH at q'; split at q' <;> omega
  ·exact q'.1
 have hl : e.smp.length ≠ 0 := by simpa using hs
 exact QqW he0 h.ck (by have := h.dv; omega)
theorem OkG.hd {e : Enc} (h : OkG e) (hc : Qr e (Qc e.rate) ≠ 0) : hdN (QbL e.pw) e.ch e.bits e.rate (Qr e (Qc e.rate)) = 0 := by
 obtain ⟨k, L, q, hk, k1, k6, hL, L1, L2, hlen, hq, hx, hrm, hcn, hbits⟩ := h.nat
 obtain ⟨_, ⟨r4, r5⟩, _⟩ := QA.1 h.r
 have hrm2 := ((Qb4 _ _ _).1 h.rm).1
 have hf : QbL e.pw = 1 ∨ QbL e.pw = 2 := by unfold QbL; split <;> simp
 rw [hcn] at hc ⊢
 have hn1 : 1 ≤ e.frs.length * L + q := by omega
 have hle : e.frs.length * L + q ≤ 4000 / k := (Nat.le_div_iff_mul_le (by omega)).2 hrm
 have hle4 : e.frs.length * L + q ≤ 4000 := Nat.le_trans hle (Nat.div_le_self _ _)
 have hnum : (((e.frs.length * L + q : Nat) : Int) + (L : Int) - 1) / (L : Int) ≤ 1000 := by
  have e1 : ((e.frs.length * L + q : Nat) : Int) + (L : Int) - 1 = ((e.frs.length * L + (q + L - 1) : Nat) : Int) := by omega
  rw [e1, ← Int.natCast_ediv]
  have e2 : (e.frs.length * L + (q + L - 1)) / L = e.frs.length + (q + L - 1) / L := by rw [Nat.add_comm, Nat.add_mul_div_right _ _ (by omega), Nat.add_comm]
  rw [e2]
  have hs : 0 < q ↔ 0 < e.smp.length := by
   rw [hlen]
   constructor
   ·intro h'; exact Nat.mul_pos h' (by omega)
   ·intro h'; exact Nat.pos_of_mul_pos_right h'
  by_cases hq0 : q = 0
  ·have : (q + L - 1) / L = 0 := Nat.div_eq_of_lt (by omega)
   have := h.fr
   omega
  ·have h1 : (q + L - 1) / L = 1 := by
    have : q + L - 1 = (q - 1) + L := by omega
    rw [this, Nat.add_div_right _ (by omega), Nat.div_eq_of_lt (by omega)]
   have h2 := hs.1 (by omega)
   rw [if_pos h2] at hrm2
   omega
 rw [hdN, if_pos]
 refine ⟨⟨hbits, hf, by omega, by omega, r4, r5, by omega⟩, ?_, ?_⟩
 ·rw [hk]
  have : ((4000 : Int) / (k : Int)) = ((4000 / k : Nat) : Int) := by simp
  rw [this]; omega
 ·unfold Qh9
  rw [if_neg (by omega), if_neg (by omega), hL, if_neg (by omega)]
def QkM (P : Prg) (f : Nat) : Prop := ∀ e : Enc, okC e → (∀ b ∈ e.frs, b.length ≤ 1000000) → (OkG e → e.rest = [] → Qr e (Qc e.rate) ≠ 0 → skN (Zn (Qcj e).frs) = 0) → VC P f [QaD e] (.tup [QaD (QlK e).1, .int .i64 (QlK e).2])
set_option maxRecDepth 20000 in
set_option maxHeartbeats 4000000 in
theorem Qgc {P : Prg} {f fB fc fF fFi fC fL fT fK fJ fTp fE fCt t0 tb tj tf tz : Nat} (bd : Qf P f 67 [.cell 2 t0, .tmp 3] (XR fB fCt fF fc fFi t0)) (bB : Qf P fB 33 [.cell 2 t0, .tmp 3, .tmp 4] (Za fC fL fT t0)) (hC : Qch P fC) (hL : Xe P fL) (bT : Qf P fT 42 [.cell 2 t0] (Q3 fK fJ t0 tf)) (hK1 : JD tb P fK) (hJ : J0 tj P fJ) (ht : ZJ P t0 = some (some 10)) (hCt : Qd0 P fCt) (hF : QiJ P fF) (bc : Qf P fc 46 [.tmp 2] (Zq fTp fE tz tf)) (hT : QfI P fTp) (hE : QmA P fE) (hFi : Qmx P fFi) : QkM P f := by
 intro e ho hfr hsk
 refine VC.of_walk 2 (by simp [isDL, Xw]) (by simp [isD, isDL, Xw]) (ACall.of_body bd (by simp) ?_)
 have q1 : isDL (Qbp e) = true := by simp [Qbp, isDL, isD, QQ, Zy, QcJ]
 have q2 : isDL QcI = true := by simp [isDL, isD, QcI]
 have hlow : Low 2 [⟨t0, 10, 1, Qbp e, 0⟩, ⟨t0, 10, 1, QcI, 0⟩] := Low.cons (lowL_D _ q1) (Low.cons (lowL_D _ q2) Low.nil)
 have t1' := Qw e.rest
 have t2' := Qv .i32 e.smp
 have t3' := ZH e.frs
 have t4' := Qw e.out
 have ho' := ho
 obtain ⟨o0, o1, o2, o3, o4, o5⟩ := ho'
 have beg := fun {K : AV → List Ob → Prop} => Qda bB hC hL bT hK1 hJ ht ho hfr (ob := [⟨t0, 10, 1, Qbp e, 0⟩, ⟨t0, 10, 1, QcI, 0⟩]) hlow (K := K)
 have hCt0 := hCt e (Qc e.rate)
 have hF' := hF e 24
 simp only [QaD, Qbp, il, bss, bs, QcI, List.cons_append, List.nil_append, List.length_cons, List.length_nil, twA, twO] at beg hCt0 hF' ⊢
 simp (maxSteps := 4000000) (disch := omega) only [rq, simprocAttr, XR]
 refine beg (fun h8 => ?_) (fun h0 => ?_)
 ·have hfe : QlK e = (Qeg, 8) := by rw [QlK, if_pos (by omega)]
  rw [hfe]
  simp (maxSteps := 4000000) (disch := omega) only [rq, simprocAttr, Qro, ZK, ht, Q2]
  simp [QS, QG, frzL, QD, Qeg, isDL, isD, ks, u8]
 have hr := QcL h0
 obtain ⟨⟨r1, r2, r3⟩, ⟨r4, r5⟩, r6⟩ := QA.1 hr
 by_cases hst : QcE e = 0
 case neg =>
  have hfe : QlK e = (e, QcE e) := by rw [QlK, if_neg (by omega), if_pos hst]
  rw [hfe]
  simp (maxSteps := 4000000) (disch := omega) only [rq, simprocAttr, ZK, ht, Q2]
  simp [QS, QG, frzL, QD, frzL_T _ t1', frzL_T _ t2', frzL_T _ t3', frzL_T _ t4']
 have hG : OkG e := by
  unfold QcE at hst
  by_cases h1 : e.err ≠ 0
  ·rw [if_pos h1] at hst; omega
  ·rw [if_neg h1] at hst
   refine QsP h0 (by simpa using h1) ?_
   cases hd : e.done
   ·rfl
   ·rw [hd] at hst; simp at hst
 have hlz := ZM e.rate
 have hlz2 := QeJ r5
 have hCt' := hCt0 ⟨r2, r3, hG.fr, o2, o3⟩ (by omega) hlz2
 have hfe : QlK e = if e.rest ≠ [] ∨ Qr e (Qc e.rate) = 0 then (Xi e 24, 24) else (QaN e (pfB (Qcj e) (Qr e (Qc e.rate))), 0) := by rw [QlK, if_neg (by omega), if_neg (by omega)]
 rw [hst, hfe]
 have hrl : e.rest = [] ↔ e.rest.length = 0 := by simp
 have hsl : e.smp = [] ↔ e.smp.length = 0 := by simp
 have hdz : e.done = false := hG.done
 have hez : e.err = 0 := hG.err
 have hcpos : 0 ≤ Qr e (Qc e.rate) := by
  obtain ⟨k, L, q, _, _, _, _, _, _, _, _, _, _, hcn, _⟩ := hG.nat
  omega
 simp (maxSteps := 4000000) (disch := omega) only [rq, simprocAttr]
 refine Qa.flat 1 hCt' rfl (by simp [QS, QG, frzL, QD, isDL, isD, frzL_T _ t1', frzL_T _ t2', frzL_T _ t3', frzL_T _ t4']) ?_
 by_cases h24 : e.rest ≠ [] ∨ Qr e (Qc e.rate) = 0
 ·rw [if_pos h24]
  by_cases hr0 : e.rest.length = 0
  ·have hc0 : Qr e (Qc e.rate) = 0 := h24.resolve_left fun h => h (hrl.2 hr0)
   simp (maxSteps := 4000000) (disch := omega) only [rq, simprocAttr, hc0]
   refine Qa.still 1 [2, 3, 4] hF' (by simp [QS, QG, frzL, QD, isDL, isD, frzL_T _ t1', frzL_T _ t2', frzL_T _ t3', frzL_T _ t4']) ?_
   simp (maxSteps := 4000000) (disch := omega) only [rq, simprocAttr, Qj, Qro, QcI, ZK, ht, Q2]
   simp [QS, QG, frzL, QD, Xi, isDL, isD, ks, u8]
  ·simp (maxSteps := 4000000) (disch := omega) only [rq, simprocAttr]
   refine Qa.still 1 [2, 3, 4] hF' (by simp [QS, QG, frzL, QD, isDL, isD, frzL_T _ t1', frzL_T _ t2', frzL_T _ t3', frzL_T _ t4']) ?_
   simp (maxSteps := 4000000) (disch := omega) only [rq, simprocAttr, Qj, Qro, QcI, ZK, ht, Q2]
   simp [QS, QG, frzL, QD, Xi, isDL, isD, ks, u8]
 ·rw [if_neg h24]
  have hr0 : e.rest.length = 0 := by
   by_cases h : e.rest = []
   ·exact hrl.1 h
   ·exact absurd (.inl h) h24
  have hc0 : Qr e (Qc e.rate) ≠ 0 := fun h => h24 (.inr h)
  have hhd := hG.hd hc0
  have hsk' := hsk hG (hrl.2 hr0) hc0
  generalize hcc : Qr e (Qc e.rate) = CC at *
  by_cases hs0 : e.smp.length = 0
  ·have hle : Qcj e = e := by rw [Qcj, if_pos (hsl.2 hs0)]
   rw [hle] at hsk' ⊢
   have hFi' := hFi e CC ho r6 hhd hsk'
   have tp := Qw (pfB e CC)
   generalize pfB e CC = PB at *
   simp only [QaD, Qbp, il, bss, bs] at hFi'
   simp (maxSteps := 4000000) (disch := omega) only [rq, simprocAttr]
   refine Qa.still 1 [2, 3, 4] hFi' (by simp [QS, QG, frzL, QD, isDL, isD, frzL_T _ t1', frzL_T _ t2', frzL_T _ t3', frzL_T _ t4']) ?_
   simp (maxSteps := 4000000) (disch := omega) only [rq, simprocAttr, Qj, QcI, ZK, ht, Q2]
   simp [QS, QG, frzL, QD, QaN, isDL, isD, Qac, QaH, frzL_T _ tp]
  ·have hle : Qcj e = Xj e := by rw [Qcj, if_neg fun h => hs0 (hsl.1 h)]
   have hask := hG.ask fun h => hs0 (hsl.1 h)
   rw [hle] at hsk' ⊢
   have hfl := hG.fr
   have hoc : okC (Xj e) := ⟨o0, by simp [Xj]; omega, by simp [Xj], by intro v hv; simp [Xj] at hv, o4, o5⟩
   have hFi0 := hFi (Xj e) CC hoc r6 hhd hsk'
   have tp := Qw (pfB (Xj e) CC)
   have tcf := ZH (Xj e).frs
   have hcl : (Xj e).frs.length = e.frs.length + 1 := by simp [Xj]
   generalize pfB (Xj e) CC = PB at *
   have cK := fun {K : AV → List Ob → Prop} => Qeb (K := K) (e := e) bc hT hE (by omega) hask o3 (by omega) ((QbM hG.ck).2.1) (te := t0) (tj := tj) (x1 := ⟨t0, 10, 1, QcI, 0⟩) (x2 := ⟨tb, 1, e.rest.length, u8 e.rest, 0⟩) (T := []) (.inl rfl) (vr := .own 2 e.rest.length) (vo := .list e.out.length (u8 e.out))
    (Low.cons (by simp [QeR, lowL, XV, lowL_D _ (QT _)]) (Low.cons (lowL_D _ q2) (Low.cons (lowL_D _ (QT _)) (Low.cons (lowL_D _ (QB _ _)) (Low.cons (lowL_D _ (Zk _)) Low.nil)))))
   have hFi' : VC P fFi [.agg [.int .i64 e.ch, .int .i64 e.bits, .int .i64 e.rate, .str e.pw, .list e.rest.length (u8 e.rest), .list 0 [], .list (Xj e).frs.length ((Xj e).frs.map bs), .list e.out.length (u8 e.out), .bool e.done, .int .i64 e.err], .int .i64 CC] (.tup [.list PB.length (u8 PB), .int .i64 0]) := hFi0
   rw [hcl] at hFi'
   generalize (Xj e).frs.map bs = FSx at *
   simp (maxSteps := 4000000) (disch := omega) only [rq, simprocAttr]
   refine cK ?_
   simp only [QeR, QcI]
   simp (maxSteps := 4000000) (disch := omega) only [rq, simprocAttr]
   refine Qa.still 1 [2, 3, 4] hFi' (by simp [QS, QG, frzL, QD, isDL, isD, frzL_T _ t1', frzL_T _ t2', frzL_T _ tcf, frzL_T _ t4', Qac]) ?_
   simp (maxSteps := 4000000) (disch := omega) only [rq, simprocAttr, Qj, QcI, ZK, ht, Q2]
   simp [QS, QG, frzL, QD, QaN, isDL, isD, Qac, QaH, frzL_T _ tp]
def Qoa (e : Enc) (m : Int) : Enc × List UInt8 × Int := if QP e ≠ 0 then (Qeg, [], 8) else if m < 0 then (Qeg, [], 2) else ({ e with out := e.out.drop m.toNat }, e.out.take m.toNat, 0)
def Qno (P : Prg) (f : Nat) : Prop := ∀ (e : Enc) (m : Int), okC e → (∀ b ∈ e.frs, b.length ≤ 1000000) → VC P f [QaD e, .int .i64 m] (.tup [QaD (Qoa e m).1, bs (Qoa e m).2.1, .int .i64 (Qoa e m).2.2])
set_option maxRecDepth 20000 in
set_option maxHeartbeats 4000000 in
theorem QhE {P : Prg} {f fC fT fK fJ t0 tb tj tf : Nat} (bd : Qf P f 38 [.cell 4 t0, .tmp 5, .tmp 6] (ZA fC fT fK t0)) (hC : Qch P fC) (bT : Qf P fT 42 [.cell 2 t0] (Q3 fK fJ t0 tf)) (hK1 : JD tb P fK) (hJ : J0 tj P fJ) (ht : ZJ P t0 = some (some 10)) : Qno P f := by
 intro e m ho hfr
 refine VC.of_walk 2 (by simp [isDL, Xw, isD]) (by simp [isD, isDL, Xw, QQ]) (ACall.of_body bd (by simp) ?_)
 have q1 : isDL (Qbp e) = true := by simp [Qbp, isDL, isD, QQ, Zy, QcJ]
 have q2 : isDL QcI = true := by simp [isDL, isD, QcI]
 have hlow : Low 2 [⟨t0, 10, 1, Qbp e, 0⟩, ⟨t0, 10, 1, QcI, 0⟩] := Low.cons (lowL_D _ q1) (Low.cons (lowL_D _ q2) Low.nil)
 have t1' := Qw e.rest
 have t2' := Qv .i32 e.smp
 have t3' := ZH e.frs
 have hC' := hC e ho
 have hc : QP e = 0 ∨ QP e = 8 := by unfold QP; split <;> simp
 have ho' := ho
 obtain ⟨o0, o1, o2, o3, o4, o5⟩ := ho'
 have tw := fun {K : AV → List Ob → Prop} => Qea bT hK1 hJ ht ho hfr (ob := [⟨t0, 10, 1, Qbp e, 0⟩, ⟨t0, 10, 1, QcI, 0⟩]) hlow (K := K)
 simp only [QaD, Qbp, il, bss, bs, QcI, List.cons_append, List.nil_append, List.length_cons, List.length_nil, twA, twO] at tw hC' ⊢
 rcases hc with hc | hc
 case inr =>
  have hd : Qoa e m = (Qeg, [], 8) := by rw [Qoa, if_pos (by omega)]
  rw [hd]
  rw [hc] at hC'
  simp (maxSteps := 4000000) (disch := omega) only [rq, simprocAttr, ZA]
  refine Qa.vc hC' ?_
  simp (maxSteps := 4000000) (disch := omega) only [rq, simprocAttr, ZK, ht, Q2]
  simp [QS, QG, frzL, QD, Qeg, isDL, isD, Qac, QaH]
 rw [hc] at hC'
 by_cases hm : m < 0
 ·have hd : Qoa e m = (Qeg, [], 2) := by rw [Qoa, if_neg (by omega), if_pos hm]
  rw [hd]
  simp (maxSteps := 4000000) (disch := omega) only [rq, simprocAttr, ZA]
  refine Qa.vc hC' ?_
  simp (maxSteps := 4000000) (disch := omega) only [rq, simprocAttr, ZK, ht, Q2]
  simp [QS, QG, frzL, QD, Qeg, isDL, isD, Qac, QaH]
 obtain ⟨n, rfl⟩ : ∃ n : Nat, m = n := ⟨m.toNat, by omega⟩
 have hd : Qoa e n = ({ e with out := e.out.drop n }, e.out.take n, 0) := by rw [Qoa, if_neg (by omega), if_neg hm, Int.toNat_natCast]
 rw [hd]
 have hmi : (if (e.out.length : Int) < (n : Int) then (e.out.length : Int) else (n : Int)) = ((min n e.out.length : Nat) : Int) := by split <;> omega
 have hmi2 : (if (n : Int) < (e.out.length : Int) then (n : Int) else (e.out.length : Int)) = ((min n e.out.length : Nat) : Int) := by split <;> omega
 have hkl : min n e.out.length ≤ e.out.length := Nat.min_le_right _ _
 have htk : e.out.take n = e.out.take (min n e.out.length) := by
  rcases Nat.le_total n e.out.length with h | h
  ·rw [Nat.min_eq_left h]
  ·rw [Nat.min_eq_right h, List.take_length, List.take_of_length_le h]
 have hdr : e.out.drop n = e.out.drop (min n e.out.length) := by
  rcases Nat.le_total n e.out.length with h | h
  ·rw [Nat.min_eq_left h]
  ·rw [Nat.min_eq_right h, List.drop_length, List.drop_of_length_le h]
 rw [htk, hdr]
 generalize hk : min n e.out.length = k at *
 have hlt : (e.out.take k).length = k := by rw [List.length_take]; omega
 have hld : (e.out.drop k).length = e.out.length - k := List.length_drop
 have hOv := VC.of_vo (hK1 (e.out.take k) (by omega)) (Qw _) (QT _)
 rw [bs, hlt] at hOv
 have tk := Qw (e.out.take k)
 have td := Qw (e.out.drop k)
 have hut : (u8 e.out).take k = u8 (e.out.take k) := Qti _ _
 have hud : (u8 e.out).drop k = u8 (e.out.drop k) := Qhr _ _
 have hkm : min k e.out.length = k := Nat.min_eq_left hkl
 have htd : (u8 (e.out.drop k)).take (e.out.length - k) = u8 (e.out.drop k) := List.take_of_length_le (by rw [QC, hld]; omega)
 simp (maxSteps := 4000000) (disch := omega) only [rq, simprocAttr, ZA]
 refine Qa.vc hC' ?_
 simp (maxSteps := 4000000) (disch := omega) only [rq, simprocAttr]
 refine tw ?_
 simp (maxSteps := 4000000) (disch := omega) only [rq, simprocAttr, hmi, hmi2, hut, hud, hkm, hk, Nat.sub_zero]
 refine Qa.vc hOv ?_
 simp (maxSteps := 4000000) (disch := omega) only [rq, simprocAttr, hut, hud, hkm, hlt, hld, htd]
 simp (maxSteps := 4000000) (disch := omega) only [rq, simprocAttr, htd, ZK, ht, Q2, QcI]
 simp [QS, QG, frzL, QD, frzL_T _ t1', frzL_T _ t2', frzL_T _ t3', frzL_T _ tk, frzL_T _ td, hlt, hld, htd]
theorem QrK {b : Int} {w m : List UInt8} (hd : 0 < (b / 8).toNat) (h : w.length % (b / 8).toNat = 0) : ZR b (w ++ m) = ZR b w ++ ZR b m := by
 have hq := Nat.div_mul_cancel (Nat.dvd_of_mod_eq_zero h)
 unfold ZR
 generalize (b / 8).toNat = d at *
 generalize hqq : w.length / d = q at *
 have hl : (w ++ m).length / d = q + m.length / d := by
  rw [List.length_append, ← hq, Nat.add_comm, Nat.add_mul_div_right _ _ hd, Nat.add_comm]
 rw [hl, List.range_add, List.map_append, List.map_map]
 congr 1
 ·refine List.map_congr_left fun i hi => ?_
  have hi' : i < q := List.mem_range.1 hi
  have h1 : (i + 1) * d ≤ q * d := Nat.mul_le_mul_right d hi'
  rw [Nat.add_mul, Nat.one_mul] at h1
  rw [List.drop_append_of_le_length (by omega), List.take_append_of_le_length (by rw [List.length_drop]; omega)]
 ·refine List.map_congr_left fun i _ => ?_
  simp only [Function.comp]
  have : (w ++ m).drop ((q + i) * d) = m.drop (i * d) := by
   rw [Nat.add_mul, hq, ← List.drop_drop, List.drop_left]
  rw [this]
def QE (c x r : Int) (p : List UInt8) : Enc := ⟨c, x, r, p, [], [], [], [], false, 0⟩
theorem QsR {c x r : Int} {p : List UInt8} (h : Qx c x r p = true) : OkG (QE c x r p) := by
 obtain ⟨⟨r1, r2, r3⟩, ⟨r4, r5⟩, r6⟩ := QA.1 h
 have hm := Xu r2 r3 r1
 have hL := ZM r
 refine ⟨h, rfl, rfl, rfl, ?_, by simp [QE], ?_, by simp [QE], ?_, ?_, rfl⟩
 ·show ((0 : Nat) : Int) < c * x / 8; omega
 ·show (((0 : Nat) : Int)) / c < Qc r
  simp; omega
 ·exact QeP (x := x) r1 (by simp [QE]) (by simp [QE])
 ·refine (Qb4 _ _ _).2 ⟨?_, ?_⟩
  ·show (((0 : Nat) : Int)) + (if 0 < (0 : Nat) then 1 else 0) ≤ 1000
   simp
  ·show ((((0 : Nat) : Int)) * Qc r + ((0 : Nat) : Int) / c) * c ≤ 4000
   simp
def LcE (e : Enc) : Nat := (Qc e.rate).toNat * e.ch.toNat
def Qs4 (e : Enc) (q : List Int) : List UInt8 := Qdm e.ch.toNat e.bits (tpE e) q
structure Qrk (e : Enc) (S : List Int) : Prop where
 frs : e.frs = (List.range e.frs.length).map fun i => Qs4 e (ZT (LcE e) S i)
 smp : e.smp = S.drop (e.frs.length * LcE e)
 len : S.length = e.frs.length * LcE e + e.smp.length
theorem QpA {L i : Nat} {S T : List Int} (h : (i + 1) * L ≤ S.length) : ZT L (S ++ T) i = ZT L S i := by
 rw [Nat.add_mul, Nat.one_mul] at h
 unfold ZT
 rw [List.drop_append_of_le_length (by omega), List.take_append_of_le_length (by rw [List.length_drop]; omega)]
theorem Qt0 {e : Enc} {S T : List Int} (h : Qrk e S) : e.frs = (List.range e.frs.length).map fun i => Qs4 e (ZT (LcE e) (S ++ T) i) := by
 conv => lhs; rw [h.frs]
 refine List.map_congr_left fun i hi => ?_
 have hi' : i < e.frs.length := List.mem_range.1 hi
 have h1 : (i + 1) * LcE e ≤ e.frs.length * LcE e := Nat.mul_le_mul_right _ hi'
 rw [QpA (by have := h.len; omega)]
theorem QoI {e : Enc} {m : List UInt8} {S : List Int} (h : OkG e) (hf : Qrk e S) (hm : (m.length : Int) = e.ch * e.bits / 8) : Qrk (Xn e m) (S ++ ZR e.bits m) := by
 obtain ⟨k, L, q, hk, k1, k6, hL, L1, L2, hlen, hq, hx, hrm, hcn, hbits⟩ := h.nat
 obtain ⟨⟨r1, r2, r3⟩, ⟨r4, r5⟩, r6⟩ := QA.1 h.r
 have hsl := Qlc hx r2 r3 hm
 have hLc : LcE e = L * k := by rw [LcE, hk, hL]; simp
 have hA := Qt0 (T := ZR e.bits m) hf
 have hD : e.smp ++ ZR e.bits m = (S ++ ZR e.bits m).drop (e.frs.length * LcE e) := by
  rw [List.drop_append_of_le_length (by have := hf.len; omega), ← hf.smp]
 have hl2 := hf.len
 have hml : (ZX e m).smp = e.smp ++ ZR e.bits m := rfl
 have hml2 : (ZX e m).smp.length = (q + 1) * k := by
  rw [hk] at hsl
  have : (ZR e.bits m).length = k := by exact_mod_cast hsl
  rw [hml, List.length_append, hlen, this, Nat.add_mul, Nat.one_mul]
 unfold Xn
 by_cases hlt : ((ZX e m).smp.length : Int) < Qc e.rate * e.ch
 ·rw [if_pos hlt]
  refine ⟨hA, hD, ?_⟩
  show (S ++ ZR e.bits m).length = e.frs.length * LcE e + (e.smp ++ ZR e.bits m).length
  rw [List.length_append, List.length_append]; omega
 ·rw [if_neg hlt, ]
  rw [hml2, hL, hk] at hlt
  have hlt' : L * k ≤ (q + 1) * k := by
   have := Int.not_lt.1 hlt
   exact_mod_cast this
  have hq1 : q + 1 = L := by
   have := Nat.le_of_mul_le_mul_right hlt' (by omega)
   omega
  have hsz : (e.smp ++ ZR e.bits m).length = LcE e := by rw [← hml, hml2, hLc, hq1]
  have hP : ZT (LcE e) (S ++ ZR e.bits m) e.frs.length = e.smp ++ ZR e.bits m := by
   unfold ZT
   rw [← hD, List.take_of_length_le (by omega)]
  have hfl : (Xj (ZX e m)).frs.length = e.frs.length + 1 := Qkh e m
  have hSl : (S ++ ZR e.bits m).length = (e.frs.length + 1) * LcE e := by
   rw [List.length_append] at hsz ⊢
   rw [Nat.add_mul, Nat.one_mul]; omega
  refine ⟨?_, ?_, ?_⟩
  ·rw [hfl, List.range_succ, List.map_append]
   show e.frs ++ [Qs4 e (e.smp ++ ZR e.bits m)] = (List.range e.frs.length).map (fun i => Qs4 e (ZT (LcE e) (S ++ ZR e.bits m) i)) ++ [Qs4 e (ZT (LcE e) (S ++ ZR e.bits m) e.frs.length)]
   rw [hP, ← hA]
  ·rw [hfl]
   show [] = (S ++ ZR e.bits m).drop ((e.frs.length + 1) * LcE e)
   rw [List.drop_of_length_le (by omega)]
  ·rw [hfl]
   show (S ++ ZR e.bits m).length = (e.frs.length + 1) * LcE e + 0
   omega
def QsJ (e : Enc) (b : List UInt8) : Prop := ∃ w, b = w ++ e.rest ∧ (w.length : Int) % (e.ch * e.bits / 8) = 0 ∧ Qrk e (ZR e.bits w)
theorem Qls (c x r : Int) (p : List UInt8) : QsJ (QE c x r p) [] :=
 ⟨[], rfl, by simp, ⟨rfl, by simp [QE, ZR], by simp [QE, ZR]⟩⟩
theorem QpJ {e : Enc} (h : OkG e) : ∃ k d : Nat, e.ch * e.bits / 8 = ((k * d : Nat) : Int) ∧ d = (e.bits / 8).toNat ∧ 0 < d ∧ 1 ≤ k := by
 obtain ⟨k, L, q, hk, k1, k6, hL, L1, L2, hlen, hq, hx, hrm, hcn, hbits⟩ := h.nat
 refine ⟨k, (e.bits / 8).toNat, ?_, rfl, ?_, k1⟩
 ·rw [hk]
  rcases hbits with b | b | b <;> rw [b] <;> simp <;> omega
 ·rcases hbits with b | b | b <;> rw [b] <;> decide
theorem Qvp {e : Enc} (h : OkG e) {w : List UInt8} (hw : (w.length : Int) % (e.ch * e.bits / 8) = 0) : 0 < (e.bits / 8).toNat ∧ w.length % (e.bits / 8).toNat = 0 := by
 obtain ⟨k, d, h1, h2, h3, h4⟩ := QpJ h
 rw [h1] at hw
 have hw' : w.length % (k * d) = 0 := by exact_mod_cast hw
 refine ⟨h2 ▸ h3, h2 ▸ Nat.mod_eq_zero_of_dvd (Nat.dvd_trans (Nat.dvd_mul_left d k) (Nat.dvd_of_mod_eq_zero hw'))⟩
theorem QsC {e : Enc} {c : UInt8} {b : List UInt8} (h : OkG e) (hf : QsJ e b) (h0 : (Qbt e c).2 = 0) : QsJ (Qbt e c).1 (b ++ [c]) := by
 obtain ⟨w, hb, hw, hS⟩ := hf
 have hrest := h.rest
 unfold Qbt at h0 ⊢
 split
 ·rename_i h1
  exact ⟨w, by rw [hb, List.append_assoc], hw, hS.frs, hS.smp, hS.len⟩
 ·rename_i h1
  rw [if_neg h1] at h0
  split
  ·rename_i h2
   rw [if_pos h2] at h0; cases h0
  ·have hm : ((e.rest ++ [c]).length : Int) = e.ch * e.bits / 8 := by
    simp only [List.length_append, List.length_cons, List.length_nil]; omega
   have hs : Sib (Xn e (e.rest ++ [c])) e := by
    unfold Xn
    split <;> exact ⟨rfl, rfl, rfl, rfl⟩
   have hr : (Xn e (e.rest ++ [c])).rest = [] := by
    unfold Xn
    split <;> rfl
   obtain ⟨d1, d2⟩ := Qvp h hw
   refine ⟨w ++ (e.rest ++ [c]), ?_, ?_, ?_⟩
   ·show b ++ [c] = w ++ (e.rest ++ [c]) ++ (Xn e (e.rest ++ [c])).rest
    rw [hb, hr]; simp
   ·show ((w ++ (e.rest ++ [c])).length : Int) % ((Xn e (e.rest ++ [c])).ch * (Xn e (e.rest ++ [c])).bits / 8) = 0
    rw [hs.1, hs.2.1, List.length_append, Int.natCast_add, hm, Int.add_emod_right, hw]
   ·show Qrk (Xn e (e.rest ++ [c])) (ZR (Xn e (e.rest ++ [c])).bits (w ++ (e.rest ++ [c])))
    rw [hs.2.1, QrK d1 d2]
    exact QoI h hS hm
theorem Qks : ∀ (l : List UInt8) {e : Enc} {b : List UInt8}, OkG e → QsJ e b → (QJ e l).2 = 0 → QsJ (QJ e l).1 (b ++ l)
 | [], e, b, _, hf, _ => by rw [List.append_nil]; exact hf
 | c :: l, e, b, h, hf, h0 => by
  rw [QJ] at h0 ⊢
  rcases Qmd c h with ⟨h1, h2⟩ | h1
  ·rw [if_neg (by rw [h1]; simp)] at h0 ⊢
   have := Qks l h2 (QsC h hf h1) h0
   rwa [List.append_assoc] at this
  ·rw [if_pos (by rw [h1]; simp), h1] at h0; cases h0
theorem Qfm {c x r : Int} {p : List UInt8} (h : Qx c x r p = true) (b : List UInt8) : ((J1 (QE c x r p) b).2 = 0 ∧ OkG (J1 (QE c x r p) b).1 ∧ Sib (J1 (QE c x r p) b).1 (QE c x r p) ∧ QsJ (J1 (QE c x r p) b).1 b) ∨ J1 (QE c x r p) b = (Xi (QE c x r p) 18, 18) := by
 have hn := QsR h
 rw [Qqi hn]
 obtain ⟨h1, ⟨h2, h3⟩ | h2⟩ := Qnh b hn
 ·exact .inl ⟨h2, h3, h1, by have := Qks b hn (Qls c x r p) h2; simpa using this⟩
 ·exact .inr h2
theorem Qm7 {c x r : Int} {p b : List UInt8} {e : Enc} (h : OkG e) (hs : Sib e (QE c x r p)) (hf : QsJ e b) :
  (e.rest = [] ↔ (b.length : Int) % (c * x / 8) = 0) ∧ (Qr e (Qc e.rate) = 0 ↔ (b.length : Int) < c * x / 8) ∧ (e.rest = [] → Qr e (Qc e.rate) ≠ 0 → ZF c x r (ZR x b) = 0 ∧ (Qcj e).frs = Qo c x r (ZR x b) (ofK (ZW 0 p) 8) ∧ Qr e (Qc e.rate) = (((ZR x b).length / c.toNat : Nat) : Int)) := by
 obtain ⟨w, hb, hw, hS⟩ := hf
 obtain ⟨k, L, q, hk, k1, k6, hL, L1, L2, hlen, hq, hx, hrm, hcn, hbits⟩ := h.nat
 obtain ⟨kk, d, m1, m2, m3, m4⟩ := QpJ h
 obtain ⟨s1, s2, s3, s4⟩ := hs
 simp only [QE] at s1 s2 s3 s4
 have hrest := h.rest
 have hrs : e.rest.length = 0 ↔ e.rest = [] := by simp
 rw [s1, s2] at hrest hw m1
 have hM : 0 < c * x / 8 := by omega
 have hbl : (b.length : Int) = w.length + e.rest.length := by rw [hb, List.length_append]; simp
 have hLc : LcE e = L * k := by rw [LcE, hk, hL]; simp
 have hkk : kk = k := by
  rw [← s1, ← s2, hk] at m1
  have : (k : Int) * e.bits / 8 = ((k * d : Nat) : Int) := by
   rw [m2]
   rcases hbits with b | b | b <;> rw [b] <;> simp <;> omega
  rw [this] at m1
  have : k * d = kk * d := by exact_mod_cast m1
  exact (Nat.eq_of_mul_eq_mul_right m3 this).symm
 subst hkk
 have hSl : (ZR x w).length = (e.frs.length * L + q) * kk := by
  have := hS.len
  rw [s2] at this
  rw [this, hLc, hlen, Nat.add_mul, Nat.mul_assoc]
 have hwl : w.length = (e.frs.length * L + q) * (kk * d) := by
  have h1 : w.length / d * d = w.length := by
   have : w.length % d = 0 := by
    have hw' : w.length % (kk * d) = 0 := by rw [m1] at hw; exact_mod_cast hw
    exact Nat.mod_eq_zero_of_dvd (Nat.dvd_trans (Nat.dvd_mul_left d kk) (Nat.dvd_of_mod_eq_zero hw'))
   exact Nat.div_mul_cancel (Nat.dvd_of_mod_eq_zero this)
  have h2 : w.length / d = (e.frs.length * L + q) * kk := by
   rw [← hSl, Xh, m2, s2]
  rw [← h1, h2, Nat.mul_assoc]
 have hkd : 0 < kk * d := Nat.mul_pos (by omega) m3
 generalize hn : e.frs.length * L + q = n at *
 have hre : (b.length : Int) % (c * x / 8) = e.rest.length := by
  rw [hbl, Int.add_emod, hw, Int.zero_add, Int.emod_emod, Int.emod_eq_of_lt (by omega) hrest]
 refine ⟨by rw [hre, ← hrs]; omega, ?_, ?_⟩
 ·rw [hcn, m1]
  rw [m1] at hrest
  have hr' : e.rest.length < kk * d := by exact_mod_cast hrest
  have hb' : b.length = n * (kk * d) + e.rest.length := by omega
  constructor
  ·intro h0
   have : n = 0 := by omega
   subst this
   rw [hb', Nat.zero_mul]; omega
  ·intro h0
   have h1 : b.length < kk * d := by exact_mod_cast h0
   rcases Nat.eq_zero_or_pos n with h2 | h2
   ·omega
   ·have := Nat.le_mul_of_pos_left (kk * d) h2
    omega
 ·intro hr hc
  have hwb : b = w := by rw [hb, hr, List.append_nil]
  rw [hwb]
  have hn1 : 1 ≤ n := by omega
  have hct : c.toNat = kk := by rw [← s1, hk]; simp
  have hdv : (ZR x w).length / kk = n := by rw [hSl, Nat.mul_div_cancel _ (by omega)]
  have hhd := h.hd hc
  rw [s1, s2, s3] at hhd
  rw [s3] at hcn
  rw [s3] at hc hL
  have hcI : Qr e (Qc r) = (n : Int) := hcn
  refine ⟨?_, ?_, ?_⟩
  ·have hlenI : ((ZR x w).length : Int) / c = (n : Int) := by
    rw [← s1, hk, ← Int.natCast_ediv, hdv]
   have hmod : ((ZR x w).length : Int) % c = 0 := by
    rw [← s1, hk, hSl, Int.natCast_mul]; exact Int.mul_emod_left _ _
   have hxx : Z2 x ≠ 0 := by rw [← s2]; exact hx
   have hle : (ZR x w).length ≤ 4000 := by omega
   have hck : QL x (ZR x w) = 0 := QeP hxx hle fun y hy => QdD hxx w y hy
   rw [hcI] at hhd
   unfold hdN at hhd
   split at hhd
   ·rename_i hh
    obtain ⟨⟨_, _, g1, g2, g3, g4, g5⟩, g6, g7⟩ := hh
    have he0 : QH c x = 0 := by
     rcases QX c x with q' | q'
     ·unfold QH at q'; split at q' <;> omega
     ·exact q'.1
    unfold ZF
    rw [if_neg (by omega), if_neg (by omega), if_neg, if_neg (by omega)]
    rw [hlenI]
    unfold XM
    rw [if_neg (by omega), if_neg (by omega), if_neg (by omega), if_neg (by omega)]
    omega
   ·cases hhd
  ·have hpn : (Zu (Qc r).toNat ((ZR x w).length / c.toNat)).length = (n - 1) / L + 1 := by
    rw [Xv, hct, hdv, hL, Int.toNat_natCast]
   have hE : ∀ q, Qs4 e q = Qdm c.toNat x (ofK (ZW 0 p) 8) q := fun q => by rw [Qs4, tpE, s1, s2, s4]
   have hfr := hS.frs
   have hsm := hS.smp
   rw [s2] at hfr hsm
   unfold Qo QW
   rw [hpn, List.map_map, hct, hL, Int.toNat_natCast]
   rw [hLc] at hfr hsm
   by_cases hq0 : q = 0
   ·have hnil : e.smp = [] := List.eq_nil_of_length_eq_zero (by rw [hlen, hq0, Nat.zero_mul])
    have hF : (n - 1) / L + 1 = e.frs.length := by
     have hF1 : 1 ≤ e.frs.length := by
      rcases Nat.eq_zero_or_pos e.frs.length with z | z
      ·rw [z, Nat.zero_mul] at hn; omega
      ·exact z
     obtain ⟨F, hFF⟩ : ∃ F, e.frs.length = F + 1 := ⟨e.frs.length - 1, by omega⟩
     rw [hFF] at hn ⊢
     have : n - 1 = (L - 1) + F * L := by rw [← hn, Nat.add_mul]; omega
     rw [this, Nat.add_mul_div_right _ _ (by omega), Nat.div_eq_of_lt (by omega), Nat.zero_add]
    rw [hF, Qcj, if_pos hnil]
    conv => lhs; rw [hfr]
    exact List.map_congr_left fun i _ => by rw [hE, hct]; rfl
   ·have hnn : e.smp ≠ [] := fun h0 => by
     rw [h0] at hlen
     have := Nat.mul_pos (Nat.pos_of_ne_zero hq0) (show 0 < kk by omega)
     simp at hlen; omega
    have hF : (n - 1) / L + 1 = e.frs.length + 1 := by
     have : n - 1 = (q - 1) + e.frs.length * L := by omega
     rw [this, Nat.add_mul_div_right _ _ (by omega), Nat.div_eq_of_lt (by omega), Nat.zero_add]
    rw [hF, Qcj, if_neg hnn, List.range_succ, List.map_append]
    have hP : ZT (L * kk) (ZR x w) e.frs.length = e.smp := by
     unfold ZT
     have : e.smp.length ≤ L * kk := by rw [hlen]; exact Nat.mul_le_mul_right _ (by omega)
     rw [← hsm, List.take_of_length_le this]
    show e.frs ++ [Qs4 e e.smp] = _
    conv => lhs; lhs; rw [hfr]
    rw [List.map_cons, List.map_nil]
    simp only [Function.comp]
    rw [hP, hE, hct]
    congr 1
    exact List.map_congr_left fun i _ => by rw [hE, hct]; rfl
  ·rw [s3, hcI, hct, hdv]
theorem QlJ {c x r : Int} {p b : List UInt8} {e : Enc} (h : OkG e) (hs : Sib e (QE c x r p)) (hf : QsJ e b) :
  ((¬ (0 < b.length ∧ (b.length : Int) % (c * x / 8) = 0)) ∧ QlK e = (Xi (QE c x r p) 24, 24)) ∨ ((0 < b.length ∧ (b.length : Int) % (c * x / 8) = 0) ∧ ZF c x r (ZR x b) = 0 ∧ skN (Zn (Qcj e).frs) = 0 ∧ QlK e = (QaN (QE c x r p) (Qdk c x r (ZR x b) p), 0)) := by
 obtain ⟨f1, f2, f3⟩ := Qm7 h hs hf
 have hst : QcE e = 0 := by unfold QcE; rw [if_neg (by rw [h.err]; simp), if_neg (by rw [h.done]; simp)]
 have hfe : QlK e = if e.rest ≠ [] ∨ Qr e (Qc e.rate) = 0 then (Xi e 24, 24) else (QaN e (pfB (Qcj e) (Qr e (Qc e.rate))), 0) := by rw [QlK, if_neg (by rw [Qfd h]; simp), if_neg (by omega)]
 have hM : 0 < c * x / 8 := by
  have := h.rest
  rw [hs.1, hs.2.1] at this
  simp only [QE] at this
  omega
 rw [hfe]
 by_cases h24 : e.rest ≠ [] ∨ Qr e (Qc e.rate) = 0
 ·refine .inl ⟨?_, by rw [if_pos h24, Qj6 e _ 24 hs]⟩
  rintro ⟨g1, g2⟩
  rcases h24 with g | g
  ·exact g (f1.2 g2)
  ·have := f2.1 g
   rw [Int.emod_eq_of_lt (by omega) this] at g2
   omega
 ·have hr : e.rest = [] := by
   by_cases hh : e.rest = []
   ·exact hh
   ·exact absurd (.inl hh) h24
  have hc : Qr e (Qc e.rate) ≠ 0 := fun g => h24 (.inr g)
  obtain ⟨g1, g2, g3⟩ := f3 hr hc
  obtain ⟨⟨r1, r2, r3⟩, ⟨r4, r5⟩, r6⟩ := QA.1 h.r
  have hxx : Z2 x ≠ 0 := by rw [← show e.bits = x from hs.2.1]; exact r1
  have hsk := (Qe3 (T := ofK (ZW 0 p) 8) g1 (Qht hxx b)).1
  refine .inr ⟨⟨?_, f1.1 hr⟩, g1, by rw [g2]; exact hsk, ?_⟩
  ·rcases Nat.eq_zero_or_pos b.length with z | z
   ·exact absurd (f2.2 (by rw [z]; exact hM)) hc
   ·exact z
  ·rw [if_neg h24, g3]
   have hl : ∀ g : Enc, Sib g (QE c x r p) → Sib (Qcj g) (QE c x r p) := fun g hg => by
    unfold Qcj
    split
    ·exact hg
    ·exact hg
   have hl' := hl e hs
   obtain ⟨t1, t2, t3, t4⟩ := hl'
   obtain ⟨s1, s2, s3, s4⟩ := hs
   simp only [QE] at s1 s2 s3 s4 t1 t2 t3 t4
   have : pfB (Qcj e) (((ZR x b).length / c.toNat : Nat) : Int) = Qdk c x r (ZR x b) p := by
    rw [pfB, Qdk, t1, t2, t3, t4, g2, Int.toNat_natCast]
   rw [this]
   simp only [QaN, QE, s1, s2, s3, s4]
theorem Qs5 : ∀ l : List UInt8, emA (u8 l) = u8 l
 | [] => rfl
 | a :: l => by
  show emV (.int .u8 (a.toNat : Int)) :: emA (u8 l) = .int .u8 (a.toNat : Int) :: u8 l
  rw [Qs5 l]; rfl
def QiN (P : Prg) (f : Nat) : Prop := ∀ (c x r : Int) (b : List UInt8), ∃ v : Bool, (v = false → b.length ≤ 1100) ∧ VC P f [shA c x, .int .i64 r, bs b] (.bool v)
theorem QnL {P : Prg} {f t0 : Nat} (bd : Qf P f 29 [.tmp 6] (Qs t0)) : QiN P f := by
 intro c x r b
 by_cases h1 : 1100 < b.length
 ·refine ⟨true, by simp, VC.of_acall (by simp [isDL, isD, shA, QQ]) rfl (ACall.of_body bd (by simp) ?_)⟩
  by_cases a : c = 1 <;> by_cases a2 : x = 8 <;> by_cases a3 : 2 < r <;> simp (maxSteps := 4000000) (disch := omega) only [rq, simprocAttr, Qs, shA, bs]
 by_cases h2 : 600 < b.length
 ·by_cases a : c = 1
  ·by_cases a2 : x = 8
   ·by_cases a3 : 2 < r
    ·refine ⟨true, by simp, VC.of_acall (by simp [isDL, isD, shA, QQ]) rfl (ACall.of_body bd (by simp) ?_)⟩
     simp (maxSteps := 4000000) (disch := omega) only [rq, simprocAttr, Qs, shA, bs]
    ·refine ⟨false, by omega, VC.of_acall (by simp [isDL, isD, shA, QQ]) rfl (ACall.of_body bd (by simp) ?_)⟩
     simp (maxSteps := 4000000) (disch := omega) only [rq, simprocAttr, Qs, shA, bs]
   ·refine ⟨true, by simp, VC.of_acall (by simp [isDL, isD, shA, QQ]) rfl (ACall.of_body bd (by simp) ?_)⟩
    simp (maxSteps := 4000000) (disch := omega) only [rq, simprocAttr, Qs, shA, bs]
  ·refine ⟨true, by simp, VC.of_acall (by simp [isDL, isD, shA, QQ]) rfl (ACall.of_body bd (by simp) ?_)⟩
   simp (maxSteps := 4000000) (disch := omega) only [rq, simprocAttr, Qs, shA, bs]
 ·refine ⟨false, by omega, VC.of_acall (by simp [isDL, isD, shA, QQ]) rfl (ACall.of_body bd (by simp) ?_)⟩
  simp (maxSteps := 4000000) (disch := omega) only [rq, simprocAttr, Qs, shA, bs]
def Qq5 (P : Prg) (f : Nat) : Prop := VC P f [] (shA 1 8)
theorem QnV {P : Prg} {f t0 : Nat} (bd : Qf P f 2 [.cell 0 t0] (Z0 t0)) (ht : ZJ P t0 = some (some 2)) : Qq5 P f := by
 refine VC.of_acall rfl rfl (ACall.of_body bd (by simp) ?_)
 simp (maxSteps := 4000000) (disch := omega) only [rq, simprocAttr, Z0, shA, ZK, ht]
theorem QjL {c x r : Int} {p : List UInt8} (h : Qx c x r p = true) : okC (QE c x r p) := by
 obtain ⟨_, _, r6⟩ := QA.1 h
 exact ⟨by show p.length ≤ 100000; omega, by simp [QE], by simp [QE], by intro v hv; simp [QE] at hv, by simp [QE], by simp [QE]⟩
theorem Qm6 {P : Prg} {fF : Nat} (hF : QfO P fF) {c x r : Int} {p b : List UInt8} (h : Qx c x r p = true) (hb : b.length ≤ 1000000) : VC P fF [.agg (QmX c x r p), bs b] (.tup [QaD (J1 (QE c x r p) b).1, .int .i64 (J1 (QE c x r p) b).2]) := by
 refine VC.em _ ?_ (by simp [isDL, isD, QmX, QQ])
 have := hF (QE c x r p) b (QjL h) (by simp [QE]) hb
 simp only [emA, emV, QmX, bs, Qs5]
 exact this
def Qq6 (P : Prg) (f : Nat) : Prop := ∀ (c x r : Int) (p b : List UInt8), Qx c x r p = true → b.length ≤ 1000000 → VC P f [shA c x, .int .i64 r, .str p, bs b] (.tup [QaD (J1 (QE c x r p) b).1, .bool (decide ((J1 (QE c x r p) b).2 = 0))])
theorem QnW {P : Prg} {f fN fF t0 t1 : Nat} (bd : Qf P f 34 [.cell 8 t1, .tmp 9] (Z1 fN fF t0 t1)) (hN : Qq4 P fN) (hF : QfO P fF) (ht : ZJ P t1 = some (some 10)) : Qq6 P f := by
 intro c x r p b h hb
 refine VC.of_acall (by simp [isDL, isD, shA, QQ]) (by simp [isD, isDL, Xw]) (ACall.of_body bd (by simp) ?_)
 obtain ⟨_, _, r6⟩ := QA.1 h
 have hN' := hN c x r p (by omega)
 rw [QsS, if_pos h] at hN'
 have hF' := Qm6 hF h hb
 have hz : (J1 (QE c x r p) b).2 = 0 ∨ (J1 (QE c x r p) b).2 = 18 := by
  rcases Qfm h b with h1 | h1
  ·exact .inl h1.1
  ·exact .inr (by rw [h1])
 generalize J1 (QE c x r p) b = R at *
 obtain ⟨E, y⟩ := R
 simp only [shA, bs, QmX, QaD, Qbp, il, bss] at hN' hF' hz ⊢
 rcases hz with rfl | rfl
 all_goals
  simp (maxSteps := 4000000) (disch := omega) only [rq, simprocAttr, Z1]
  refine Qa.vc hN' ?_
  simp (maxSteps := 4000000) (disch := omega) only [rq, simprocAttr]
  refine Qa.vc hF' ?_
  simp (maxSteps := 4000000) (disch := omega) only [rq, simprocAttr, ZK, ht]
theorem Qob {c x r : Int} {p o : List UInt8} (h : Qx c x r p = true) (ho : o.length ≤ 100000) : QP (QaN (QE c x r p) o) = 0 := by
 unfold QP
 rw [if_neg]
 rintro (h1 | h1)
 ·simp only [QaN, QE] at h1; rw [h] at h1; cases h1
 ·unfold Zj at h1
  simp [QaN] at h1
  omega
theorem Qh5 {c x r : Int} {p o : List UInt8} (h : Qx c x r p = true) (ho : o.length ≤ 100000) (n : Nat) : Qoa (QaN (QE c x r p) o) n = (QaN (QE c x r p) (o.drop n), o.take n, 0) := by
 rw [Qoa, if_neg (by rw [Qob h ho]; simp), if_neg (by omega)]
 rfl
theorem Qqd {c x r : Int} {p b : List UInt8} {e : Enc} (hs : Sib e (QE c x r p)) (hf : QsJ e b) : OkG e → e.rest = [] → Qr e (Qc e.rate) ≠ 0 → skN (Zn (Qcj e).frs) = 0 := fun h hr hc => by
 obtain ⟨_, _, f3⟩ := Qm7 h hs hf
 obtain ⟨g1, g2, _⟩ := f3 hr hc
 obtain ⟨⟨r1, r2, r3⟩, _, _⟩ := QA.1 h.r
 have hxx : Z2 x ≠ 0 := by rw [← show e.bits = x from hs.2.1]; exact r1
 rw [g2]
 exact (Qe3 g1 (Qht hxx b)).1
theorem QlN {e : Enc} (h : OkG e) : ∀ b ∈ e.frs, b.length ≤ 1000000 := by
 intro b hb
 have h1 := List.any_eq_false.1 h.bd b hb
 simp only [Qcw, Bool.or_eq_true, decide_eq_true_eq] at h1
 obtain ⟨k, L, q, hk, k1, k6, hL, L1, L2, hlen, hq, hx, hrm, hcn, hbits⟩ := h.nat
 have hF : 1 ≤ e.frs.length := List.length_pos_of_mem hb
 have h2 : L * k ≤ 4000 := by
  have : L * k ≤ (e.frs.length * L + q) * k := Nat.mul_le_mul_right k (Nat.le_trans (Nat.le_mul_of_pos_left L hF) (Nat.le_add_right _ _))
  omega
 rw [hL, hk] at h1
 have h3 : (81 * (L : Int) * (k : Int) + 7) / 8 ≤ 40501 := by
  have : 81 * (L : Int) * (k : Int) = ((81 * (L * k) : Nat) : Int) := by rw [Int.natCast_mul, Int.natCast_mul, Int.mul_assoc]; rfl
  omega
 omega
theorem QlM {e : Enc} (h : OkG e) : okC e := by
 obtain ⟨⟨r1, r2, r3⟩, _, r6⟩ := QA.1 h.r
 have h1 := h.fr
 have h2 := (QbM h.ck).2.1
 have h3 := h.rest
 have h4 := Xu r2 r3 r1
 exact ⟨by omega, by omega, by omega, Ql7 h.ck, by omega, by rw [h.out]; simp⟩
theorem QbG {c x r y : Int} {p o : List UInt8} {d : Bool} (h : Qx c x r p = true) (ho : o.length ≤ 100000) : okC ⟨c, x, r, p, [], [], [], o, d, y⟩ := by
 obtain ⟨_, _, r6⟩ := QA.1 h
 exact ⟨by show p.length ≤ 100000; omega, by simp, by simp, by intro v hv; simp at hv, by simp, by show o.length ≤ 1000000; omega⟩
theorem Qt3 {c x r : Int} {p : List UInt8} (h : Qx c x r p = true) : QlK (QE c x r p) = (Xi (QE c x r p) 24, 24) := by
 rcases QlJ (QsR h) ⟨rfl, rfl, rfl, rfl⟩ (Qls c x r p) with h1 | h1
 ·exact h1.2
 ·have := h1.1.1; simp at this
theorem Qso {P : Prg} {fF : Nat} (hF : QkM P fF) {c x r : Int} {p : List UInt8} (h : Qx c x r p = true) : VC P fF [.agg (QmX c x r p)] (.tup [QaD (Xi (QE c x r p) 24), .int .i64 24]) := by
 refine VC.em _ ?_ (by simp [isDL, isD, QmX])
 have := hF (QE c x r p) (QjL h) (by simp [QE]) (Qqd ⟨rfl, rfl, rfl, rfl⟩ (Qls c x r p))
 rw [Qt3 h] at this
 exact this
theorem Qqj : J1 (QE 1 8 8000 []) [128] = (⟨1, 8, 8000, [], [], [0], [], [], false, 0⟩, 0) := by rfl
theorem Quz : ZR 8 [128] = [0] := by rfl
theorem J8 : Qx 1 8 8000 [] = true := by decide +kernel
set_option maxHeartbeats 4000000 in
theorem Qlx {P : Prg} {f fO fM fFi fD fE fN t0 t1 t2 : Nat} (bd : Qf P f 117 [.tmp 0] (ZQ fO fM fFi fD fE fN t0 t1 t2)) (hO : Qq5 P fO) (hM : Qq6 P fM) (hFi : QkM P fFi) (hD : Qno P fD) (hE : QiS P fE) (hN : Qq4 P fN) : QmF P f := by
 refine VC.of_acall rfl rfl (ACall.of_body bd (by simp) ?_)
 have hO' : VC P fO [] (.agg [.int .i64 1, .int .i64 8]) := hO
 have hM' := hM 1 8 8000 [] [128] J8 (by simp)
 have hN' := hN 1 8 8000 [] (by simp)
 rw [QsS, if_pos J8] at hN'
 have hX' := Qso hFi J8
 have i1 : I32 [0] := by intro v hv; simp at hv; omega
 have hE0 := hE 1 8 8000 [0] [] i1 (by simp)
 rw [QvD] at hE0
 rcases Qfm J8 [128] with ⟨g1, g2, g3, g4⟩ | g
 case inr => rw [Qqj] at g; have := congrArg Prod.snd g; simp at this
 have hFi0 := hFi _ (QlM g2) (QlN g2) (Qqd g3 g4)
 rcases QlJ g2 g3 g4 with ⟨h1, _⟩ | ⟨_, hcl, _, h1⟩
 ·exact absurd ⟨by simp, by simp⟩ h1
 rw [Quz] at h1 hcl
 rw [h1] at hFi0
 rw [Qqj] at hM' hFi0
 have hlen := Qt5.1
 have hfx : Qdk 1 8 8000 [0] [] = fEx := rfl
 rw [hfx] at hFi0
 have hD1 := hD (QaN (QE 1 8 8000 []) fEx) ((22 : Nat) : Int) (QbG J8 (by omega)) (by simp [QaN])
 rw [Qh5 J8 (by omega)] at hD1
 have hD2 := hD (QaN (QE 1 8 8000 []) (fEx.drop 22)) ((100 : Nat) : Int) (QbG J8 (by rw [List.length_drop]; omega)) (by simp [QaN])
 rw [Qh5 J8 (by rw [List.length_drop]; omega)] at hD2
 have k1 : (fEx.take 22).length = 22 := by rw [List.length_take]; omega
 have k2 : (fEx.drop 22).length = 14 := by rw [List.length_drop]; omega
 have k3 : (fEx.drop 22).take 100 = fEx.drop 22 := List.take_of_length_le (by omega)
 have k4 : (fEx.drop 22).drop 100 = [] := List.drop_of_length_le (by omega)
 have k5 : u8 (fEx.take 22) ++ u8 (fEx.drop 22) = u8 fEx := by rw [QcY, List.take_append_drop]
 have d1 := QeM fEx
 have e1 : (fEx == fEx) = true := by simp
 rw [k3, k4] at hD2
 simp only [QaD, Qbp, il, bss, bs, QaN, QE, Xi, shA, QmX, k1, k2, hlen, List.length_nil, List.length_cons, List.map_nil, Qac, QaH, clA] at hM' hN' hX' hE0 hFi0 hD1 hD2
 have ku1 : (u8 (fEx.take 22)).length = 22 := by rw [QC, k1]
 have ku2 : (u8 (fEx.drop 22)).length = 14 := by rw [QC, k2]
 have hM'' : VC P fM [.agg [.int .i64 1, .int .i64 8], .int .i64 8000, .str [], .list 1 [.int .u8 128]] _ := hM'
 have hE' : VC P fE [.agg [.int .i64 1, .int .i64 8, .int .i64 8000, .list 1 [.int .i32 0]], .str []] (.tup [.list 36 (u8 fEx), .int .i64 0]) := hE0
 simp (maxSteps := 4000000) (disch := omega) only [rq, simprocAttr, ZQ]
 refine Qa.vc hO' ?_
 simp (maxSteps := 4000000) (disch := omega) only [rq, simprocAttr]
 refine Qa.still 1 [0] hM'' (by simp [QS, QG, frzL, QD, isDL, isD]) ?_
 simp (maxSteps := 4000000) (disch := omega) only [rq, simprocAttr, Qj]
 refine Qa.vc hFi0 ?_
 simp (maxSteps := 4000000) (disch := omega) only [rq, simprocAttr]
 refine Qa.vc hD1 ?_
 simp (maxSteps := 4000000) (disch := omega) only [rq, simprocAttr]
 refine Qa.vc hD2 ?_
 simp (maxSteps := 4000000) (disch := omega) only [rq, simprocAttr]
 refine Qa.still 1 [5] hE' (by simp [QS, QG, frzL, QD, isDL, isD]) ?_
 simp (maxSteps := 4000000) (disch := omega) only [rq, simprocAttr, Qj]
 refine Qa.vc hO' ?_
 simp (maxSteps := 4000000) (disch := omega) only [rq, simprocAttr]
 refine Qa.vc hN' ?_
 simp (maxSteps := 4000000) (disch := omega) only [rq, simprocAttr]
 refine Qa.vc hX' ?_
 simp (maxSteps := 4000000) (disch := omega) only [rq, simprocAttr, ku1, ku2, k5, Qo0, d1, e1, hlen]
def QdX (P : Prg) (f : Nat) : Prop := ∀ (c b r : Int) (pw : List UInt8), VC P f [shA c b, .int .i64 r, .str pw] (.bool (Qx c b r pw))
theorem QjA {P : Prg} {f fL fE t0 : Nat} (b : Qf P f 26 [.tmp 6] (Zf fL fE t0)) (hL : Xe P fL) (hE : JC P fE) (c x r : Int) (pw : List UInt8) : VC P f [shA c x, .int .i64 r, .str pw] (.int .i64 (if Qx c x r pw = true then 0 else 2)) := by
 refine VC.of_acall rfl rfl (ACall.of_body b (by simp) ?_)
 have hE' := hE c x
 rw [shA] at hE' ⊢
 simp (maxSteps := 4000000) (disch := omega) only [rq, simprocAttr, Zf]
 refine Qa.vc (hL r) ?_
 have he : QH c x = 0 ∨ QH c x = 2 := by unfold QH; split <;> omega
 by_cases h1 : r < 1 ∨ 1048576 < r
 ·simp (maxSteps := 4000000) (disch := omega) only [rq, simprocAttr, Qa5, h1]
  refine Qa.vc hE' ?_
  have h2 : Qx c x r pw = false := by simp only [Qx]; rw [show decide (1 ≤ r ∧ r ≤ 1048576) = false by rw [decide_eq_false_iff_not]; omega]; simp
  rcases he with he | he
  ·simp (maxSteps := 4000000) (disch := omega) only [rq, simprocAttr, he, h2]
  ·simp (maxSteps := 4000000) (disch := omega) only [rq, simprocAttr, he, h2]
 ·simp (maxSteps := 4000000) (disch := omega) only [rq, simprocAttr, Qa5, h1]
  refine Qa.vc hE' ?_
  rcases he with he | he
  ·by_cases hp : pw.length ≤ 64
   ·have h2 : Qx c x r pw = true := by simp only [Qx, he]; rw [show decide (1 ≤ r ∧ r ≤ 1048576) = true by rw [decide_eq_true_eq]; omega]; simp [hp]
    simp (maxSteps := 4000000) (disch := omega) only [rq, simprocAttr, he, h2]
   ·have h2 : Qx c x r pw = false := by simp [Qx, hp]
    simp (maxSteps := 4000000) (disch := omega) only [rq, simprocAttr, he, h2]
  ·have h2 : Qx c x r pw = false := by simp [Qx, he]
   simp (maxSteps := 4000000) (disch := omega) only [rq, simprocAttr, he, h2]
theorem QjO {P : Prg} {f fA t0 fL fE t1 : Nat} (bd : Qf P f 12 [.tmp 6] (Zg fA t0)) (bA : Qf P fA 26 [.tmp 6] (Zf fL fE t1)) (hL : Xe P fL) (hE : JC P fE) : QdX P f := by
 intro c x r pw
 refine VC.of_acall (by simp [isDL, isD, shA]) rfl (ACall.of_body bd (by simp) ?_)
 have hA' := QjA bA hL hE c x r pw
 rw [shA] at hA' ⊢
 cases hr : Qx c x r pw with
 | true =>
  rw [hr] at hA'
  simp only [if_true] at hA'
  simp (maxSteps := 4000000) (disch := omega) only [rq, simprocAttr, Zg]
  refine Qa.vc hA' ?_
  simp (maxSteps := 4000000) (disch := omega) only [rq, simprocAttr]
 | false =>
  rw [hr] at hA'
  simp only [Bool.false_eq_true, if_false] at hA'
  simp (maxSteps := 4000000) (disch := omega) only [rq, simprocAttr, Zg]
  refine Qa.vc hA' ?_
  simp (maxSteps := 4000000) (disch := omega) only [rq, simprocAttr]
theorem Qc8 (x : Int) (b : List UInt8) : ∃ (L : List Int) (u : Int), ZS x b = .tup [il L, .int .i64 u] := by
 unfold ZS
 split
 ·exact ⟨[], 2, rfl⟩
 ·split
  ·exact ⟨[], 12, rfl⟩
  ·split
   ·exact ⟨[], 4, rfl⟩
   ·exact ⟨_, _, rfl⟩
theorem Qqs {e : Enc} (h : QP e = 0) (ho : e.out = []) (n : Nat) : Qoa e n = (e, [], 0) := by
 rw [Qoa, if_neg (by omega), if_neg (by omega)]
 obtain ⟨c, x, r, p, q, s, F, o, d, y⟩ := e
 simp only at ho
 subst ho
 simp
theorem Qt4 {c x r : Int} {p : List UInt8} {y : Int} (h : Qx c x r p = true) (hy : y = 18 ∨ y = 24) : QlK (Xi (QE c x r p) y) = (Xi (QE c x r p) y, y) := by
 have hs : QcE (Xi (QE c x r p) y) = y := by
  unfold QcE
  rw [if_pos (by show y ≠ 0; omega)]
  rfl
 rw [QlK, if_neg (by rw [QgR h hy]; simp), hs, if_pos (by omega)]
def Qg1 (P : Prg) (f : Nat) : Prop := ∀ (c x r : Int) (p b : List UInt8), VC P f [shA c x, .int .i64 r, .str p, bs b] (.bool true)
set_option maxRecDepth 20000 in
set_option maxHeartbeats 4000000 in
theorem QdN {P : Prg} {f fA fR fU fN fF fD fi fS fM fE t0 t1 : Nat} (bd : Qf P f 158 [.tmp 8] (Qh fA fR fU fN fF fD fi fS fM fE t0 t1)) (hA : QmF P fA) (hR : QdX P fR) (hU : QiN P fU) (hN : Qq4 P fN) (hF : QfO P fF) (hD : Qno P fD) (hFi : QkM P fi) (hS : QbX P fS) (hM : Qbl P fM) (hE : QiS P fE) : Qg1 P f := by
 intro c x r p b
 refine VC.of_acall (by simp [isDL, isD, shA, QQ]) rfl (ACall.of_body bd (by simp) ?_)
 have hA' : VC P fA [] (.bool true) := hA
 have hR' := hR c x r p
 obtain ⟨v, hv, hU'⟩ := hU c x r b
 have hS0 := hS x b
 rw [shA] at hR' hU' ⊢
 rw [bs] at hU' hS0 ⊢
 cases hr : Qx c x r p with
 | false =>
  rw [hr] at hR'
  simp (maxSteps := 4000000) (disch := omega) only [rq, simprocAttr, Qh]
  refine Qa.vc hA' ?_
  simp (maxSteps := 4000000) (disch := omega) only [rq, simprocAttr]
  refine Qa.vc hR' ?_
  simp (maxSteps := 4000000) (disch := omega) only [rq, simprocAttr]
 | true =>
 rw [hr] at hR'
 cases v with
 | true =>
  simp (maxSteps := 4000000) (disch := omega) only [rq, simprocAttr, Qh]
  refine Qa.vc hA' ?_
  simp (maxSteps := 4000000) (disch := omega) only [rq, simprocAttr]
  refine Qa.vc hR' ?_
  simp (maxSteps := 4000000) (disch := omega) only [rq, simprocAttr]
  refine Qa.vc hU' ?_
  simp (maxSteps := 4000000) (disch := omega) only [rq, simprocAttr]
 | false =>
 have hb := hv rfl
 obtain ⟨⟨r1, r2, r3⟩, ⟨r4, r5⟩, r6⟩ := QA.1 hr
 have hmul := Xu r2 r3 r1
 have hN' := hN c x r p (by omega)
 rw [QsS, if_pos hr, shA] at hN'
 have hF' := Qm6 hF hr (b := b) (by omega)
 have hM' := hM c x r2 r3 r1
 rw [shA] at hM'
 have hS' := hS0 (by omega)
 obtain ⟨m, hm⟩ : ∃ m : Nat, c * x / 8 = m := ⟨(c * x / 8).toNat, by omega⟩
 have hm1 : 1 ≤ m := by omega
 have htm : Int.tmod (b.length : Int) (m : Int) = ((b.length % m : Nat) : Int) := by rw [Int.tmod_eq_emod_of_nonneg (by omega)]; rfl
 have htm2 : (b.length : Int) % (m : Int) = ((b.length % m : Nat) : Int) := rfl
 have hmI : ((b.length : Int) % (c * x / 8) = 0) ↔ b.length % m = 0 := by rw [hm, htm2]; omega
 have hmlt : b.length % m < m := Nat.mod_lt _ (by omega)
 rcases Qfm hr b with ⟨g1, g2, g3, g4⟩ | g
 ·have hFi' := hFi _ (QlM g2) (QlN g2) (Qqd g3 g4)
  have hD' := hD _ ((1000 : Nat) : Int) (QlM g2) (QlN g2)
  rw [Qqs (Qfd g2) g2.out] at hD'
  have hff := QlJ g2 g3 g4
  have hout := g2.out
  generalize J1 (QE c x r p) b = R at *
  obtain ⟨E, y⟩ := R
  simp only at g1 hff hF' hFi' hD' hout
  subst g1
  rw [hm] at hM'
  rcases hff with ⟨h1, h2⟩ | ⟨h1, hcl, _, h2⟩
  ·rw [h2] at hFi'
   obtain ⟨L, u, hL⟩ := Qc8 x b
   rw [hL] at hS'
   simp only [bs, QmX, QaD, Qbp, il, bss, hout, List.length_nil, QaH, Xi, QE, List.map_nil, Qac] at hN' hF' hFi' hD' hS'
   rw [hmI] at h1
   by_cases hb0 : 0 < b.length
   ·have hb1 : b.length % m ≠ 0 := fun h => h1 ⟨hb0, h⟩
    simp (maxSteps := 4000000) (disch := omega) only [rq, simprocAttr, Qh]
    refine Qa.vc hA' ?_
    simp (maxSteps := 4000000) (disch := omega) only [rq, simprocAttr]
    refine Qa.vc hR' ?_
    simp (maxSteps := 4000000) (disch := omega) only [rq, simprocAttr]
    refine Qa.vc hU' ?_
    simp (maxSteps := 4000000) (disch := omega) only [rq, simprocAttr]
    refine Qa.vc hN' ?_
    simp (maxSteps := 4000000) (disch := omega) only [rq, simprocAttr]
    refine Qa.vc hF' ?_
    simp (maxSteps := 4000000) (disch := omega) only [rq, simprocAttr]
    refine Qa.vc hD' ?_
    simp (maxSteps := 4000000) (disch := omega) only [rq, simprocAttr]
    refine Qa.vc hFi' ?_
    simp (maxSteps := 4000000) (disch := omega) only [rq, simprocAttr]
    refine Qa.vc hS' ?_
    simp (maxSteps := 4000000) (disch := omega) only [rq, simprocAttr]
    refine Qa.vc hM' ?_
    simp (maxSteps := 4000000) (disch := omega) only [rq, simprocAttr, htm]
   ·simp (maxSteps := 4000000) (disch := omega) only [rq, simprocAttr, Qh]
    refine Qa.vc hA' ?_
    simp (maxSteps := 4000000) (disch := omega) only [rq, simprocAttr]
    refine Qa.vc hR' ?_
    simp (maxSteps := 4000000) (disch := omega) only [rq, simprocAttr]
    refine Qa.vc hU' ?_
    simp (maxSteps := 4000000) (disch := omega) only [rq, simprocAttr]
    refine Qa.vc hN' ?_
    simp (maxSteps := 4000000) (disch := omega) only [rq, simprocAttr]
    refine Qa.vc hF' ?_
    simp (maxSteps := 4000000) (disch := omega) only [rq, simprocAttr]
    refine Qa.vc hD' ?_
    simp (maxSteps := 4000000) (disch := omega) only [rq, simprocAttr]
    refine Qa.vc hFi' ?_
    simp (maxSteps := 4000000) (disch := omega) only [rq, simprocAttr]
    refine Qa.vc hS' ?_
    simp (maxSteps := 4000000) (disch := omega) only [rq, simprocAttr]
  ·rw [h2] at hFi'
   have hlx := Xh x b
   have h8 : 1 ≤ (x / 8).toNat := by rcases hmul.2.2 with rfl | rfl | rfl <;> decide
   have hbx : b.length / (x / 8).toNat ≤ 1100 := Nat.le_trans (Nat.div_le_self _ _) hb
   have hI := Qht r1 b
   have hE' := hE c x r (ZR x b) p hI (by omega)
   have hsk := (Qe3 (T := ofK (ZW 0 p) 8) hcl hI).1
   rw [Qj4, if_neg (by omega), if_neg (by omega), if_neg (by omega)] at hE'
   have hfl := (Qsq (p := p) hcl hI).2
   have hsa : ZS x b = .tup [il (ZR x b), .int .i64 0] := by
    have hbm : b.length % (x / 8).toNat = 0 := by
     have h3 := h1.2
     have : c * x / 8 = c * (x / 8) := by rcases hmul.2.2 with rfl | rfl | rfl <;> omega
     rw [this] at h3
     obtain ⟨d, hd⟩ : ∃ d : Nat, x / 8 = d := ⟨(x / 8).toNat, by omega⟩
     obtain ⟨k, hk⟩ : ∃ k : Nat, c = k := ⟨c.toNat, by omega⟩
     rw [hd, hk] at h3
     rw [hd, Int.toNat_natCast]
     have h4 : b.length % (k * d) = 0 := by exact_mod_cast h3
     exact Nat.mod_eq_zero_of_dvd (Nat.dvd_trans (Nat.dvd_mul_left d k) (Nat.dvd_of_mod_eq_zero h4))
    rw [ZS, if_neg r1, if_neg (by omega), if_neg (by omega)]
   rw [hsa] at hS'
   have hD2 := hD (QaN (QE c x r p) (Qdk c x r (ZR x b) p)) ((100000 : Nat) : Int) (QbG hr (by omega)) (by simp [QaN])
   rw [Qh5 hr (by omega), List.take_of_length_le (by omega), List.drop_of_length_le (by omega)] at hD2
   have hb1 : b.length % m = 0 := hmI.1 h1.2
   have hb0 := h1.1
   generalize Qdk c x r (ZR x b) p = FB at *
   generalize ZR x b = SL at *
   have d1 := QeM FB
   have e1 : (FB == FB) = true := by simp
   simp only [bs, QmX, QaD, Qbp, il, bss, hout, List.length_nil, QaH, QaN, QE, List.map_nil, Qac, clA] at hN' hF' hFi' hD' hS' hE' hD2
   simp (maxSteps := 4000000) (disch := omega) only [rq, simprocAttr, Qh]
   refine Qa.vc hA' ?_
   simp (maxSteps := 4000000) (disch := omega) only [rq, simprocAttr]
   refine Qa.vc hR' ?_
   simp (maxSteps := 4000000) (disch := omega) only [rq, simprocAttr]
   refine Qa.vc hU' ?_
   simp (maxSteps := 4000000) (disch := omega) only [rq, simprocAttr]
   refine Qa.vc hN' ?_
   simp (maxSteps := 4000000) (disch := omega) only [rq, simprocAttr]
   refine Qa.vc hF' ?_
   simp (maxSteps := 4000000) (disch := omega) only [rq, simprocAttr]
   refine Qa.vc hD' ?_
   simp (maxSteps := 4000000) (disch := omega) only [rq, simprocAttr]
   refine Qa.vc hFi' ?_
   simp (maxSteps := 4000000) (disch := omega) only [rq, simprocAttr]
   refine Qa.vc hS' ?_
   simp (maxSteps := 4000000) (disch := omega) only [rq, simprocAttr]
   refine Qa.vc hM' ?_
   simp (maxSteps := 4000000) (disch := omega) only [rq, simprocAttr, htm, hb1]
   refine Qa.vc hE' ?_
   simp (maxSteps := 4000000) (disch := omega) only [rq, simprocAttr]
   refine Qa.vc hD2 ?_
   simp (maxSteps := 4000000) (disch := omega) only [rq, simprocAttr, Qo0, d1, e1]
 ·rw [g] at hF'
  have hFi' := hFi (Xi (QE c x r p) 18) (QbG hr (by simp [QE])) (by simp [Xi]) (fun h => by have := h.err; simp [Xi] at this)
  rw [Qt4 hr (.inl rfl)] at hFi'
  have hD' := hD (Xi (QE c x r p) 18) ((1000 : Nat) : Int) (QbG hr (by simp [QE])) (by simp [Xi])
  rw [Qqs (QgR hr (.inl rfl)) rfl] at hD'
  rw [hm] at hM'
  obtain ⟨L, u, hL⟩ := Qc8 x b
  rw [hL] at hS'
  simp only [bs, QmX, QaD, Qbp, il, bss, List.length_nil, QaH, Xi, QE, List.map_nil, Qac] at hN' hF' hFi' hD' hS'
  by_cases hb0 : 0 < b.length
  ·by_cases hb1 : b.length % m = 0
   all_goals
    simp (maxSteps := 4000000) (disch := omega) only [rq, simprocAttr, Qh]
    refine Qa.vc hA' ?_
    simp (maxSteps := 4000000) (disch := omega) only [rq, simprocAttr]
    refine Qa.vc hR' ?_
    simp (maxSteps := 4000000) (disch := omega) only [rq, simprocAttr]
    refine Qa.vc hU' ?_
    simp (maxSteps := 4000000) (disch := omega) only [rq, simprocAttr]
    refine Qa.vc hN' ?_
    simp (maxSteps := 4000000) (disch := omega) only [rq, simprocAttr]
    refine Qa.vc hF' ?_
    simp (maxSteps := 4000000) (disch := omega) only [rq, simprocAttr]
    refine Qa.vc hD' ?_
    simp (maxSteps := 4000000) (disch := omega) only [rq, simprocAttr]
    refine Qa.vc hFi' ?_
    simp (maxSteps := 4000000) (disch := omega) only [rq, simprocAttr]
    refine Qa.vc hS' ?_
    simp (maxSteps := 4000000) (disch := omega) only [rq, simprocAttr]
    refine Qa.vc hM' ?_
    simp (maxSteps := 4000000) (disch := omega) only [rq, simprocAttr, htm, hb1]
  ·simp (maxSteps := 4000000) (disch := omega) only [rq, simprocAttr, Qh]
   refine Qa.vc hA' ?_
   simp (maxSteps := 4000000) (disch := omega) only [rq, simprocAttr]
   refine Qa.vc hR' ?_
   simp (maxSteps := 4000000) (disch := omega) only [rq, simprocAttr]
   refine Qa.vc hU' ?_
   simp (maxSteps := 4000000) (disch := omega) only [rq, simprocAttr]
   refine Qa.vc hN' ?_
   simp (maxSteps := 4000000) (disch := omega) only [rq, simprocAttr]
   refine Qa.vc hF' ?_
   simp (maxSteps := 4000000) (disch := omega) only [rq, simprocAttr]
   refine Qa.vc hD' ?_
   simp (maxSteps := 4000000) (disch := omega) only [rq, simprocAttr]
   refine Qa.vc hFi' ?_
   simp (maxSteps := 4000000) (disch := omega) only [rq, simprocAttr]
   refine Qa.vc hS' ?_
   simp (maxSteps := 4000000) (disch := omega) only [rq, simprocAttr]
end Go.Am
