/- What the functions that the law reaches return, for every program that has their code; the conditions stand in each statement. -/
import Derived.Test.YtghngklehkkecaeGreatDoorPushencSticksL2
set_option linter.unusedSectionVars false
set_option linter.unusedSimpArgs false
set_option linter.unusedVariables false
namespace Go.Am
open Go.RowKit
def Qaj (t : Nat) (P : Prg) (f : Nat) : Prop := ∀ l : List Int, l.length ≤ 1000000 → VO P f [il l] (.own 0 l.length) ⟨t, 1, l.length, ks .i32 l, 0⟩
theorem Qtd {P : Prg} {f t0 : Nat} (b : Qd P f 8 [.tmp 2] (Qs t0)) : Qaj t0 P f := by
 intro l hl
 refine VO.of_walk (by simp [isDL, Zx]) (QD _ _) (by simp [okr]) (ACall.virtR t0 1 (by decide) (ACall.of_body b (by simp) ?_))
 by_cases h0 : l = []
 ·subst h0
  simp (maxSteps := 4000000) (disch := omega) only [rq, simprocAttr, Qs, il, Qnw, Qb1]
  exact ⟨.inr ⟨true, rfl, 0, rfl, rfl⟩, .inl ⟨0, rfl, rfl⟩⟩
 ·have h1 : l.length ≠ 0 := by simpa using h0
  simp (maxSteps := 4000000) (disch := omega) only [rq, simprocAttr, Qs, il, Qnw, h1, Qb1]
  exact .inl ⟨0, rfl, rfl⟩
def twA (M : Nat) (e : Enc) : AV := .agg [.int .i64 e.ch, .int .i64 e.bits, .int .i64 e.rate, .str e.pw, .own M e.rest.length, .own (M + 1) e.smp.length, .own (M + 2) e.frs.length, bs e.out, .bool e.done, .int .i64 e.err]
def twO (tb tj tf : Nat) (e : Enc) : List Ob := [⟨tb, 1, e.rest.length, u8 e.rest, 0⟩, ⟨tj, 1, e.smp.length, ks .i32 e.smp, 0⟩, ⟨tf, 1, e.frs.length, e.frs.map bs, 0⟩]
theorem Qow {L : List (List UInt8)} {k : Nat} (h : k < L.length) : (L.map bs).take k ++ bs (L.getD k []) :: (L.map bs).drop (k + 1) = L.map bs := by
 have := QeJ h
 conv => rhs; rw [← List.take_append_drop k (L.map bs), this]
set_option maxHeartbeats 1000000 in
theorem QeD {P : Prg} {f fC fJ t0 t1 tb tj : Nat} (bd : Qd P f 42 [.cell 2 t0] (Q7 fC fJ t0 t1)) (hC : JW tb P fC) (hJ : Qaj tj P fJ) (ht : ZQ P t0 = some (some 10)) {e : Enc} (ho : okC e) (hfr : ∀ b ∈ e.frs, b.length ≤ 1000000) {ob : List Ob} (hl : Low ob.length ob) {K : AV → List Ob → Prop}
  (hK : K (twA ob.length e) (ob ++ twO tb tj t1 e)) : ACall P f [Xd e] ob K := by
 refine ACall.pick (ACall.pad (ACall.pad (ACall.of_body bd (by simp) ?_)))
 obtain ⟨o0, o1, o2, o3, o4, o5⟩ := ho
 have hR := hC e.rest (by omega)
 have hS := hJ e.smp (by omega)
 have hOv := VC.of_vo (hC e.out (by omega)) (Qz _) (QX _)
 have hF := fun b (hb : b ∈ e.frs) => VC.of_vo (hC b (hfr b hb)) (Qz _) (QX _)
 have hmb : (e.frs.map bs).length = e.frs.length := by simp
 rw [bs] at hR hOv
 rw [il] at hS
 simp only [Xd, XC, il, bss, bs]
 simp (maxSteps := 4000000) (disch := omega) only [rq, simprocAttr, Q7, List.append_assoc, List.cons_append, List.nil_append, Qks, QbH, Qlm, Qc0]
 refine QP.vo hR ob.length (by rw [QbH]; rfl) Nat.one_ne_zero ?_
 simp (maxSteps := 4000000) (disch := omega) only [rq, simprocAttr, shr, List.append_assoc, List.cons_append, List.nil_append, Qks, QbH, Qlm, Qc0]
 refine QP.vo hS (ob.length + 1) (by rw [Qks]; rfl) Nat.one_ne_zero ?_
 simp (maxSteps := 4000000) (disch := omega) only [rq, simprocAttr, shr, List.append_assoc, List.cons_append, List.nil_append, Qks, QbH, Qlm, Qc0]
 refine QP.vc hOv ?_
 have hzl : (Qq [.emp true] e.frs.length).length = e.frs.length := by rw [QO]; simp
 have hall : (e.frs.map bs).all AV.one = true := by simp [List.all_map, bs, AV.one]
 have hmin : Nat.min e.frs.length e.frs.length = e.frs.length := Nat.min_self _
 have htk : (e.frs.map bs).take e.frs.length ++ (Qq [.emp true] e.frs.length).drop e.frs.length = e.frs.map bs := by rw [List.take_of_length_le (by omega), List.drop_of_length_le (by omega), List.append_nil]
 simp (maxSteps := 4000000) (disch := omega) only [rq, simprocAttr, shr, List.append_assoc, List.cons_append, List.nil_append, Qks, QbH, Qlm, Qc0, hmb, hzl, hall, hmin, htk]
 refine QU.by (ι := Nat) (fun k => ⟨[(27, .int .i64 k), (26, .int .i64 e.frs.length), (3, .own (ob.length + 4) e.frs.length), (2, .ref (ob.length + 3) 1 0), (1, .ref (ob.length + 2) 1 0)], ob ++ [⟨tb, 1, e.rest.length, u8 e.rest, 0⟩, ⟨tj, 1, e.smp.length, ks .i32 e.smp, 0⟩, ⟨t0, 10, 1, [.int .i64 e.ch, .int .i64 e.bits, .int .i64 e.rate, .str e.pw, .own ob.length e.rest.length, .own (ob.length + 1) e.smp.length, .list e.frs.length (e.frs.map bs), .list e.out.length (u8 e.out), .bool e.done, .int .i64 e.err], 0⟩, ⟨t0, 10, 1, [.int .i64 0, .int .i64 0, .int .i64 0, .str [], .emp true, .emp true, .emp true, .emp true, .bool false, .int .i64 0], 0⟩, ⟨t1, 1, e.frs.length, e.frs.map bs, 0⟩]⟩) (fun k => k ≤ e.frs.length) (fun k => e.frs.length - k) 0 (Le.slots (by simp [Am.look])) (by omega) ?_
 intro k hk
 by_cases hlt : k < e.frs.length
 ·have e1 := QeJ (L := e.frs) (k := k) hlt
  have hst := Qow (L := e.frs) hlt
  have hst2 : (e.frs.map bs).take k ++ [bs (e.frs.getD k [])] ++ (e.frs.map bs).drop (k + 1) = e.frs.map bs := by rw [List.append_assoc]; exact hst
  have hF' := hF (e.frs.getD k []) (by rw [List.getD_eq_getElem?_getD, List.getElem?_eq_getElem hlt]; exact List.getElem_mem hlt)
  have ho1 : AV.one (bs (e.frs.getD k [])) = true := rfl
  rw [bs] at hF'
  rw [bs] at e1 hst hst2
  generalize e.frs.getD k [] = F at *
  simp (maxSteps := 4000000) (disch := omega) only [rq, simprocAttr, List.append_assoc, List.cons_append, List.nil_append, Qks, QbH, Qlm, Qc0, hmb, e1]
  refine Qa.vc hF' ?_
  simp (maxSteps := 4000000) (disch := omega) only [rq, simprocAttr, List.append_assoc, List.cons_append, List.nil_append, Qks, QbH, Qlm, Qc0, hmb, hst, hst2]
  exact ⟨k + 1, by omega, by omega, Le.slots (by simp [Am.look])⟩
 ·simp (maxSteps := 4000000) (disch := omega) only [rq, simprocAttr, List.append_assoc, List.cons_append, List.nil_append, Qks, QbH, Qlm, Qc0, hmb, ZR, ht, Q6]
  refine ⟨[0, 1, 4], ob, _, rfl, Nat.le_refl _, hl, by decide, by simp, ?_⟩
  simpa [rnV, rnL, pkO, Quj, Qwr, rnL_D _ _ (QX _), rnL_D _ _ (QD _ _), rnL_D _ _ (Zk _), List.idxOf_cons, twA, twO, bs] using hK
def Qr1 (c x r : Int) (p : List UInt8) (y : Int) : List AV := [.int .i64 c, .int .i64 x, .int .i64 r, .str p, .emp true, .emp true, .emp true, .emp true, .bool false, .int .i64 y]
def Qji (P : Prg) (f : Nat) : Prop := ∀ (e : Enc) (y : Int), VC P f [Xd e, .int .i64 y] (.tup [.agg (Qr1 e.ch e.bits e.rate e.pw y), .int .i64 y])
theorem Qkb {P : Prg} {f t0 : Nat} (bd : Qd P f 15 [.cell 4 t0, .tmp 5] (Qae t0)) (ht : ZQ P t0 = some (some 10)) : Qji P f := by
 intro e y
 refine VC.of_acall (by simp [isDL, isD, Zq]) (by simp [isD, isDL, Qr1]) (ACall.of_body bd (by simp) ?_)
 simp only [Xd, XC, il, bss, bs]
 simp (maxSteps := 4000000) (disch := omega) only [rq, simprocAttr, Qae, ZR, ht, Q6, Qr1]
def QcB (e : Enc) : Int := if e.err ≠ 0 then e.err else if e.done = true then 36 else 0
set_option maxHeartbeats 1000000 in
theorem QdA {P : Prg} {f fC fL fT fK fJ t0 t1 tb tj : Nat} (bd : Qd P f 33 [.cell 2 t0, .tmp 3, .tmp 4] (Zc fC fL fT t0)) (hC : Xq P fC) (hL : ZP P fL) (bT : Qd P fT 42 [.cell 2 t0] (Q7 fK fJ t0 t1)) (hK1 : JW tb P fK) (hJ : Qaj tj P fJ) (ht : ZQ P t0 = some (some 10)) {e : Enc} (ho : okC e) (hfr : ∀ b ∈ e.frs, b.length ≤ 1000000) {ob : List Ob} (hl : Low ob.length ob) {K : AV → List Ob → Prop}
  (h8 : QM e = 8 → K (.tup [.agg (Qr1 0 0 0 [] 0), .int .i64 0, .int .i64 8]) ob)
  (h0 : QM e = 0 → K (.tup [twA ob.length e, .int .i64 (Qc e.rate), .int .i64 (QcB e)]) (ob ++ twO tb tj t1 e)) : ACall P f [Xd e] ob K := by
 refine ACall.pick (ACall.of_body bd (by simp) ?_)
 have hC' := hC e ho
 have hL' := hL e.rate
 have hc : QM e = 0 ∨ QM e = 8 := by unfold QM; split <;> simp
 have tw := fun {ob : List Ob} (hl : Low ob.length ob) {K : AV → List Ob → Prop} => QeD bT hK1 hJ ht ho hfr hl (K := K)
 simp only [Xd, XC, il, bss, bs] at hC' tw ⊢
 rcases hc with hc | hc
 ·have h0' := h0 hc
  have hr := Qc8 hc
  obtain ⟨_, hr2, _⟩ := Qu.1 hr
  rw [hc] at hC'
  rw [J7, if_neg (by omega)] at hL'
  have hst : QcB e = if e.err ≠ 0 then e.err else if e.done = true then 36 else 0 := rfl
  have hlow : ∀ B1 B2 : Ob, isDL B1.cs = true → isDL B2.cs = true → Low (ob ++ [B1, B2]).length (ob ++ [B1, B2]) := fun B1 B2 q1 q2 => by
   rw [List.length_append]
   exact (hl.mono (by omega)).append (Low.cons (lowL_D _ q1) (Low.cons (lowL_D _ q2) Low.nil))
  have q1 : isDL [.int .i64 e.ch, .int .i64 e.bits, .int .i64 e.rate, .str e.pw, .list e.rest.length (u8 e.rest), .list e.smp.length (ks .i32 e.smp), .list e.frs.length (e.frs.map bs), .list e.out.length (u8 e.out), .bool e.done, .int .i64 e.err] = true := by simp [isDL, isD, QX, QD, Zk]
  have q2 : isDL [.int .i64 0, .int .i64 0, .int .i64 0, .str [], .emp true, .emp true, .emp true, .emp true, .bool false, .int .i64 0] = true := by simp [isDL, isD]
  have hlow2 := hlow ⟨t0, 10, 1, _, 0⟩ ⟨t0, 10, 1, _, 0⟩ q1 q2
  clear hlow
  rcases Bool.eq_false_or_eq_true e.done with hd | hd <;> by_cases h1 : e.err = 0
  all_goals
   simp (maxSteps := 4000000) (disch := omega) only [rq, simprocAttr, Zc, List.append_assoc, List.cons_append, List.nil_append, Qks, QbH, Qlm, Qc0]
   refine Qa.vc hC' ?_
   simp (maxSteps := 4000000) (disch := omega) only [rq, simprocAttr, List.append_assoc, List.cons_append, List.nil_append, Qks, QbH, Qlm, Qc0]
   refine Qa.vc hL' ?_
   first | rw [if_neg (by omega), if_pos hd] at hst | rw [if_neg (by omega), if_neg (by rw [hd]; simp)] at hst | rw [if_pos h1] at hst
   simp only [hd] at tw hlow2
   try simp only [h1] at tw hlow2
   simp (maxSteps := 4000000) (disch := omega) only [rq, simprocAttr, List.append_assoc, List.cons_append, List.nil_append, Qks, QbH, Qlm, Qc0, hd, h1]
  all_goals
   refine tw hlow2 ?_
   simp (maxSteps := 4000000) (disch := omega) only [rq, simprocAttr, List.append_assoc, List.cons_append, List.nil_append, Qks, QbH, Qlm, Qc0, hd, h1, twA, twO, bs, ZR, ht, Q6]
   refine ⟨[2, 3, 4], ob, _, rfl, Nat.le_refl _, hl, by decide, by simp, ?_⟩
   have hk := h0'
   simp only [twA, twO, bs, hst, hd, h1] at hk
   simpa [rnV, rnL, pkO, Quj, Qwr, rnL_D _ _ (QX _), rnL_D _ _ (QD _ _), rnL_D _ _ (Zk _), List.idxOf_cons, Nat.add_assoc] using hk
 ·have h8' := h8 hc
  rw [hc] at hC'
  simp (maxSteps := 4000000) (disch := omega) only [rq, simprocAttr, Zc, List.append_assoc, List.cons_append, List.nil_append, Qks, QbH, Qlm, Qc0]
  refine Qa.vc hC' ?_
  simp (maxSteps := 4000000) (disch := omega) only [rq, simprocAttr, List.append_assoc, List.cons_append, List.nil_append, Qks, QbH, Qlm, Qc0, ZR, ht, Q6]
  refine ⟨[], ob, _, rfl, Nat.le_refl _, hl, by decide, by simp, ?_⟩
  simpa [rnV, rnL, pkO, Qr1] using h8'
def Qfj (e : Enc) (r s f o : AV) : List AV := [.int .i64 e.ch, .int .i64 e.bits, .int .i64 e.rate, .str e.pw, r, s, f, o, .bool e.done, .int .i64 e.err]
set_option maxHeartbeats 2000000 in
theorem QeE {P : Prg} {f fT fE t0 tf : Nat} (bd : Qd P f 46 [.tmp 2] (Zu fT fE t0 tf)) (hT : Qgc P fT) (hE : Qm9 P fE) {e : Enc} (hp : ¬ 64 < e.pw.length) (ha : Qb9 e.ch e.bits e.smp = 0) (hI : I32 e.smp) (hf : e.frs.length ≤ 1001) (hs : e.smp.length ≤ 4000) {te tj : Nat} {x1 x2 : Ob} {T : List Ob} (hT1 : T = [] ∨ ∃ x y, T = [x, y]) {vr vo : AV} (hl : Low (5 + T.length) (⟨te, 10, 1, Qfj e vr (.own 3 e.smp.length) (.own 4 e.frs.length) vo, 0⟩ :: x1 :: x2 :: ⟨tj, 1, e.smp.length, ks .i32 e.smp, 0⟩ :: ⟨tf, 1, e.frs.length, e.frs.map bs, 0⟩ :: T)) {K : AV → List Ob → Prop}
  (hK : K (.int .i64 0) (⟨te, 10, 1, Qfj e vr (.emp true) (.own 4 (e.frs.length + 1)) vo, 0⟩ :: x1 :: x2 :: ⟨tj, 1, e.smp.length, ks .i32 e.smp, e.smp.length⟩ :: ⟨tf, 1, e.frs.length + 1, (Xt e).frs.map bs, 0⟩ :: T)) :
  ACall P f [.ref 0 1 0] (⟨te, 10, 1, Qfj e vr (.own 3 e.smp.length) (.own 4 e.frs.length) vo, 0⟩ :: x1 :: x2 :: ⟨tj, 1, e.smp.length, ks .i32 e.smp, 0⟩ :: ⟨tf, 1, e.frs.length, e.frs.map bs, 0⟩ :: T) K := by
 have hT' := hT e.pw
 rw [QeT, if_neg hp] at hT'
 have hE' := hE e.ch e.bits (tpE e) e.smp (QbY _ _) (QrV _ _) hI
 rw [Qu4, if_neg (by omega)] at hE'
 rw [← tpE] at hT'
 have hel := (QkE (t := tpE e) hI ha).1
 have hTl : (tpE e).length = 16 := QbY _ _
 have oT := J8 .i32 (tpE e)
 have kT : (ks .i32 (tpE e)).length = 16 := by rw [Qe, hTl]
 have tT : (ks .i32 (tpE e)).take 16 = ks .i32 (tpE e) := List.take_of_length_le (by omega)
 have tj1 := Qy .i32 e.smp
 have tTP := Qy .i32 (tpE e)
 have hcat : e.frs.map bs ++ [bs (QdM e.ch.toNat e.bits (tpE e) e.smp)] = (Xt e).frs.map bs := by simp [Xt]
 have hml : (e.frs.map bs).length = e.frs.length := by simp
 rw [bs] at hE' hcat
 rw [shA, il] at hE'
 have hFD : isDL ((Xt e).frs.map bs) = true := Zk _
 generalize QdM e.ch.toNat e.bits (tpE e) e.smp = EB at *
 generalize (Xt e).frs.map bs = FSx at *
 generalize tpE e = TP at *
 have z : ([.int .i32 0, .int .i32 0, .int .i32 0, .int .i32 0, .int .i32 0, .int .i32 0, .int .i32 0, .int .i32 0, .int .i32 0, .int .i32 0, .int .i32 0, .int .i32 0, .int .i32 0, .int .i32 0, .int .i32 0, .int .i32 0] : List AV) = ks .i32 J0 := rfl
 have ol := J8 .i32 J0
 have kl0 : (ks .i32 J0).length = 16 := rfl
 have zd : (ks .i32 J0).drop 16 = [] := rfl
 have kc := Qe .i32 e.smp
 refine ACall.low (ACall.of_body bd (by simp) ?_)
 unfold Zu
 rw [z]
 simp only [Qfj] at hl hK ⊢
 have hl2 : ∀ y ∈ (⟨te, 10, 1, [.int .i64 e.ch, .int .i64 e.bits, .int .i64 e.rate, .str e.pw, vr, .emp true, .own 4 (e.frs.length + 1), vo, .bool e.done, .int .i64 e.err], 0⟩ :: x1 :: x2 :: ⟨tj, 1, e.smp.length, ks .i32 e.smp, e.smp.length⟩ :: ⟨tf, 1, e.frs.length + 1, FSx, 0⟩ :: T : List Ob), lowL (5 + T.length) y.cs = true := by
  have hx : ∀ y ∈ x1 :: x2 :: T, lowL (5 + T.length) y.cs = true := fun y hy => hl y (by simp only [List.mem_cons] at hy ⊢; rcases hy with h | h | h <;> simp [h])
  have hb0 := hl _ List.mem_cons_self
  have hFS : isDL FSx = true := hFD
  simp only [lowL, Jc, Bool.and_eq_true, decide_eq_true_eq] at hb0
  intro y hy
  simp only [List.mem_cons] at hy hx
  rcases hy with rfl | rfl | rfl | rfl | rfl | hy
  ·simp only [lowL, Jc, Bool.and_eq_true, decide_eq_true_eq, and_true, true_and]
   exact ⟨hb0.2.2.2.2.1, by omega, hb0.2.2.2.2.2.2.2.1⟩
  ·exact hx _ (.inl rfl)
  ·exact hx _ (.inr (.inl rfl))
  ·exact lowL_D _ (QD _ _)
  ·exact lowL_D _ hFS
  ·exact hx _ (.inr (.inr hy))
 rcases hT1 with rfl | ⟨x, y, rfl⟩
 all_goals
  simp (maxSteps := 4000000) (disch := omega) only [rq, simprocAttr]
  refine Qa.vc hT' ?_
  simp (maxSteps := 4000000) (disch := omega) only [rq, simprocAttr, ol, kl0, oT, kT, zd, List.append_nil, tT]
  refine QP.still 1 3 rfl (by simp [ph]) hE' (by simp [QW, QJ, frzL, QH, frzL_T _ tj1, frzL_T _ tTP]) ?_
  simp (maxSteps := 4000000) (disch := omega) only [rq, simprocAttr, kc, hml, hcat]
 ·exact ⟨[_, _, _, _, _], [_, _], rfl, by simp, hl2, by simp [Jc], hK⟩
 ·exact ⟨[_, _, _, _, _, _, _], [_, _], rfl, by simp, hl2, by simp [Jc], hK⟩
set_option maxRecDepth 20000 in
set_option maxHeartbeats 4000000 in
theorem Qh8 {P : Prg} {f fC fR fS fK fT fE t0 tf tj : Nat} (bd : Qd P f 44 [.tmp 2] (Q4 fC fR fS fK tj)) (hC : Qer P fC) (hR : QeK P fR) (hS : Qd0 P fS) (bK : Qd P fK 46 [.tmp 2] (Zu fT fE t0 tf)) (hT : Qgc P fT) (hE : Qm9 P fE)
  {e : Enc} (h : OkG e) {m : List UInt8} (hm : (m.length : Int) = e.ch * e.bits / 8) {te tb tl : Nat} {x1 x6 : Ob} (hx1 : isDL x1.cs = true) (hx6 : isDL x6.cs = true) {K : AV → List Ob → Prop}
  (h18 : Qak e.ch (e.frs.length + 1) (Qr e (Qc e.rate) + 1) = false → K (.int .i64 18) [⟨te, 10, 1, Qfj e (.own 2 m.length) (.own 3 e.smp.length) (.own 4 e.frs.length) (.list 0 []), 0⟩, x1, ⟨tb, 1, m.length, u8 m, 0⟩, ⟨tj, 1, e.smp.length, ks .i32 e.smp, 0⟩, ⟨tf, 1, e.frs.length, e.frs.map bs, 0⟩, ⟨tl, 1, 1, [.int .i64 (Qc e.rate)], 0⟩, x6])
  (hA : Qak e.ch (e.frs.length + 1) (Qr e (Qc e.rate) + 1) = true → ((Z4 e m).smp.length : Int) < Qc e.rate * e.ch → K (.int .i64 0) [⟨te, 10, 1, Qfj e (.emp true) (.own 3 (Z4 e m).smp.length) (.own 4 e.frs.length) (.list 0 []), 0⟩, x1, ⟨tb, 1, m.length, u8 m, m.length⟩, ⟨tj, 1, (Z4 e m).smp.length, ks .i32 (Z4 e m).smp, 0⟩, ⟨tf, 1, e.frs.length, e.frs.map bs, 0⟩, ⟨tl, 1, 1, [.int .i64 (Qc e.rate)], 0⟩, x6])
  (hB : Qak e.ch (e.frs.length + 1) (Qr e (Qc e.rate) + 1) = true → ¬ ((Z4 e m).smp.length : Int) < Qc e.rate * e.ch → K (.int .i64 0) [⟨te, 10, 1, Qfj e (.emp true) (.emp true) (.own 4 (e.frs.length + 1)) (.list 0 []), 0⟩, x1, ⟨tb, 1, m.length, u8 m, m.length⟩, ⟨tj, 1, (Z4 e m).smp.length, ks .i32 (Z4 e m).smp, (Z4 e m).smp.length⟩, ⟨tf, 1, e.frs.length + 1, (Xt (Z4 e m)).frs.map bs, 0⟩, ⟨tl, 1, 1, [.int .i64 (Qc e.rate)], 0⟩, x6]) :
  ACall P f [.ref 0 1 0, .ref 5 1 0] [⟨te, 10, 1, Qfj e (.own 2 m.length) (.own 3 e.smp.length) (.own 4 e.frs.length) (.list 0 []), 0⟩, x1, ⟨tb, 1, m.length, u8 m, 0⟩, ⟨tj, 1, e.smp.length, ks .i32 e.smp, 0⟩, ⟨tf, 1, e.frs.length, e.frs.map bs, 0⟩, ⟨tl, 1, 1, [.int .i64 (Qc e.rate)], 0⟩, x6] K := by
 obtain ⟨k, L, q, hk, k1, k6, hL, L1, L2, hlen, hq, hx, hrm, hcn, hbits⟩ := h.nat
 obtain ⟨⟨r1, r2, r3⟩, ⟨r4, r5⟩, r6⟩ := Qu.1 h.r
 have hI := QmH h.ck
 have h4 := (Qb3 h.ck).2.1
 have hfr := h.fr
 have hmm := Xg r2 r3 r1
 let e1 : Enc := { e with rest := m }
 have hC' := hC e1 (Qc e.rate) ⟨r2, r3, hfr, by show e.smp.length ≤ 400000; omega, hI⟩ (by omega) (by omega)
 have hcn1 : Qr e1 (Qc e.rate) = Qr e (Qc e.rate) := rfl
 rw [hcn1] at hC'
 have hc0 : 0 ≤ Qr e (Qc e.rate) ∧ Qr e (Qc e.rate) ≤ 4000 := by
  rw [hcn]
  have : e.frs.length * L + q ≤ 4000 := Nat.le_trans (Nat.le_mul_of_pos_right _ (by omega)) hrm
  omega
 have hR' := hR e1 (e.frs.length + 1) (Qr e (Qc e.rate) + 1) r2 r3 (by omega) (by omega)
 have hml : m.length ≤ 18 := by omega
 have hS' := hS e.bits m (by omega)
 have hsl := QlJ hx r2 r3 hm
 have t1 := Qz m
 have t2 := Qy .i32 e.smp
 have t3 := ZM e.frs
 have e1c : e1.ch = e.ch := rfl
 have hout : bs e.out = .list 0 [] := by rw [h.out]; rfl
 simp only [Xd, XC, il, bss, e1] at hC' hR'
 rw [hout] at hC' hR'
 rw [bs] at hC' hR' hS'
 have kc := Qe .i32 e.smp
 have hbl : (e.frs.map bs).length = e.frs.length := by simp
 cases hroom : Qak e.ch (e.frs.length + 1) (Qr e (Qc e.rate) + 1) with
 | false =>
  have hk18 := h18 hroom
  rw [hroom] at hR'
  generalize hcc : Qr e (Qc e.rate) = CC at *
  simp only [Qfj] at hk18 ⊢
  refine ACall.of_body bd (by simp) ?_
  simp (maxSteps := 4000000) (disch := omega) only [rq, simprocAttr, Q4]
  refine QP.ro (fun K hK => ACall.of_vc_flat 1 (by simp [QW, QJ, frzL, QH, isDL, isD, frzL_T _ t1, frzL_T _ t2, frzL_T _ t3]) hC' rfl hK) ?_
  simp (maxSteps := 4000000) (disch := omega) only [rq, simprocAttr]
  refine callE.ro (fun K hK => ACall.of_vc_flat 1 (by simp [QW, QJ, frzL, QH, isDL, isD, frzL_T _ t1, frzL_T _ t2, frzL_T _ t3]) hR' rfl hK) ?_
  simp (maxSteps := 4000000) (disch := omega) only [rq, simprocAttr]
  exact hk18
 | true =>
  have hkA := hA hroom
  have hkB := hB hroom
  obtain ⟨_, hask, hs4, hI4⟩ := Qe6 h hm hroom
  have cK := fun (x2 : Ob) (hx2 : isDL x2.cs = true) (T : List Ob) (hT1 : T = [] ∨ ∃ x y, T = [x, y]) (hlo : Low (5 + T.length) (⟨te, 10, 1, Qfj (Z4 e m) (.emp true) (.own 3 (Z4 e m).smp.length) (.own 4 (Z4 e m).frs.length) (.list 0 []), 0⟩ :: x1 :: x2 :: ⟨tj, 1, (Z4 e m).smp.length, ks .i32 (Z4 e m).smp, 0⟩ :: ⟨tf, 1, (Z4 e m).frs.length, (Z4 e m).frs.map bs, 0⟩ :: T)) (K : AV → List Ob → Prop) hK =>
   QeE (e := Z4 e m) bK hT hE (by show ¬ 64 < e.pw.length; omega) hask hI4 (by show e.frs.length ≤ 1001; omega) hs4 hT1 hlo (K := K) hK
  rw [hroom] at hR'
  generalize hcc : Qr e (Qc e.rate) = CC at *
  simp only [Qfj] at hkA hkB ⊢
  have hsm : (Z4 e m).smp = e.smp ++ Z3 e.bits m := rfl
  have hml2 : (Z4 e m).smp.length = e.smp.length + (Z3 e.bits m).length := by rw [hsm, List.length_append]
  have hkk : ks .i32 e.smp ++ ks .i32 (Z3 e.bits m) = ks .i32 (Z4 e m).smp := by rw [hsm, QfN]
  have kc2 := Qe .i32 (Z3 e.bits m)
  have hsA : JJ e.bits m = .tup [.list (Z3 e.bits m).length (ks .i32 (Z3 e.bits m)), .int .i64 0] := by
   have hd0 : 0 < (e.bits / 8).toNat := by rcases hbits with b | b | b <;> rw [b] <;> decide
   have hd1 : m.length % (e.bits / 8).toNat = 0 := by rcases hbits with b | b | b <;> rw [b] at hm ⊢ <;> simp at hm ⊢ <;> omega
   have hd2 : m.length / (e.bits / 8).toNat ≤ 4000 := Nat.le_trans (Nat.div_le_self _ _) (by omega)
   rw [JJ, if_neg hx, if_neg (by omega), if_neg (by omega), il]
  rw [hsA] at hS'
  have hmul : Qc e.rate * e.ch = ((L * k : Nat) : Int) := by rw [hL, hk]; simp
  have hLk : L * k ≤ 6573924 := by
   have : L * k ≤ 1095654 * 6 := Nat.mul_le_mul L2 k6
   omega
  rw [hmul] at hkA hkB
  generalize Z3 e.bits m = SL at *
  by_cases hlt : ((Z4 e m).smp.length : Int) < ((L * k : Nat) : Int)
  ·have hk' := hkA hlt
   refine ACall.of_body bd (by simp) ?_
   simp (maxSteps := 4000000) (disch := omega) only [rq, simprocAttr, Q4]
   refine QP.ro (fun K hK => ACall.of_vc_flat 1 (by simp [QW, QJ, frzL, QH, isDL, isD, frzL_T _ t1, frzL_T _ t2, frzL_T _ t3]) hC' rfl hK) ?_
   simp (maxSteps := 4000000) (disch := omega) only [rq, simprocAttr]
   refine callE.ro (fun K hK => ACall.of_vc_flat 1 (by simp [QW, QJ, frzL, QH, isDL, isD, frzL_T _ t1, frzL_T _ t2, frzL_T _ t3]) hR' rfl hK) ?_
   simp (maxSteps := 4000000) (disch := omega) only [rq, simprocAttr]
   refine Qa.still 1 [2] hS' (by simp [QW, QJ, frzL, QH, frzL_T _ t1]) ?_
   simp (maxSteps := 4000000) (disch := omega) only [rq, simprocAttr, Qj, kc, kc2, hkk, hmul]
   simpa only [hml2] using hk'
  ·have hk' := hkB hlt
   refine ACall.of_body bd (by simp) ?_
   simp (maxSteps := 4000000) (disch := omega) only [rq, simprocAttr, Q4]
   refine QP.ro (fun K hK => ACall.of_vc_flat 1 (by simp [QW, QJ, frzL, QH, isDL, isD, frzL_T _ t1, frzL_T _ t2, frzL_T _ t3]) hC' rfl hK) ?_
   simp (maxSteps := 4000000) (disch := omega) only [rq, simprocAttr]
   refine callE.ro (fun K hK => ACall.of_vc_flat 1 (by simp [QW, QJ, frzL, QH, isDL, isD, frzL_T _ t1, frzL_T _ t2, frzL_T _ t3]) hR' rfl hK) ?_
   simp (maxSteps := 4000000) (disch := omega) only [rq, simprocAttr]
   refine Qa.still 1 [2] hS' (by simp [QW, QJ, frzL, QH, frzL_T _ t1]) ?_
   simp (maxSteps := 4000000) (disch := omega) only [rq, simprocAttr, Qj, kc, kc2, hkk, hmul]
   rw [← hml2]
   refine cK ⟨tb, 1, m.length, u8 m, m.length⟩ (QX _) [⟨tl, 1, 1, [.int .i64 (Qc e.rate)], 0⟩, x6] (.inr ⟨_, _, rfl⟩) ?_ _ ?_
   ·refine Low.cons ?_ (Low.cons (lowL_D _ hx1) (Low.cons (lowL_D _ (QX _)) (Low.cons (lowL_D _ (QD _ _)) (Low.cons (lowL_D _ (Zk _)) (Low.cons (lowL_D _ (by simp [isDL, isD])) (Low.cons (lowL_D _ hx6) Low.nil))))))
    simp [Qfj, lowL, Jc]
   ·simp (maxSteps := 4000000) (disch := omega) only [rq, simprocAttr]
    exact hk'
theorem Qhs (e : Enc) (l : List UInt8) (j : Nat) (h : j < l.length) (h0 : (QN e (l.take j)).2 = 0) : QN e (l.take (j + 1)) = QbJ (QN e (l.take j)).1 l[j] := by
 rw [List.take_succ_eq_append_getElem h, QfW, if_neg (by rw [h0]; simp), QN]
 by_cases h1 : (QbJ (QN e (l.take j)).1 l[j]).2 ≠ 0
 ·rw [if_pos h1]
 ·rw [if_neg h1, QN]
  have : (QbJ (QN e (l.take j)).1 l[j]).2 = 0 := by simpa using h1
  rw [← this]
theorem Qo2 {e : Enc} {l : List UInt8} {j : Nat} (h : j < l.length) (h0 : (QN e (l.take j)).2 = 0) {r : Enc × Int} (hb : QbJ (QN e (l.take j)).1 l[j] = r) (hr : r.2 ≠ 0) : QN e l = r := by
 have hs := Qhs e l j h h0
 conv => lhs; rw [← List.take_append_drop (j + 1) l]
 rw [QfW, hs, hb, if_pos hr]
theorem QkO (e : Enc) (m : List UInt8) : (Xt (Z4 e m)).frs.length = e.frs.length + 1 := by simp [Xt, Z4]
def Qgi (P : Prg) (f : Nat) : Prop := ∀ (e : Enc) (l : List UInt8), okC e → (∀ b ∈ e.frs, b.length ≤ 1000000) → l.length ≤ 1000000 → VC P f [Xd e, bs l] (.tup [Xd (X3 e l).1, .int .i64 (X3 e l).2])
def fdL (e : Enc) : List AV := Qfj e (.own 2 e.rest.length) (.own 3 e.smp.length) (.own 4 e.frs.length) (.list 0 [])
def Qc3 : List AV := [.int .i64 0, .int .i64 0, .int .i64 0, .str [], .emp true, .emp true, .emp true, .emp true, .bool false, .int .i64 0]
def fdS (t0 t1 tb tj tf : Nat) (e : Enc) : List Ob := [⟨t0, 10, 1, fdL e, 0⟩, ⟨t0, 10, 1, Qc3, 0⟩, ⟨tb, 1, e.rest.length, u8 e.rest, 0⟩, ⟨tj, 1, e.smp.length, ks .i32 e.smp, 0⟩, ⟨tf, 1, e.frs.length, e.frs.map bs, 0⟩, ⟨t1, 1, 1, [.int .i64 (Qc e.rate)], 0⟩]
set_option maxRecDepth 20000 in
set_option maxHeartbeats 4000000 in
theorem Qkc {P : Prg} {f fB fM fW fF fC fL fT fK fJ fCt fR fS fc fTp fE t0 t1 tb tj tf tz : Nat} (bd : Qd P f 55 [.cell 4 t0, .tmp 5] (Qaf fB fM fW fF t0 t1 tb)) (bB : Qd P fB 33 [.cell 2 t0, .tmp 3, .tmp 4] (Zc fC fL fT t0)) (hC : Xq P fC) (hL : ZP P fL) (bT : Qd P fT 42 [.cell 2 t0] (Q7 fK fJ t0 tf)) (hK1 : JW tb P fK) (hJ : Qaj tj P fJ) (ht : ZQ P t0 = some (some 10)) (hM : JV P fM) (bW : Qd P fW 44 [.tmp 2] (Q4 fCt fR fS fc tj)) (hCt : Qer P fCt) (hR : QeK P fR) (hS : Qd0 P fS) (bc : Qd P fc 46 [.tmp 2] (Zu fTp fE tz tf)) (hT : Qgc P fTp) (hE : Qm9 P fE) (hF : Qji P fF) : Qgi P f := by
 intro e l ho hfr hl
 have isDenc : ∀ e : Enc, isD (Xd e) = true := Zq
 refine VC.of_walk 2 (by simp [isDL, Zq, QQ]) (by simp [isD, isDL, Zq]) (ACall.of_body bd (by simp) ?_)
 have q1 : isDL (XC e) = true := by simp [XC, isDL, isD, QQ, Zx, Qc5]
 have q2 : isDL Qc3 = true := by simp [isDL, isD, Qc3]
 have hlow : Low 2 [⟨t0, 10, 1, XC e, 0⟩, ⟨t0, 10, 1, Qc3, 0⟩] := Low.cons (lowL_D _ q1) (Low.cons (lowL_D _ q2) Low.nil)
 have t1' := Qz e.rest
 have t2' := Qy .i32 e.smp
 have t3' := ZM e.frs
 have t4' := Qz e.out
 have beg := fun {K : AV → List Ob → Prop} => QdA bB hC hL bT hK1 hJ ht ho hfr (ob := [⟨t0, 10, 1, XC e, 0⟩, ⟨t0, 10, 1, Qc3, 0⟩]) hlow (K := K)
 simp only [Xd, XC, il, bss, bs, Qc3, List.cons_append, List.nil_append, List.length_cons, List.length_nil, twA, twO] at beg ⊢
 simp (maxSteps := 4000000) (disch := omega) only [rq, simprocAttr, Qaf]
 refine beg (fun h8 => ?_) (fun h0 => ?_)
 ·have hfe : X3 e l = (QeM, 8) := by rw [X3, if_pos (by omega)]
  rw [hfe]
  simp (maxSteps := 4000000) (disch := omega) only [rq, simprocAttr, Qr1, ZR, ht, Q6]
  simp [QW, QJ, frzL, QH, QeM, isDL, isD, ks, u8]
 have hr := Qc8 h0
 obtain ⟨⟨r1, r2, r3⟩, ⟨r4, r5⟩, r6⟩ := Qu.1 hr
 by_cases hst : QcB e = 0
 case neg =>
  have hfe : X3 e l = (e, QcB e) := by
   rw [X3, if_neg (by omega)]
   unfold QcB at hst ⊢
   by_cases h1 : e.err ≠ 0
   ·rw [if_pos h1, if_pos h1]
   ·rw [if_neg h1, if_neg h1]
    rw [if_neg h1] at hst
    by_cases h2 : e.done = true
    ·rw [if_pos h2, if_pos h2]
    ·rw [if_neg h2] at hst; simp at hst
  rw [hfe]
  simp (maxSteps := 4000000) (disch := omega) only [rq, simprocAttr, ZR, ht, Q6]
  simp [QW, QJ, frzL, QH, frzL_T _ t1', frzL_T _ t2', frzL_T _ t3', frzL_T _ t4']
 rw [hst]
 have hG : OkG e := by
  unfold QcB at hst
  by_cases h1 : e.err ≠ 0
  ·rw [if_pos h1] at hst; omega
  ·rw [if_neg h1] at hst
   refine Qtu h0 (by simpa using h1) ?_
   cases hd : e.done
   ·rfl
   ·rw [hd] at hst; simp at hst
 have hM' := hM e.ch e.bits r2 r3 r1
 rw [shA] at hM'
 rw [QqU hG]
 have hout : e.out = [] := hG.out
 rw [hout]
 have hmul := Xg r2 r3 r1
 simp (maxSteps := 4000000) (disch := omega) only [rq, simprocAttr, QcP]
 refine Qa.vc hM' ?_
 simp (maxSteps := 4000000) (disch := omega) only [rq, simprocAttr]
 refine QU.by (ι := Nat) (fun j => ⟨[(29, .int .i64 j), (28, .int .i64 l.length), (27, .list l.length (u8 l)), (9, .fn (.func fW) [] [.ref 0 1 0, .ref 5 1 0]), (8, .int .i64 (e.ch * e.bits / 8)), (2, .ref 0 1 0), (4, .ref 1 1 0)], fdS t0 t1 tb tj tf (QN e (l.take j)).1⟩) (fun j => j ≤ l.length ∧ (QN e (l.take j)).2 = 0 ∧ OkG (QN e (l.take j)).1 ∧ Sib (QN e (l.take j)).1 e) (fun j => l.length - j) 0 ?_ ⟨by omega, rfl, hG, rfl, rfl, rfl, rfl⟩ ?_
 ·simp only [List.take_zero, QN, fdS, fdL, Qfj, Qc3]
  exact Le.slots (by simp [Am.look])
 intro j ⟨hj, hz, hGj, hsib⟩
 by_cases hlt : j < l.length
 ·have hu := Qv4 (l := l) (k := j) hlt
  have hsn := Qhs e l j hlt hz
  have hstop := fun r hb hr => Qo2 (e := e) (l := l) (j := j) hlt hz (r := r) hb hr
  generalize hEq : (QN e (l.take j)).1 = E at *
  generalize hcq : l[j] = c at *
  obtain ⟨s1, s2, s3, s4⟩ := hsib
  have hrest := hGj.rest
  have hbe : QbJ E c = if (E.rest.length : Int) + 1 < E.ch * E.bits / 8 then ({ E with rest := E.rest ++ [c] }, 0)
    else if Qak E.ch (E.frs.length + 1) (Qr E (Qc E.rate) + 1) = false then (Zr E 18, 18) else (Xx E (E.rest ++ [c]), 0) := rfl
  have hcat : u8 E.rest ++ [.int .u8 (c.toNat : Int)] = u8 (E.rest ++ [c]) := by simp [u8]
  have hml : (E.rest ++ [c]).length = E.rest.length + 1 := by simp
  have ku := QE E.rest
  have ku2 := QE (E.rest ++ [c])
  have hb18 : E.ch * E.bits / 8 ≤ 18 := by rw [s1, s2]; omega
  simp only [fdS, fdL, Qfj, Qc3]
  by_cases hsz : (E.rest.length : Int) + 1 < E.ch * E.bits / 8
  ·rw [if_pos hsz] at hbe
   have hsz' : (E.rest.length : Int) + 1 < e.ch * e.bits / 8 := by rw [← s1, ← s2]; exact hsz
   simp (maxSteps := 4000000) (disch := omega) only [rq, simprocAttr, hu, ku, hcat, ku2]
   rw [hbe] at hsn
   have hb := QmN c hGj
   rw [hbe] at hb
   refine ⟨j + 1, ⟨by omega, by rw [hsn], ?_, ?_⟩, by omega, ?_⟩
   ·rw [hsn]
    rcases hb with hb | hb
    ·exact hb.2
    ·have := congrArg Prod.snd hb; simp at this
   ·rw [hsn]; exact ⟨s1, s2, s3, s4⟩
   ·rw [hsn]
    simp only [fdS, fdL, Qfj, Qc3, hml]
    exact Le.pickTo [0, 1, 2, 3, 4, 5] (by decide) (by simp) (by simp [Am.look, rnV, rnL, pk, rnL_D _ _ (QX _), List.idxOf_cons]) (by simp [pkO, rnV, rnL, pk, rnL_D _ _ (QX _), rnL_D _ _ (QD _ _), rnL_D _ _ (Zk _), List.idxOf_cons])
  ·rw [if_neg hsz] at hbe
   have hsz' : ¬ (E.rest.length : Int) + 1 < e.ch * e.bits / 8 := by rw [← s1, ← s2]; exact hsz
   have hm : ((E.rest ++ [c]).length : Int) = E.ch * E.bits / 8 := by rw [hml]; omega
   simp (maxSteps := 4000000) (disch := omega) only [rq, simprocAttr, hu, ku, hcat, ku2]
   rw [← hml]
   refine Qh8 bW hCt hR hS bc hT hE hGj hm (x1 := ⟨t0, 10, 1, Qc3, 0⟩) (x6 := ⟨tb, 1, 1, [.int .u8 (c.toNat : Int)], 0⟩) q2 (by simp [isDL, isD]) (fun h18 => ?_) (fun hA hlt2 => ?_) (fun hB hnlt => ?_)
   ·rw [if_pos h18] at hbe
    rw [hstop _ hbe (by simp)]
    let E1 : Enc := { E with rest := E.rest ++ [c] }
    have hF' := hF E1 18
    have u1 := Qz (E.rest ++ [c])
    have u2 := Qy .i32 E.smp
    have u3 := ZM E.frs
    have hoE : bs E.out = .list 0 [] := by rw [hGj.out]; rfl
    simp only [Xd, XC, il, bss, E1] at hF'
    rw [hoE, bs] at hF'
    simp (maxSteps := 4000000) (disch := omega) only [rq, simprocAttr, Qfj]
    refine Qa.still 1 [2, 3, 4] hF' (by simp [QW, QJ, frzL, QH, isDL, isD, frzL_T _ u1, frzL_T _ u2, frzL_T _ u3]) ?_
    simp (maxSteps := 4000000) (disch := omega) only [rq, simprocAttr, Qj, Qr1, Qc3, ZR, ht, Q6]
    simp [QW, QJ, frzL, QH, Zr, isDL, isD, ks, u8]
   ·rw [if_neg (by rw [hA]; simp)] at hbe
    have hw : Xx E (E.rest ++ [c]) = Z4 E (E.rest ++ [c]) := by rw [Xx, if_pos hlt2]
    obtain ⟨hGw, _⟩ := Qe6 hGj hm hA
    rw [hw] at hbe hGw
    rw [hbe] at hsn
    simp (maxSteps := 4000000) (disch := omega) only [rq, simprocAttr, Qfj]
    refine ⟨j + 1, ⟨by omega, by rw [hsn], by rw [hsn]; exact hGw, by rw [hsn]; exact ⟨s1, s2, s3, s4⟩⟩, by omega, ?_⟩
    rw [hsn]
    simp only [fdS, fdL, Qfj, Qc3]
    refine Le.trans (Le.virtC 0 4 tb 1 (by decide) rfl rfl) (Le.pickTo [0, 1, 7, 3, 4, 5] (by decide) (by simp) (by simp [Am.look, rnV, rnL, pk, rnL_D _ _ (QX _), List.idxOf_cons]) ?_)
    simp [pkO, rnV, rnL, pk, rnL_D _ _ (QX _), rnL_D _ _ (QD _ _), rnL_D _ _ (Zk _), List.idxOf_cons, Z4, QcP, Qb1]
   ·rw [if_neg (by rw [hB]; simp)] at hbe
    have hw : Xx E (E.rest ++ [c]) = Xt (Z4 E (E.rest ++ [c])) := by rw [Xx, if_neg hnlt]
    obtain ⟨hGw, _⟩ := Qe6 hGj hm hB
    rw [hw] at hbe hGw
    rw [hbe] at hsn
    simp (maxSteps := 4000000) (disch := omega) only [rq, simprocAttr, Qfj]
    refine ⟨j + 1, ⟨by omega, by rw [hsn], by rw [hsn]; exact hGw, by rw [hsn]; exact ⟨s1, s2, s3, s4⟩⟩, by omega, ?_⟩
    rw [hsn]
    simp only [fdS, fdL, Qfj, Qc3, QkO]
    refine Le.trans (Le.virtC 0 4 tb 1 (by decide) rfl rfl) (Le.trans (Le.virtC 0 5 tj 1 (by decide) rfl rfl) (Le.pickTo [0, 1, 7, 8, 4, 5] (by decide) (by simp) (by simp [Am.look, rnV, rnL, pk, rnL_D _ _ (QX _), List.idxOf_cons]) ?_))
    simp [pkO, rnV, rnL, pk, rnL_D _ _ (QX _), rnL_D _ _ (QD _ _), rnL_D _ _ (Zk _), List.idxOf_cons]
    simp [Z4, Xt, QcP, Qb1]
 ·have ej : j = l.length := by omega
  subst ej
  rw [List.take_length] at hz hGj ⊢
  have hoE : bs (QN e l).1.out = .list 0 [] := by rw [hGj.out]; rfl
  have hoE2 : (QN e l).1.out.length = 0 ∧ u8 (QN e l).1.out = [] := by rw [hGj.out]; exact ⟨rfl, rfl⟩
  rw [hz]
  generalize (QN e l).1 = E at *
  have u1 := Qz E.rest
  have u2 := Qy .i32 E.smp
  have u3 := ZM E.frs
  simp only [fdS, fdL, Qfj, Qc3]
  simp (maxSteps := 4000000) (disch := omega) only [rq, simprocAttr, ZR, ht, Q6]
  simp [QW, QJ, frzL, QH, frzL_T _ u1, frzL_T _ u2, frzL_T _ u3, hoE2]
def Qgp (P : Prg) (f : Nat) : Prop := ∀ p : List UInt8, p.length ≤ 64 → VC P f [.str p] (.tup [.int .i64 (Qb2 p), .int .i64 0])
theorem QiD {P : Prg} {f : Nat} (bd : Qd P f 12 [.tmp 2, .tmp 3] Xp) : Qgp P f := by
 intro p hp
 refine VC.of_acall rfl rfl (ACall.of_body bd (by simp) ?_)
 by_cases hn : p = []
 ·subst hn
  have : Qb2 [] = 1 := rfl
  rw [this]
  simp (maxSteps := 4000000) (disch := omega) only [rq, simprocAttr, Xp]
 ·have hl : p.length ≠ 0 := by simpa using hn
  rw [Qb2, if_neg hn]
  simp (maxSteps := 4000000) (disch := omega) only [rq, simprocAttr, Xp]
def Qeq (t : Nat) (P : Prg) (g : Nat) : Prop := ∀ f c b r n : Int, hdN f c b r n = 0 → VO P g [hdA f c b r n] (.tup [.own 0 22, .int .i64 0]) ⟨t, 1, 22, u8 (hdB f.toNat c.toNat b.toNat r.toNat n.toNat), 1⟩
set_option maxHeartbeats 2000000 in
theorem Qiq {P : Prg} {g fC fB fS t0 t1 g0 : Nat} (bd : Qd P g 63 [.tmp 2, .tmp 3] (Zv fC fB fS t0 t1 g0)) (hC : Qd1 P fC) (hB : Qai P fB) (hS : Qhu P fS) (h0 : P.G.lookup g0 = some Qu2) : Qeq t1 P g := by
 intro f c b r n h
 refine VO.of_walk rfl (QX _) (by simp [okr, Am.flat]) (ACall.of_body bd (by simp) ?_)
 have hC' := hC f c b r n
 have g0' : QsX P.G g0 = .cell Qu2 := by simp [QsX, h0]
 rw [h] at hC'
 obtain ⟨f, c, b, r, n, rfl, rfl, rfl, rfl, rfl, a1, a2, a3, a4, a5⟩ := Qmf h
 simp only [Int.toNat_natCast]
 rw [hdA] at hC' ⊢
 have B1 := hB f 2 (by omega) (by omega) (by simp; omega)
 have B2 := hB c 2 (by omega) (by omega) (by simp; omega)
 have B3 := hB b 2 (by omega) (by omega) (by simp; omega)
 have B4 := hB r 4 (by omega) (by omega) (by simp; omega)
 have B5 := hB n 4 (by omega) (by omega) (by simp; omega)
 rw [bs, Qb] at B1 B2 B3 B4 B5
 have u2 : ∀ m, (u8 (leB m 2)).length = 2 := fun m => by rw [QE, Qb]
 have u4 : ∀ m, (u8 (leB m 4)).length = 4 := fun m => by rw [QE, Qb]
 have c0 : u8 (hdP f c b r n 0) ++ u8 (leB f 2) = u8 (hdP f c b r n 1) := by simp [hdP, u8]
 have c1 : u8 (hdP f c b r n 1) ++ u8 (leB c 2) = u8 (hdP f c b r n 2) := by simp [hdP, u8]
 have c2 : u8 (hdP f c b r n 2) ++ u8 (leB b 2) = u8 (hdP f c b r n 3) := by simp [hdP, u8]
 have c3 : u8 (hdP f c b r n 3) ++ u8 (leB r 4) = u8 (hdP f c b r n 4) := by simp [hdP, u8]
 have c4 : u8 (hdP f c b r n 4) ++ u8 (leB n 4) = u8 (hdP f c b r n 5) := by simp [hdP, u8]
 have l0 : (hdP f c b r n 0).length = 4 := rfl
 have l1 : (hdP f c b r n 1).length = 6 := by simp [hdP, Qb]
 have l2 : (hdP f c b r n 2).length = 8 := by simp [hdP, Qb]
 have l3 : (hdP f c b r n 3).length = 10 := by simp [hdP, Qb]
 have l4 : (hdP f c b r n 4).length = 14 := by simp [hdP, Qb]
 have l5 : (hdP f c b r n 5).length = 18 := by simp [hdP, Qb]
 have e0 : u8 (hdP f c b r n 0) = [.int .u8 84, .int .u8 84, .int .u8 65, .int .u8 49] := rfl
 have hcat : u8 (hdP f c b r n 5) ++ u8 (leB (QbV (hdP f c b r n 5)) 4) = u8 (hdB f c b r n) := by simp [u8, hdB, Zj]
 have hlen : (hdB f c b r n).length = 22 := by rw [hdB, Zj, List.length_append, Qb, l5]
 have hS' := hS (hdP f c b r n 5)
 rw [if_neg (by omega), ← QbV, bs, l5] at hS'
 have hsm : QbV (hdP f c b r n 5) < 4294967296 := by unfold QbV; omega
 have B6 := hB (QbV (hdP f c b r n 5)) 4 (by omega) (by omega) (by simpa using hsm)
 rw [bs, Qb] at B6
 have t5 := Qz (hdP f c b r n 5)
 have tb := Qz (hdB f c b r n)
 obtain ⟨H, hH⟩ : ∃ H, H = hdP f c b r n := ⟨_, rfl⟩
 rw [← hH] at c0 c1 c2 c3 c4 l0 l1 l2 l3 l4 l5 e0 hcat hS' hsm B6 t5
 generalize QbV (H 5) = sm at *
 generalize hdB f c b r n = D at *
 have g0'' : QsX P.G g0 = .cell [.int .i64 2, .int .i64 2, .int .i64 2, .int .i64 4, .int .i64 4] := g0'
 simp (maxSteps := 4000000) (disch := omega) only [rq, simprocAttr, Zv]
 refine Qa.vc hC' ?_
 simp (maxSteps := 4000000) (disch := omega) only [rq, simprocAttr]
 refine QU.by (ι := Nat) (fun j => ⟨[(32, .int .i64 j), (31, .agg [.int .i64 f, .int .i64 c, .int .i64 b, .int .i64 r, .int .i64 n]), (5, .own 1 (H j).length)], [⟨t0, 5, 1, [.int .i64 f, .int .i64 c, .int .i64 b, .int .i64 r, .int .i64 n], 0⟩, ⟨t1, 1, (H j).length, u8 (H j), 1⟩]⟩) (fun j => j ≤ 5) (fun j => 5 - j) 0 ?_ (by omega) ?_
 ·simp only [e0, l0]
  exact Le.slots (by simp [Am.look])
 intro j hj
 have hj5 : j = 0 ∨ j = 1 ∨ j = 2 ∨ j = 3 ∨ j = 4 ∨ j = 5 := by omega
 rcases hj5 with rfl | rfl | rfl | rfl | rfl | rfl
 ·simp (maxSteps := 4000000) (disch := omega) only [rq, simprocAttr, g0'', l0]
  refine Qa.vc B1 ?_
  simp (maxSteps := 4000000) (disch := omega) only [rq, simprocAttr, u2, c0]
  exact ⟨1, by omega, by omega, by rw [l1]; exact Le.slots (by simp [Am.look])⟩
 ·simp (maxSteps := 4000000) (disch := omega) only [rq, simprocAttr, g0'', l1]
  refine Qa.vc B2 ?_
  simp (maxSteps := 4000000) (disch := omega) only [rq, simprocAttr, u2, c1]
  exact ⟨2, by omega, by omega, by rw [l2]; exact Le.slots (by simp [Am.look])⟩
 ·simp (maxSteps := 4000000) (disch := omega) only [rq, simprocAttr, g0'', l2]
  refine Qa.vc B3 ?_
  simp (maxSteps := 4000000) (disch := omega) only [rq, simprocAttr, u2, c2]
  exact ⟨3, by omega, by omega, by rw [l3]; exact Le.slots (by simp [Am.look])⟩
 ·simp (maxSteps := 4000000) (disch := omega) only [rq, simprocAttr, g0'', l3]
  refine Qa.vc B4 ?_
  simp (maxSteps := 4000000) (disch := omega) only [rq, simprocAttr, u4, c3]
  exact ⟨4, by omega, by omega, by rw [l4]; exact Le.slots (by simp [Am.look])⟩
 ·simp (maxSteps := 4000000) (disch := omega) only [rq, simprocAttr, g0'', l4]
  refine Qa.vc B5 ?_
  simp (maxSteps := 4000000) (disch := omega) only [rq, simprocAttr, u4, c4]
  exact ⟨5, by omega, by omega, by rw [l5]; exact Le.slots (by simp [Am.look])⟩
 ·simp (maxSteps := 4000000) (disch := omega) only [rq, simprocAttr, l5]
  refine Qa.flat 1 hS' rfl (by simp [QW, QJ, frzL, QH, frzL_T _ t5]) ?_
  simp (maxSteps := 4000000) (disch := omega) only [rq, simprocAttr]
  refine Qa.vc B6 ?_
  simp (maxSteps := 4000000) (disch := omega) only [rq, simprocAttr, u4, hcat]
  exact ⟨1, rfl, rfl⟩
def pfB (e : Enc) (mo : Int) : List UInt8 := hdB (Qb2 e.pw).toNat e.ch.toNat e.bits.toNat e.rate.toNat mo.toNat ++ (Qnj e.pw ++ (Zj (Js (Zp e.frs)) ++ e.frs.flatten))
def Qm6 (P : Prg) (f : Nat) : Prop := ∀ (e : Enc) (mo : Int), okC e → e.pw.length ≤ 64 → hdN (Qb2 e.pw) e.ch e.bits e.rate mo = 0 → skN (Zp e.frs) = 0 → VC P f [Xd e, .int .i64 mo] (.tup [bs (pfB e mo), .int .i64 0])
set_option maxRecDepth 20000 in
set_option maxHeartbeats 4000000 in
theorem Qka {P : Prg} {f fF fW fD fS fC t0 tb ti : Nat} (bd : Qd P f 85 [.tmp 4, .tmp 5] (Qad fF fW fD fS fC t0 tb ti)) (hF : Qgp P fF) (hW : Qeq tb P fW) (hD : QcA P fD) (hS : QdY P fS) (hC : Qfk P fC) : Qm6 P f := by
 intro e mo ho hp hh hs
 obtain ⟨o0, o1, o2, o3, o4, o5⟩ := ho
 refine VC.of_walk 1 (by simp [isDL, Zq, isD]) (by simp [isD, isDL, QQ]) (ACall.of_cut 1 bd (by simp) ?_)
 have hF' := hF e.pw hp
 have hW' := hW (Qb2 e.pw) e.ch e.bits e.rate mo hh
 have hD' := hD e.pw
 rw [QuP, if_neg (by omega)] at hD'
 rcases Qfy (Zp e.frs) with h8 | ⟨_, n1, n2, hr⟩
 ·omega
 have t1' := Qz e.rest
 have t2' := Qy .i32 e.smp
 have t3' := ZM e.frs
 have t4' := Qz e.out
 have hlen := Qcs e.frs
 have hmb : (e.frs.map bs).length = e.frs.length := by simp
 simp only [Xd, XC, il, bss, bs, hdA] at hW' ⊢
 simp (maxSteps := 4000000) (disch := omega) only [rq, simprocAttr, Qad, QaE]
 refine ⟨⟨[(2, .cell [.int .i64 e.ch, .int .i64 e.bits, .int .i64 e.rate, .str e.pw, .list e.rest.length (u8 e.rest), .list e.smp.length (ks .i32 e.smp), .list e.frs.length (e.frs.map bs), .list e.out.length (u8 e.out), .bool e.done, .int .i64 e.err]), (1, .int .i64 mo)], []⟩, Le.dropT [] (by simp) (by simp [Am.look, QJ, frzL, QH, frzL_T _ t1', frzL_T _ t2', frzL_T _ t3', frzL_T _ t4']), ?_⟩
 simp (maxSteps := 4000000) (disch := omega) only [rq, simprocAttr, QaE]
 refine Qa.vc hF' ?_
 simp (maxSteps := 4000000) (disch := omega) only [rq, simprocAttr, QaE]
 refine Qa.vo hW' ?_
 simp (maxSteps := 4000000) (disch := omega) only [rq, simprocAttr, QaE, shr]
 have hS' := hS (Zp e.frs) (by omega) (fun v hv => by
  obtain ⟨i, hi, rfl⟩ := List.mem_iff_getElem.1 hv
  have := hr i hi
  rw [List.getD_eq_getElem?_getD, List.getElem?_eq_getElem hi] at this
  simp only [Option.getD_some] at this
  omega)
 rw [skA, if_pos hs, Qpd, hlen, bs] at hS'
 have hsum : e.frs.flatten.length ≤ 100000 := by
  have hok2 : QlL 100000 (Zp e.frs) := by
   have hs' := hs
   unfold skN at hs'
   split at hs'
   ·cases hs'
   split at hs'
   ·assumption
   ·cases hs'
  have hff := Qds e.frs
  rcases Qh1 hok2 with q | q
  ·rw [hff] at q; omega
  ·rw [q] at n1; simp at n1
 have tle := Qy .i64 (Zp e.frs)
 have hTl := Qj0 (Zp e.frs)
 rw [hlen] at hTl
 have hpos : 0 < e.frs.flatten.length := by
  have hff := Qds e.frs
  have h0 := hr 0 (by omega)
  have h1 : ∀ (L : List (List UInt8)), 0 < L.length → 5 ≤ (Zp L).getD 0 0 → 0 < L.flatten.length := fun L hL h5 => by
   cases L with
   | nil => simp at hL
   | cons a L => simp [Zp] at h5 ⊢; omega
  exact h1 _ (by omega) h0.1
 have hC' := hC e.frs (by omega) hpos (by omega)
 rw [Qke, bs] at hC'
 by_cases hn : e.pw = []
 ·have hsb : Qnj e.pw = [] := by rw [Qnj, if_pos hn]
  have hpf : pfB e mo = hdB (Qb2 e.pw).toNat e.ch.toNat e.bits.toNat e.rate.toNat mo.toNat ++ (Zj (Js (Zp e.frs)) ++ e.frs.flatten) := by rw [pfB, hsb, List.nil_append]
  have hpe : (!(e.pw == [])) = false := by simp [hn]
  have hOl := Qir (Qb2 e.pw).toNat e.ch.toNat e.bits.toNat e.rate.toNat mo.toNat
  rw [hpf]
  generalize hdB (Qb2 e.pw).toNat e.ch.toNat e.bits.toNat e.rate.toNat mo.toNat = O at *
  simp (maxSteps := 4000000) (disch := omega) only [rq, simprocAttr, QaE, Qob, hpe]
  refine QU.by (ι := Nat) (fun k => ⟨[(60, .int .i64 k), (59, .int .i64 e.frs.length), (58, .list e.frs.length (e.frs.map bs)), (11, .own 1 k), (8, .own 0 22), (2, .cell [.int .i64 e.ch, .int .i64 e.bits, .int .i64 e.rate, .str e.pw, .list e.rest.length (u8 e.rest), .list e.smp.length (ks .i32 e.smp), .list e.frs.length (e.frs.map bs), .list e.out.length (u8 e.out), .bool e.done, .int .i64 e.err])], [⟨tb, 1, 22, u8 O, 1⟩, ⟨ti, 1, k, ks .i64 ((Zp e.frs).take k), 0⟩]⟩) (fun k => k ≤ e.frs.length) (fun k => e.frs.length - k) 0 (Le.trans (Le.virt 11 ti 1 (by decide) rfl) (Le.slots (by simp [Am.look]))) (by omega) ?_
  intro k hk
  have hkl : ((Zp e.frs).take k).length = k := by rw [List.length_take]; omega
  have kkl : (ks .i64 ((Zp e.frs).take k)).length = k := by rw [Qe, hkl]
  have hcc : u8 O ++ u8 (Zj (Js (Zp e.frs))) ++ u8 e.frs.flatten = u8 (O ++ (Zj (Js (Zp e.frs)) ++ e.frs.flatten)) := by simp [u8]
  have tX := Qz (O ++ (Zj (Js (Zp e.frs)) ++ e.frs.flatten))
  have kT : (u8 (Zj (Js (Zp e.frs)))).length = (Zj (Js (Zp e.frs))).length := QE _
  have kF : (u8 e.frs.flatten).length = e.frs.flatten.length := QE _
  by_cases hlt : k < e.frs.length
  ·have e1 := QeJ (L := e.frs) (k := k) hlt
   have hst : ks .i64 ((Zp e.frs).take k) ++ [.int .i64 ((e.frs.getD k []).length : Int)] = ks .i64 ((Zp e.frs).take (k + 1)) := by
    have hq : (Zp e.frs)[k]? = some ((e.frs.getD k []).length : Int) := by simp [Zp, List.getD_eq_getElem?_getD, List.getElem?_eq_getElem hlt]
    have htk : (Zp e.frs).take (k + 1) = (Zp e.frs).take k ++ [((e.frs.getD k []).length : Int)] := by rw [List.take_add_one, hq]; rfl
    rw [htk]; simp [ks]
   rw [bs] at e1
   generalize e.frs.getD k [] = F at *
   simp (maxSteps := 4000000) (disch := omega) only [rq, simprocAttr, QaE, e1, hmb, kkl, hst]
   refine ⟨k + 1, by omega, by omega, ?_⟩
   exact Le.pickTo [0, 1] (by decide) (by simp) (by simp [Am.look, rnV, rnL, pk, rnL_D _ _ (QX _), rnL_D _ _ (Zk _), rnL_D _ _ (QD _ _), List.idxOf_cons]) (by simp [pkO, rnV, rnL, pk, rnL_D _ _ (QX _), rnL_D _ _ (QD _ _), rnL_D _ _ (Zk _), List.idxOf_cons])
  ·have ek : k = e.frs.length := by omega
   subst ek
   rw [show (Zp e.frs).take e.frs.length = Zp e.frs from List.take_of_length_le (by omega)] at kkl ⊢
   simp (maxSteps := 4000000) (disch := omega) only [rq, simprocAttr, QaE]
   refine Qa.still 1 [1] hS' (by simp [QW, QJ, frzL, QH, frzL_T _ tle]) ?_
   simp (maxSteps := 4000000) (disch := omega) only [rq, simprocAttr, QaE, Qj]
   refine QP.vc hC' ?_
   simp (maxSteps := 4000000) (disch := omega) only [rq, simprocAttr, QaE, hcc, kT, kF]
   simp [QW, QJ, frzL, QH, frzL_T _ tX]
   try omega
 ·have hsb : Qnj e.pw = leB (Z7 0 e.pw) 8 := by rw [Qnj, if_neg hn]
  have hpf : pfB e mo = (hdB (Qb2 e.pw).toNat e.ch.toNat e.bits.toNat e.rate.toNat mo.toNat ++ leB (Z7 0 e.pw) 8) ++ (Zj (Js (Zp e.frs)) ++ e.frs.flatten) := by rw [pfB, hsb, List.append_assoc]
  have hpe : (!(e.pw == [])) = true := by simp [hn]
  have hOc : u8 (hdB (Qb2 e.pw).toNat e.ch.toNat e.bits.toNat e.rate.toNat mo.toNat) ++ u8 (leB (Z7 0 e.pw) 8) = u8 (hdB (Qb2 e.pw).toNat e.ch.toNat e.bits.toNat e.rate.toNat mo.toNat ++ leB (Z7 0 e.pw) 8) := by simp [u8]
  have hOl : (hdB (Qb2 e.pw).toNat e.ch.toNat e.bits.toNat e.rate.toNat mo.toNat ++ leB (Z7 0 e.pw) 8).length = 30 := by rw [List.length_append, Qir, Qb]
  rw [hpf]
  rw [bs, Qb] at hD'
  have l8 : (u8 (leB (Z7 0 e.pw) 8)).length = 8 := by rw [QE, Qb]
  generalize hdB (Qb2 e.pw).toNat e.ch.toNat e.bits.toNat e.rate.toNat mo.toNat ++ leB (Z7 0 e.pw) 8 = O at *
  simp (maxSteps := 4000000) (disch := omega) only [rq, simprocAttr, QaE, Qob, hpe]
  refine Qa.vc hD' ?_
  simp (maxSteps := 4000000) (disch := omega) only [rq, simprocAttr, QaE, hOc, l8, Qir]
  refine QU.by (ι := Nat) (fun k => ⟨[(60, .int .i64 k), (59, .int .i64 e.frs.length), (58, .list e.frs.length (e.frs.map bs)), (11, .own 1 k), (8, .own 0 30), (2, .cell [.int .i64 e.ch, .int .i64 e.bits, .int .i64 e.rate, .str e.pw, .list e.rest.length (u8 e.rest), .list e.smp.length (ks .i32 e.smp), .list e.frs.length (e.frs.map bs), .list e.out.length (u8 e.out), .bool e.done, .int .i64 e.err])], [⟨tb, 1, 30, u8 O, 1⟩, ⟨ti, 1, k, ks .i64 ((Zp e.frs).take k), 0⟩]⟩) (fun k => k ≤ e.frs.length) (fun k => e.frs.length - k) 0 (Le.trans (Le.virt 11 ti 1 (by decide) rfl) (Le.slots (by simp [Am.look]))) (by omega) ?_
  intro k hk
  have hkl : ((Zp e.frs).take k).length = k := by rw [List.length_take]; omega
  have kkl : (ks .i64 ((Zp e.frs).take k)).length = k := by rw [Qe, hkl]
  have hcc : u8 O ++ u8 (Zj (Js (Zp e.frs))) ++ u8 e.frs.flatten = u8 (O ++ (Zj (Js (Zp e.frs)) ++ e.frs.flatten)) := by simp [u8]
  have tX := Qz (O ++ (Zj (Js (Zp e.frs)) ++ e.frs.flatten))
  have kT : (u8 (Zj (Js (Zp e.frs)))).length = (Zj (Js (Zp e.frs))).length := QE _
  have kF : (u8 e.frs.flatten).length = e.frs.flatten.length := QE _
  by_cases hlt : k < e.frs.length
  ·have e1 := QeJ (L := e.frs) (k := k) hlt
   have hst : ks .i64 ((Zp e.frs).take k) ++ [.int .i64 ((e.frs.getD k []).length : Int)] = ks .i64 ((Zp e.frs).take (k + 1)) := by
    have hq : (Zp e.frs)[k]? = some ((e.frs.getD k []).length : Int) := by simp [Zp, List.getD_eq_getElem?_getD, List.getElem?_eq_getElem hlt]
    have htk : (Zp e.frs).take (k + 1) = (Zp e.frs).take k ++ [((e.frs.getD k []).length : Int)] := by rw [List.take_add_one, hq]; rfl
    rw [htk]; simp [ks]
   rw [bs] at e1
   generalize e.frs.getD k [] = F at *
   simp (maxSteps := 4000000) (disch := omega) only [rq, simprocAttr, QaE, e1, hmb, kkl, hst]
   refine ⟨k + 1, by omega, by omega, ?_⟩
   exact Le.pickTo [0, 1] (by decide) (by simp) (by simp [Am.look, rnV, rnL, pk, rnL_D _ _ (QX _), rnL_D _ _ (Zk _), rnL_D _ _ (QD _ _), List.idxOf_cons]) (by simp [pkO, rnV, rnL, pk, rnL_D _ _ (QX _), rnL_D _ _ (QD _ _), rnL_D _ _ (Zk _), List.idxOf_cons])
  ·have ek : k = e.frs.length := by omega
   subst ek
   rw [show (Zp e.frs).take e.frs.length = Zp e.frs from List.take_of_length_le (by omega)] at kkl ⊢
   simp (maxSteps := 4000000) (disch := omega) only [rq, simprocAttr, QaE]
   refine Qa.still 1 [1] hS' (by simp [QW, QJ, frzL, QH, frzL_T _ tle]) ?_
   simp (maxSteps := 4000000) (disch := omega) only [rq, simprocAttr, QaE, Qj]
   refine QP.vc hC' ?_
   simp (maxSteps := 4000000) (disch := omega) only [rq, simprocAttr, QaE, hcc, kT, kF]
   simp [QW, QJ, frzL, QH, frzL_T _ tX]
   try omega
def XT (e : Enc) (b : List UInt8) : Enc := ⟨e.ch, e.bits, e.rate, e.pw, [], [], [], b, true, 0⟩
def QcC (e : Enc) : Enc := if e.smp = [] then e else Xt e
def Qkz (e : Enc) : Enc × Int := if QM e ≠ 0 then (QeM, 8) else if QcB e ≠ 0 then (e, QcB e) else
 if e.rest ≠ [] ∨ Qr e (Qc e.rate) = 0 then (Zr e 24, 24) else (XT e (pfB (QcC e) (Qr e (Qc e.rate))), 0)
theorem OkG.ask {e : Enc} (h : OkG e) (hs : e.smp ≠ []) : Qb9 e.ch e.bits e.smp = 0 := by
 obtain ⟨⟨r1, r2, r3⟩, _, _⟩ := Qu.1 h.r
 have he0 : QF e.ch e.bits = 0 := by
  rcases Q1 e.ch e.bits with q' | q'
  ·unfold QF at q'; split at q' <;> omega
  ·exact q'.1
 have hl : e.smp.length ≠ 0 := by simpa using hs
 exact QrB he0 h.ck (by have := h.dv; omega)
theorem OkG.hd {e : Enc} (h : OkG e) (hc : Qr e (Qc e.rate) ≠ 0) : hdN (Qb2 e.pw) e.ch e.bits e.rate (Qr e (Qc e.rate)) = 0 := by
 obtain ⟨k, L, q, hk, k1, k6, hL, L1, L2, hlen, hq, hx, hrm, hcn, hbits⟩ := h.nat
 obtain ⟨_, ⟨r4, r5⟩, _⟩ := Qu.1 h.r
 have hrm2 := ((Qck _ _ _).1 h.rm).1
 have hf : Qb2 e.pw = 1 ∨ Qb2 e.pw = 2 := by unfold Qb2; split <;> simp
 rw [hcn] at hc ⊢
 have hn1 : 1 ≤ e.frs.length * L + q := by omega
 have hle : e.frs.length * L + q ≤ 4000 / k := (Nat.le_div_iff_mul_le (by omega)).2 hrm
 have hle4 : e.frs.length * L + q ≤ 4000 := Nat.le_trans hle (Nat.div_le_self _ _)
 have hnum : (((e.frs.length * L + q : Nat) : Int) + (L : Int) - 1) / (L : Int) ≤ 1000 := by
  have e1 : ((e.frs.length * L + q : Nat) : Int) + (L : Int) - 1 = ((e.frs.length * L + (q + L - 1) : Nat) : Int) := by omega
  rw [e1, ← Int.natCast_ediv]
  have e2 : (e.frs.length * L + (q + L - 1)) / L = e.frs.length + (q + L - 1) / L := by rw [Nat.add_comm, Nat.add_mul_div_right _ _ (by omega), Nat.add_comm]
  rw [e2]
  have hs : 0 < q ↔ 0 < e.smp.length := by
   rw [hlen]
   constructor
   ·intro h'; exact Nat.mul_pos h' (by omega)
   ·intro h'; exact Nat.pos_of_mul_pos_right h'
  by_cases hq0 : q = 0
  ·have : (q + L - 1) / L = 0 := Nat.div_eq_of_lt (by omega)
   have := h.fr
   omega
  ·have h1 : (q + L - 1) / L = 1 := by
    have : q + L - 1 = (q - 1) + L := by omega
    rw [this, Nat.add_div_right _ (by omega), Nat.div_eq_of_lt (by omega)]
   have h2 := hs.1 (by omega)
   rw [if_pos h2] at hrm2
   omega
 rw [hdN, if_pos]
 refine ⟨⟨hbits, hf, by omega, by omega, r4, r5, by omega⟩, ?_, ?_⟩
 ·rw [hk]
  have : ((4000 : Int) / (k : Int)) = ((4000 / k : Nat) : Int) := by simp
  rw [this]; omega
 ·unfold QiG
  rw [if_neg (by omega), if_neg (by omega), hL, if_neg (by omega)]
def Qlj (P : Prg) (f : Nat) : Prop := ∀ e : Enc, okC e → (∀ b ∈ e.frs, b.length ≤ 1000000) → (OkG e → e.rest = [] → Qr e (Qc e.rate) ≠ 0 → skN (Zp (QcC e).frs) = 0) → VC P f [Xd e] (.tup [Xd (Qkz e).1, .int .i64 (Qkz e).2])
set_option maxRecDepth 20000 in
set_option maxHeartbeats 4000000 in
theorem QgF {P : Prg} {f fB fc fF fFi fC fL fT fK fJ fTp fE fCt t0 tb tj tf tz : Nat} (bd : Qd P f 67 [.cell 2 t0, .tmp 3] (X8 fB fCt fF fc fFi t0)) (bB : Qd P fB 33 [.cell 2 t0, .tmp 3, .tmp 4] (Zc fC fL fT t0)) (hC : Xq P fC) (hL : ZP P fL) (bT : Qd P fT 42 [.cell 2 t0] (Q7 fK fJ t0 tf)) (hK1 : JW tb P fK) (hJ : Qaj tj P fJ) (ht : ZQ P t0 = some (some 10)) (hCt : Qer P fCt) (hF : Qji P fF) (bc : Qd P fc 46 [.tmp 2] (Zu fTp fE tz tf)) (hT : Qgc P fTp) (hE : Qm9 P fE) (hFi : Qm6 P fFi) : Qlj P f := by
 intro e ho hfr hsk
 refine VC.of_walk 2 (by simp [isDL, Zq]) (by simp [isD, isDL, Zq]) (ACall.of_body bd (by simp) ?_)
 have q1 : isDL (XC e) = true := by simp [XC, isDL, isD, QQ, Zx, Qc5]
 have q2 : isDL Qc3 = true := by simp [isDL, isD, Qc3]
 have hlow : Low 2 [⟨t0, 10, 1, XC e, 0⟩, ⟨t0, 10, 1, Qc3, 0⟩] := Low.cons (lowL_D _ q1) (Low.cons (lowL_D _ q2) Low.nil)
 have t1' := Qz e.rest
 have t2' := Qy .i32 e.smp
 have t3' := ZM e.frs
 have t4' := Qz e.out
 have ho' := ho
 obtain ⟨o0, o1, o2, o3, o4, o5⟩ := ho'
 have beg := fun {K : AV → List Ob → Prop} => QdA bB hC hL bT hK1 hJ ht ho hfr (ob := [⟨t0, 10, 1, XC e, 0⟩, ⟨t0, 10, 1, Qc3, 0⟩]) hlow (K := K)
 have hCt0 := hCt e (Qc e.rate)
 have hF' := hF e 24
 simp only [Xd, XC, il, bss, bs, Qc3, List.cons_append, List.nil_append, List.length_cons, List.length_nil, twA, twO] at beg hCt0 hF' ⊢
 simp (maxSteps := 4000000) (disch := omega) only [rq, simprocAttr, X8]
 refine beg (fun h8 => ?_) (fun h0 => ?_)
 ·have hfe : Qkz e = (QeM, 8) := by rw [Qkz, if_pos (by omega)]
  rw [hfe]
  simp (maxSteps := 4000000) (disch := omega) only [rq, simprocAttr, Qr1, ZR, ht, Q6]
  simp [QW, QJ, frzL, QH, QeM, isDL, isD, ks, u8]
 have hr := Qc8 h0
 obtain ⟨⟨r1, r2, r3⟩, ⟨r4, r5⟩, r6⟩ := Qu.1 hr
 by_cases hst : QcB e = 0
 case neg =>
  have hfe : Qkz e = (e, QcB e) := by rw [Qkz, if_neg (by omega), if_pos hst]
  rw [hfe]
  simp (maxSteps := 4000000) (disch := omega) only [rq, simprocAttr, ZR, ht, Q6]
  simp [QW, QJ, frzL, QH, frzL_T _ t1', frzL_T _ t2', frzL_T _ t3', frzL_T _ t4']
 have hG : OkG e := by
  unfold QcB at hst
  by_cases h1 : e.err ≠ 0
  ·rw [if_pos h1] at hst; omega
  ·rw [if_neg h1] at hst
   refine Qtu h0 (by simpa using h1) ?_
   cases hd : e.done
   ·rfl
   ·rw [hd] at hst; simp at hst
 have hlz := Zo e.rate
 have hlz2 := Qcq r5
 have hCt' := hCt0 ⟨r2, r3, hG.fr, o2, o3⟩ (by omega) hlz2
 have hfe : Qkz e = if e.rest ≠ [] ∨ Qr e (Qc e.rate) = 0 then (Zr e 24, 24) else (XT e (pfB (QcC e) (Qr e (Qc e.rate))), 0) := by rw [Qkz, if_neg (by omega), if_neg (by omega)]
 rw [hst, hfe]
 have hrl : e.rest = [] ↔ e.rest.length = 0 := by simp
 have hsl : e.smp = [] ↔ e.smp.length = 0 := by simp
 have hdz : e.done = false := hG.done
 have hez : e.err = 0 := hG.err
 have hcpos : 0 ≤ Qr e (Qc e.rate) := by
  obtain ⟨k, L, q, _, _, _, _, _, _, _, _, _, _, hcn, _⟩ := hG.nat
  omega
 simp (maxSteps := 4000000) (disch := omega) only [rq, simprocAttr]
 refine Qa.flat 1 hCt' rfl (by simp [QW, QJ, frzL, QH, isDL, isD, frzL_T _ t1', frzL_T _ t2', frzL_T _ t3', frzL_T _ t4']) ?_
 by_cases h24 : e.rest ≠ [] ∨ Qr e (Qc e.rate) = 0
 ·rw [if_pos h24]
  by_cases hr0 : e.rest.length = 0
  ·have hc0 : Qr e (Qc e.rate) = 0 := h24.resolve_left fun h => h (hrl.2 hr0)
   simp (maxSteps := 4000000) (disch := omega) only [rq, simprocAttr, hc0]
   refine Qa.still 1 [2, 3, 4] hF' (by simp [QW, QJ, frzL, QH, isDL, isD, frzL_T _ t1', frzL_T _ t2', frzL_T _ t3', frzL_T _ t4']) ?_
   simp (maxSteps := 4000000) (disch := omega) only [rq, simprocAttr, Qj, Qr1, Qc3, ZR, ht, Q6]
   simp [QW, QJ, frzL, QH, Zr, isDL, isD, ks, u8]
  ·simp (maxSteps := 4000000) (disch := omega) only [rq, simprocAttr]
   refine Qa.still 1 [2, 3, 4] hF' (by simp [QW, QJ, frzL, QH, isDL, isD, frzL_T _ t1', frzL_T _ t2', frzL_T _ t3', frzL_T _ t4']) ?_
   simp (maxSteps := 4000000) (disch := omega) only [rq, simprocAttr, Qj, Qr1, Qc3, ZR, ht, Q6]
   simp [QW, QJ, frzL, QH, Zr, isDL, isD, ks, u8]
 ·rw [if_neg h24]
  have hr0 : e.rest.length = 0 := by
   by_cases h : e.rest = []
   ·exact hrl.1 h
   ·exact absurd (.inl h) h24
  have hc0 : Qr e (Qc e.rate) ≠ 0 := fun h => h24 (.inr h)
  have hhd := hG.hd hc0
  have hsk' := hsk hG (hrl.2 hr0) hc0
  generalize hcc : Qr e (Qc e.rate) = CC at *
  by_cases hs0 : e.smp.length = 0
  ·have hle : QcC e = e := by rw [QcC, if_pos (hsl.2 hs0)]
   rw [hle] at hsk' ⊢
   have hFi' := hFi e CC ho r6 hhd hsk'
   have tp := Qz (pfB e CC)
   generalize pfB e CC = PB at *
   simp only [Xd, XC, il, bss, bs] at hFi'
   simp (maxSteps := 4000000) (disch := omega) only [rq, simprocAttr]
   refine Qa.still 1 [2, 3, 4] hFi' (by simp [QW, QJ, frzL, QH, isDL, isD, frzL_T _ t1', frzL_T _ t2', frzL_T _ t3', frzL_T _ t4']) ?_
   simp (maxSteps := 4000000) (disch := omega) only [rq, simprocAttr, Qj, Qc3, ZR, ht, Q6]
   simp [QW, QJ, frzL, QH, XT, isDL, isD, Qb1, QcP, frzL_T _ tp]
  ·have hle : QcC e = Xt e := by rw [QcC, if_neg fun h => hs0 (hsl.1 h)]
   have hask := hG.ask fun h => hs0 (hsl.1 h)
   rw [hle] at hsk' ⊢
   have hfl := hG.fr
   have hoc : okC (Xt e) := ⟨o0, by simp [Xt]; omega, by simp [Xt], by intro v hv; simp [Xt] at hv, o4, o5⟩
   have hFi0 := hFi (Xt e) CC hoc r6 hhd hsk'
   have tp := Qz (pfB (Xt e) CC)
   have tcf := ZM (Xt e).frs
   have hcl : (Xt e).frs.length = e.frs.length + 1 := by simp [Xt]
   generalize pfB (Xt e) CC = PB at *
   have cK := fun {K : AV → List Ob → Prop} => QeE (K := K) (e := e) bc hT hE (by omega) hask o3 (by omega) ((Qb3 hG.ck).2.1) (te := t0) (tj := tj) (x1 := ⟨t0, 10, 1, Qc3, 0⟩) (x2 := ⟨tb, 1, e.rest.length, u8 e.rest, 0⟩) (T := []) (.inl rfl) (vr := .own 2 e.rest.length) (vo := .list e.out.length (u8 e.out))
    (Low.cons (by simp [Qfj, lowL, Jc, lowL_D _ (QX _)]) (Low.cons (lowL_D _ q2) (Low.cons (lowL_D _ (QX _)) (Low.cons (lowL_D _ (QD _ _)) (Low.cons (lowL_D _ (Zk _)) Low.nil)))))
   have hFi' : VC P fFi [.agg [.int .i64 e.ch, .int .i64 e.bits, .int .i64 e.rate, .str e.pw, .list e.rest.length (u8 e.rest), .list 0 [], .list (Xt e).frs.length ((Xt e).frs.map bs), .list e.out.length (u8 e.out), .bool e.done, .int .i64 e.err], .int .i64 CC] (.tup [.list PB.length (u8 PB), .int .i64 0]) := hFi0
   rw [hcl] at hFi'
   generalize (Xt e).frs.map bs = FSx at *
   simp (maxSteps := 4000000) (disch := omega) only [rq, simprocAttr]
   refine cK ?_
   simp only [Qfj, Qc3]
   simp (maxSteps := 4000000) (disch := omega) only [rq, simprocAttr]
   refine Qa.still 1 [2, 3, 4] hFi' (by simp [QW, QJ, frzL, QH, isDL, isD, frzL_T _ t1', frzL_T _ t2', frzL_T _ tcf, frzL_T _ t4', Qb1]) ?_
   simp (maxSteps := 4000000) (disch := omega) only [rq, simprocAttr, Qj, Qc3, ZR, ht, Q6]
   simp [QW, QJ, frzL, QH, XT, isDL, isD, Qb1, QcP, frzL_T _ tp]
def Qq6 (e : Enc) (m : Int) : Enc × List UInt8 × Int := if QM e ≠ 0 then (QeM, [], 8) else if m < 0 then (QeM, [], 2) else ({ e with out := e.out.drop m.toNat }, e.out.take m.toNat, 0)
def QrH (P : Prg) (f : Nat) : Prop := ∀ (e : Enc) (m : Int), okC e → (∀ b ∈ e.frs, b.length ≤ 1000000) → VC P f [Xd e, .int .i64 m] (.tup [Xd (Qq6 e m).1, bs (Qq6 e m).2.1, .int .i64 (Qq6 e m).2.2])
set_option maxRecDepth 20000 in
set_option maxHeartbeats 4000000 in
theorem Qib {P : Prg} {f fC fT fK fJ t0 tb tj tf : Nat} (bd : Qd P f 38 [.cell 4 t0, .tmp 5, .tmp 6] (ZF fC fT fK t0)) (hC : Xq P fC) (bT : Qd P fT 42 [.cell 2 t0] (Q7 fK fJ t0 tf)) (hK1 : JW tb P fK) (hJ : Qaj tj P fJ) (ht : ZQ P t0 = some (some 10)) : QrH P f := by
 intro e m ho hfr
 refine VC.of_walk 2 (by simp [isDL, Zq, isD]) (by simp [isD, isDL, Zq, QQ]) (ACall.of_body bd (by simp) ?_)
 have q1 : isDL (XC e) = true := by simp [XC, isDL, isD, QQ, Zx, Qc5]
 have q2 : isDL Qc3 = true := by simp [isDL, isD, Qc3]
 have hlow : Low 2 [⟨t0, 10, 1, XC e, 0⟩, ⟨t0, 10, 1, Qc3, 0⟩] := Low.cons (lowL_D _ q1) (Low.cons (lowL_D _ q2) Low.nil)
 have t1' := Qz e.rest
 have t2' := Qy .i32 e.smp
 have t3' := ZM e.frs
 have hC' := hC e ho
 have hc : QM e = 0 ∨ QM e = 8 := by unfold QM; split <;> simp
 have ho' := ho
 obtain ⟨o0, o1, o2, o3, o4, o5⟩ := ho'
 have tw := fun {K : AV → List Ob → Prop} => QeD bT hK1 hJ ht ho hfr (ob := [⟨t0, 10, 1, XC e, 0⟩, ⟨t0, 10, 1, Qc3, 0⟩]) hlow (K := K)
 simp only [Xd, XC, il, bss, bs, Qc3, List.cons_append, List.nil_append, List.length_cons, List.length_nil, twA, twO] at tw hC' ⊢
 rcases hc with hc | hc
 case inr =>
  have hd : Qq6 e m = (QeM, [], 8) := by rw [Qq6, if_pos (by omega)]
  rw [hd]
  rw [hc] at hC'
  simp (maxSteps := 4000000) (disch := omega) only [rq, simprocAttr, ZF]
  refine Qa.vc hC' ?_
  simp (maxSteps := 4000000) (disch := omega) only [rq, simprocAttr, ZR, ht, Q6]
  simp [QW, QJ, frzL, QH, QeM, isDL, isD, Qb1, QcP]
 rw [hc] at hC'
 by_cases hm : m < 0
 ·have hd : Qq6 e m = (QeM, [], 2) := by rw [Qq6, if_neg (by omega), if_pos hm]
  rw [hd]
  simp (maxSteps := 4000000) (disch := omega) only [rq, simprocAttr, ZF]
  refine Qa.vc hC' ?_
  simp (maxSteps := 4000000) (disch := omega) only [rq, simprocAttr, ZR, ht, Q6]
  simp [QW, QJ, frzL, QH, QeM, isDL, isD, Qb1, QcP]
 obtain ⟨n, rfl⟩ : ∃ n : Nat, m = n := ⟨m.toNat, by omega⟩
 have hd : Qq6 e n = ({ e with out := e.out.drop n }, e.out.take n, 0) := by rw [Qq6, if_neg (by omega), if_neg hm, Int.toNat_natCast]
 rw [hd]
 have hmi : (if (e.out.length : Int) < (n : Int) then (e.out.length : Int) else (n : Int)) = ((min n e.out.length : Nat) : Int) := by split <;> omega
 have hmi2 : (if (n : Int) < (e.out.length : Int) then (n : Int) else (e.out.length : Int)) = ((min n e.out.length : Nat) : Int) := by split <;> omega
 have hkl : min n e.out.length ≤ e.out.length := Nat.min_le_right _ _
 have htk : e.out.take n = e.out.take (min n e.out.length) := by
  rcases Nat.le_total n e.out.length with h | h
  ·rw [Nat.min_eq_left h]
  ·rw [Nat.min_eq_right h, List.take_length, List.take_of_length_le h]
 have hdr : e.out.drop n = e.out.drop (min n e.out.length) := by
  rcases Nat.le_total n e.out.length with h | h
  ·rw [Nat.min_eq_left h]
  ·rw [Nat.min_eq_right h, List.drop_length, List.drop_of_length_le h]
 rw [htk, hdr]
 generalize hk : min n e.out.length = k at *
 have hlt : (e.out.take k).length = k := by rw [List.length_take]; omega
 have hld : (e.out.drop k).length = e.out.length - k := List.length_drop
 have hOv := VC.of_vo (hK1 (e.out.take k) (by omega)) (Qz _) (QX _)
 rw [bs, hlt] at hOv
 have tk := Qz (e.out.take k)
 have td := Qz (e.out.drop k)
 have hut : (u8 e.out).take k = u8 (e.out.take k) := QtX _ _
 have hud : (u8 e.out).drop k = u8 (e.out.drop k) := QhW _ _
 have hkm : min k e.out.length = k := Nat.min_eq_left hkl
 have htd : (u8 (e.out.drop k)).take (e.out.length - k) = u8 (e.out.drop k) := List.take_of_length_le (by rw [QE, hld]; omega)
 simp (maxSteps := 4000000) (disch := omega) only [rq, simprocAttr, ZF]
 refine Qa.vc hC' ?_
 simp (maxSteps := 4000000) (disch := omega) only [rq, simprocAttr]
 refine tw ?_
 simp (maxSteps := 4000000) (disch := omega) only [rq, simprocAttr, hmi, hmi2, hut, hud, hkm, hk, Nat.sub_zero]
 refine Qa.vc hOv ?_
 simp (maxSteps := 4000000) (disch := omega) only [rq, simprocAttr, hut, hud, hkm, hlt, hld, htd]
 simp (maxSteps := 4000000) (disch := omega) only [rq, simprocAttr, htd, ZR, ht, Q6, Qc3]
 simp [QW, QJ, frzL, QH, frzL_T _ t1', frzL_T _ t2', frzL_T _ t3', frzL_T _ tk, frzL_T _ td, hlt, hld, htd]
theorem Qsn {b : Int} {w m : List UInt8} (hd : 0 < (b / 8).toNat) (h : w.length % (b / 8).toNat = 0) : Z3 b (w ++ m) = Z3 b w ++ Z3 b m := by
 have hq := Nat.div_mul_cancel (Nat.dvd_of_mod_eq_zero h)
 unfold Z3
 generalize (b / 8).toNat = d at *
 generalize hqq : w.length / d = q at *
 have hl : (w ++ m).length / d = q + m.length / d := by
  rw [List.length_append, ← hq, Nat.add_comm, Nat.add_mul_div_right _ _ hd, Nat.add_comm]
 rw [hl, List.range_add, List.map_append, List.map_map]
 congr 1
 ·refine List.map_congr_left fun i hi => ?_
  have hi' : i < q := List.mem_range.1 hi
  have h1 : (i + 1) * d ≤ q * d := Nat.mul_le_mul_right d hi'
  rw [Nat.add_mul, Nat.one_mul] at h1
  rw [List.drop_append_of_le_length (by omega), List.take_append_of_le_length (by rw [List.length_drop]; omega)]
 ·refine List.map_congr_left fun i _ => ?_
  simp only [Function.comp]
  have : (w ++ m).drop ((q + i) * d) = m.drop (i * d) := by
   rw [Nat.add_mul, hq, ← List.drop_drop, List.drop_left]
  rw [this]
def Qt (c x r : Int) (p : List UInt8) : Enc := ⟨c, x, r, p, [], [], [], [], false, 0⟩
theorem Qtw {c x r : Int} {p : List UInt8} (h : Qp c x r p = true) : OkG (Qt c x r p) := by
 obtain ⟨⟨r1, r2, r3⟩, ⟨r4, r5⟩, r6⟩ := Qu.1 h
 have hm := Xg r2 r3 r1
 have hL := Zo r
 refine ⟨h, rfl, rfl, rfl, ?_, by simp [Qt], ?_, by simp [Qt], ?_, ?_, rfl⟩
 ·show ((0 : Nat) : Int) < c * x / 8; omega
 ·show (((0 : Nat) : Int)) / c < Qc r
  simp; omega
 ·exact QdQ (x := x) r1 (by simp [Qt]) (by simp [Qt])
 ·refine (Qck _ _ _).2 ⟨?_, ?_⟩
  ·show (((0 : Nat) : Int)) + (if 0 < (0 : Nat) then 1 else 0) ≤ 1000
   simp
  ·show ((((0 : Nat) : Int)) * Qc r + ((0 : Nat) : Int) / c) * c ≤ 4000
   simp
def LcE (e : Enc) : Nat := (Qc e.rate).toNat * e.ch.toNat
def QtJ (e : Enc) (q : List Int) : List UInt8 := QdM e.ch.toNat e.bits (tpE e) q
structure QrX (e : Enc) (S : List Int) : Prop where
 frs : e.frs = (List.range e.frs.length).map fun i => QtJ e (Z0 (LcE e) S i)
 smp : e.smp = S.drop (e.frs.length * LcE e)
 len : S.length = e.frs.length * LcE e + e.smp.length
theorem Qqc {L i : Nat} {S T : List Int} (h : (i + 1) * L ≤ S.length) : Z0 L (S ++ T) i = Z0 L S i := by
 rw [Nat.add_mul, Nat.one_mul] at h
 unfold Z0
 rw [List.drop_append_of_le_length (by omega), List.take_append_of_le_length (by rw [List.length_drop]; omega)]
theorem QuE {e : Enc} {S T : List Int} (h : QrX e S) : e.frs = (List.range e.frs.length).map fun i => QtJ e (Z0 (LcE e) (S ++ T) i) := by
 conv => lhs; rw [h.frs]
 refine List.map_congr_left fun i hi => ?_
 have hi' : i < e.frs.length := List.mem_range.1 hi
 have h1 : (i + 1) * LcE e ≤ e.frs.length * LcE e := Nat.mul_le_mul_right _ hi'
 rw [Qqc (by have := h.len; omega)]
theorem Qpl {e : Enc} {m : List UInt8} {S : List Int} (h : OkG e) (hf : QrX e S) (hm : (m.length : Int) = e.ch * e.bits / 8) : QrX (Xx e m) (S ++ Z3 e.bits m) := by
 obtain ⟨k, L, q, hk, k1, k6, hL, L1, L2, hlen, hq, hx, hrm, hcn, hbits⟩ := h.nat
 obtain ⟨⟨r1, r2, r3⟩, ⟨r4, r5⟩, r6⟩ := Qu.1 h.r
 have hsl := QlJ hx r2 r3 hm
 have hLc : LcE e = L * k := by rw [LcE, hk, hL]; simp
 have hA := QuE (T := Z3 e.bits m) hf
 have hD : e.smp ++ Z3 e.bits m = (S ++ Z3 e.bits m).drop (e.frs.length * LcE e) := by
  rw [List.drop_append_of_le_length (by have := hf.len; omega), ← hf.smp]
 have hl2 := hf.len
 have hml : (Z4 e m).smp = e.smp ++ Z3 e.bits m := rfl
 have hml2 : (Z4 e m).smp.length = (q + 1) * k := by
  rw [hk] at hsl
  have : (Z3 e.bits m).length = k := by exact_mod_cast hsl
  rw [hml, List.length_append, hlen, this, Nat.add_mul, Nat.one_mul]
 unfold Xx
 by_cases hlt : ((Z4 e m).smp.length : Int) < Qc e.rate * e.ch
 ·rw [if_pos hlt]
  refine ⟨hA, hD, ?_⟩
  show (S ++ Z3 e.bits m).length = e.frs.length * LcE e + (e.smp ++ Z3 e.bits m).length
  rw [List.length_append, List.length_append]; omega
 ·rw [if_neg hlt, ]
  rw [hml2, hL, hk] at hlt
  have hlt' : L * k ≤ (q + 1) * k := by
   have := Int.not_lt.1 hlt
   exact_mod_cast this
  have hq1 : q + 1 = L := by
   have := Nat.le_of_mul_le_mul_right hlt' (by omega)
   omega
  have hsz : (e.smp ++ Z3 e.bits m).length = LcE e := by rw [← hml, hml2, hLc, hq1]
  have hP : Z0 (LcE e) (S ++ Z3 e.bits m) e.frs.length = e.smp ++ Z3 e.bits m := by
   unfold Z0
   rw [← hD, List.take_of_length_le (by omega)]
  have hfl : (Xt (Z4 e m)).frs.length = e.frs.length + 1 := QkO e m
  have hSl : (S ++ Z3 e.bits m).length = (e.frs.length + 1) * LcE e := by
   rw [List.length_append] at hsz ⊢
   rw [Nat.add_mul, Nat.one_mul]; omega
  refine ⟨?_, ?_, ?_⟩
  ·rw [hfl, List.range_succ, List.map_append]
   show e.frs ++ [QtJ e (e.smp ++ Z3 e.bits m)] = (List.range e.frs.length).map (fun i => QtJ e (Z0 (LcE e) (S ++ Z3 e.bits m) i)) ++ [QtJ e (Z0 (LcE e) (S ++ Z3 e.bits m) e.frs.length)]
   rw [hP, ← hA]
  ·rw [hfl]
   show [] = (S ++ Z3 e.bits m).drop ((e.frs.length + 1) * LcE e)
   rw [List.drop_of_length_le (by omega)]
  ·rw [hfl]
   show (S ++ Z3 e.bits m).length = (e.frs.length + 1) * LcE e + 0
   omega
def Qto (e : Enc) (b : List UInt8) : Prop := ∃ w, b = w ++ e.rest ∧ (w.length : Int) % (e.ch * e.bits / 8) = 0 ∧ QrX e (Z3 e.bits w)
theorem Ql4 (c x r : Int) (p : List UInt8) : Qto (Qt c x r p) [] :=
 ⟨[], rfl, by simp, ⟨rfl, by simp [Qt, Z3], by simp [Qt, Z3]⟩⟩
theorem Qql {e : Enc} (h : OkG e) : ∃ k d : Nat, e.ch * e.bits / 8 = ((k * d : Nat) : Int) ∧ d = (e.bits / 8).toNat ∧ 0 < d ∧ 1 ≤ k := by
 obtain ⟨k, L, q, hk, k1, k6, hL, L1, L2, hlen, hq, hx, hrm, hcn, hbits⟩ := h.nat
 refine ⟨k, (e.bits / 8).toNat, ?_, rfl, ?_, k1⟩
 ·rw [hk]
  rcases hbits with b | b | b <;> rw [b] <;> simp <;> omega
 ·rcases hbits with b | b | b <;> rw [b] <;> decide
theorem Qv3 {e : Enc} (h : OkG e) {w : List UInt8} (hw : (w.length : Int) % (e.ch * e.bits / 8) = 0) : 0 < (e.bits / 8).toNat ∧ w.length % (e.bits / 8).toNat = 0 := by
 obtain ⟨k, d, h1, h2, h3, h4⟩ := Qql h
 rw [h1] at hw
 have hw' : w.length % (k * d) = 0 := by exact_mod_cast hw
 refine ⟨h2 ▸ h3, h2 ▸ Nat.mod_eq_zero_of_dvd (Nat.dvd_trans (Nat.dvd_mul_left d k) (Nat.dvd_of_mod_eq_zero hw'))⟩
theorem Qth {e : Enc} {c : UInt8} {b : List UInt8} (h : OkG e) (hf : Qto e b) (h0 : (QbJ e c).2 = 0) : Qto (QbJ e c).1 (b ++ [c]) := by
 obtain ⟨w, hb, hw, hS⟩ := hf
 have hrest := h.rest
 unfold QbJ at h0 ⊢
 split
 ·rename_i h1
  exact ⟨w, by rw [hb, List.append_assoc], hw, hS.frs, hS.smp, hS.len⟩
 ·rename_i h1
  rw [if_neg h1] at h0
  split
  ·rename_i h2
   rw [if_pos h2] at h0; cases h0
  ·have hm : ((e.rest ++ [c]).length : Int) = e.ch * e.bits / 8 := by
    simp only [List.length_append, List.length_cons, List.length_nil]; omega
   have hs : Sib (Xx e (e.rest ++ [c])) e := by
    unfold Xx
    split <;> exact ⟨rfl, rfl, rfl, rfl⟩
   have hr : (Xx e (e.rest ++ [c])).rest = [] := by
    unfold Xx
    split <;> rfl
   obtain ⟨d1, d2⟩ := Qv3 h hw
   refine ⟨w ++ (e.rest ++ [c]), ?_, ?_, ?_⟩
   ·show b ++ [c] = w ++ (e.rest ++ [c]) ++ (Xx e (e.rest ++ [c])).rest
    rw [hb, hr]; simp
   ·show ((w ++ (e.rest ++ [c])).length : Int) % ((Xx e (e.rest ++ [c])).ch * (Xx e (e.rest ++ [c])).bits / 8) = 0
    rw [hs.1, hs.2.1, List.length_append, Int.natCast_add, hm, Int.add_emod_right, hw]
   ·show QrX (Xx e (e.rest ++ [c])) (Z3 (Xx e (e.rest ++ [c])).bits (w ++ (e.rest ++ [c])))
    rw [hs.2.1, Qsn d1 d2]
    exact Qpl h hS hm
theorem QkZ : ∀ (l : List UInt8) {e : Enc} {b : List UInt8}, OkG e → Qto e b → (QN e l).2 = 0 → Qto (QN e l).1 (b ++ l)
 | [], e, b, _, hf, _ => by rw [List.append_nil]; exact hf
 | c :: l, e, b, h, hf, h0 => by
  rw [QN] at h0 ⊢
  rcases QmN c h with ⟨h1, h2⟩ | h1
  ·rw [if_neg (by rw [h1]; simp)] at h0 ⊢
   have := QkZ l h2 (Qth h hf h1) h0
   rwa [List.append_assoc] at this
  ·rw [if_pos (by rw [h1]; simp), h1] at h0; cases h0
theorem QfQ {c x r : Int} {p : List UInt8} (h : Qp c x r p = true) (b : List UInt8) : ((X3 (Qt c x r p) b).2 = 0 ∧ OkG (X3 (Qt c x r p) b).1 ∧ Sib (X3 (Qt c x r p) b).1 (Qt c x r p) ∧ Qto (X3 (Qt c x r p) b).1 b) ∨ X3 (Qt c x r p) b = (Zr (Qt c x r p) 18, 18) := by
 have hn := Qtw h
 rw [QqU hn]
 obtain ⟨h1, ⟨h2, h3⟩ | h2⟩ := QnS b hn
 ·exact .inl ⟨h2, h3, h1, by have := QkZ b hn (Ql4 c x r p) h2; simpa using this⟩
 ·exact .inr h2
theorem QnH {c x r : Int} {p b : List UInt8} {e : Enc} (h : OkG e) (hs : Sib e (Qt c x r p)) (hf : Qto e b) :
  (e.rest = [] ↔ (b.length : Int) % (c * x / 8) = 0) ∧ (Qr e (Qc e.rate) = 0 ↔ (b.length : Int) < c * x / 8) ∧ (e.rest = [] → Qr e (Qc e.rate) ≠ 0 → ZK c x r (Z3 x b) = 0 ∧ (QcC e).frs = Qo c x r (Z3 x b) (ofK (Z7 0 p) 8) ∧ Qr e (Qc e.rate) = (((Z3 x b).length / c.toNat : Nat) : Int)) := by
 obtain ⟨w, hb, hw, hS⟩ := hf
 obtain ⟨k, L, q, hk, k1, k6, hL, L1, L2, hlen, hq, hx, hrm, hcn, hbits⟩ := h.nat
 obtain ⟨kk, d, m1, m2, m3, m4⟩ := Qql h
 obtain ⟨s1, s2, s3, s4⟩ := hs
 simp only [Qt] at s1 s2 s3 s4
 have hrest := h.rest
 have hrs : e.rest.length = 0 ↔ e.rest = [] := by simp
 rw [s1, s2] at hrest hw m1
 have hM : 0 < c * x / 8 := by omega
 have hbl : (b.length : Int) = w.length + e.rest.length := by rw [hb, List.length_append]; simp
 have hLc : LcE e = L * k := by rw [LcE, hk, hL]; simp
 have hkk : kk = k := by
  rw [← s1, ← s2, hk] at m1
  have : (k : Int) * e.bits / 8 = ((k * d : Nat) : Int) := by
   rw [m2]
   rcases hbits with b | b | b <;> rw [b] <;> simp <;> omega
  rw [this] at m1
  have : k * d = kk * d := by exact_mod_cast m1
  exact (Nat.eq_of_mul_eq_mul_right m3 this).symm
 subst hkk
 have hSl : (Z3 x w).length = (e.frs.length * L + q) * kk := by
  have := hS.len
  rw [s2] at this
  rw [this, hLc, hlen, Nat.add_mul, Nat.mul_assoc]
 have hwl : w.length = (e.frs.length * L + q) * (kk * d) := by
  have h1 : w.length / d * d = w.length := by
   have : w.length % d = 0 := by
    have hw' : w.length % (kk * d) = 0 := by rw [m1] at hw; exact_mod_cast hw
    exact Nat.mod_eq_zero_of_dvd (Nat.dvd_trans (Nat.dvd_mul_left d kk) (Nat.dvd_of_mod_eq_zero hw'))
   exact Nat.div_mul_cancel (Nat.dvd_of_mod_eq_zero this)
  have h2 : w.length / d = (e.frs.length * L + q) * kk := by
   rw [← hSl, XY, m2, s2]
  rw [← h1, h2, Nat.mul_assoc]
 have hkd : 0 < kk * d := Nat.mul_pos (by omega) m3
 generalize hn : e.frs.length * L + q = n at *
 have hre : (b.length : Int) % (c * x / 8) = e.rest.length := by
  rw [hbl, Int.add_emod, hw, Int.zero_add, Int.emod_emod, Int.emod_eq_of_lt (by omega) hrest]
 refine ⟨by rw [hre, ← hrs]; omega, ?_, ?_⟩
 ·rw [hcn, m1]
  rw [m1] at hrest
  have hr' : e.rest.length < kk * d := by exact_mod_cast hrest
  have hb' : b.length = n * (kk * d) + e.rest.length := by omega
  constructor
  ·intro h0
   have : n = 0 := by omega
   subst this
   rw [hb', Nat.zero_mul]; omega
  ·intro h0
   have h1 : b.length < kk * d := by exact_mod_cast h0
   rcases Nat.eq_zero_or_pos n with h2 | h2
   ·omega
   ·have := Nat.le_mul_of_pos_left (kk * d) h2
    omega
 ·intro hr hc
  have hwb : b = w := by rw [hb, hr, List.append_nil]
  rw [hwb]
  have hn1 : 1 ≤ n := by omega
  have hct : c.toNat = kk := by rw [← s1, hk]; simp
  have hdv : (Z3 x w).length / kk = n := by rw [hSl, Nat.mul_div_cancel _ (by omega)]
  have hhd := h.hd hc
  rw [s1, s2, s3] at hhd
  rw [s3] at hcn
  rw [s3] at hc hL
  have hcI : Qr e (Qc r) = (n : Int) := hcn
  refine ⟨?_, ?_, ?_⟩
  ·have hlenI : ((Z3 x w).length : Int) / c = (n : Int) := by
    rw [← s1, hk, ← Int.natCast_ediv, hdv]
   have hmod : ((Z3 x w).length : Int) % c = 0 := by
    rw [← s1, hk, hSl, Int.natCast_mul]; exact Int.mul_emod_left _ _
   have hxx : ZN x ≠ 0 := by rw [← s2]; exact hx
   have hle : (Z3 x w).length ≤ 4000 := by omega
   have hck : QG x (Z3 x w) = 0 := QdQ hxx hle fun y hy => Qd6 hxx w y hy
   rw [hcI] at hhd
   unfold hdN at hhd
   split at hhd
   ·rename_i hh
    obtain ⟨⟨_, _, g1, g2, g3, g4, g5⟩, g6, g7⟩ := hh
    have he0 : QF c x = 0 := by
     rcases Q1 c x with q' | q'
     ·unfold QF at q'; split at q' <;> omega
     ·exact q'.1
    unfold ZK
    rw [if_neg (by omega), if_neg (by omega), if_neg, if_neg (by omega)]
    rw [hlenI]
    unfold X2
    rw [if_neg (by omega), if_neg (by omega), if_neg (by omega), if_neg (by omega)]
    omega
   ·cases hhd
  ·have hpn : (Zz (Qc r).toNat ((Z3 x w).length / c.toNat)).length = (n - 1) / L + 1 := by
    rw [XG, hct, hdv, hL, Int.toNat_natCast]
   have hE : ∀ q, QtJ e q = QdM c.toNat x (ofK (Z7 0 p) 8) q := fun q => by rw [QtJ, tpE, s1, s2, s4]
   have hfr := hS.frs
   have hsm := hS.smp
   rw [s2] at hfr hsm
   unfold Qo Q0
   rw [hpn, List.map_map, hct, hL, Int.toNat_natCast]
   rw [hLc] at hfr hsm
   by_cases hq0 : q = 0
   ·have hnil : e.smp = [] := List.eq_nil_of_length_eq_zero (by rw [hlen, hq0, Nat.zero_mul])
    have hF : (n - 1) / L + 1 = e.frs.length := by
     have hF1 : 1 ≤ e.frs.length := by
      rcases Nat.eq_zero_or_pos e.frs.length with z | z
      ·rw [z, Nat.zero_mul] at hn; omega
      ·exact z
     obtain ⟨F, hFF⟩ : ∃ F, e.frs.length = F + 1 := ⟨e.frs.length - 1, by omega⟩
     rw [hFF] at hn ⊢
     have : n - 1 = (L - 1) + F * L := by rw [← hn, Nat.add_mul]; omega
     rw [this, Nat.add_mul_div_right _ _ (by omega), Nat.div_eq_of_lt (by omega), Nat.zero_add]
    rw [hF, QcC, if_pos hnil]
    conv => lhs; rw [hfr]
    exact List.map_congr_left fun i _ => by rw [hE, hct]; rfl
   ·have hnn : e.smp ≠ [] := fun h0 => by
     rw [h0] at hlen
     have := Nat.mul_pos (Nat.pos_of_ne_zero hq0) (show 0 < kk by omega)
     simp at hlen; omega
    have hF : (n - 1) / L + 1 = e.frs.length + 1 := by
     have : n - 1 = (q - 1) + e.frs.length * L := by omega
     rw [this, Nat.add_mul_div_right _ _ (by omega), Nat.div_eq_of_lt (by omega), Nat.zero_add]
    rw [hF, QcC, if_neg hnn, List.range_succ, List.map_append]
    have hP : Z0 (L * kk) (Z3 x w) e.frs.length = e.smp := by
     unfold Z0
     have : e.smp.length ≤ L * kk := by rw [hlen]; exact Nat.mul_le_mul_right _ (by omega)
     rw [← hsm, List.take_of_length_le this]
    show e.frs ++ [QtJ e e.smp] = _
    conv => lhs; lhs; rw [hfr]
    rw [List.map_cons, List.map_nil]
    simp only [Function.comp]
    rw [hP, hE, hct]
    congr 1
    exact List.map_congr_left fun i _ => by rw [hE, hct]; rfl
  ·rw [s3, hcI, hct, hdv]
theorem Qml {c x r : Int} {p b : List UInt8} {e : Enc} (h : OkG e) (hs : Sib e (Qt c x r p)) (hf : Qto e b) :
  ((¬ (0 < b.length ∧ (b.length : Int) % (c * x / 8) = 0)) ∧ Qkz e = (Zr (Qt c x r p) 24, 24)) ∨ ((0 < b.length ∧ (b.length : Int) % (c * x / 8) = 0) ∧ ZK c x r (Z3 x b) = 0 ∧ skN (Zp (QcC e).frs) = 0 ∧ Qkz e = (XT (Qt c x r p) (Qc6 c x r (Z3 x b) p), 0)) := by
 obtain ⟨f1, f2, f3⟩ := QnH h hs hf
 have hst : QcB e = 0 := by unfold QcB; rw [if_neg (by rw [h.err]; simp), if_neg (by rw [h.done]; simp)]
 have hfe : Qkz e = if e.rest ≠ [] ∨ Qr e (Qc e.rate) = 0 then (Zr e 24, 24) else (XT e (pfB (QcC e) (Qr e (Qc e.rate))), 0) := by rw [Qkz, if_neg (by rw [QdD h]; simp), if_neg (by omega)]
 have hM : 0 < c * x / 8 := by
  have := h.rest
  rw [hs.1, hs.2.1] at this
  simp only [Qt] at this
  omega
 rw [hfe]
 by_cases h24 : e.rest ≠ [] ∨ Qr e (Qc e.rate) = 0
 ·refine .inl ⟨?_, by rw [if_pos h24, QkD e _ 24 hs]⟩
  rintro ⟨g1, g2⟩
  rcases h24 with g | g
  ·exact g (f1.2 g2)
  ·have := f2.1 g
   rw [Int.emod_eq_of_lt (by omega) this] at g2
   omega
 ·have hr : e.rest = [] := by
   by_cases hh : e.rest = []
   ·exact hh
   ·exact absurd (.inl hh) h24
  have hc : Qr e (Qc e.rate) ≠ 0 := fun g => h24 (.inr g)
  obtain ⟨g1, g2, g3⟩ := f3 hr hc
  obtain ⟨⟨r1, r2, r3⟩, ⟨r4, r5⟩, r6⟩ := Qu.1 h.r
  have hxx : ZN x ≠ 0 := by rw [← show e.bits = x from hs.2.1]; exact r1
  have hsk := (Qh0 (T := ofK (Z7 0 p) 8) g1 (QhY hxx b)).1
  refine .inr ⟨⟨?_, f1.1 hr⟩, g1, by rw [g2]; exact hsk, ?_⟩
  ·rcases Nat.eq_zero_or_pos b.length with z | z
   ·exact absurd (f2.2 (by rw [z]; exact hM)) hc
   ·exact z
  ·rw [if_neg h24, g3]
   have hl : ∀ g : Enc, Sib g (Qt c x r p) → Sib (QcC g) (Qt c x r p) := fun g hg => by
    unfold QcC
    split
    ·exact hg
    ·exact hg
   have hl' := hl e hs
   obtain ⟨t1, t2, t3, t4⟩ := hl'
   obtain ⟨s1, s2, s3, s4⟩ := hs
   simp only [Qt] at s1 s2 s3 s4 t1 t2 t3 t4
   have : pfB (QcC e) (((Z3 x b).length / c.toNat : Nat) : Int) = Qc6 c x r (Z3 x b) p := by
    rw [pfB, Qc6, t1, t2, t3, t4, g2, Int.toNat_natCast]
   rw [this]
   simp only [XT, Qt, s1, s2, s3, s4]
theorem QtK : ∀ l : List UInt8, emA (u8 l) = u8 l
 | [] => rfl
 | a :: l => by
  show emV (.int .u8 (a.toNat : Int)) :: emA (u8 l) = .int .u8 (a.toNat : Int) :: u8 l
  rw [QtK l]; rfl
def Qje (P : Prg) (f : Nat) : Prop := ∀ e : Enc, okC e → VC P f [Xd e, Xd e] (.bool true)
set_option maxHeartbeats 2000000 in
theorem QlV {P : Prg} {f t0 : Nat} (b : Qd P f 114 [.tmp 4] (Z9 t0)) : Qje P f := by
 rintro ⟨c, x, r, p, q, s, F, o, d, y⟩ ⟨o0, o1, o2, o3, o4, o5⟩
 simp only at o0 o1 o2 o4 o5
 refine VC.of_acall (by simp [isDL, Zq]) rfl (ACall.of_body b (by simp) ?_)
 have d1 := Qbp q
 have d2 := Qbp o
 have e0 : (p == p) = true := by simp
 have e1 : (q == q) = true := by simp
 have e2 : (o == o) = true := by simp
 have hb : (F.map bs).length = F.length := by simp
 simp only [Xd, XC, il, bss, bs]
 cases d
 all_goals
  simp (maxSteps := 4000000) (disch := omega) only [rq, simprocAttr, Z9, Qob, e0, e1, e2, d1, d2]
 case false =>
  refine QU.by (ι := Nat) (fun k => ⟨[(5, .int .i64 k), (3, .ref 1 1 0), (2, .ref 0 1 0)], [⟨t0, 10, 1, XC ⟨c, x, r, p, q, s, F, o, false, y⟩, 0⟩, ⟨t0, 10, 1, XC ⟨c, x, r, p, q, s, F, o, false, y⟩, 0⟩]⟩) (fun k => k ≤ s.length) (fun k => s.length - k) 0 (Le.slots (by simp [Am.look])) (by omega) ?_
  intro k hk
  by_cases hlt : k < s.length
  ·have c1 := QfM (K := .i32) (l := s) (i := k) hlt
   simp (maxSteps := 4000000) (disch := omega) only [rq, simprocAttr, XC, il, bss, bs, c1]
   exact ⟨k + 1, by omega, by omega, Le.slots (by simp [Am.look])⟩
  simp (maxSteps := 4000000) (disch := omega) only [rq, simprocAttr, XC, il, bss, bs]
  refine QU.by (ι := Nat) (fun k => ⟨[(6, .int .i64 k), (3, .ref 1 1 0), (2, .ref 0 1 0)], [⟨t0, 10, 1, XC ⟨c, x, r, p, q, s, F, o, false, y⟩, 0⟩, ⟨t0, 10, 1, XC ⟨c, x, r, p, q, s, F, o, false, y⟩, 0⟩]⟩) (fun k => k ≤ F.length) (fun k => F.length - k) 0 (Le.slots (by simp [Am.look])) (by omega) ?_
  intro j hj
  by_cases hlt2 : j < F.length
  ·have c1 := QeJ (L := F) (k := j) hlt2
   have d3 := Qbp (F.getD j [])
   have e4 : (F.getD j [] == F.getD j []) = true := by simp
   rw [bs] at c1
   generalize F.getD j [] = G at *
   simp (maxSteps := 4000000) (disch := omega) only [rq, simprocAttr, XC, il, bss, bs, c1, hb, Qob, d3, e4]
   exact ⟨j + 1, by omega, by omega, Le.slots (by simp [Am.look])⟩
  ·simp (maxSteps := 4000000) (disch := omega) only [rq, simprocAttr, XC, il, bss, bs, hb]
 case true =>
  refine QU.by (ι := Nat) (fun k => ⟨[(5, .int .i64 k), (3, .ref 1 1 0), (2, .ref 0 1 0)], [⟨t0, 10, 1, XC ⟨c, x, r, p, q, s, F, o, true, y⟩, 0⟩, ⟨t0, 10, 1, XC ⟨c, x, r, p, q, s, F, o, true, y⟩, 0⟩]⟩) (fun k => k ≤ s.length) (fun k => s.length - k) 0 (Le.slots (by simp [Am.look])) (by omega) ?_
  intro k hk
  by_cases hlt : k < s.length
  ·have c1 := QfM (K := .i32) (l := s) (i := k) hlt
   simp (maxSteps := 4000000) (disch := omega) only [rq, simprocAttr, XC, il, bss, bs, c1]
   exact ⟨k + 1, by omega, by omega, Le.slots (by simp [Am.look])⟩
  simp (maxSteps := 4000000) (disch := omega) only [rq, simprocAttr, XC, il, bss, bs]
  refine QU.by (ι := Nat) (fun k => ⟨[(6, .int .i64 k), (3, .ref 1 1 0), (2, .ref 0 1 0)], [⟨t0, 10, 1, XC ⟨c, x, r, p, q, s, F, o, true, y⟩, 0⟩, ⟨t0, 10, 1, XC ⟨c, x, r, p, q, s, F, o, true, y⟩, 0⟩]⟩) (fun k => k ≤ F.length) (fun k => F.length - k) 0 (Le.slots (by simp [Am.look])) (by omega) ?_
  intro j hj
  by_cases hlt2 : j < F.length
  ·have c1 := QeJ (L := F) (k := j) hlt2
   have d3 := Qbp (F.getD j [])
   have e4 : (F.getD j [] == F.getD j []) = true := by simp
   rw [bs] at c1
   generalize F.getD j [] = G at *
   simp (maxSteps := 4000000) (disch := omega) only [rq, simprocAttr, XC, il, bss, bs, c1, hb, Qob, d3, e4]
   exact ⟨j + 1, by omega, by omega, Le.slots (by simp [Am.look])⟩
  ·simp (maxSteps := 4000000) (disch := omega) only [rq, simprocAttr, XC, il, bss, bs, hb]
def Qjm (P : Prg) (f : Nat) : Prop := ∀ (c x r : Int) (b : List UInt8), ∃ v : Bool, (v = false → b.length ≤ 1100) ∧ VC P f [shA c x, .int .i64 r, bs b] (.bool v)
theorem Qop {P : Prg} {f t0 : Nat} (bd : Qd P f 29 [.tmp 6] (Qv t0)) : Qjm P f := by
 intro c x r b
 by_cases h1 : 1100 < b.length
 ·refine ⟨true, by simp, VC.of_acall (by simp [isDL, isD, shA, QQ]) rfl (ACall.of_body bd (by simp) ?_)⟩
  by_cases a : c = 1 <;> by_cases a2 : x = 8 <;> by_cases a3 : 2 < r <;> simp (maxSteps := 4000000) (disch := omega) only [rq, simprocAttr, Qv, shA, bs]
 by_cases h2 : 600 < b.length
 ·by_cases a : c = 1
  ·by_cases a2 : x = 8
   ·by_cases a3 : 2 < r
    ·refine ⟨true, by simp, VC.of_acall (by simp [isDL, isD, shA, QQ]) rfl (ACall.of_body bd (by simp) ?_)⟩
     simp (maxSteps := 4000000) (disch := omega) only [rq, simprocAttr, Qv, shA, bs]
    ·refine ⟨false, by omega, VC.of_acall (by simp [isDL, isD, shA, QQ]) rfl (ACall.of_body bd (by simp) ?_)⟩
     simp (maxSteps := 4000000) (disch := omega) only [rq, simprocAttr, Qv, shA, bs]
   ·refine ⟨true, by simp, VC.of_acall (by simp [isDL, isD, shA, QQ]) rfl (ACall.of_body bd (by simp) ?_)⟩
    simp (maxSteps := 4000000) (disch := omega) only [rq, simprocAttr, Qv, shA, bs]
  ·refine ⟨true, by simp, VC.of_acall (by simp [isDL, isD, shA, QQ]) rfl (ACall.of_body bd (by simp) ?_)⟩
   simp (maxSteps := 4000000) (disch := omega) only [rq, simprocAttr, Qv, shA, bs]
 ·refine ⟨false, by omega, VC.of_acall (by simp [isDL, isD, shA, QQ]) rfl (ACall.of_body bd (by simp) ?_)⟩
  simp (maxSteps := 4000000) (disch := omega) only [rq, simprocAttr, Qv, shA, bs]
def QrJ (P : Prg) (f : Nat) : Prop := VC P f [] (shA 1 8)
theorem Qoz {P : Prg} {f t0 : Nat} (bd : Qd P f 2 [.cell 0 t0] (Xb t0)) (ht : ZQ P t0 = some (some 2)) : QrJ P f := by
 refine VC.of_acall rfl rfl (ACall.of_body bd (by simp) ?_)
 simp (maxSteps := 4000000) (disch := omega) only [rq, simprocAttr, Xb, shA, ZR, ht]
theorem Qkj {c x r : Int} {p : List UInt8} (h : Qp c x r p = true) : okC (Qt c x r p) := by
 obtain ⟨_, _, r6⟩ := Qu.1 h
 exact ⟨by show p.length ≤ 100000; omega, by simp [Qt], by simp [Qt], by intro v hv; simp [Qt] at hv, by simp [Qt], by simp [Qt]⟩
theorem QnG {P : Prg} {fF : Nat} (hF : Qgi P fF) {c x r : Int} {p b : List UInt8} (h : Qp c x r p = true) (hb : b.length ≤ 1000000) : VC P fF [.agg (Qot c x r p), bs b] (.tup [Xd (X3 (Qt c x r p) b).1, .int .i64 (X3 (Qt c x r p) b).2]) := by
 refine VC.em _ ?_ (by simp [isDL, isD, Qot, QQ])
 have := hF (Qt c x r p) b (Qkj h) (by simp [Qt]) hb
 simp only [emA, emV, Qot, bs, QtK]
 exact this
def QrK (P : Prg) (f : Nat) : Prop := ∀ (c x r : Int) (p b : List UInt8), Qp c x r p = true → b.length ≤ 1000000 → VC P f [shA c x, .int .i64 r, .str p, bs b] (.tup [Xd (X3 (Qt c x r p) b).1, .bool (decide ((X3 (Qt c x r p) b).2 = 0))])
theorem QoA {P : Prg} {f fN fF t0 t1 : Nat} (bd : Qd P f 34 [.cell 8 t1, .tmp 9] (Xc fN fF t0 t1)) (hN : Qpa P fN) (hF : Qgi P fF) (ht : ZQ P t1 = some (some 10)) : QrK P f := by
 intro c x r p b h hb
 refine VC.of_acall (by simp [isDL, isD, shA, QQ]) (by simp [isD, isDL, Zq]) (ACall.of_body bd (by simp) ?_)
 obtain ⟨_, _, r6⟩ := Qu.1 h
 have hN' := hN c x r p (by omega)
 rw [Qtx, if_pos h] at hN'
 have hF' := QnG hF h hb
 have hz : (X3 (Qt c x r p) b).2 = 0 ∨ (X3 (Qt c x r p) b).2 = 18 := by
  rcases QfQ h b with h1 | h1
  ·exact .inl h1.1
  ·exact .inr (by rw [h1])
 generalize X3 (Qt c x r p) b = R at *
 obtain ⟨E, y⟩ := R
 simp only [shA, bs, Qot, Xd, XC, il, bss] at hN' hF' hz ⊢
 rcases hz with rfl | rfl
 all_goals
  simp (maxSteps := 4000000) (disch := omega) only [rq, simprocAttr, Xc]
  refine Qa.vc hN' ?_
  simp (maxSteps := 4000000) (disch := omega) only [rq, simprocAttr]
  refine Qa.vc hF' ?_
  simp (maxSteps := 4000000) (disch := omega) only [rq, simprocAttr, ZR, ht]
theorem Qcw {c x r : Int} {p o : List UInt8} (h : Qp c x r p = true) (ho : o.length ≤ 100000) : QM (XT (Qt c x r p) o) = 0 := by
 unfold QM
 rw [if_neg]
 rintro (h1 | h1)
 ·simp only [XT, Qt] at h1; rw [h] at h1; cases h1
 ·unfold QA at h1
  simp [XT] at h1
  omega
theorem QnL {c x r : Int} {p o : List UInt8} (h : Qp c x r p = true) (ho : o.length ≤ 100000) (n : Nat) : Qq6 (XT (Qt c x r p) o) n = (XT (Qt c x r p) (o.drop n), o.take n, 0) := by
 rw [Qq6, if_neg (by rw [Qcw h ho]; simp), if_neg (by omega)]
 rfl
theorem QqP {c x r : Int} {p b : List UInt8} {e : Enc} (hs : Sib e (Qt c x r p)) (hf : Qto e b) : OkG e → e.rest = [] → Qr e (Qc e.rate) ≠ 0 → skN (Zp (QcC e).frs) = 0 := fun h hr hc => by
 obtain ⟨_, _, f3⟩ := QnH h hs hf
 obtain ⟨g1, g2, _⟩ := f3 hr hc
 obtain ⟨⟨r1, r2, r3⟩, _, _⟩ := Qu.1 h.r
 have hxx : ZN x ≠ 0 := by rw [← show e.bits = x from hs.2.1]; exact r1
 rw [g2]
 exact (Qh0 g1 (QhY hxx b)).1
theorem QqY {e : Enc} (h : OkG e) : ∀ b ∈ e.frs, b.length ≤ 1000000 := by
 intro b hb
 have h1 := List.any_eq_false.1 h.bd b hb
 simp only [Jn, Bool.or_eq_true, decide_eq_true_eq] at h1
 obtain ⟨k, L, q, hk, k1, k6, hL, L1, L2, hlen, hq, hx, hrm, hcn, hbits⟩ := h.nat
 have hF : 1 ≤ e.frs.length := List.length_pos_of_mem hb
 have h2 : L * k ≤ 4000 := by
  have : L * k ≤ (e.frs.length * L + q) * k := Nat.mul_le_mul_right k (Nat.le_trans (Nat.le_mul_of_pos_left L hF) (Nat.le_add_right _ _))
  omega
 rw [hL, hk] at h1
 have h3 : (81 * (L : Int) * (k : Int) + 7) / 8 ≤ 40501 := by
  have : 81 * (L : Int) * (k : Int) = ((81 * (L * k) : Nat) : Int) := by rw [Int.natCast_mul, Int.natCast_mul, Int.mul_assoc]; rfl
  omega
 omega
theorem Qit {e : Enc} (h : OkG e) : okC e := by
 obtain ⟨⟨r1, r2, r3⟩, _, r6⟩ := Qu.1 h.r
 have h1 := h.fr
 have h2 := (Qb3 h.ck).2.1
 have h3 := h.rest
 have h4 := Xg r2 r3 r1
 exact ⟨by omega, by omega, by omega, QmH h.ck, by omega, by rw [h.out]; simp⟩
theorem QaW {c x r y : Int} {p o : List UInt8} {d : Bool} (h : Qp c x r p = true) (ho : o.length ≤ 100000) : okC ⟨c, x, r, p, [], [], [], o, d, y⟩ := by
 obtain ⟨_, _, r6⟩ := Qu.1 h
 exact ⟨by show p.length ≤ 100000; omega, by simp, by simp, by intro v hv; simp at hv, by simp, by show o.length ≤ 1000000; omega⟩
theorem QuH {c x r : Int} {p : List UInt8} (h : Qp c x r p = true) : Qkz (Qt c x r p) = (Zr (Qt c x r p) 24, 24) := by
 rcases Qml (Qtw h) ⟨rfl, rfl, rfl, rfl⟩ (Ql4 c x r p) with h1 | h1
 ·exact h1.2
 ·have := h1.1.1; simp at this
theorem Qs1 {P : Prg} {fF : Nat} (hF : Qlj P fF) {c x r : Int} {p : List UInt8} (h : Qp c x r p = true) : VC P fF [.agg (Qot c x r p)] (.tup [Xd (Zr (Qt c x r p) 24), .int .i64 24]) := by
 refine VC.em _ ?_ (by simp [isDL, isD, Qot])
 have := hF (Qt c x r p) (Qkj h) (by simp [Qt]) (QqP ⟨rfl, rfl, rfl, rfl⟩ (Ql4 c x r p))
 rw [QuH h] at this
 exact this
theorem QqW : X3 (Qt 1 8 8000 []) [128] = (⟨1, 8, 8000, [], [], [0], [], [], false, 0⟩, 0) := by rfl
theorem Qvd : Z3 8 [128] = [0] := by rfl
theorem Qap : Qp 1 8 8000 [] = true := by decide +kernel
set_option maxHeartbeats 4000000 in
theorem Ql9 {P : Prg} {f fO fM fFi fD fE fN t0 t1 t2 : Nat} (bd : Qd P f 117 [.tmp 0] (ZZ fO fM fFi fD fE fN t0 t1 t2)) (hO : QrJ P fO) (hM : QrK P fM) (hFi : Qlj P fFi) (hD : QrH P fD) (hE : Qnb P fE) (hN : Qpa P fN) : Qjv P f := by
 refine VC.of_acall rfl rfl (ACall.of_body bd (by simp) ?_)
 have hO' : VC P fO [] (.agg [.int .i64 1, .int .i64 8]) := hO
 have hM' := hM 1 8 8000 [] [128] Qap (by simp)
 have hN' := hN 1 8 8000 [] (by simp)
 rw [Qtx, if_pos Qap] at hN'
 have hX' := Qs1 hFi Qap
 have i1 : I32 [0] := by intro v hv; simp at hv; omega
 have hE0 := hE 1 8 8000 [0] [] i1 (by simp)
 rw [Qwh] at hE0
 rcases QfQ Qap [128] with ⟨g1, g2, g3, g4⟩ | g
 case inr => rw [QqW] at g; have := congrArg Prod.snd g; simp at this
 have hFi0 := hFi _ (Qit g2) (QqY g2) (QqP g3 g4)
 rcases Qml g2 g3 g4 with ⟨h1, _⟩ | ⟨_, hcl, _, h1⟩
 ·exact absurd ⟨by simp, by simp⟩ h1
 rw [Qvd] at h1 hcl
 rw [h1] at hFi0
 rw [QqW] at hM' hFi0
 have hlen := QuJ.1
 have hfx : Qc6 1 8 8000 [0] [] = fEx := rfl
 rw [hfx] at hFi0
 have hD1 := hD (XT (Qt 1 8 8000 []) fEx) ((22 : Nat) : Int) (QaW Qap (by omega)) (by simp [XT])
 rw [QnL Qap (by omega)] at hD1
 have hD2 := hD (XT (Qt 1 8 8000 []) (fEx.drop 22)) ((100 : Nat) : Int) (QaW Qap (by rw [List.length_drop]; omega)) (by simp [XT])
 rw [QnL Qap (by rw [List.length_drop]; omega)] at hD2
 have k1 : (fEx.take 22).length = 22 := by rw [List.length_take]; omega
 have k2 : (fEx.drop 22).length = 14 := by rw [List.length_drop]; omega
 have k3 : (fEx.drop 22).take 100 = fEx.drop 22 := List.take_of_length_le (by omega)
 have k4 : (fEx.drop 22).drop 100 = [] := List.drop_of_length_le (by omega)
 have k5 : u8 (fEx.take 22) ++ u8 (fEx.drop 22) = u8 fEx := by rw [Qdp, List.take_append_drop]
 have d1 := Qbp fEx
 have e1 : (fEx == fEx) = true := by simp
 rw [k3, k4] at hD2
 simp only [Xd, XC, il, bss, bs, XT, Qt, Zr, shA, Qot, k1, k2, hlen, List.length_nil, List.length_cons, List.map_nil, Qb1, QcP, clA] at hM' hN' hX' hE0 hFi0 hD1 hD2
 have ku1 : (u8 (fEx.take 22)).length = 22 := by rw [QE, k1]
 have ku2 : (u8 (fEx.drop 22)).length = 14 := by rw [QE, k2]
 have hM'' : VC P fM [.agg [.int .i64 1, .int .i64 8], .int .i64 8000, .str [], .list 1 [.int .u8 128]] _ := hM'
 have hE' : VC P fE [.agg [.int .i64 1, .int .i64 8, .int .i64 8000, .list 1 [.int .i32 0]], .str []] (.tup [.list 36 (u8 fEx), .int .i64 0]) := hE0
 simp (maxSteps := 4000000) (disch := omega) only [rq, simprocAttr, ZZ]
 refine Qa.vc hO' ?_
 simp (maxSteps := 4000000) (disch := omega) only [rq, simprocAttr]
 refine Qa.still 1 [0] hM'' (by simp [QW, QJ, frzL, QH, isDL, isD]) ?_
 simp (maxSteps := 4000000) (disch := omega) only [rq, simprocAttr, Qj]
 refine Qa.vc hFi0 ?_
 simp (maxSteps := 4000000) (disch := omega) only [rq, simprocAttr]
 refine Qa.vc hD1 ?_
 simp (maxSteps := 4000000) (disch := omega) only [rq, simprocAttr]
 refine Qa.vc hD2 ?_
 simp (maxSteps := 4000000) (disch := omega) only [rq, simprocAttr]
 refine Qa.still 1 [5] hE' (by simp [QW, QJ, frzL, QH, isDL, isD]) ?_
 simp (maxSteps := 4000000) (disch := omega) only [rq, simprocAttr, Qj]
 refine Qa.vc hO' ?_
 simp (maxSteps := 4000000) (disch := omega) only [rq, simprocAttr]
 refine Qa.vc hN' ?_
 simp (maxSteps := 4000000) (disch := omega) only [rq, simprocAttr]
 refine Qa.vc hX' ?_
 simp (maxSteps := 4000000) (disch := omega) only [rq, simprocAttr, ku1, ku2, k5, Qob, d1, e1, hlen]
def Qcz (P : Prg) (f : Nat) : Prop := ∀ (c b r : Int) (pw : List UInt8), VC P f [shA c b, .int .i64 r, .str pw] (.bool (Qp c b r pw))
theorem Qj8 {P : Prg} {f fL fE t0 : Nat} (b : Qd P f 26 [.tmp 6] (QL fL fE t0)) (hL : ZP P fL) (hE : Jj P fE) (c x r : Int) (pw : List UInt8) : VC P f [shA c x, .int .i64 r, .str pw] (.int .i64 (if Qp c x r pw = true then 0 else 2)) := by
 refine VC.of_acall rfl rfl (ACall.of_body b (by simp) ?_)
 have hE' := hE c x
 rw [shA] at hE' ⊢
 simp (maxSteps := 4000000) (disch := omega) only [rq, simprocAttr, QL]
 refine Qa.vc (hL r) ?_
 have he : QF c x = 0 ∨ QF c x = 2 := by unfold QF; split <;> omega
 by_cases h1 : r < 1 ∨ 1048576 < r
 ·simp (maxSteps := 4000000) (disch := omega) only [rq, simprocAttr, J7, h1]
  refine Qa.vc hE' ?_
  have h2 : Qp c x r pw = false := by simp only [Qp]; rw [show decide (1 ≤ r ∧ r ≤ 1048576) = false by rw [decide_eq_false_iff_not]; omega]; simp
  rcases he with he | he
  ·simp (maxSteps := 4000000) (disch := omega) only [rq, simprocAttr, he, h2]
  ·simp (maxSteps := 4000000) (disch := omega) only [rq, simprocAttr, he, h2]
 ·simp (maxSteps := 4000000) (disch := omega) only [rq, simprocAttr, J7, h1]
  refine Qa.vc hE' ?_
  rcases he with he | he
  ·by_cases hp : pw.length ≤ 64
   ·have h2 : Qp c x r pw = true := by simp only [Qp, he]; rw [show decide (1 ≤ r ∧ r ≤ 1048576) = true by rw [decide_eq_true_eq]; omega]; simp [hp]
    simp (maxSteps := 4000000) (disch := omega) only [rq, simprocAttr, he, h2]
   ·have h2 : Qp c x r pw = false := by simp [Qp, hp]
    simp (maxSteps := 4000000) (disch := omega) only [rq, simprocAttr, he, h2]
  ·have h2 : Qp c x r pw = false := by simp [Qp, he]
   simp (maxSteps := 4000000) (disch := omega) only [rq, simprocAttr, he, h2]
theorem Qkl {P : Prg} {f fA t0 fL fE t1 : Nat} (bd : Qd P f 12 [.tmp 6] (Zh fA t0)) (bA : Qd P fA 26 [.tmp 6] (QL fL fE t1)) (hL : ZP P fL) (hE : Jj P fE) : Qcz P f := by
 intro c x r pw
 refine VC.of_acall (by simp [isDL, isD, shA]) rfl (ACall.of_body bd (by simp) ?_)
 have hA' := Qj8 bA hL hE c x r pw
 rw [shA] at hA' ⊢
 cases hr : Qp c x r pw with
 | true =>
  rw [hr] at hA'
  simp only [if_true] at hA'
  simp (maxSteps := 4000000) (disch := omega) only [rq, simprocAttr, Zh]
  refine Qa.vc hA' ?_
  simp (maxSteps := 4000000) (disch := omega) only [rq, simprocAttr]
 | false =>
  rw [hr] at hA'
  simp only [Bool.false_eq_true, if_false] at hA'
  simp (maxSteps := 4000000) (disch := omega) only [rq, simprocAttr, Zh]
  refine Qa.vc hA' ?_
  simp (maxSteps := 4000000) (disch := omega) only [rq, simprocAttr]
theorem QuI {c x r : Int} {p : List UInt8} {y : Int} (h : Qp c x r p = true) (hy : y = 18 ∨ y = 24) : Qkz (Zr (Qt c x r p) y) = (Zr (Qt c x r p) y, y) := by
 have hs : QcB (Zr (Qt c x r p) y) = y := by
  unfold QcB
  rw [if_pos (by show y ≠ 0; omega)]
  rfl
 rw [Qkz, if_neg (by rw [Qa3 h hy]; simp), hs, if_pos (by omega)]
theorem Qs5 {c x r : Int} {p : List UInt8} {y : Int} (h : Qp c x r p = true) (hy : y = 18 ∨ y = 24) (l : List UInt8) : X3 (Zr (Qt c x r p) y) l = (Zr (Qt c x r p) y, y) := QqV h hy l
theorem Qq8 (c x r : Int) (p o : List UInt8) : QcB (XT (Qt c x r p) o) = 36 := rfl
theorem QqX {c x r : Int} {p o : List UInt8} (h : Qp c x r p = true) (ho : o.length ≤ 100000) (l : List UInt8) : X3 (XT (Qt c x r p) o) l = (XT (Qt c x r p) o, 36) := by
 rw [X3, if_neg (by rw [Qcw h ho]; simp)]
 rfl
theorem Qs2 {c x r : Int} {p o : List UInt8} (h : Qp c x r p = true) (ho : o.length ≤ 100000) : Qkz (XT (Qt c x r p) o) = (XT (Qt c x r p) o, 36) := by
 rw [Qkz, if_neg (by rw [Qcw h ho]; simp), Qq8]
 rfl
def QeL (P : Prg) (f : Nat) : Prop := ∀ (c x r : Int) (p b d : List UInt8), VC P f [shA c x, .int .i64 r, .str p, bs b, bs d] (.bool true)
set_option maxRecDepth 20000 in
set_option maxHeartbeats 4000000 in
theorem QcZ {P : Prg} {f fA fR fU fN fF fC fM fc fW fi fS t0 t1 : Nat} (bd : Qd P f 180 [.tmp 10] (Qh fA fR fU fN fF fC fM fc fW fi fS t0 t1)) (hA : Qjv P fA) (hR : Qcz P fR) (hN : Qpa P fN) (hC : Xq P fC) (hM : JV P fM) (hc : Xq P fc) (hW : Ji P fW) (hS : Qje P fS) {c x r : Int} {p b d : List UInt8} (hr : Qp c x r p = true)
  (hU1 : VC P fU [shA c x, .int .i64 r, bs b] (.bool false)) (hU2 : VC P fU [shA c x, .int .i64 r, bs d] (.bool false)) {E G : Enc} {z u : Int} (oE : okC E) (oG : okC G) (cE : QM E = 0) (cG : QM G = 0) {m : Nat} (hm : c * x / 8 = m) (hrest : E.rest.length < m) (hck : QG x E.smp = 0) (hz : G.err = z)
  (hF1 : VC P fF [.agg (Qot c x r p), bs b] (.tup [Xd E, .int .i64 E.err])) (hi1 : VC P fi [Xd E] (.tup [Xd G, .int .i64 z])) (hF2 : VC P fF [Xd G, bs d] (.tup [Xd G, .int .i64 u])) (hi2 : VC P fi [Xd G] (.tup [Xd G, .int .i64 u]))
  (hh : ((z = 18 ∨ z = 24) ∧ u = z ∧ G.done = false ∧ G.out.length = 0) ∨ (z = 0 ∧ u = 36 ∧ G.done = true ∧ G.rest.length = 0 ∧ G.smp.length = 0 ∧ G.frs.length = 0)) : VC P f [shA c x, .int .i64 r, .str p, bs b, bs d] (.bool true) := by
 refine VC.of_acall (by simp [isDL, isD, shA, QQ]) rfl (ACall.of_body bd (by simp) ?_)
 have hA' : VC P fA [] (.bool true) := hA
 have hR' := hR c x r p
 obtain ⟨⟨r1, r2, r3⟩, ⟨r4, r5⟩, r6⟩ := Qu.1 hr
 have hN' := hN c x r p (by omega)
 rw [Qtx, if_pos hr] at hN'
 have hM' := hM c x r2 r3 r1
 rw [hr] at hR'
 rw [hm] at hM'
 have hC1 := hC E oE
 have hc1 := hc E oE
 have hC2 := hC G oG
 rw [cE] at hC1 hc1
 rw [cG] at hC2
 have hW' := hW x E.smp oE.2.2.2.1
 rw [hck] at hW'
 have hS' := hS G oG
 simp only [shA, bs, Qot, Xd, XC, il, bss] at hR' hU1 hU2 hN' hM' hF1 hi1 hF2 hi2 hC1 hc1 hC2 hW' hS' ⊢
 rcases hh with ⟨h1, h2, h3, h4⟩ | ⟨h1, h2, h3, h4, h5, h6⟩
 ·subst h2
  have zne : u ≠ 0 := by omega
  rw [h3] at hi1 hF2 hi2 hC2 hS'
  simp (maxSteps := 4000000) (disch := omega) only [rq, simprocAttr, Qh]
  refine Qa.vc hA' ?_
  simp (maxSteps := 4000000) (disch := omega) only [rq, simprocAttr]
  refine Qa.vc hR' ?_
  simp (maxSteps := 4000000) (disch := omega) only [rq, simprocAttr]
  refine Qa.vc hU1 ?_
  simp (maxSteps := 4000000) (disch := omega) only [rq, simprocAttr]
  refine Qa.vc hU2 ?_
  simp (maxSteps := 4000000) (disch := omega) only [rq, simprocAttr]
  refine Qa.vc hN' ?_
  simp (maxSteps := 4000000) (disch := omega) only [rq, simprocAttr]
  refine Qa.vc hF1 ?_
  simp (maxSteps := 4000000) (disch := omega) only [rq, simprocAttr]
  refine QP.vc hC1 ?_
  simp (maxSteps := 4000000) (disch := omega) only [rq, simprocAttr]
  refine QP.vc hM' ?_
  simp (maxSteps := 4000000) (disch := omega) only [rq, simprocAttr]
  refine QP.vc hc1 ?_
  simp (maxSteps := 4000000) (disch := omega) only [rq, simprocAttr]
  refine QP.vc hW' ?_
  simp (maxSteps := 4000000) (disch := omega) only [rq, simprocAttr]
  refine Qa.vc hi1 ?_
  simp (maxSteps := 4000000) (disch := omega) only [rq, simprocAttr]
  refine Qa.vc hF2 ?_
  simp (maxSteps := 4000000) (disch := omega) only [rq, simprocAttr]
  refine Qa.vc hi2 ?_
  simp (maxSteps := 4000000) (disch := omega) only [rq, simprocAttr]
  refine Qa.vc hC2 ?_
  simp (maxSteps := 4000000) (disch := omega) only [rq, simprocAttr]
  refine Qa.vc hS' ?_
  simp (maxSteps := 4000000) (disch := omega) only [rq, simprocAttr]
  refine Qa.vc hS' ?_
  simp (maxSteps := 4000000) (disch := omega) only [rq, simprocAttr, hz]
 ·subst h1 h2
  rw [h3] at hi1 hF2 hi2 hC2 hS'
  simp (maxSteps := 4000000) (disch := omega) only [rq, simprocAttr, Qh]
  refine Qa.vc hA' ?_
  simp (maxSteps := 4000000) (disch := omega) only [rq, simprocAttr]
  refine Qa.vc hR' ?_
  simp (maxSteps := 4000000) (disch := omega) only [rq, simprocAttr]
  refine Qa.vc hU1 ?_
  simp (maxSteps := 4000000) (disch := omega) only [rq, simprocAttr]
  refine Qa.vc hU2 ?_
  simp (maxSteps := 4000000) (disch := omega) only [rq, simprocAttr]
  refine Qa.vc hN' ?_
  simp (maxSteps := 4000000) (disch := omega) only [rq, simprocAttr]
  refine Qa.vc hF1 ?_
  simp (maxSteps := 4000000) (disch := omega) only [rq, simprocAttr]
  refine QP.vc hC1 ?_
  simp (maxSteps := 4000000) (disch := omega) only [rq, simprocAttr]
  refine QP.vc hM' ?_
  simp (maxSteps := 4000000) (disch := omega) only [rq, simprocAttr]
  refine QP.vc hc1 ?_
  simp (maxSteps := 4000000) (disch := omega) only [rq, simprocAttr]
  refine QP.vc hW' ?_
  simp (maxSteps := 4000000) (disch := omega) only [rq, simprocAttr]
  refine Qa.vc hi1 ?_
  simp (maxSteps := 4000000) (disch := omega) only [rq, simprocAttr]
  refine Qa.vc hF2 ?_
  simp (maxSteps := 4000000) (disch := omega) only [rq, simprocAttr]
  refine Qa.vc hi2 ?_
  simp (maxSteps := 4000000) (disch := omega) only [rq, simprocAttr]
  refine Qa.vc hC2 ?_
  simp (maxSteps := 4000000) (disch := omega) only [rq, simprocAttr]
  refine Qa.vc hS' ?_
  simp (maxSteps := 4000000) (disch := omega) only [rq, simprocAttr]
  refine Qa.vc hS' ?_
  simp (maxSteps := 4000000) (disch := omega) only [rq, simprocAttr, hz, h4, h5, h6]
set_option maxRecDepth 20000 in
set_option maxHeartbeats 4000000 in
theorem Qc4 {P : Prg} {f fA fR fU fN fF fC fM fc fW fi fS t0 t1 : Nat} (bd : Qd P f 180 [.tmp 10] (Qh fA fR fU fN fF fC fM fc fW fi fS t0 t1)) (hA : Qjv P fA) (hR : Qcz P fR) (hU : Qjm P fU) (hN : Qpa P fN) (hF : Qgi P fF) (hC : Xq P fC) (hM : JV P fM) (hc : Xq P fc) (hW : Ji P fW) (hFi : Qlj P fi) (hS : Qje P fS) : QeL P f := by
 intro c x r p b d
 have hA' : VC P fA [] (.bool true) := hA
 have hR' := hR c x r p
 obtain ⟨v, hv, hU'⟩ := hU c x r b
 obtain ⟨v2, hv2, hU2⟩ := hU c x r d
 cases hr : Qp c x r p with
 | false =>
  refine VC.of_acall (by simp [isDL, isD, shA, QQ]) rfl (ACall.of_body bd (by simp) ?_)
  rw [hr] at hR'
  simp only [shA, bs] at hR' ⊢
  simp (maxSteps := 4000000) (disch := omega) only [rq, simprocAttr, Qh]
  refine Qa.vc hA' ?_
  simp (maxSteps := 4000000) (disch := omega) only [rq, simprocAttr]
  refine Qa.vc hR' ?_
  simp (maxSteps := 4000000) (disch := omega) only [rq, simprocAttr]
 | true =>
 cases v with
 | true =>
  refine VC.of_acall (by simp [isDL, isD, shA, QQ]) rfl (ACall.of_body bd (by simp) ?_)
  rw [hr] at hR'
  simp only [shA, bs] at hR' hU' ⊢
  simp (maxSteps := 4000000) (disch := omega) only [rq, simprocAttr, Qh]
  refine Qa.vc hA' ?_
  simp (maxSteps := 4000000) (disch := omega) only [rq, simprocAttr]
  refine Qa.vc hR' ?_
  simp (maxSteps := 4000000) (disch := omega) only [rq, simprocAttr]
  refine Qa.vc hU' ?_
  simp (maxSteps := 4000000) (disch := omega) only [rq, simprocAttr]
 | false =>
 cases v2 with
 | true =>
  refine VC.of_acall (by simp [isDL, isD, shA, QQ]) rfl (ACall.of_body bd (by simp) ?_)
  rw [hr] at hR'
  simp only [shA, bs] at hR' hU' hU2 ⊢
  simp (maxSteps := 4000000) (disch := omega) only [rq, simprocAttr, Qh]
  refine Qa.vc hA' ?_
  simp (maxSteps := 4000000) (disch := omega) only [rq, simprocAttr]
  refine Qa.vc hR' ?_
  simp (maxSteps := 4000000) (disch := omega) only [rq, simprocAttr]
  refine Qa.vc hU' ?_
  simp (maxSteps := 4000000) (disch := omega) only [rq, simprocAttr]
  refine Qa.vc hU2 ?_
  simp (maxSteps := 4000000) (disch := omega) only [rq, simprocAttr]
 | false =>
 have hb := hv rfl
 have hd := hv2 rfl
 obtain ⟨⟨r1, r2, r3⟩, ⟨r4, r5⟩, r6⟩ := Qu.1 hr
 have hmul := Xg r2 r3 r1
 have hF' := QnG hF hr (b := b) (by omega)
 obtain ⟨m, hm⟩ : ∃ m : Nat, c * x / 8 = m := ⟨(c * x / 8).toNat, by omega⟩
 have hm1 : 1 ≤ m := by omega
 have hfa : ∀ y, y = 18 ∨ y = 24 → VC P fi [Xd (Zr (Qt c x r p) y)] (.tup [Xd (Zr (Qt c x r p) y), .int .i64 y]) := fun y hy => by
  have := hFi (Zr (Qt c x r p) y) (QaW hr (by simp [Qt])) (by simp [Zr]) (fun h => by have := h.err; simp only [Zr] at this; omega)
  rw [QuI hr hy] at this
  exact this
 have hfb : ∀ y, y = 18 ∨ y = 24 → VC P fF [Xd (Zr (Qt c x r p) y), bs d] (.tup [Xd (Zr (Qt c x r p) y), .int .i64 y]) := fun y hy => by
  have := hF (Zr (Qt c x r p) y) d (QaW hr (by simp [Qt])) (by simp [Zr]) (by omega)
  rw [Qs5 hr hy] at this
  exact this
 have okf : ∀ y, okC (Zr (Qt c x r p) y) := fun y => QaW hr (by simp [Qt])
 rcases QfQ hr b with ⟨g1, g2, g3, g4⟩ | g
 ·have hFi' := hFi _ (Qit g2) (QqY g2) (QqP g3 g4)
  have hff := Qml g2 g3 g4
  generalize X3 (Qt c x r p) b = R at *
  obtain ⟨E, y⟩ := R
  simp only at g1 hff hF' hFi' g2 g3
  have hErr : E.err = 0 := g2.err
  rw [g1, ← hErr] at hF'
  have hrest := g2.rest
  have hck := g2.ck
  rw [g3.1, g3.2.1] at hrest
  rw [g3.2.1] at hck
  simp only [Qt] at hrest hck
  rcases hff with ⟨_, h2⟩ | ⟨_, hcl, _, h2⟩
  ·rw [h2] at hFi'
   exact QcZ bd hA hR hN hC hM hc hW hS hr hU' hU2 (Qit g2) (okf 24) (QdD g2) (Qa3 hr (.inr rfl)) hm (by omega) hck rfl hF' hFi' (hfb 24 (.inr rfl)) (hfa 24 (.inr rfl)) (.inl ⟨.inr rfl, rfl, rfl, rfl⟩)
  ·rw [h2] at hFi'
   have hfl := (Qs4 (p := p) hcl (QhY r1 b)).2
   have ok2 : okC (XT (Qt c x r p) (Qc6 c x r (Z3 x b) p)) := QaW hr (by omega)
   have hF2 := hF (XT (Qt c x r p) (Qc6 c x r (Z3 x b) p)) d ok2 (by simp [XT]) (by omega)
   rw [QqX hr (by omega)] at hF2
   have hi2 := hFi (XT (Qt c x r p) (Qc6 c x r (Z3 x b) p)) ok2 (by simp [XT]) (fun h => by have := h.done; simp [XT] at this)
   rw [Qs2 hr (by omega)] at hi2
   exact QcZ bd hA hR hN hC hM hc hW hS hr hU' hU2 (Qit g2) ok2 (QdD g2) (Qcw hr (by omega)) hm (by omega) hck rfl hF' hFi' hF2 hi2 (.inr ⟨rfl, rfl, rfl, rfl, rfl, rfl⟩)
 ·rw [g] at hF'
  exact QcZ bd hA hR hN hC hM hc hW hS hr hU' hU2 (okf 18) (okf 18) (Qa3 hr (.inl rfl)) (Qa3 hr (.inl rfl)) hm (by simp [Zr]; omega) (QdQ r1 (by simp [Zr]) (by simp [Zr])) rfl hF' (hfa 18 (.inl rfl)) (hfb 18 (.inl rfl)) (hfa 18 (.inl rfl)) (.inl ⟨.inl rfl, rfl, rfl, rfl⟩)
end Go.Am
