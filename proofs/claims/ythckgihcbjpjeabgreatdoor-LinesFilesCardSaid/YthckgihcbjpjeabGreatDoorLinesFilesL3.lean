/- What the functions that the law reaches return, for every program that has their code; the conditions stand in each statement. -/
import Derived.Lib.ItoaLen
import Derived.Test.YthckgihcbjpjeabGreatDoorLinesFilesL2
set_option linter.unusedSectionVars false
set_option linter.unusedSimpArgs false
set_option linter.unusedVariables false
namespace Go.Am
open Go.RowKit
set_option maxHeartbeats 1000000 in
theorem Qms {P : Prg} {f fC fT fP fS fE fA g t0 t1 t2 t3 t4 ti : Nat} (b : QiB P f 45 [.cell 4 t1, .cell 5 t2] (JH fC fT fP fS fE t0 t1 t2 t3 t4)) {c x r : Int} {l : List Int} {p : List UInt8} {T : List Int} {E : List Int → List UInt8} (h : Qwf c x r l = 0) (hC' : VC P fC [clA c x r l] (.int .i64 0)) (hTl : T.length = 16)
  (hT' : VC P fT [.str p] (.tup [.agg (ks .i32 T), .int .i64 0])) (hP : QeH g P fP) (hI : QeG ti P g) (bG : Body P g 43 [] (Xi fA)) (hS : QeF P fS) (hE : ∀ q ∈ Qan c r l, VC P fE [shA c x, .agg (ks .i32 T), il q] (.tup [bs (E q), .int .i64 0])) (hEl : ∀ q ∈ Qan c r l, (E q).length ≤ 100000)
  (ht1 : Zq P t1 = some none) (ht2 : Zq P t2 = some none) (h0 : t0 ≠ ti) (h1 : t1 ≠ ti) (h2 : t2 ≠ ti) (h3 : t3 ≠ ti) (h4 : t4 ≠ ti) : VC P f [clA c x r l, .str p] (.tup [bss ((Qan c r l).map E), .int .i64 0]) := by
 refine Qi 2 (by simp [isDL, isD, Qar, clA]) (by simp [isD, isDL, Qx5]) (ACall.of_rangeC b (by simp) ?_)
 rw [clA, il] at hC'
 have tl := Qp .i32 l
 have z : (z3L : List AV) = ks .i32 Jf := rfl
 unfold JH
 rw [z]
 have ol := Jl .i32 Jf
 have kl0 : (ks .i32 Jf).length = 16 := rfl
 simp (disch := omega) only [rq, simprocAttr, clA, il, Qjj, Qm0, Qg9, Qs5, Ql2, QzB]
 refine Qa hC' ?_
 simp (disch := omega) only [rq, simprocAttr, Qg9, Qs5, Qjj, Qm0]
 refine Qa hT' ?_
 have oT := Jl .i32 T
 have kT : (ks .i32 T).length = 16 := by rw [Qc, hTl]
 have tT : (ks .i32 T).take 16 = ks .i32 T := qi (by omega)
 have zl : Jf.length = 16 := rfl
 have zd : (ks .i32 Jf).drop 16 = [] := rfl
 obtain ⟨k, n, rfl, k1, k2, hlen, hok, h4'⟩ := Qwe h
 have hP' := hP k x r l
 have hI' := hI k n x r l k1 k2 hlen hok
 rw [clA] at hP'
 rw [il] at hP' hI'
 have hS' := hS k x r l
 rw [shA, il] at hS'
 simp (disch := omega) only [rq, simprocAttr, Qg9, Qs5, Qjj, Qm0, ol, kl0, oT, kT, zl, zd, yA]
 refine Qa hP' ?_
 simp (disch := omega) only [rq, simprocAttr, Ql2]
 obtain ⟨Lc, hLc⟩ : ∃ Lc, (Q5 r).toNat * k = Lc := ⟨_, rfl⟩
 rw [hLc] at hI'
 have hcnt : (Zl (Q5 r).toNat n).length ≤ 1000 := by have := hok.2.2.2.2; rwa [qw] at this
 obtain ⟨cnt, hcn⟩ : ∃ cnt, (Zl (Q5 r).toNat n).length = cnt := ⟨_, rfl⟩
 have hpo : Qan k r l = (List.finRange cnt).map (fun j => Qb8 Lc l j.1) := by
  unfold Qan
  rw [qw, hlen, Nat.mul_div_cancel _ (by omega), hcn, hLc]
  apply yK <;> simp
 rw [hcn] at hI' hcnt
 refine ⟨cnt, g, _, [ti], _, [(27, .fn (.func g) [] [.cell [.int .i64 k, .int .i64 x, .int .i64 r, .list l.length (ks .i32 l)]]), (2, .ref 0 1 0), (4, .ref 1 1 0), (5, .ref 2 1 0), (7, .ref 3 1 0), (9, .ref 4 1 0)],
  fun pre => [⟨t0, 4, 1, [.int .i64 k, .int .i64 x, .int .i64 r, .list l.length (ks .i32 l)], 0⟩, ⟨t1, 1, 1, [.list 0 []], 0⟩, ⟨t2, 1, 1, [.int .i64 0], 0⟩, ⟨t3, 16, 1, ks .i32 T, 0⟩, ⟨t1, 1, 1, [.own 5 pre.length], 0⟩, ⟨t4, 1, pre.length, pre.map (fun j => bs (E (Qb8 Lc l j.1))), 0⟩], ?_, rfl, bG.ent, by simp [isDL, isD, Zf], hI', by omega, by omega, rfl, ?_, ?_, ?_⟩
 ·refine Le.trans (Le.virtF (p := 4) (ty := t4) (sz := 1) (by omega) rfl rfl) (Le.drop 6 2 (by omega) rfl (by simp [Am.look, Qx, frzL, Qu, frzL_T _ tl]) ?_)
  intro i z hz
  match i, hz with
  | 0, hz => cases hz; exact ⟨_, rfl, by simp [Qx, frzL, Qu, frzL_T _ tl]⟩
  | 1, hz => cases hz; exact ⟨_, rfl, by simp [Qx, frzL, Qu]⟩
  | 2, hz => cases hz; exact ⟨_, rfl, by simp [Qx, frzL, Qu]⟩
  | 3, hz => cases hz; exact ⟨_, rfl, by simp [Qx, frzL_T _ (Qp .i32 T)]⟩
  | 4, hz => cases hz; exact ⟨_, rfl, by simp [Qx, frzL, Qu]⟩
  | 5, hz => cases hz; exact ⟨_, rfl, by simp [Qx, frzL, Qu]⟩
  | i + 6, hz => simp at hz
 ·intro pre x hx
  simp only [qx, q9, or_false] at hx ⊢
  rcases hx with rfl | rfl | rfl | rfl | rfl | rfl
  ·exact h0
  ·exact h1
  ·exact h2
  ·exact h3
  ·exact h1
  ·exact h4
 ·intro pre y hpl
  have hmem : Qb8 Lc l y.1 ∈ Qan k r l := by rw [hpo]; exact qO.2 ⟨y, List.mem_finRange _, rfl⟩
  have hE' := hE _ hmem
  have w1 := hEl _ hmem
  have hpm : (pre.map (fun j => bs (E (Qb8 Lc l j.1)))).length = pre.length := by simp
  obtain ⟨Y, hYe⟩ : ∃ Y, E (Qb8 Lc l y.1) = Y := ⟨_, rfl⟩
  rw [hYe] at hE' w1
  obtain ⟨Z, hZ⟩ : ∃ Z, Qb8 Lc l y.1 = Z := ⟨_, rfl⟩
  rw [hZ] at hE' hYe ⊢
  rw [shA, il, bs] at hE'
  have tZ := Qp .i32 Z
  have tT2 := Qp .i32 T
  rw [il]
  simp (disch := omega) only [rq, simprocAttr, tT, kT]
  refine QN hS' ?_
  simp (disch := omega) only [rq, simprocAttr, tT, kT]
  refine QN hE' ?_
  simp (disch := omega) only [rq, simprocAttr, hpm]
  refine Le.drop 6 2 (by omega) rfl (by simp) ?_
  intro i z hz
  match i, hz with
  | 0, hz => cases hz; exact ⟨_, rfl, by simp [Qx, frzL, Qu, frzL_T _ tl]⟩
  | 1, hz => cases hz; exact ⟨_, rfl, by simp [Qx, frzL, Qu]⟩
  | 2, hz => cases hz; exact ⟨_, rfl, by simp [Qx, frzL, Qu]⟩
  | 3, hz => cases hz; exact ⟨_, rfl, by simp [Qx, frzL_T _ tT2]⟩
  | 4, hz => cases hz; exact ⟨_, rfl, by simp [Qx, frzL, Qu]⟩
  | 5, hz =>
   cases hz
   have e : (pre ++ [y]).map (fun j => bs (E (Qb8 Lc l j.1))) = pre.map (fun j => bs (E (Qb8 Lc l j.1))) ++ [.list Y.length (u8 Y)] := by
    simp only [yB, qF, yY, hZ, hYe]
    rfl
   rw [e]
   refine ⟨_, rfl, frzL_T _ ?_⟩
   rw [← e]
   have := QjY ((pre ++ [y]).map (fun j => E (Qb8 Lc l j.1)))
   rwa [jC] at this
  | i + 6, hz => simp at hz
 ·have hfl : (List.finRange cnt).length = cnt := by simp
  have hpi : (List.finRange cnt).map (fun j => bs (E (Qb8 Lc l j.1))) = ((Qan k r l).map E).map bs := by
   rw [hpo, jC, jC]
   rfl
  dsimp only
  rw [hpi, hfl]
  have hpl : ((Qan k r l).map E).length = cnt := by rw [hpo]; simp
  have tp := QjY ((Qan k r l).map E)
  generalize hPP : ((Qan k r l).map E).map bs = PP at *
  simp (disch := omega) only [rq, simprocAttr, QP, ht1, ht2]
  simp [QK, Qx, frzL, Qu, isDL, isD, bss, hpl, hPP, frzL_T _ tp]
def QjC : List Int := [1, 2]
def Qtv (q : List Int) : List UInt8 := if q = [1] then [4, 0, 251, 215, 181, 37] else [8, 0, 247, 152, 0, 137]
def Qie : List UInt8 := [84, 84, 65, 49, 1, 0, 1, 0, 8, 0, 1, 0, 0, 0, 2, 0, 0, 0, 223, 215, 22, 71, 6, 0, 0, 0, 6, 0, 0, 0, 50, 137, 38, 134, 4, 0, 251, 215, 181, 37, 8, 0, 247, 152, 0, 137]
theorem QnH : Qan 1 1 QjC = [[1], [2]] := by decide
theorem QzV : Qwf 1 8 1 QjC = 0 := by decide
theorem Qke {P : Prg} {f fC fT fP fS fE fA g t0 t1 t2 t3 t4 ti : Nat} (b : QiB P f 45 [.cell 4 t1, .cell 5 t2] (JH fC fT fP fS fE t0 t1 t2 t3 t4)) (hC : VC P fC [clA 1 8 1 QjC] (.int .i64 0)) (hT : VC P fT [.str []] (.tup [.agg (ks .i32 Jf), .int .i64 0])) (hP : QeH g P fP) (hI : QeG ti P g) (bG : Body P g 43 [] (Xi fA)) (hS : QeF P fS)
  (hE1 : VC P fE [shA 1 8, .agg (ks .i32 Jf), il [1]] (.tup [bs (Qtv [1]), .int .i64 0])) (hE2 : VC P fE [shA 1 8, .agg (ks .i32 Jf), il [2]] (.tup [bs (Qtv [2]), .int .i64 0])) (ht1 : Zq P t1 = some none) (ht2 : Zq P t2 = some none) (h0 : t0 ≠ ti) (h1 : t1 ≠ ti) (h2 : t2 ≠ ti) (h3 : t3 ≠ ti) (h4 : t4 ≠ ti) :
  VC P f [clA 1 8 1 QjC, .str []] (.tup [bss [Qtv [1], Qtv [2]], .int .i64 0]) := by
 have := Qms (E := Qtv) b QzV hC rfl hT hP hI bG hS (by rw [QnH]; exact List.forall_mem_cons.2 ⟨hE1, List.forall_mem_cons.2 ⟨hE2, fun _ h => by cases h⟩⟩) (by rw [QnH]; decide) ht1 ht2 h0 h1 h2 h3 h4
 rwa [QnH] at this
def QmV : Rp := ⟨1, 1, 8, 1, 2, 34, [6, 6], 0, 0, 0, 2⟩
def QqD : List UInt8 := [102, 111, 114, 109, 97, 116, 32, 49, 32, 99, 104, 97, 110, 110, 101, 108, 115, 32, 49, 32, 98, 105, 116, 115, 32, 56, 32, 114, 97, 116, 101, 32, 49, 32, 99, 111, 117, 110, 116, 32, 50, 10, 102, 114, 97, 109, 101, 115, 32, 51, 52, 58, 32, 54, 32, 54, 10, 102, 111, 117, 110, 100, 32, 48, 32, 48, 32, 48, 32, 50, 10]
theorem QBd : Qql QmV := by decide +kernel
theorem Qy0 : txt QmV = QqD := by decide +kernel
theorem QBC : rpB QmV := by
 refine ⟨by decide, ?_, by decide, by decide⟩
 intro v hv
 simp only [QmV, qx, q9, or_false] at hv
 omega
theorem Qw9 {P : Prg} {f : Nat} (h : QkL P f) : VC P f [QmV.av] (.tup [.str QqD, .int .i64 0]) := by
 have := h QmV QBC
 rwa [Qp7, qh QBd, Qy0] at this
theorem QxC {P : Prg} {f : Nat} (h : QkM P f) : VC P f [.str QqD] (.tup [QmV.av, .int .i64 0]) := (h QqD (by decide)).1 QmV QBd Qy0
theorem Qxy {P : Prg} {f : Nat} (h : Qgx P f) : VC P f [QmV.av, QmV.av] (.bool true) := h QmV QmV (by decide) (by decide)
def Qrx (l : List UInt8) : Nat := l.foldl (fun n c => 128 * n + c.toNat) 0
theorem Qrw {l : List UInt8} {i : Nat} (h : i < l.length) : Qrx (l.take (i + 1)) = 128 * Qrx (l.take i) + l[i].toNat := by
 unfold Qrx
 rw [qm h, j3]
 rfl
theorem Qm7 : ∀ (l : List UInt8), (∀ c ∈ l, c.toNat < 128) → ∀ n, l.foldl (fun n c => 128 * n + c.toNat) n < (n + 1) * 128 ^ l.length
 | [], _, n => by simp
 | c :: l, h, n => by
  have hc := h c (by simp)
  have ih := Qm7 l (fun x hx => h x (yj _ hx)) (128 * n + c.toNat)
  refine yg ih ?_
  rw [qo, yV, yi (128 ^ l.length) 128, ← ja]
  exact qJ _ (by omega)
def Qrv (l : List UInt8) : Int × Int := if l.length ≠ 4 then (0, 2) else if ∀ c ∈ l, c.toNat < 128 then (Qrx l, 0) else (0, 12)
def Quj (P : Prg) (f : Nat) : Prop := ∀ l : List UInt8, l.length ≤ 1000000 → VC P f [bs l] (.tup [.int .i64 (Qrv l).1, .int .i64 (Qrv l).2])
theorem Qxp {x : Nat} (h : x < 268435456) : Ql true .i64 (x : Int) 7 = some (.int .i64 ((128 * x : Nat) : Int)) := by
 show some (AV.int .i64 (IntKind.i64.wrap ((x : Int) * 2 ^ 7))) = _
 rw [Xk (by omega) (by omega)]
 congr 2
 omega
theorem Qzo {a c : Nat} (ha : a < 268435456) (hc : c < 128) : IntKind.i64.wrap (BitVec.ofInt IntKind.i64.bits ((128 * a : Nat) : Int) ||| BitVec.ofInt IntKind.i64.bits (c : Int)).toNat = ((128 * a + c : Nat) : Int) := by
 have h1 : (BitVec.ofInt IntKind.i64.bits ((128 * a : Nat) : Int)).toNat = 128 * a := by
  rw [BitVec.ofInt_natCast, yy]
  exact qV (yg (by omega : 128 * a < 2 ^ 36) (by decide))
 have h2 : (BitVec.ofInt IntKind.i64.bits (c : Int)).toNat = c := by
  rw [BitVec.ofInt_natCast, yy]
  exact qV (yg (by omega : c < 2 ^ 36) (by decide))
 rw [BitVec.toNat_or, h1, h2, Nat.or_comm, show 128 * a = a * 2 ^ 7 by omega, QlR (by omega), Xk (by omega) (by omega)]
 omega
theorem QuJ {l : List UInt8} {i : Nat} (h : i < l.length) : List.drop i (u8 l) = .int .u8 (l[i].toNat : Int) :: List.drop (i + 1) (u8 l) := by
 have hl : i < (u8 l).length := by rw [Qk]; exact h
 rw [qK hl]
 simp [u8]
theorem Qj0 {P : Prg} {f : Nat} (bd : Body P f 25 [.tmp 2, .tmp 3] XG) : Quj P f := by
 intro l hl
 refine QJ (by simp [isDL, QM]) rfl bd ?_
 by_cases h4 : l.length ≠ 4
 ·rw [Qrv, qh h4]
  simp (disch := omega) only [rq, simprocAttr, XG, bs]
 have h4' : l.length = 4 := by omega
 rw [Qrv, qe h4]
 simp (disch := omega) only [rq, simprocAttr, XG, bs]
 refine Qj (ι := Nat) (fun i => ⟨[(12, .int .i64 i), (4, .int .i64 ((Qrx (l.take i) : Nat) : Int)), (10, .list l.length (u8 l)), (11, .int .i64 4), (0, .list l.length (u8 l))], []⟩) (fun i => i ≤ 4 ∧ ∀ c ∈ l.take i, c.toNat < 128) (fun i => 4 - i) 0 (QB (by simp [Am.look, Qrx, h4'])) ⟨yd _, by simp⟩ ?_
 intro i ⟨hi, hb⟩
 have hv := Qm7 (l.take i) hb 0
 rw [ya, jp, qu, qG (by omega)] at hv
 have hv2 : (l.take i).foldl (fun n c => 128 * n + c.toNat) 0 = Qrx (l.take i) := rfl
 rw [hv2] at hv
 have hp : 128 ^ i ≤ 128 ^ 4 := qy (by omega) hi
 have hp4 : (128 : Nat) ^ 4 = 268435456 := by decide
 by_cases hi4 : i < 4
 case neg =>
  obtain rfl : i = 4 := by omega
  have e : l.take 4 = l := qi (by omega)
  rw [e] at hb ⊢
  rw [qh hb]
  simp (disch := omega) only [rq, simprocAttr]
 have hil : i < l.length := by omega
 have hsn := Qrw hil
 have hget := QuJ hil
 by_cases hc : l[i].toNat < 128
 ·have hb2 : ∀ c ∈ l.take (i + 1), c.toNat < 128 := by
   intro c hm
   rw [qm hil] at hm
   rcases qA.1 hm with hm | hm
   ·exact hb c hm
   ·rw [qH.1 hm]; exact hc
  have hs7 := Qxp (x := Qrx (l.take i)) (by omega)
  have ho7 := Qzo (a := Qrx (l.take i)) (c := l[i].toNat) (by omega) hc
  generalize l[i] = b at *
  generalize Qrx (l.take i) = V at *
  simp (disch := omega) only [rq, simprocAttr, hget, hs7, ho7]
  refine ⟨i + 1, ⟨by omega, hb2⟩, by omega, ?_⟩
  rw [hsn]
  exact Qe
 ·have hno : ¬ ∀ c ∈ l, c.toNat < 128 := fun h => hc (h _ (qS hil))
  rw [qe hno]
  generalize l[i] = b at *
  simp (disch := omega) only [rq, simprocAttr, hget]
def QqG (v fl : Nat) : Bool := if fl = 0 then decide (2 ≤ v) && decide (v ≤ 4) else if fl = 16 then decide (v = 4) else false
theorem Qd4 {P : Prg} {g t0 : Nat} (bd : Body P g 16 [.tmp 2] QO) {v fl : Nat} {x : Ob} (hv : v < 256) (hf : fl < 256) {K : AV → List Ob → Prop} (hK : K (.bool (QqG v fl)) [x, ⟨t0, 1, 1, [.int .u8 v], 0⟩, ⟨t0, 1, 1, [.int .u8 fl], 0⟩]) :
  ACall P g [.ref 2 1 0, .ref 1 1 0] [x, ⟨t0, 1, 1, [.int .u8 v], 0⟩, ⟨t0, 1, 1, [.int .u8 fl], 0⟩] K := by
 refine Qb bd (by simp) ?_
 unfold QqG at hK
 by_cases h0 : fl = 0
 ·rw [qh h0] at hK
  subst h0
  by_cases h2 : 2 ≤ v
  ·by_cases h4 : v ≤ 4
   ·have e : (decide (2 ≤ v) && decide (v ≤ 4)) = true := by simp [h2, h4]
    rw [e] at hK
    simp (disch := omega) only [rq, simprocAttr, QO]
    exact hK
   ·have e : (decide (2 ≤ v) && decide (v ≤ 4)) = false := by simp [h2, h4]
    rw [e] at hK
    simp (disch := omega) only [rq, simprocAttr, QO]
    exact hK
  ·have e : (decide (2 ≤ v) && decide (v ≤ 4)) = false := by simp [h2]
   rw [e] at hK
   simp (disch := omega) only [rq, simprocAttr, QO]
   exact hK
 ·rw [qe h0] at hK
  by_cases h16 : fl = 16
  ·rw [qh h16] at hK
   subst h16
   by_cases h4 : v = 4
   ·rw [decide_eq_true h4] at hK
    subst h4
    simp (disch := omega) only [rq, simprocAttr, QO]
    exact hK
   ·rw [decide_eq_false h4] at hK
    simp (disch := omega) only [rq, simprocAttr, QO]
    exact hK
  ·rw [qe h16] at hK
   simp (disch := omega) only [rq, simprocAttr, QO]
   exact hK
def idN (b : List UInt8) : Int × Int :=
 if b.take 3 ≠ [73, 68, 51] then (0, 6)
 else if b.length < 10 then (0, 24)
 else if (Qrv ((b.drop 6).take 4)).2 ≠ 0 ∨ (b.getD 4 0).toNat ≠ 0 ∨ QqG (b.getD 3 0).toNat (b.getD 5 0).toNat = false then (0, 12)
 else
  let n := (Qrv ((b.drop 6).take 4)).1 + 10 + (if (b.getD 5 0).toNat = 16 then 10 else 0)
  if 4000 < n then (0, 4)
  else if b.length < n then (0, 24)
  else if (b.getD 5 0).toNat = 16 ∧ ¬ ((b.drop (n - 10).toNat).take 3 = [51, 68, 73] ∧ (b.drop (n - 7).toNat).take 7 = (b.drop 3).take 7) then (0, 12)
  else (n, 0)
theorem QoZ (l : List UInt8) : 0 ≤ (Qrv l).1 ∧ (Qrv l).1 < 268435456 := by
 unfold Qrv
 split
 ·exact ⟨by simp, by simp⟩
 rename_i h4
 split
 ·rename_i h
  have := Qm7 l h 0
  rw [show l.length = 4 by omega] at this
  have e : l.foldl (fun n c => 128 * n + c.toNat) 0 = Qrx l := rfl
  rw [e] at this
  simp only
  omega
 ·exact ⟨by simp, by simp⟩
def QkN (P : Prg) (f : Nat) : Prop := ∀ b : List UInt8, b.length ≤ 1000000 → VC P f [bs b] (.tup [.int .i64 (idN b).1, .int .i64 (idN b).2])
theorem QnX {l : List UInt8} {i : Nat} (h : i < l.length) : l.getD i 0 = l[i] := by rw [qd, qc h]; rfl
theorem Qj1 {P : Prg} {f fH fV fS fE t0 : Nat} (bd : Body P f 78 [.tmp 2, .tmp 3] (Xg fH fV fS fE t0)) (hH : QmR P fH) (hV : Quj P fV) (bS : Body P fS 16 [.tmp 2] QO) (hE : QaR P fE) : QkN P f := by
 intro b hb
 refine QJ (by simp [isDL, QM]) rfl bd ?_
 have hH' := hH b [73, 68, 51] hb (by simp)
 rw [show ([73, 68, 51] : List UInt8).length = 3 from rfl] at hH'
 have tb := Zx b
 by_cases h3 : b.take 3 ≠ [73, 68, 51]
 ·rw [idN, qh h3]
  rw [show (b.take 3 == [73, 68, 51]) = false from yh.2 h3] at hH'
  have hH2 : VC P fH [.list b.length (u8 b), .list 3 [.int .u8 73, .int .u8 68, .int .u8 51]] (.bool false) := hH'
  simp only [bs]
  simp (disch := omega) only [rq, simprocAttr, Xg]
  refine Qv 1 [0] hH2 (by simp [QK, Qx, frzL, Qu, isDL, isD, frzL_T _ tb]) ?_
  simp (disch := omega) only [rq, simprocAttr, Qg]
 rw [idN, qe h3]
 have h3' : b.take 3 = [73, 68, 51] := by simpa using h3
 rw [show (b.take 3 == [73, 68, 51]) = true from beq_iff_eq.2 h3'] at hH'
 have hH2 : VC P fH [.list b.length (u8 b), .list 3 [.int .u8 73, .int .u8 68, .int .u8 51]] (.bool true) := hH'
 by_cases h10 : b.length < 10
 ·rw [qh h10]
  simp only [bs]
  simp (disch := omega) only [rq, simprocAttr, Xg]
  refine Qv 1 [0] hH2 (by simp [QK, Qx, frzL, Qu, isDL, isD, frzL_T _ tb]) ?_
  simp (disch := omega) only [rq, simprocAttr, Qg]
 rw [qe h10, QnX (i := 3) (by omega), QnX (i := 4) (by omega), QnX (i := 5) (by omega)]
 have d3 := QuJ (l := b) (i := 3) (by omega)
 have d4 := QuJ (l := b) (i := 4) (by omega)
 have d5 := QuJ (l := b) (i := 5) (by omega)
 have lt3 : b[3].toNat < 256 := b[3].toNat_lt
 have lt4 : b[4].toNat < 256 := b[4].toNat_lt
 have lt5 : b[5].toNat < 256 := b[5].toNat_lt
 generalize b[3].toNat = v at *
 generalize b[4].toNat = z at *
 generalize b[5].toNat = fl at *
 have hV' := hV ((b.drop 6).take 4) (by simp; omega)
 have hs6 : (u8 ((b.drop 6).take 4)) = List.take 4 (List.drop 6 (u8 b)) := by rw [Zr, Z1]
 have hl6 : ((b.drop 6).take 4).length = 4 := by simp; omega
 rw [bs, hl6, hs6] at hV'
 simp only [bs]
 simp (disch := omega) only [rq, simprocAttr, Xg]
 refine Qv 1 [0] hH2 (by simp [QK, Qx, frzL, Qu, isDL, isD, frzL_T _ tb]) ?_
 simp (disch := omega) only [rq, simprocAttr, Qg, d3, d4, d5]
 refine Qa hV' ?_
 have hwb := QoZ ((b.drop 6).take 4)
 generalize Qrv ((b.drop 6).take 4) = w at *
 by_cases c1 : w.2 ≠ 0
 ·rw [qh (.inl c1)]
  simp (disch := omega) only [rq, simprocAttr]
 have c1' : w.2 = 0 := by omega
 by_cases c2 : z ≠ 0
 ·rw [qh (.inr (.inl c2))]
  simp (disch := omega) only [rq, simprocAttr, d4]
 have c2' : z = 0 := by omega
 subst c2'
 by_cases c3 : QqG v fl = false
 ·rw [qh (.inr (.inr c3))]
  simp (disch := omega) only [rq, simprocAttr, d4]
  refine Qd4 bS lt3 lt5 ?_
  rw [c3]
  simp (disch := omega) only [rq, simprocAttr]
 have hnf : ¬ (w.2 ≠ 0 ∨ 0 ≠ 0 ∨ QqG v fl = false) := by
  rintro (h | h | h)
  ·exact c1 h
  ·exact h rfl
  ·exact c3 h
 rw [qe hnf]
 have c3' : QqG v fl = true := by simpa using c3
 obtain ⟨N, hN⟩ : ∃ N : Nat, w.1 = N := ⟨w.1.toNat, by omega⟩
 rw [hN] at hwb ⊢
 simp (disch := omega) only [rq, simprocAttr, d4]
 refine Qd4 bS lt3 lt5 ?_
 rw [c3']
 by_cases h16 : fl = 16
 ·subst h16
  simp only [yo, true_and]
  by_cases k1 : (4000 : Int) < (N : Int) + 10 + 10
  ·rw [qh k1]
   simp (disch := omega) only [rq, simprocAttr, hN]
  rw [qe k1]
  by_cases k2 : (b.length : Int) < (N : Int) + 10 + 10
  ·rw [qh k2]
   simp (disch := omega) only [rq, simprocAttr, hN]
  rw [qe k2]
  have e10 : N + 10 + Int.toNat 10 - 10 = N + 10 := rfl
  have e13 : N + 10 + Int.toNat 10 - 7 = N + 13 := rfl
  rw [e10, e13]
  have q1 : N + 10 - N = 10 := by omega
  have q2 : min 10 (b.length - (N + 10)) = 10 := by omega
  have q3 : List.take 3 (List.take 10 (List.drop (N + 10) (u8 b))) = u8 ((b.drop (N + 10)).take 3) := by rw [jO, Zr, Z1]; rfl
  have q4 : List.drop 3 (List.take 10 (List.drop (N + 10) (u8 b))) = u8 ((b.drop (N + 13)).take 7) := by rw [j7, jy, Zr, Z1]
  have q5 : List.take 7 (List.drop 3 (u8 b)) = u8 ((b.drop 3).take 7) := by rw [Zr, Z1]
  have l1 : ((b.drop (N + 10)).take 3).length = 3 := by simp; omega
  have l2 : ((b.drop (N + 13)).take 7).length = 7 := by simp; omega
  have l3 : ((b.drop 3).take 7).length = 7 := by simp; omega
  have hE' := hE ((b.drop (N + 13)).take 7) ((b.drop 3).take 7)
  rw [bs, bs, l2, l3] at hE'
  generalize (b.drop (N + 10)).take 3 = s1 at *
  generalize (b.drop (N + 13)).take 7 = s2 at *
  generalize (b.drop 3).take 7 = s3 at *
  have t1 := Zx s1
  have q6 : List.take 7 (u8 s2) = u8 s2 := qi (by rw [Qk]; omega)
  by_cases g1 : s1 = [51, 68, 73]
  ·have hse : Qa4 .neq s1 [51, 68, 73] = some (.bool false) := by simp [Qa4, g1]
   by_cases g2 : s2 = s3
   ·rw [qe (by rw [g1, g2]; simp)]
    rw [show (s2 == s3) = true from beq_iff_eq.2 g2] at hE'
    simp (disch := omega) only [rq, simprocAttr, hN, q1, q2, q3, q4, q5, Qbx, hse, l1, q6]
    refine QN hE' ?_
    simp (disch := omega) only [rq, simprocAttr, hN]
   ·rw [qh (by rw [not_and]; intro _; exact g2)]
    rw [show (s2 == s3) = false from yh.2 g2] at hE'
    simp (disch := omega) only [rq, simprocAttr, hN, q1, q2, q3, q4, q5, Qbx, hse, l1, q6]
    refine QN hE' ?_
    simp (disch := omega) only [rq, simprocAttr, hN]
  ·have hse : Qa4 .neq s1 [51, 68, 73] = some (.bool true) := by simp [Qa4, g1]
   rw [qh (by rw [not_and]; intro h; exact absurd h g1)]
   simp (disch := omega) only [rq, simprocAttr, hN, q1, q2, q3, q4, q5, Qbx, hse, l1]
 ·rw [qe h16]
  simp only [Yp, h16, false_and, yC]
  by_cases k1 : (4000 : Int) < (N : Int) + 10
  ·rw [qh k1]
   simp (disch := omega) only [rq, simprocAttr, hN]
  rw [qe k1]
  by_cases k2 : (b.length : Int) < (N : Int) + 10
  ·rw [qh k2]
   simp (disch := omega) only [rq, simprocAttr, hN]
  rw [qe k2]
  simp (disch := omega) only [rq, simprocAttr, hN]
def QAu : List UInt8 := [65, 80, 69, 84, 65, 71, 69, 88]
def QmX (n c fl : Nat) : List Nat := [2000, n + 32, c, fl, 0, 0]
def QiA (n c fl : Nat) : List UInt8 := QAu ++ ((QmX n c fl).map fun v => leB v 4).flatten
def QuC (n c fl k : Nat) : List UInt8 := QAu ++ (((QmX n c fl).take k).map fun v => leB v 4).flatten
theorem Qex (n c fl k : Nat) (h : k ≤ 6) : (QuC n c fl k).length = 8 + 4 * k := by
 unfold QuC
 have : ∀ L : List Nat, ((L.map fun v => leB v 4).flatten).length = 4 * L.length := fun L => by
  induction L with
  | nil => rfl
  | cons a L ih => simp only [qF, jH, qt, QY, ih, qo]; omega
 rw [qt, this, qu]
 simp only [QmX, QAu, qo, qC]
 omega
theorem Qud (n c fl k : Nat) (h : k < (QmX n c fl).length) : QuC n c fl (k + 1) = QuC n c fl k ++ leB ((QmX n c fl)[k]) 4 := by
 unfold QuC
 rw [qm h, yB, List.flatten_append, qz]
 simp only [qF, yY, jH, List.flatten_nil, yA]
def QeM (P : Prg) (f : Nat) : Prop := ∀ n c fl : Nat, n ≤ 1000000 → c ≤ 1000000 → fl < 4294967296 → VC P f [.int .i64 n, .int .i64 c, .int .u64 fl] (bs (QiA n c fl))
theorem Qyz {P : Prg} {f fB t0 t1 : Nat} (bd : Body P f 36 [.tmp 6] (Qe9 fB t0 t1)) (hB : QeD P fB) : QeM P f := by
 intro n c fl hn hc hf
 refine Qi 1 rfl (QM _) (Qb bd (by simp) ?_)
 simp (disch := omega) only [rq, simprocAttr, Qe9]
 have hW : (QmX n c fl).map (fun v => AV.int .u64 (v : Nat)) = [AV.int .u64 2000, .int .u64 (n + 32), .int .u64 c, .int .u64 fl, .int .u64 0, .int .u64 0] := by simp [QmX]
 have e0 : QuC n c fl 0 = QAu := by simp [QuC]
 refine Qj (ι := Nat) (fun k => ⟨[(22, .int .i64 k), (21, .int .i64 6), (20, .own 1 6), (7, .own 0 (8 + 4 * k))], [⟨t0, 1, 8 + 4 * k, u8 (QuC n c fl k), 1⟩, ⟨t1, 1, 6, [.int .u64 2000, .int .u64 (n + 32), .int .u64 c, .int .u64 fl, .int .u64 0, .int .u64 0], 0⟩]⟩) (fun k => k ≤ 6) (fun k => 6 - k) 0 (by rw [e0]; exact Qe) (yd _) ?_
 intro k hk
 by_cases h6 : k < 6
 ·have hkl : k < (QmX n c fl).length := h6
  have hs := Qud n c fl k hkl
  have hlen := Qex n c fl k (by omega)
  have hv : (QmX n c fl)[k] < 256 ^ 4 := by
   have h4 : (256 : Nat) ^ 4 = 4294967296 := by decide
   have hm : ∀ v ∈ QmX n c fl, v < 4294967296 := by
    intro v hv
    simp only [QmX, qx, q9, or_false] at hv
    omega
   rw [h4]
   exact hm _ (qS hkl)
  have hB' := hB (QmX n c fl)[k] 4 (by omega) (by omega) hv
  rw [bs, QY] at hB'
  have hd : List.drop k ((QmX n c fl).map (fun v => AV.int .u64 (v : Nat))) = .int .u64 ((QmX n c fl)[k] : Nat) :: List.drop (k + 1) ((QmX n c fl).map (fun v => AV.int .u64 (v : Nat))) := by
   rw [qK (by simpa using hkl)]
   simp
  rw [hW] at hd
  generalize (QmX n c fl)[k] = V at *
  generalize QuC n c fl k = X at *
  simp (disch := omega) only [rq, simprocAttr, hd]
  refine Qa hB' ?_
  simp (disch := omega) only [rq, simprocAttr, QY, hlen]
  refine ⟨k + 1, by omega, by omega, ?_⟩
  rw [hs]
  have e4 : 8 + 4 * (k + 1) = 8 + 4 * k + 4 := by omega
  rw [e4]
  exact Qe
 ·obtain rfl : k = 6 := by omega
  have e : QuC n c fl 6 = QiA n c fl := rfl
  rw [e]
  have hl := Qex n c fl 6 (by omega)
  rw [e] at hl
  have tE := Zx (QiA n c fl)
  simp (disch := omega) only [rq, simprocAttr]
  simp [QK, Qx, frzL, Qu, isDL, isD, bs, hl, frzL_T _ tE]
def Qbh (b : List UInt8) : Nat := leN ((b.drop 12).take 4)
def Qfn (b : List UInt8) : Nat := leN ((b.drop 16).take 4)
def QuK (b : List UInt8) : Prop := 32 ≤ Qbh b ∧ Qbh b ≤ 3032 ∧ Qfn b ≤ 1000
instance (b : List UInt8) : Decidable (QuK b) := by unfold QuK; exact inferInstance
def QrM (n c : Nat) (r : Bool) : AV := if 32 ≤ n ∧ n ≤ 3032 ∧ c ≤ 1000 then .tup [.agg [.int .i64 ((n - 32 : Nat) : Int), .int .i64 (c : Nat)], .bool r] else .tup [.agg [.int .i64 0, .int .i64 0], .bool false]
def QrN (b : List UInt8) (fl : Nat) : AV := QrM (Qbh b) (Qfn b) (b == QiA (Qbh b - 32) (Qfn b) fl)
def QkD (P : Prg) (f : Nat) : Prop := ∀ (b : List UInt8) (fl : Nat), b.length = 32 → fl < 4294967296 → VC P f [bs b, .int .u64 fl] (QrN b fl)
theorem Quc {P : Prg} {f fA fE fQ t0 : Nat} (bd : Body P f 47 [.cell 4 t0, .tmp 5] (XU fA fE fQ t0)) (hA : QhI P fA) (hE : QeM P fE) (hQ : QaR P fQ) (ht : Zq P t0 = some (some 2)) : QkD P f := by
 intro b fl hb hf
 refine Qi 1 (by simp [isDL, QM, isD]) (by unfold QrN QrM; split <;> rfl) (Qb bd (by simp) ?_)
 have h1 := hA b 12 4 (by omega) (by omega) (by omega) (by omega)
 have h2 := hA b 16 4 (by omega) (by omega) (by omega) (by omega)
 rw [qh (by omega)] at h1 h2
 have e1 : leN ((b.drop 12).take 4) = Qbh b := rfl
 have e2 : leN ((b.drop 16).take 4) = Qfn b := rfl
 rw [e1] at h1
 rw [e2] at h2
 clear e1 e2
 have hE' := fun h : QuK b => hE (Qbh b - 32) (Qfn b) fl (by have := h.2.1; omega) (by have := h.2.2; omega) hf
 have hQ' := hQ b (QiA (Qbh b - 32) (Qfn b) fl)
 have hle : (QiA (Qbh b - 32) (Qfn b) fl).length = 32 := Qex _ _ _ 6 (by omega)
 unfold QrN
 simp only [QuK] at hE'
 generalize QiA (Qbh b - 32) (Qfn b) fl = E at *
 generalize Qbh b = n at h1 hE' ⊢
 generalize Qfn b = c at h2 hE' ⊢
 unfold QrM
 rw [bs, hb] at h1 h2 hQ' ⊢
 rw [bs, hle] at hQ'
 by_cases k1 : n < 32
 ·rw [qe (by omega)]
  simp (disch := omega) only [rq, simprocAttr, XU]
  refine Qa h1 ?_
  simp (disch := omega) only [rq, simprocAttr]
  refine Qa h2 ?_
  simp (disch := omega) only [rq, simprocAttr, QP, ht]
  simp [QK, Qx, frzL, Qu, isDL, isD]
 by_cases k2 : 3032 < n
 ·rw [qe (by omega)]
  simp (disch := omega) only [rq, simprocAttr, XU]
  refine Qa h1 ?_
  simp (disch := omega) only [rq, simprocAttr]
  refine Qa h2 ?_
  simp (disch := omega) only [rq, simprocAttr, QP, ht]
  simp [QK, Qx, frzL, Qu, isDL, isD]
 by_cases k3 : 1000 < c
 ·rw [qe (by omega)]
  simp (disch := omega) only [rq, simprocAttr, XU]
  refine Qa h1 ?_
  simp (disch := omega) only [rq, simprocAttr]
  refine Qa h2 ?_
  simp (disch := omega) only [rq, simprocAttr, QP, ht]
  simp [QK, Qx, frzL, Qu, isDL, isD]
 rw [qh (by omega)]
 have hE2 := hE' (by omega)
 rw [bs, hle] at hE2
 obtain ⟨m, rfl⟩ : ∃ m, n = m + 32 := ⟨n - 32, by omega⟩
 rw [Nat.add_sub_cancel] at hE2 ⊢
 have em : (m : Int) + 32 - 32 = m := by omega
 simp (disch := omega) only [rq, simprocAttr, XU]
 refine Qa h1 ?_
 simp (disch := omega) only [rq, simprocAttr]
 refine Qa h2 ?_
 simp (disch := omega) only [rq, simprocAttr, em]
 refine QN hE2 ?_
 simp (disch := omega) only [rq, simprocAttr]
 refine QN hQ' ?_
 simp (disch := omega) only [rq, simprocAttr, QP, ht]
 simp [QK, Qx, frzL, Qu, isDL, isD]
def apF (b : List UInt8) : Int × Int :=
 if b.take 8 ≠ [65, 80, 69, 84, 65, 71, 69, 88] then (0, 6)
 else if b.length < 32 then (0, 24)
 else if ¬ (32 ≤ Qbh (b.take 32) ∧ Qbh (b.take 32) ≤ 3032 ∧ Qfn (b.take 32) ≤ 1000) ∨ (b.take 32 == QiA (Qbh (b.take 32) - 32) (Qfn (b.take 32)) 2684354560) = false then (0, 12)
 else if b.length < Qbh (b.take 32) + 32 then (0, 24)
 else if ((b.drop (Qbh (b.take 32))).take 32 == QiA (Qbh (b.take 32) - 32) (Qfn (b.take 32)) 2147483648) = false then (0, 12)
 else ((Qbh (b.take 32) + 32 : Nat), 0)
def QhU (P : Prg) (f : Nat) : Prop := ∀ b : List UInt8, b.length ≤ 1000000 → VC P f [bs b] (.tup [.int .i64 (apF b).1, .int .i64 (apF b).2])
set_option maxHeartbeats 1000000 in
theorem Qrd {P : Prg} {f fH fT fN fE t0 t1 : Nat} (bd : Body P f 43 [.tmp 2, .tmp 3] (ZO fH fT fN fE t0 t1)) (hH : QmR P fH) (hT : QkD P fT) (hN : QeM P fN) (hE : QaR P fE) : QhU P f := by
 intro b hb
 refine QJ (by simp [isDL, QM]) rfl bd ?_
 have hH' := hH b [65, 80, 69, 84, 65, 71, 69, 88] hb (by simp)
 rw [show ([65, 80, 69, 84, 65, 71, 69, 88] : List UInt8).length = 8 from rfl] at hH'
 have tb := Zx b
 by_cases h3 : b.take 8 ≠ [65, 80, 69, 84, 65, 71, 69, 88]
 ·rw [apF, qh h3]
  rw [show (b.take 8 == [65, 80, 69, 84, 65, 71, 69, 88]) = false from yh.2 h3] at hH'
  have hH2 : VC P fH [.list b.length (u8 b), .list 8 [.int .u8 65, .int .u8 80, .int .u8 69, .int .u8 84, .int .u8 65, .int .u8 71, .int .u8 69, .int .u8 88]] (.bool false) := hH'
  simp only [bs]
  simp (disch := omega) only [rq, simprocAttr, ZO]
  refine Qv 1 [0] hH2 (by simp [QK, Qx, frzL, Qu, isDL, isD, frzL_T _ tb]) ?_
  simp (disch := omega) only [rq, simprocAttr, Qg]
 rw [apF, qe h3]
 have h3' : b.take 8 = [65, 80, 69, 84, 65, 71, 69, 88] := by simpa using h3
 rw [show (b.take 8 == [65, 80, 69, 84, 65, 71, 69, 88]) = true from beq_iff_eq.2 h3'] at hH'
 have hH2 : VC P fH [.list b.length (u8 b), .list 8 [.int .u8 65, .int .u8 80, .int .u8 69, .int .u8 84, .int .u8 65, .int .u8 71, .int .u8 69, .int .u8 88]] (.bool true) := hH'
 by_cases h10 : b.length < 32
 ·rw [qh h10]
  simp only [bs]
  simp (disch := omega) only [rq, simprocAttr, ZO]
  refine Qv 1 [0] hH2 (by simp [QK, Qx, frzL, Qu, isDL, isD, frzL_T _ tb]) ?_
  simp (disch := omega) only [rq, simprocAttr, Qg]
 rw [qe h10]
 have hl32 : (b.take 32).length = 32 := by simp; omega
 have hT' := hT (b.take 32) 2684354560 hl32 (by omega)
 have hu : u8 (b.take 32) = List.take 32 (u8 b) := by rw [Z1]
 rw [bs, hl32, hu, QrN] at hT'
 have hle : ∀ n c fl, (QiA n c fl).length = 32 := fun n c fl => Qex n c fl 6 (by omega)
 have hN' := hN (Qbh (b.take 32) - 32) (Qfn (b.take 32)) 2147483648
 have hE' := hE ((b.drop (Qbh (b.take 32))).take 32) (QiA (Qbh (b.take 32) - 32) (Qfn (b.take 32)) 2147483648)
 generalize hr : (b.take 32 == QiA (Qbh (b.take 32) - 32) (Qfn (b.take 32)) 2684354560) = r at *
 generalize Qbh (b.take 32) = n at *
 generalize Qfn (b.take 32) = c at *
 clear hr
 unfold QrM at hT'
 simp only [bs]
 by_cases k1 : 32 ≤ n ∧ n ≤ 3032 ∧ c ≤ 1000
 case neg =>
  rw [qe k1] at hT'
  rw [qh (.inl k1)]
  simp (disch := omega) only [rq, simprocAttr, ZO]
  refine Qv 1 [0] hH2 (by simp [QK, Qx, frzL, Qu, isDL, isD, frzL_T _ tb]) ?_
  simp (disch := omega) only [rq, simprocAttr, Qg]
  refine Qa hT' ?_
  simp (disch := omega) only [rq, simprocAttr]
 rw [qh k1] at hT'
 cases r with
 | false =>
  rw [qh (.inr rfl)]
  simp (disch := omega) only [rq, simprocAttr, ZO]
  refine Qv 1 [0] hH2 (by simp [QK, Qx, frzL, Qu, isDL, isD, frzL_T _ tb]) ?_
  simp (disch := omega) only [rq, simprocAttr, Qg]
  refine Qa hT' ?_
  simp (disch := omega) only [rq, simprocAttr]
 | true =>
  rw [qe (fun h => h.elim (fun h => h k1) (fun h => Bool.noConfusion h))]
  obtain ⟨m, rfl⟩ : ∃ m, n = m + 32 := ⟨n - 32, by omega⟩
  rw [Nat.add_sub_cancel] at hT' hN' hE' ⊢
  have hN2 := hN' (by omega) (by omega) (by omega)
  rw [bs, hle] at hN2
  by_cases k2 : b.length < m + 32 + 32
  ·rw [qh k2]
   simp (disch := omega) only [rq, simprocAttr, ZO]
   refine Qv 1 [0] hH2 (by simp [QK, Qx, frzL, Qu, isDL, isD, frzL_T _ tb]) ?_
   simp (disch := omega) only [rq, simprocAttr, Qg]
   refine Qa hT' ?_
   simp (disch := omega) only [rq, simprocAttr]
  rw [qe k2]
  have l32 : ((b.drop (m + 32)).take 32).length = 32 := by simp; omega
  rw [bs, bs, l32, hle] at hE'
  generalize QiA m c 2147483648 = E at *
  generalize hs : (b.drop (m + 32)).take 32 = S at *
  have hS : List.take 32 (List.drop (m + 32) (u8 b)) = u8 S := by rw [Zr, Z1, hs]
  have q1 : (m : Int) + 64 - 32 = ((m + 32 : Nat) : Int) := by omega
  simp (disch := omega) only [rq, simprocAttr, ZO]
  refine Qv 1 [0] hH2 (by simp [QK, Qx, frzL, Qu, isDL, isD, frzL_T _ tb]) ?_
  simp (disch := omega) only [rq, simprocAttr, Qg]
  refine Qa hT' ?_
  simp (disch := omega) only [rq, simprocAttr]
  refine QN hN2 ?_
  have q2 : m + 32 - m = 32 := by omega
  simp (disch := omega) only [rq, simprocAttr, q2, hS]
  refine QN hE' ?_
  cases hz : S == E with
  | false =>
   rw [qh rfl]
   simp (disch := omega) only [rq, simprocAttr]
  | true =>
   rw [qe (fun h => Bool.noConfusion h)]
   have q3 : (m : Int) + 64 = (m : Int) + 32 + 32 := by omega
   simp (disch := omega) only [rq, simprocAttr]
   rw [q3]
def szN (b : List UInt8) : Int × Int := if (idN b).2 ≠ 6 then idN b else apF b
def Qgv (P : Prg) (f : Nat) : Prop := ∀ b : List UInt8, b.length ≤ 1000000 → VC P f [bs b] (.tup [.int .i64 (szN b).1, .int .i64 (szN b).2])
theorem Qno {P : Prg} {f fI fA : Nat} (bd : Body P f 19 [.tmp 2, .tmp 3] (Qab fI fA)) (hI : QkN P fI) (hA : QhU P fA) : Qgv P f := by
 intro b hb
 refine QJ (by simp [isDL, QM]) rfl bd ?_
 have hI' := hI b hb
 have hA' := hA b hb
 unfold szN
 generalize idN b = x at *
 generalize apF b = y at *
 rw [bs] at hI' hA' ⊢
 by_cases h : x.2 ≠ 6
 ·rw [qh h]
  simp (disch := omega) only [rq, simprocAttr, Qab]
  refine Qa hI' ?_
  simp (disch := omega) only [rq, simprocAttr]
 ·rw [qe h]
  have h' : x.2 = 6 := by omega
  simp (disch := omega) only [rq, simprocAttr, Qab]
  refine Qa hI' ?_
  simp (disch := omega) only [rq, simprocAttr, h']
  refine Qa hA' ?_
  simp (disch := omega) only [rq, simprocAttr]
theorem QAV {b : List UInt8} (h : (idN b).2 = 0) : 10 ≤ (idN b).1 ∧ (idN b).1 ≤ 4000 ∧ (idN b).1 ≤ b.length := by
 unfold idN at h ⊢
 split at h
 ·cases h
 split at h
 ·cases h
 split at h
 ·cases h
 rename_i h1 h2 h3
 rw [qe h1, qe h2, qe h3]
 have hv := QoZ ((b.drop 6).take 4)
 generalize hn : (Qrv ((b.drop 6).take 4)).1 + 10 + (if (b.getD 5 0).toNat = 16 then (10 : Int) else 0) = n at h ⊢
 have hn2 : 10 ≤ n := by split at hn <;> omega
 dsimp only at h ⊢
 by_cases h4 : 4000 < n
 ·rw [qh h4] at h; cases h
 rw [qe h4] at h ⊢
 by_cases h5 : (b.length : Int) < n
 ·rw [qh h5] at h; cases h
 rw [qe h5] at h ⊢
 split at h
 ·cases h
 rename_i h6
 rw [qe h6]
 exact ⟨hn2, by omega, by omega⟩
theorem QA6 {b : List UInt8} (h : (apF b).2 = 0) : 64 ≤ (apF b).1 ∧ (apF b).1 ≤ 3064 ∧ (apF b).1 ≤ b.length := by
 unfold apF at h ⊢
 split at h
 ·cases h
 split at h
 ·cases h
 split at h
 ·cases h
 split at h
 ·cases h
 split at h
 ·cases h
 rename_i h1 h2 h3 h4 h5
 rw [qe h1, qe h2, qe h3, qe h4, qe h5]
 have h6 : 32 ≤ Qbh (b.take 32) ∧ Qbh (b.take 32) ≤ 3032 ∧ Qfn (b.take 32) ≤ 1000 := Decidable.not_not.1 fun hh => h3 (.inl hh)
 simp only
 omega
theorem QzF (b : List UInt8) : (idN b).2 = 0 ∨ ((idN b).2 = 4 ∨ (idN b).2 = 6 ∨ (idN b).2 = 12 ∨ (idN b).2 = 24) ∧ (idN b).1 = 0 := by
 unfold idN
 dsimp only
 repeat' split
 all_goals simp
theorem Qz5 (b : List UInt8) : (apF b).2 = 0 ∨ ((apF b).2 = 4 ∨ (apF b).2 = 6 ∨ (apF b).2 = 12 ∨ (apF b).2 = 24) ∧ (apF b).1 = 0 := by
 unfold apF
 repeat' split
 all_goals simp
theorem Qo4 (b : List UInt8) : (szN b).2 = 0 ∧ 10 ≤ (szN b).1 ∧ (szN b).1 ≤ 4000 ∧ (szN b).1 ≤ b.length ∨ ((szN b).2 = 4 ∨ (szN b).2 = 6 ∨ (szN b).2 = 12 ∨ (szN b).2 = 24) ∧ (szN b).1 = 0 := by
 unfold szN
 split
 ·rcases QzF b with h | h
  ·have := QAV h; exact .inl ⟨h, this⟩
  ·exact .inr h
 ·rcases Qz5 b with h | h
  ·have := QA6 h; exact .inl ⟨h, by omega, by omega, this.2.2⟩
  ·exact .inr h
def frF (b : List UInt8) : Nat → Nat → Int × Int
 | 0, a => (a, 0)
 | k + 1, a => if (szN (b.drop a)).2 = 6 then (a, 0) else if (szN (b.drop a)).2 ≠ 0 then (0, (szN (b.drop a)).2) else if 4000 < a + (szN (b.drop a)).1.toNat then (0, 4) else frF b k (a + (szN (b.drop a)).1.toNat)
def frN (b : List UInt8) : Int × Int := frF b 402 0
def tgF (b : List UInt8) : Nat → Nat → List (Int × Int)
 | 0, _ => []
 | k + 1, a => if (szN (b.drop a)).2 = 6 then [] else if (szN (b.drop a)).2 ≠ 0 then [szN (b.drop a)] else if 4000 < a + (szN (b.drop a)).1.toNat then [((szN (b.drop a)).1, 4)] else szN (b.drop a) :: tgF b k (a + (szN (b.drop a)).1.toNat)
def tgL (b : List UInt8) : List (Int × Int) := tgF b 402 0
def Qy2 (l : List (Int × Int)) : Int := (l.map Prod.fst).sum
theorem QrJ (b : List UInt8) : ∀ k a, (tgF b k a).length ≤ k
 | 0, a => by simp [tgF]
 | k + 1, a => by
  have := QrJ b k (a + (szN (b.drop a)).1.toNat)
  unfold tgF
  repeat' split
  all_goals simp
  omega
theorem QrK (b : List UInt8) : ∀ k a, ∀ x ∈ tgF b k a, 0 ≤ x.1 ∧ x.1 ≤ 4000 ∧ (x.2 = 0 ∨ x.2 = 4 ∨ x.2 = 12 ∨ x.2 = 24)
 | 0, a, x, h => by simp [tgF] at h
 | k + 1, a, x, h => by
  have hs := Qo4 (b.drop a)
  unfold tgF at h
  split at h
  ·simp at h
  split at h
  ·simp only [qH] at h
   subst h
   omega
  rename_i h2
  have h2 := Decidable.not_not.1 h2
  split at h
  ·simp only [qH] at h
   subst h
   have : 0 ≤ (szN (b.drop a)).1 ∧ (szN (b.drop a)).1 ≤ 4000 := by omega
   exact ⟨this.1, this.2, .inr (.inl rfl)⟩
  ·rcases qx.1 h with rfl | h
   ·exact ⟨by omega, by omega, .inl h2⟩
   ·exact QrK b k _ x h
theorem QrL (b : List UInt8) : ∀ k a, (∀ x ∈ tgF b k a, x.2 = 0) → frF b k a = (a + Qy2 (tgF b k a), 0)
 | 0, a, _ => by simp [tgF, frF, Qy2]
 | k + 1, a, h => by
  have hs := Qo4 (b.drop a)
  unfold frF
  unfold tgF at h ⊢
  split at h
  ·rename_i h1
   rw [qh h1, qh h1]
   simp [Qy2]
  rename_i h1
  rw [qe h1, qe h1]
  split at h
  ·rename_i h2
   exact absurd (h _ (by simp)) h2
  rename_i h2
  rw [qe h2, qe h2]
  split at h
  ·have := h _ (qH.2 rfl)
   simp at this
  rename_i h3
  rw [qe h3, qe h3, QrL b k _ fun x hx => h x (by simp [hx])]
  simp only [Qy2, qF, jd]
  congr 1
  omega
theorem Qo3 (b : List UInt8) : ∀ k a, ∀ x ∈ tgF b k a, x.2 ≠ 0 → frF b k a = (0, x.2)
 | 0, a, x, h, _ => by simp [tgF] at h
 | k + 1, a, x, h, hx => by
  unfold frF
  unfold tgF at h
  split at h
  ·simp at h
  rename_i h1
  rw [qe h1]
  split at h
  ·rename_i h2
   simp only [qH] at h
   subst h
   rw [qh h2]
  rename_i h2
  rw [qe h2]
  split at h
  ·rename_i h3
   simp only [qH] at h
   subst h
   rw [qh h3]
  rename_i h3
  rw [qe h3]
  rcases qx.1 h with rfl | h
  ·exact absurd hx h2
  ·exact Qo3 b k _ x h hx
theorem Qtn (b : List UInt8) : ∀ k a, a ≤ 4000 → a ≤ b.length → ((frF b k a).2 = 0 ∧ ∃ n : Nat, (frF b k a).1 = n ∧ n ≤ 4000 ∧ n ≤ b.length) ∨ (frF b k a).1 = 0 ∧ ((frF b k a).2 = 4 ∨ (frF b k a).2 = 12 ∨ (frF b k a).2 = 24)
 | 0, a, h, h2 => by exact .inl ⟨rfl, a, rfl, h, h2⟩
 | k + 1, a, h, h2 => by
  have hs := Qo4 (b.drop a)
  rw [qr] at hs
  unfold frF
  split
  ·exact .inl ⟨rfl, a, rfl, h, h2⟩
  split
  ·exact .inr ⟨rfl, by simp only; omega⟩
  split
  ·exact .inr ⟨rfl, .inl rfl⟩
  ·exact Qtn b k _ (by omega) (by omega)
theorem Qhe (b : List UInt8) : ((frN b).2 = 0 ∧ ∃ n : Nat, (frN b).1 = n ∧ n ≤ 4000 ∧ n ≤ b.length) ∨ (frN b).1 = 0 ∧ ((frN b).2 = 4 ∨ (frN b).2 = 12 ∨ (frN b).2 = 24) :=
 Qtn b 402 0 (by omega) (by omega)
theorem QmZ {P : Program} {o : Oper} {c : Call} {t s1 s2 l : Nat} {a : Act} {w : World} {u v : Value} {R : Ending → World → Prop} {next : Act → World → Prop} {Q : Exit → Act → World → Prop}
  (ho : o.op = .call c) (hcal : c.callee = .value (.tmp t)) (hargs : c.args = #[.tmp s1, .tmp s2]) (ht : a.tmps.getD t undef = .func (.yield l) #[] #[]) (hs1 : a.tmps.getD s1 undef = u) (hs2 : a.tmps.getD s2 undef = v)
  (hY : YieldAt Fence.wide 3 P l #[u, v] w R) (hR : ∀ e w', R e w' → ∃ b, e = .returned (.bool b) ∧ next (a.put o.dst (.bool b)) w') : o.wpIn Fence.wide 4 P a w next Q := by
 obtain ⟨fn, tmps, assign, body, hy, hr⟩ := hY
 unfold Oper.wpIn
 refine ⟨fun _ _ => trivial, ?_⟩
 rw [Qzb]
 have he : (execOp a.eval o).run P w = .ok (.round l fn tmps assign body) w := by
  have e1 : a.eval (.tmp t) = .func (.yield l) #[] #[] := ht
  have e2 : a.eval (.tmp s1) = u := hs1
  have e3 : a.eval (.tmp s2) = v := hs2
  simp only [execOp, ho, resolve, hcal, hargs, e1, Deferred.ofValue, invoke, Sem.run_bind, Sem.run_pure, Result.andThen_ok]
  simpa [e2, e3] using hy
 rw [he]
 refine ⟨(fun h => by cases h), RoundIn.mono hr fun e w' h => ?_⟩
 obtain ⟨b, rfl, h2⟩ := hR e w' h
 exact h2
def ΓZ (W : World) (N : Nat) : Ctx := ⟨W.heap.size, ⟨W, [], [], fun _ _ => False⟩, N, []⟩
theorem QAi {N : Nat} {fr : List (Nat × AV)} {a : Act} {W : World} (hd : a.defers = []) (hz : a.tmps.size = N) (h : ∀ i, Rep ⟨W, [], [], fun _ _ => False⟩ (look fr i) (a.tmps.getD i undef)) : Sim (ΓZ W N) ⟨fr, []⟩ a W :=
 ⟨hd, hz, Below.refl _ _, [], ⟨rfl, by simp, by simp, by simp, fun _ _ h => h.elim, qj _⟩, Moves.refl _, h⟩
theorem Qct {N i : Nat} {st : St} {k : IntKind} {n : Int} {a : Act} {W W' : World} (h : Sim (ΓZ W N) st a W') (e : look st.fr i = .int k n) : a.tmps.getD i undef = .int k n := by
 obtain ⟨_, _, _, _, _, _, h⟩ := h
 have h := h i
 simp only [e, Rep] at h
 exact h
theorem QdK {N i : Nat} {st : St} {b : Bool} {a : Act} {W W' : World} (h : Sim (ΓZ W N) st a W') (e : look st.fr i = .bool b) : a.tmps.getD i undef = .bool b := by
 obtain ⟨_, _, _, _, _, _, h⟩ := h
 have h := h i
 simp only [e, Rep] at h
 exact h
theorem Qu1 {N i : Nat} {st : St} {v : Value} {a : Act} {W W' : World} (h : Sim (ΓZ W N) st a W') (e : look st.fr i = .lit v) : a.tmps.getD i undef = v := by
 obtain ⟨_, _, _, _, _, _, h⟩ := h
 have h := h i
 simp only [e, Rep] at h
 exact h
set_option maxHeartbeats 1000000 in
theorem Qnn {P : Prg} {f fS : Nat} (bd : Body P f 35 [] (X2 fS)) (hS : Qgv P fS) (b : List UInt8) (hbl : b.length ≤ 1000000) : Qur P f [bs b] (cnt := (tgL b).length) (fun j => (tgL b)[j]) := by
 intro w C v1 hv1 hex hG ll J Jx W hW hJ hJx hY hJ0
 obtain ⟨cnt, hcnt⟩ : ∃ cnt, (tgL b).length = cnt := ⟨_, rfl⟩
 obtain ⟨KC, hKC⟩ : ∃ KC : World → Prop, ∀ W', KC W' = ∀ (b k : Nat) (v : Value), ¬ C b k → w.cell? ⟨b, k, none⟩ = some v → W'.cell? ⟨b, k, none⟩ = some v := ⟨_, fun _ => rfl⟩
 have hkw : KC W := by rw [hKC]; exact fun b k v _ hc => (hW.cell (p := ⟨b, k, none⟩) (World.block_lt_of_cell? w _ hc)).trans hc
 have hKs : ∀ {A B : World}, KC A → Below A.heap.size A B → KC B := fun {A B} h1 h2 => by
  rw [hKC] at h1 ⊢
  exact fun b k v hc hv => (h2.cell (p := ⟨b, k, none⟩) (World.block_lt_of_cell? A _ (h1 b k v hc hv))).trans (h1 b k v hc hv)
 have hun : ∀ {W' : World}, KC W' → ∀ (c : AV) (v : Value), isD c = true → Rep ⟨w, [], [], C⟩ c v → Rep ⟨W', [], [], fun _ _ => False⟩ c v := fun {W'} h c v hd hr =>
  Rep.data (X := ⟨w, [], [], C⟩) (Y := ⟨W', [], [], fun _ _ => False⟩) (fun b k v hc ha => ⟨by rw [hKC] at h; exact h b k v (fun h => ha (.inl h)) hc, fun h => by
   rcases h with h | ⟨o, x, c, h1, h2, _⟩
   ·exact h.elim
   ·simp at h2⟩) c v hd hr
 obtain ⟨fn, hf, hnm, hN, hrl, hc'⟩ := bd
 obtain ⟨cc, hb, hc⟩ := qg.1 hc'
 refine callsIn_of_wp hf hb trivial ?_ rfl
 rw [hN]
 unfold X2 at hc
 obtain ⟨d0, r1, rfl, hd0, hr1⟩ := QC hc
 obtain ⟨c2, rfl, hc2⟩ := Xe hr1
 obtain ⟨c3, rfl, hc3⟩ := QcB hc2
 obtain ⟨c4, rfl, hc4⟩ := Xe hc3
 obtain ⟨d1, s1, rfl, hd1, hs1⟩ := QC hc4
 obtain ⟨d2, s2, rfl, hd2, hs2⟩ := QC hs1
 obtain ⟨s3, s4, rfl, hs3, hs4⟩ := QC hs2
 obtain ⟨s5, rfl, hs5⟩ := Xe hs3
 obtain ⟨d3, dA, rfl, hd3, hdA⟩ := QC hs5
 obtain ⟨y1, y2, rfl, hy1, hy2⟩ := Xn hdA
 obtain rfl := Qeb hy1
 obtain ⟨d4, dB, rfl, hd4, hdB⟩ := QC hy2
 obtain ⟨d5, y4, rfl, hd5, hy4⟩ := Xn hdB
 obtain rfl := Jt hy4
 obtain ⟨d6, dC, rfl, hd6, hdC⟩ := QC hs4
 obtain ⟨y5, y6, rfl, hy5, hy6⟩ := Xn hdC
 obtain rfl := Qeb hy5
 obtain rfl := Jt hy6
 obtain ⟨id6, ops6, rfl, hm6⟩ := Qcf hd6
 obtain ⟨l2, l3, hops6, hm2, hm3⟩ := QdZ (q1 := [_, _, _]) hm6
 obtain ⟨oY, l1, rfl, hoY, hm1⟩ := QdX hm3
 obtain ⟨yv, hyv⟩ : ∃ yv, yv = (Value.func (.yield ll) #[] #[]) := ⟨_, rfl⟩
 rw [← hyv]
 let a0 : Act := { tmps := #[yv] ++ #[v1] ++ Array.replicate (35 - (#[yv] ++ #[v1]).size) undef, defers := [] }
 show Code.wpIn _ _ _ _ _ a0 _
 let SL : Act → Prop := fun a => a.defers = [] ∧ a.tmps.size = 35 ∧ a.tmps.getD 0 undef = yv ∧ a.tmps.getD 1 undef = v1
 have hSL0 : SL a0 := ⟨rfl, by simp [a0], by simp [a0], by simp [a0]⟩
 let I2 : List (Nat × Value) := [(0, yv), (1, v1)]
 have hI : ∀ {qs : List AO} {a : Act}, (Qbt 0 qs && Qbt 1 qs) = true → SL a → ∀ p ∈ I2, Qbt p.1 qs = true ∧ a.tmps.getD p.1 undef = p.2 := fun h1 h2 p hp => by
  simp only [ql] at h1
  obtain ⟨_, _, e0, e1⟩ := h2
  simp only [I2, qx, q9, or_false] at hp
  rcases hp with rfl | rfl
  ·exact ⟨h1.1, e0⟩
  ·exact ⟨h1.2, e1⟩
 let base : List (Nat × AV) := [(0, .lit yv), (1, .cell [.list b.length (u8 b)])]
 have hrep : ∀ {W' : World} {a : Act}, KC W' → SL a → ∀ i, Rep ⟨W', [], [], fun _ _ => False⟩ (look base i) (a.tmps.getD i undef) := fun {W' a} hk h => by
  obtain ⟨_, _, e0, e1⟩ := h
  exact ZQ (by rw [e0]; simp only [Rep]) (ZQ (by rw [e1]; exact hun hk _ _ (by simp [isD, isDL, Qhb]) hv1) QjI)
 have hslN : ∀ {W' : World} {st : St} {a : Act} {W2 : World}, Sim (ΓZ W' 35) st a W2 → (∀ p ∈ I2, a.tmps.getD p.1 undef = p.2) → SL a := fun h1 h2 =>
  ⟨h1.1, h1.2.1, h2 (0, yv) (by simp [I2]), h2 (1, v1) (by simp [I2])⟩
 have hF : ∀ {W' : World}, KC W' → Fit P 35 (ΓZ W' 35) := fun {W'} h => ⟨rfl, fun q cs hq => hun h _ _ (by simp only [isD]; exact P.gd q cs hq) (hG q cs hq)⟩
 have bel : ∀ {W' W2 : World} {st : St} {a : Act}, Sim (ΓZ W' 35) st a W2 → Below W'.heap.size W' W2 := fun h => h.2.2.1
 have hJs : ∀ {s : List _} {W' W2 : World}, J s W' → Below W'.heap.size W' W2 → J s W2 := fun h1 h2 => hJ _ _ _ none h1 (Qfx h2) (fun r h => by cases h)
 refine wpIn_seq ?_
 refine Ze (Q := fun _ st' => Le 0 st' ⟨(3, .int .i64 0) :: base, []⟩) (hF hkw) hd0 I2 (hI rfl hSL0) (by simp (disch := omega) only [rq, simprocAttr, base]; exact Qe) (QAi hSL0.1 hSL0.2.1 (hrep hkw hSL0)) ?_
 intro st0 a1 W1 hle1 hs1' t1
 have hs1 := hle1 _ _ _ rfl hs1'
 have hSL1 := hslN hs1 t1
 have hk1 := hKs hkw (bel hs1)
 have hJ1 := hJs hJ0 (bel hs1)
 show (Code.block 0 (.loop _)).wpIn Fence.wide 4 _ _ a1 W1
 refine wpIn_block ?_
 refine wpIn_loop (fun a W' => ∃ (j k at' : Nat), j + k = 402 ∧ at' ≤ 4000 ∧ at' ≤ b.length ∧ 4001 ≤ at' + 10 * k ∧ j ≤ cnt ∧ tgF b k at' = (tgL b).drop j ∧ SL a ∧ a.tmps.getD 3 undef = .int .i64 at' ∧ KC W' ∧ J ((List.finRange (tgL b).length).take j) W') (fun a _ => match a.tmps.getD 3 undef with | .int _ z => 4001 - z.toNat | _ => 0) ?_ ?_
 ·exact ⟨0, 402, 0, rfl, by omega, yd _, by omega, yd _, rfl, hSL1, Qct hs1 rfl, hk1, hJ1⟩
 intro a Wj ⟨j, k', at', hjk, ha1, ha2, hak, hj, htg, sl, e3, kc, hJj⟩
 obtain ⟨k, rfl⟩ : ∃ k, k' = k + 1 := ⟨k' - 1, by omega⟩
 have fin : ∀ (k : Nat) (hk : k < cnt), (List.finRange (tgL b).length).take (k + 1) = (List.finRange (tgL b).length).take k ++ [⟨k, by rw [hcnt]; exact hk⟩] := fun k hk => by
  rw [qm (by simpa [hcnt] using hk)]
  simp
 have hse := Qo4 (b.drop at')
 rw [qr] at hse
 have hS' := hS (b.drop at') (by rw [qr]; omega)
 unfold tgF at htg
 have hsl : ((u8 b).drop at').take (b.length - at') = u8 (b.drop at') := by rw [Zr]; exact qi (by rw [Qk, qr]; omega)
 rw [bs, qr] at hS'
 generalize hX : szN (b.drop at') = X at *
 obtain ⟨n, e⟩ := X
 simp only at hse htg hS'
 have hsj : Sim (ΓZ Wj 35) ⟨(3, .int .i64 at') :: base, []⟩ a Wj := QAi sl.1 sl.2.1 (ZQ (by rw [e3]; simp only [Rep]) (hrep kc sl))
 show (Code.block 1 _).wpIn Fence.wide 4 _ _ a Wj
 refine wpIn_block (wpIn_seq ?_)
 refine Ze (Q := fun _ st' => Le 0 st' ⟨(4, .int .i64 n) :: (5, .int .i64 e) :: (3, .int .i64 at') :: base, []⟩) (hF kc) hd1 I2 (hI rfl sl) (by simp (disch := omega) only [rq, simprocAttr, base, hsl]; refine Qa hS' ?_; simp (disch := omega) only [rq, simprocAttr]; exact Qe) hsj ?_
 intro st1 aA WA hleA hsA' tA
 have hsA := hleA _ _ _ rfl hsA'
 have slA := hslN hsA tA
 show (Code.seq d2 _).wpIn Fence.wide 4 _ _ aA WA
 have hn0 : 0 ≤ n ∧ n ≤ 4000 := by omega
 obtain ⟨m, rfl⟩ : ∃ m : Nat, n = m := ⟨n.toNat, by omega⟩
 rw [qw] at htg
 refine wpIn_seq ?_
 refine Ze (Q := fun _ st' => Le 0 st' ⟨(3, .int .i64 ((at' + m : Nat) : Int)) :: (4, .int .i64 m) :: (5, .int .i64 e) :: base, []⟩) (hF kc) hd2 I2 (hI rfl slA) (by simp (disch := omega) only [rq, simprocAttr, base]; exact Qe) hsA ?_
 intro st2 aB WB hleB hsB' tB
 have hsB := hleB _ _ _ rfl hsB'
 have slB := hslN hsB tB
 show (Code.seq (.block 2 (.seq d3 _)) _).wpIn Fence.wide 4 _ _ aB WB
 refine wpIn_seq (wpIn_block (wpIn_seq ?_))
 refine Ze (Q := fun _ st' => Le 0 st' ⟨(16, .bool (decide (e = 6))) :: (3, .int .i64 ((at' + m : Nat) : Int)) :: (4, .int .i64 m) :: (5, .int .i64 e) :: base, []⟩) (hF kc) hd3 I2 (hI rfl slB) (by simp (disch := omega) only [rq, simprocAttr, base]; exact Qe) hsB ?_
 intro st3 aC WC hleC hsC' tC
 have hsC := hleC _ _ _ rfl hsC'
 have slC := hslN hsC tC
 show (Code.cond _ .ret _).wpIn Fence.wide 4 _ _ aC WC
 have h16 := QdK hsC (i := 16) rfl
 have kcC := hKs kc (bel hsC)
 have hJC := hJs hJj (bel hsC)
 by_cases h6 : e = 6
 ·rw [decide_eq_true h6] at h16
  refine wpIn_cond_true h16 (wpIn_ret ?_)
  rw [qh h6] at htg
  have hjc : j = cnt := by
   have := congrArg List.length htg
   rw [qr, hcnt] at this
   simp at this
   omega
  rw [hjc, qi (by simp; omega)] at hJC
  exact ⟨slC.1, .tuple #[], results_none (ye hrl) _ _ _, ⟨_, rfl⟩, .inl ⟨_, rfl, hJC⟩⟩
 rw [decide_eq_false h6] at h16
 rw [qe h6] at htg
 refine wpIn_cond_false h16 (wpIn_seq ?_)
 obtain ⟨e', he'⟩ : ∃ e', e' = if e = 0 ∧ 4000 < at' + m then 4 else e := ⟨_, rfl⟩
 have hjl : ∃ R, (tgL b).drop j = (((m : Int), e') : Int × Int) :: R ∧ (e' ≠ 0 → R = []) ∧ (e' = 0 → R = tgF b k (at' + m) ∧ at' + m ≤ 4000 ∧ e = 0) := by
  by_cases h0 : e = 0
  ·subst h0
   rw [qe (by omega)] at htg
   by_cases h4 : 4000 < at' + m
   ·rw [qh h4] at htg
    rw [qh ⟨rfl, h4⟩] at he'
    exact ⟨[], by rw [← htg, he'], fun _ => rfl, fun h => by omega⟩
   ·rw [qe h4] at htg
    rw [qe (by omega)] at he'
    exact ⟨_, by rw [← htg, he'], fun h => absurd he' h, fun _ => ⟨rfl, by omega, rfl⟩⟩
  ·rw [qh h0] at htg
   rw [qe (by omega)] at he'
   exact ⟨[], by rw [← htg, he'], fun _ => rfl, fun h => absurd (he'.symm.trans h) h0⟩
 obtain ⟨R, hdj, hR1, hR2⟩ := hjl
 have hjc : j < cnt := by
  have := congrArg List.length hdj
  rw [qr, hcnt] at this
  simp only [qo] at this
  omega
 have hgj : (tgL b)[j]'(by omega) = ((m : Int), e') := by
  have : (tgL b)[j]? = some ((m : Int), e') := by have h := congrArg (·[0]?) hdj; simpa using h
  exact (qb.1 this).2
 have hdj1 : (tgL b).drop (j + 1) = R := by
  have h := congrArg (List.drop 1) hdj
  rw [jy] at h
  simpa using h
 have he3 : e' = 0 ∨ e' = 4 ∨ e' = 12 ∨ e' = 24 := by rw [he']; split <;> omega
 have rest : ∀ (aD : Act) (WD : World) (stD : St), Sim (ΓZ Wj 35) stD aD WD → Le 0 stD ⟨(3, .int .i64 ((at' + m : Nat) : Int)) :: (4, .int .i64 m) :: (5, .int .i64 e') :: base, []⟩ → (∀ p ∈ I2, aD.tmps.getD p.1 undef = p.2) →
   (Code.seq (.region id6 ops6 false) (.cond (.tmp 34) .ret .skip)).wpIn Fence.wide 4 P.prog (fun ex a' w' => match ex with
    | .normal => (∃ (j k at' : Nat), j + k = 402 ∧ at' ≤ 4000 ∧ at' ≤ b.length ∧ 4001 ≤ at' + 10 * k ∧ j ≤ cnt ∧ tgF b k at' = (tgL b).drop j ∧ SL a' ∧ a'.tmps.getD 3 undef = .int .i64 at' ∧ KC w' ∧ J ((List.finRange (tgL b).length).take j) w') ∧ (match a'.tmps.getD 3 undef with | .int _ z => 4001 - z.toNat | _ => 0) < 4001 - at'
    | .ret => a'.defers = [] ∧ ((∃ xs, xs = List.finRange (tgL b).length ∧ J xs w') ∨ (∃ pre, Jx pre w'))
    | _ => False) aD WD := by
  intro aD WD stD hsD' hleD tD
  have hsD := hleD _ _ _ rfl hsD'
  have slD := hslN hsD tD
  refine wpIn_seq (wpIn_region_list ?_)
  rw [hops6]
  refine XP l2 _ aD WD (Qn ?_ _ _ _ (Xb (Q := fun _ st' => Le 0 st' ⟨(26, .lit yv) :: (27, .int .i64 m) :: (28, .int .i64 e') :: (3, .int .i64 ((at' + m : Nat) : Int)) :: (5, .int .i64 e') :: base, []⟩) (hF kc) hm2 I2 (hI rfl slD) (by simp (disch := omega) only [rq, simprocAttr, base]; exact Qe) hsD))
  rintro _ a7 W7 ⟨rfl, st7, hle7, hs7', t7⟩
  have hs7 := hle7 _ _ _ rfl hs7'
  have sl7 := hslN hs7 t7
  have kc7 := hKs kc (bel hs7)
  have hJ7 := hJs hJj (bel hs7)
  show wpListIn Fence.wide 4 _ _ _ (oY :: l1) a7 W7
  have f26 := Qu1 hs7 (i := 26) rfl
  have f27 := Qct hs7 (i := 27) rfl
  have f28 := Qct hs7 (i := 28) rfl
  have f3 := Qct hs7 (i := 3) rfl
  have f5 := Qct hs7 (i := 5) rfl
  obtain ⟨cY, dY, _, gY⟩ := Zi hoY
  obtain ⟨cl, opY, calY, argY⟩ := JN cY
  have gY' : oY.guard = none := by
   rcases gY with ⟨h, _⟩ | ⟨_, _, _, _, _, h⟩
   ·exact h
   ·cases h
  have argY' : cl.args = #[.tmp 27, .tmp 28] := ye argY.symm
  have hY' := hY ((List.finRange (tgL b).length).take j) ⟨j, by omega⟩ W7 hJ7 (by simp; omega)
  simp only [Fin.getElem_fin, hgj] at hY'
  unfold wpListIn
  rw [qh (by simp [Region.wanted, gY'])]
  refine QmZ opY calY argY' (f26.trans hyv) f27 f28 hY' ?_
  rw [← dY]
  have p29 : ∀ bb : Bool, (a7.put (some 29) (.bool bb)).tmps.getD 29 undef = .bool bb := fun bb => by simp [Act.put, sl7.2.1]
  have pO : ∀ (bb : Bool) (i : Nat), i ≠ 29 → (a7.put (some 29) (.bool bb)).tmps.getD i undef = a7.tmps.getD i undef := fun bb i h => Z9 (by simpa using fun h' => h h'.symm)
  have slY : ∀ bb : Bool, SL (a7.put (some 29) (.bool bb)) := fun bb => by
   obtain ⟨g1, g2, g3, g4⟩ := sl7
   exact ⟨by rw [Jq]; exact g1, by rw [Xm]; exact g2, by rw [pO bb 0 (by omega)]; exact g3, by rw [pO bb 1 (by omega)]; exact g4⟩
  rintro ex W8 (⟨rfl, hJ8, hK8⟩ | ⟨rfl, hX8⟩)
  ·refine ⟨true, rfl, ?_⟩
   have kc8 : KC W8 := by
    rw [hKC] at kc7 ⊢
    exact fun b k v hc hv => hK8.2 b k v hc (kc7 b k v hc hv)
   have hs8 : Sim (ΓZ W8 35) ⟨(29, .bool true) :: (3, .int .i64 ((at' + m : Nat) : Int)) :: (5, .int .i64 e') :: base, []⟩ (a7.put (some 29) (.bool true)) W8 :=
    QAi (slY true).1 (slY true).2.1 (ZQ (by rw [p29]; simp only [Rep]) (ZQ (by rw [pO true 3 (by omega), f3]; simp only [Rep]) (ZQ (by rw [pO true 5 (by omega), f5]; simp only [Rep]) (hrep kc8 (slY true)))))
   refine Qn ?_ _ _ _ (Xb (Q := fun _ st' => Le 0 st' ⟨(34, .bool (decide (e' ≠ 0))) :: (3, .int .i64 ((at' + m : Nat) : Int)) :: base, []⟩) (hF kc8) hm1 I2 (hI rfl (slY true)) (by
    rcases he3 with h | h | h | h <;> rw [h] <;> simp (disch := omega) only [rq, simprocAttr, base, yq] <;> exact Qe) hs8)
   rintro _ a9 W9 ⟨rfl, st9, hle9, hs9', t9⟩
   have hs9 := hle9 _ _ _ rfl hs9'
   have sl9 := hslN hs9 t9
   have h34 := QdK hs9 (i := 34) rfl
   have f39 := Qct hs9 (i := 3) rfl
   have hJ9 := hJs hJ8 (bel hs9)
   rw [← fin j hjc] at hJ9
   show (Code.cond _ .ret .skip).wpIn Fence.wide 4 _ _ a9 W9
   by_cases h0 : e' = 0
   ·rw [decide_eq_false (by simpa using h0)] at h34
    obtain ⟨r1, r2, r3⟩ := hR2 h0
    refine wpIn_cond_false h34 (wpIn_skip ?_)
    refine ⟨⟨j + 1, k, at' + m, by omega, r2, by omega, by omega, hjc, by rw [hdj1, r1], sl9, f39, hKs kc8 (bel hs9), hJ9⟩, ?_⟩
    simp only [f39, qw]
    have hm1 : 10 ≤ m := by omega
    clear hjk hak hse he3 hdj hdj1 hgj hJ9 hJ8 hY' hX
    show 4001 - (at' + m) < 4001 - at'
    omega
   ·rw [decide_eq_true (by simpa using h0)] at h34
    refine wpIn_cond_true h34 (wpIn_ret ?_)
    have hj1 : j + 1 = cnt := by
     have := congrArg List.length hdj1
     rw [qr, hcnt, hR1 h0] at this
     simp at this
     omega
    rw [hj1, qi (by simp; omega)] at hJ9
    exact ⟨sl9.1, .inl ⟨_, rfl, hJ9⟩⟩
  ·refine ⟨false, rfl, ?_⟩
   let P0 : Prg := ⟨P.prog, [], fun _ _ h => by cases h⟩
   have hs8 : Sim (ΓZ W8 35) ⟨[(29, .bool false), (5, .int .i64 e')], []⟩ (a7.put (some 29) (.bool false)) W8 :=
    QAi (slY false).1 (slY false).2.1 (ZQ (by rw [p29]; simp only [Rep]) (ZQ (by rw [pO false 5 (by omega), f5]; simp only [Rep]) QjI))
   refine Qn ?_ _ _ _ (Xb (P := P0) (N := 35) (Γ := ΓZ W8 35) (Q := fun _ st' => Le 0 st' ⟨[(34, .bool true)], []⟩) ⟨rfl, fun _ _ h => by cases h⟩ hm1 [] (fun p hp => by cases hp)
    (by simp (disch := omega) only [rq, simprocAttr, yJ]; exact Qe) hs8)
   rintro _ a9 W9 ⟨rfl, st9, hle9, hs9', t9⟩
   have hs9 := hle9 _ _ _ rfl hs9'
   have h34 := QdK hs9 (i := 34) rfl
   show (Code.cond _ .ret .skip).wpIn Fence.wide 4 _ _ a9 W9
   refine wpIn_cond_true h34 (wpIn_ret ?_)
   exact ⟨hs9.1, .inr ⟨_, hJx _ W8 W9 none hX8 (Qfx (bel hs9)) (fun r h => by cases h)⟩⟩
 have hm : (match a.tmps.getD 3 undef with | .int _ z => 4001 - z.toNat | _ => 0) = 4001 - at' := by simp [e3]
 refine Ze (Q := fun _ st' => Le 0 st' ⟨(19, .bool (decide (e = 0 ∧ 4000 < at' + m))) :: (3, .int .i64 ((at' + m : Nat) : Int)) :: (4, .int .i64 m) :: (5, .int .i64 e) :: base, []⟩) (hF kc) hd4 I2 (hI rfl slC) (by
  by_cases h0 : e = 0
  ·by_cases h4 : 4000 < at' + m
   ·rw [decide_eq_true ⟨h0, h4⟩]; subst h0; simp (disch := omega) only [rq, simprocAttr, base]; exact Qe
   ·rw [decide_eq_false (fun h => h4 h.2)]; subst h0; simp (disch := omega) only [rq, simprocAttr, base]; exact Qe
  ·rw [decide_eq_false (fun h => h0 h.1)]; simp (disch := omega) only [rq, simprocAttr, base]; exact Qe) hsC ?_
 intro st4 aD WD hleD hsD' tD
 have hsD := hleD _ _ _ rfl hsD'
 have slD := hslN hsD tD
 have h19 := QdK hsD (i := 19) rfl
 show (Code.cond _ d5 .skip).wpIn Fence.wide 4 _ _ aD WD
 by_cases hc4 : e = 0 ∧ 4000 < at' + m
 ·rw [decide_eq_true hc4] at h19
  rw [qh hc4] at he'
  refine wpIn_cond_true h19 ?_
  refine Ze (Q := fun _ st' => Le 0 st' ⟨(3, .int .i64 ((at' + m : Nat) : Int)) :: (4, .int .i64 m) :: (5, .int .i64 e') :: base, []⟩) (hF kc) hd5 I2 (hI rfl slD) (by rw [he']; simp (disch := omega) only [rq, simprocAttr, base]; exact Qe) hsD ?_
  intro st5 aE WE hleE hsE tE
  refine wpIn_mono (rest aE WE st5 hsE hleE tE) ?_
  rintro ex a' w' h
  cases ex with
  | normal => exact ⟨h.1, by rw [hm]; exact h.2⟩
  | ret => exact ⟨h.1, .tuple #[], results_none (ye hrl) _ _ _, ⟨_, rfl⟩, h.2.imp id fun ⟨pre, h⟩ => ⟨pre, trivial, h⟩⟩
  | exit id => exact h.elim
  | goto l => exact h.elim
  | panic ch => exact h.elim
  | outgrown => exact h.elim
 ·rw [decide_eq_false hc4] at h19
  rw [qe hc4] at he'
  refine wpIn_cond_false h19 (wpIn_skip ?_)
  refine wpIn_mono (rest aD WD _ hsD (by rw [he']; exact QB (by simp [Am.look, base])) tD) ?_
  rintro ex a' w' h
  cases ex with
  | normal => exact ⟨h.1, by rw [hm]; exact h.2⟩
  | ret => exact ⟨h.1, .tuple #[], results_none (ye hrl) _ _ _, ⟨_, rfl⟩, h.2.imp id fun ⟨pre, h⟩ => ⟨pre, trivial, h⟩⟩
  | exit id => exact h.elim
  | goto l => exact h.elim
  | panic ch => exact h.elim
  | outgrown => exact h.elim
def Xj (fT t0 t1 : Nat) : RC2 := ⟨[.reg [zs 2 (.alloc t0 [.int .i64 0]), zs 3 (.alloc t1 [.int .i64 0])], .reg [zs 4 (.alloc t0 [.int .i64 0]), zu (.store 1 (.tmp 4) (.const (.int .i64 0)))]], 8, 9, 10, 5, 6, .reg [zm 7 0, zq 8 fT [(.tmp 7)]], .block 1 (.seq (.seq (.reg [zm 11 6, ⟨some 12, none, .op (.bin .neq (.tmp 11) (.const (.int .i64 0)))⟩]) (.cond (.tmp 12) (.seq (.reg [zm 13 6, ⟨none, none, .op (.store 1 (.tmp 2) (.const (.int .i64 0)))⟩, ⟨none, none, .op (.store 1 (.tmp 3) (.tmp 13))⟩]) (.ret)) (.skip))) (.reg [⟨some 14, none, .op (.load none (.tmp 4))⟩, zm 15 5, ⟨some 16, none, .op (.bin .add (.tmp 14) (.tmp 15))⟩, ⟨none, none, .op (.store 1 (.tmp 4) (.tmp 16))⟩])), .seq (.reg [zl 17 4, zw 1 2 17, zu (.store 1 (.tmp 3) (.const (.int .i64 0)))]) (.ret)⟩
def QcG (P : Prg) (f : Nat) : Prop := ∀ b : List UInt8, b.length ≤ 1000000 → VC P f [bs b] (.tup [.int .i64 (frN b).1, .int .i64 (frN b).2])
theorem Qlu {P : Prg} {f fT g fS t0 t1 : Nat} (bd : Qwu P f 18 [.cell 2 t0, .cell 3 t1] (Xj fT t0 t1)) (hT : QoH g P fT) (bG : Body P g 35 [] (X2 fS)) (hS : Qgv P fS) (h0 : Zq P t0 = some none) (h1 : Zq P t1 = some none) : QcG P f := by
 intro b hb
 refine QaD (by simp [isDL, QM]) rfl (ACall.of_rangeV bd (by simp) ?_)
 have hT' := hT b
 have hI := Qnn bG hS b hb
 have hc : isDL [bs b] = true := by simp [isDL, QM]
 have hB : ∀ j : Fin (tgL b).length, 0 ≤ (tgL b)[j].1 ∧ (tgL b)[j].1 ≤ 4000 := fun j => by
  have := QrK b 402 0 _ (qS j.2)
  exact ⟨this.1, this.2.1⟩
 have hL : (tgL b).length ≤ 402 := QrJ b 402 0
 have hA : (∀ j : Fin (tgL b).length, (tgL b)[j].2 = 0) → frN b = (((List.finRange (tgL b).length).map fun j => (tgL b)[j].1).sum, 0) := fun h => by
  have h2 := QrL b 402 0 fun x hx => by
   obtain ⟨i, hi, rfl⟩ := y9.1 hx
   exact h ⟨i, hi⟩
  rw [frN, h2]
  have e : (List.finRange (tgL b).length).map (fun j => (tgL b)[j].1) = (tgL b).map Prod.fst := by
   apply yK <;> simp
  rw [e]
  simp [Qy2, tgL]
 have hE : ∀ j : Fin (tgL b).length, (tgL b)[j].2 ≠ 0 → frN b = (0, (tgL b)[j].2) := fun j h => Qo3 b 402 0 _ (qS j.2) h
 generalize frN b = F at *
 have hsum : ∀ pre : List (Fin (tgL b).length), 0 ≤ (pre.map fun j => (tgL b)[j].1).sum ∧ (pre.map fun j => (tgL b)[j].1).sum ≤ 4000 * pre.length := by
  intro pre
  induction pre with
  | nil => simp
  | cons x pre ih =>
   have := hB x
   simp only [qF, jd, qo]
   omega
 rw [bs] at hT' hI hc ⊢
 simp (disch := omega) only [rq, simprocAttr, Xj, QuF, Qw2, QqA, QxU, Ql1, QzA]
 refine Qa hT' ?_
 simp (disch := omega) only [rq, simprocAttr, Ql1]
 refine ⟨(tgL b).length, g, _, fun j => (tgL b)[j], [(8, .fn (.func g) [] [.cell [.list b.length (u8 b)]]), (2, .ref 0 1 0), (3, .ref 1 1 0), (4, .ref 2 1 0)], fun pre => ∀ x ∈ pre, (tgL b)[x].2 = 0,
  fun pre => [⟨t0, 1, 1, [.int .i64 0], 0⟩, ⟨t1, 1, 1, [.int .i64 0], 0⟩, ⟨t0, 1, 1, [.int .i64 (pre.map fun j => (tgL b)[j].1).sum], 0⟩], by simp, Qe, rfl, bG.ent, hc, hI, ?_, ?_⟩
 ·intro pre x hG hl
  have hs := hsum pre
  have hx := hB x
  have e1 : ((pre ++ [x]).map fun j => (tgL b)[j].1).sum = (pre.map fun j => (tgL b)[j].1).sum + (tgL b)[x].1 := by simp
  have hE' := hE x
  have hG' : (tgL b)[x].2 = 0 → ∀ y ∈ pre ++ [x], (tgL b)[y].2 = 0 := fun h y hy => by
   rcases qA.1 hy with h1 | h1
   ·exact hG y h1
   ·obtain rfl := qH.1 h1; exact h
  dsimp only [Xj]
  generalize hS0 : (pre.map fun j => (tgL b)[j].1).sum = s at *
  generalize hy : (tgL b)[x] = y at *
  by_cases hz : y.2 = 0
  ·simp (disch := omega) only [rq, simprocAttr, hz]
   refine ⟨hG' hz, ?_⟩
   rw [e1]
   exact Qe
  ·simp (disch := omega) only [rq, simprocAttr, hz]
   refine ⟨_, Qe, ?_⟩
   rw [hE' hz]
   simp (disch := omega) only [rq, simprocAttr, Qd7, QP, h0, h1, Qr]
 ·intro hG
  rw [hA fun j => hG j (by simp)]
  have hs := hsum (List.finRange (tgL b).length)
  rw [List.length_finRange] at hs
  dsimp only [Xj]
  generalize ((List.finRange (tgL b).length).map fun j => (tgL b)[j].1).sum = s at *
  simp (disch := omega) only [rq, simprocAttr, QP, h0, h1, Qr]
def QAv (b T : List UInt8) : Int × Int :=
 if b.length < 32 ∨ T.take 8 ≠ [65, 80, 69, 84, 65, 71, 69, 88] then (0, 6)
 else if ¬ (32 ≤ Qbh T ∧ Qbh T ≤ 3032 ∧ Qfn T ≤ 1000) then (0, 12)
 else if T == QiA (Qbh T - 32) (Qfn T) 0 then (if b.length - 32 < Qbh T - 32 then (0, 24) else ((Qbh T : Int), 0))
 else if (T == QiA (Qbh T - 32) (Qfn T) 2147483648) = false then (0, 12)
 else if b.length < Qbh T + 32 then (0, 24)
 else if ((b.drop (b.length - (Qbh T + 32))).take 32 == QiA (Qbh T - 32) (Qfn T) 2684354560) = false then (0, 12)
 else ((Qbh T : Int) + 32, 0)
def apB (b : List UInt8) : Int × Int := QAv b (b.drop (b.length - 32))
def QgC (P : Prg) (f : Nat) : Prop := ∀ b : List UInt8, b.length ≤ 1000000 → VC P f [bs b] (.tup [.int .i64 (apB b).1, .int .i64 (apB b).2])
theorem Qz6 (b : List UInt8) : (apB b).2 = 0 ∧ 32 ≤ (apB b).1 ∧ (apB b).1 ≤ b.length ∨ (apB b).2 ≠ 0 ∧ (apB b).1 = 0 := by
 unfold apB QAv
 generalize b.drop (b.length - 32) = T
 split
 ·exact .inr ⟨by simp, rfl⟩
 split
 ·exact .inr ⟨by simp, rfl⟩
 rename_i h1 h2
 have h3 := Decidable.not_not.1 h2
 have h3' := h3.1
 split
 ·split
  ·exact .inr ⟨by simp, rfl⟩
  ·refine .inl ⟨rfl, ?_⟩
   simp only
   omega
 split
 ·exact .inr ⟨by simp, rfl⟩
 split
 ·exact .inr ⟨by simp, rfl⟩
 split
 ·exact .inr ⟨by simp, rfl⟩
 ·refine .inl ⟨rfl, ?_⟩
  simp only
  omega
set_option maxHeartbeats 2000000 in
theorem Qwp {P : Prg} {f fH fT fN fE t0 t1 : Nat} (bd : Body P f 74 [.tmp 2, .tmp 3] (Zw fH fT fN fE t0 t1)) (hH : QmR P fH) (hT : QkD P fT) (hN : QeM P fN) (hE : QaR P fE) : QgC P f := by
 intro b hb
 refine QJ (by simp [isDL, QM]) rfl bd ?_
 have tb := Zx b
 have hlu := Qk b
 by_cases h0 : b.length < 32
 ·rw [apB, QAv, qh (.inl h0)]
  simp only [bs]
  simp (disch := omega) only [rq, simprocAttr, Zw]
 obtain ⟨m, hm⟩ : ∃ m, b.length = m + 32 := ⟨b.length - 32, by omega⟩
 rw [apB, show b.length - 32 = m by omega]
 have hTl : (b.drop m).length = 32 := by rw [qr]; omega
 have hsl : ((u8 b).drop m).take 32 = u8 (b.drop m) := by rw [Zr]; exact qi (by rw [Qk]; omega)
 generalize hTT : b.drop m = T at *
 have hH' := hH T [65, 80, 69, 84, 65, 71, 69, 88] (by omega) (by simp)
 rw [show ([65, 80, 69, 84, 65, 71, 69, 88] : List UInt8).length = 8 from rfl, bs, hTl] at hH'
 have tT := Zx T
 have q0 : ((m + 32 : Nat) : Int) - 32 = (m : Int) := by omega
 have q1 : m + 32 - m = 32 := by omega
 unfold QAv
 by_cases h3 : T.take 8 ≠ [65, 80, 69, 84, 65, 71, 69, 88]
 ·rw [qh (.inr h3)]
  rw [show (T.take 8 == [65, 80, 69, 84, 65, 71, 69, 88]) = false from yh.2 h3] at hH'
  have hH2 : VC P fH [.list 32 (u8 T), .list 8 [.int .u8 65, .int .u8 80, .int .u8 69, .int .u8 84, .int .u8 65, .int .u8 71, .int .u8 69, .int .u8 88]] (.bool false) := hH'
  simp only [bs, hm]
  simp (disch := omega) only [rq, simprocAttr, Zw, q0, q1, hsl, hm]
  refine Qv 1 [0] hH2 (by simp [QK, Qx, frzL, Qu, isDL, isD, frzL_T _ tT]) ?_
  simp (disch := omega) only [rq, simprocAttr, Qg]
 rw [qe (fun h => h.elim h0 h3)]
 have h3' : T.take 8 = [65, 80, 69, 84, 65, 71, 69, 88] := by simpa using h3
 rw [show (T.take 8 == [65, 80, 69, 84, 65, 71, 69, 88]) = true from beq_iff_eq.2 h3'] at hH'
 have hH2 : VC P fH [.list 32 (u8 T), .list 8 [.int .u8 65, .int .u8 80, .int .u8 69, .int .u8 84, .int .u8 65, .int .u8 71, .int .u8 69, .int .u8 88]] (.bool true) := hH'
 have hT0 := hT T 0 hTl (by omega)
 have hT1 := hT T 2147483648 hTl (by omega)
 rw [bs, hTl, QrN] at hT0 hT1
 have hle : ∀ n c fl, (QiA n c fl).length = 32 := fun n c fl => Qex n c fl 6 (by omega)
 have hN' := hN (Qbh T - 32) (Qfn T) 2684354560
 have hE' := hE ((b.drop (m + 32 - (Qbh T + 32))).take 32) (QiA (Qbh T - 32) (Qfn T) 2684354560)
 generalize hr0 : (T == QiA (Qbh T - 32) (Qfn T) 0) = r0 at *
 generalize hr1 : (T == QiA (Qbh T - 32) (Qfn T) 2147483648) = r1 at *
 generalize Qbh T = n at *
 generalize Qfn T = c at *
 clear hr0 hr1
 unfold QrM at hT0 hT1
 simp only [bs, hm]
 by_cases k1 : 32 ≤ n ∧ n ≤ 3032 ∧ c ≤ 1000
 case neg =>
  rw [qe k1] at hT0 hT1
  rw [qh k1]
  simp (disch := omega) only [rq, simprocAttr, Zw, q0, q1, hsl, hm]
  refine Qv 1 [0] hH2 (by simp [QK, Qx, frzL, Qu, isDL, isD, frzL_T _ tT]) ?_
  simp (disch := omega) only [rq, simprocAttr, Qg, q1, hsl, hm]
  refine Qa hT0 ?_
  simp (disch := omega) only [rq, simprocAttr, q1, hsl, hm]
  refine Qa hT1 ?_
  simp (disch := omega) only [rq, simprocAttr]
 rw [qh k1] at hT0 hT1
 rw [qe (fun h => h k1)]
 obtain ⟨i, rfl⟩ : ∃ i, n = i + 32 := ⟨n - 32, by omega⟩
 simp only [Nat.add_sub_cancel] at hT0 hT1 hN' hE' ⊢
 cases r0 with
 | true =>
  rw [qh rfl]
  by_cases k2 : m < i
  ·rw [qh k2]
   simp (disch := omega) only [rq, simprocAttr, Zw, q0, q1, hsl, hm]
   refine Qv 1 [0] hH2 (by simp [QK, Qx, frzL, Qu, isDL, isD, frzL_T _ tT]) ?_
   simp (disch := omega) only [rq, simprocAttr, Qg, q1, hsl, hm]
   refine Qa hT0 ?_
   simp (disch := omega) only [rq, simprocAttr]
  ·rw [qe k2]
   simp (disch := omega) only [rq, simprocAttr, Zw, q0, q1, hsl, hm]
   refine Qv 1 [0] hH2 (by simp [QK, Qx, frzL, Qu, isDL, isD, frzL_T _ tT]) ?_
   simp (disch := omega) only [rq, simprocAttr, Qg, q1, hsl, hm]
   refine Qa hT0 ?_
   simp (disch := omega) only [rq, simprocAttr]
 | false =>
  rw [qe Bool.false_ne_true]
  cases r1 with
  | false =>
   rw [qh rfl]
   simp (disch := omega) only [rq, simprocAttr, Zw, q0, q1, hsl, hm]
   refine Qv 1 [0] hH2 (by simp [QK, Qx, frzL, Qu, isDL, isD, frzL_T _ tT]) ?_
   simp (disch := omega) only [rq, simprocAttr, Qg, q1, hsl, hm]
   refine Qa hT0 ?_
   simp (disch := omega) only [rq, simprocAttr, q1, hsl, hm]
   refine Qa hT1 ?_
   simp (disch := omega) only [rq, simprocAttr]
  | true =>
   rw [qe (fun h => Bool.noConfusion h)]
   have hN2 := hN' (by omega) (by omega) (by omega)
   rw [bs, hle] at hN2
   by_cases k2 : m + 32 < i + 32 + 32
   ·rw [qh k2]
    simp (disch := omega) only [rq, simprocAttr, Zw, q0, q1, hsl, hm]
    refine Qv 1 [0] hH2 (by simp [QK, Qx, frzL, Qu, isDL, isD, frzL_T _ tT]) ?_
    simp (disch := omega) only [rq, simprocAttr, Qg, q1, hsl, hm]
    refine Qa hT0 ?_
    simp (disch := omega) only [rq, simprocAttr, q1, hsl, hm]
    refine Qa hT1 ?_
    simp (disch := omega) only [rq, simprocAttr]
   rw [qe k2]
   obtain ⟨k, rfl⟩ : ∃ k, m = k + i + 32 := ⟨m - i - 32, by omega⟩
   rw [show k + i + 32 + 32 - (i + 32 + 32) = k by omega] at hE' ⊢
   have l32 : ((b.drop k).take 32).length = 32 := by simp; omega
   rw [bs, bs, l32, hle] at hE'
   generalize QiA i c 2684354560 = E at *
   generalize hs : (b.drop k).take 32 = S at *
   have hS : List.take 32 (List.drop k (u8 b)) = u8 S := by rw [Zr, Z1, hs]
   have q2 : ((k + i + 32 + 32 : Nat) : Int) - ((i : Int) + 64) = (k : Int) := by omega
   have q3 : k + 32 - k = 32 := by omega
   have q5 : k + i - i = k := by omega
   simp (disch := omega) only [rq, simprocAttr, Zw, q0, q1, hsl, hm]
   refine Qv 1 [0] hH2 (by simp [QK, Qx, frzL, Qu, isDL, isD, frzL_T _ tT]) ?_
   simp (disch := omega) only [rq, simprocAttr, Qg, q1, hsl, hm]
   refine Qa hT0 ?_
   simp (disch := omega) only [rq, simprocAttr, q1, hsl, hm]
   refine Qa hT1 ?_
   simp (disch := omega) only [rq, simprocAttr, q2, hm]
   refine QN hN2 ?_
   simp (disch := omega) only [rq, simprocAttr, q2, q5, q3, hS, hm]
   refine QN hE' ?_
   cases hz : S == E with
   | false =>
    rw [qh rfl]
    simp (disch := omega) only [rq, simprocAttr]
   | true =>
    rw [qe (fun h => Bool.noConfusion h)]
    have q4 : (i : Int) + 64 = (i : Int) + 32 + 32 := by omega
    simp (disch := omega) only [rq, simprocAttr]
    rw [q4]
def bhF : Nat → List UInt8 → Nat → Int × Int
 | 0, _, c => (c, 0)
 | k + 1, b, c => if b = [] then ((c : Int), 0) else if (apB b).1 = 0 then (0, 38) else bhF k (b.take (b.length - (apB b).1.toNat)) (c + 1)
def bhN (b : List UInt8) : Int × Int := if 4000 < b.length then (0, 38) else bhF b.length b 0
def QhS (P : Prg) (f : Nat) : Prop := ∀ b : List UInt8, b.length ≤ 1000000 → VC P f [bs b] (.tup [.int .i64 (bhN b).1, .int .i64 (bhN b).2])
theorem QjA {P : Prg} {g fB : Nat} (bd : Body P g 10 [.tmp 1] (Xp fB)) (hB : QgC P fB) {b : List UInt8} (hb : b.length ≤ 1000000) {t0 : Nat} {K : AV → List Ob → Prop} (hK : K (.int .i64 (apB b).1) [⟨t0, 1, 1, [bs b], 0⟩]) : ACall P g [.ref 0 1 0] [⟨t0, 1, 1, [bs b], 0⟩] K := by
 refine Qb bd (by simp) ?_
 have hB' := hB b hb
 rw [bs] at hB' hK ⊢
 simp (disch := omega) only [rq, simprocAttr, Xp]
 refine Qa hB' ?_
 simp (disch := omega) only [rq, simprocAttr]
 exact hK
set_option maxHeartbeats 1000000 in
theorem Qjz {P : Prg} {f g fB t0 : Nat} (bd : Body P f 27 [.tmp 2, .tmp 3] (Xf g t0)) (bG : Body P g 10 [.tmp 1] (Xp fB)) (hB : QgC P fB) : QhS P f := by
 intro b hb
 refine QJ (by simp [isDL, QM]) rfl bd ?_
 unfold bhN
 have hlu := Qk b
 by_cases h4 : 4000 < b.length
 ·rw [qh h4, bs]
  simp (disch := omega) only [rq, simprocAttr, Xf]
 rw [qe h4]
 generalize hR : bhF b.length b 0 = R
 rw [bs]
 simp (disch := omega) only [rq, simprocAttr, Xf]
 refine Qj (ι := Nat × List UInt8) (fun i => ⟨[(5, .int .i64 i.1), (1, .ref 0 1 0), (4, .fn (.func g) [] [.ref 0 1 0])], [⟨t0, 1, 1, [.list i.2.length (u8 i.2)], 0⟩]⟩) (fun i => i.1 + i.2.length ≤ 4000 ∧ ∃ k, i.2.length ≤ k ∧ bhF k i.2 i.1 = R) (fun i => i.2.length) (0, b) (Qe) ⟨by simp only; omega, _, qj _, hR⟩ ?_
 rintro ⟨c, d⟩ ⟨hcd, k, hk, hr⟩
 simp only at hcd hk hr ⊢
 have hdu := Qk d
 by_cases hd : d = []
 ·subst hd
  have hr' : R = ((c : Int), 0) := by
   rw [← hr]
   cases k with
   | zero => rfl
   | succ k => rw [bhF, qh rfl]
  rw [hr']
  simp (disch := omega) only [rq, simprocAttr, qC]
 ·have hl : 1 ≤ d.length := by cases d with
   | nil => exact absurd rfl hd
   | cons a l => simp
  obtain ⟨k, rfl⟩ : ∃ k', k = k' + 1 := ⟨k - 1, by omega⟩
  rw [bhF, qe hd] at hr
  have hok := Qz6 d
  have cl := fun {K : AV → List Ob → Prop} => QjA (b := d) (t0 := t0) (K := K) bG hB (by omega)
  rw [bs] at cl
  by_cases hz : (apB d).1 = 0
  ·rw [qh hz] at hr
   rw [← hr]
   rw [hz] at cl
   simp (disch := omega) only [rq, simprocAttr]
   refine cl ?_
   simp (disch := omega) only [rq, simprocAttr]
  ·rw [qe hz] at hr
   generalize (apB d).1 = n at *
   obtain ⟨n, rfl⟩ : ∃ m : Nat, n = m := ⟨n.toNat, by omega⟩
   have hn : 32 ≤ n ∧ n ≤ d.length := by omega
   rw [qw] at hr
   have ht : (u8 d).take (d.length - n) = u8 (d.take (d.length - n)) := Z1 _ _
   have htl : (d.take (d.length - n)).length = d.length - n := by rw [qu]; omega
   simp (disch := omega) only [rq, simprocAttr]
   refine cl ?_
   have e1 : (d.length : Int) - (n : Int) = ((d.length - n : Nat) : Int) := by omega
   simp (disch := omega) only [rq, simprocAttr, e1, ht, yW]
   refine ⟨(c + 1, d.take (d.length - n)), ⟨by simp only [htl]; omega, k, by simp only [htl]; omega, hr⟩, by simp only [htl]; omega, ?_⟩
   simp only [htl]
   exact Qe
def QmU (b : List UInt8) (n : Nat) : List Nat := (List.range n).map fun i => rdF b (4 * i) 4
def skR (b : List UInt8) (n : Nat) : Int := if b.length < 4 * n + 4 then 24 else if QkZ (b.take (4 * n)) ≠ rdF b (4 * n) 4 then 22 else if skN (iL (QmU b n)) ≠ 0 then 12 else 0
def QyO (b : List UInt8) (n : Nat) : AV := if skR b n = 0 then .tup [Q6 (iL (QmU b n)), .int .i64 0] else .tup [.list 0 [], .int .i64 (skR b n)]
theorem Qtd {l : List Nat} {k : Nat} : (iL l).getD k 0 = ((l.getD k 0 : Nat) : Int) := by
 simp only [iL, qd, qI]
 cases l[k]? <;> simp
theorem QaG (b : List UInt8) (n : Nat) : (QmU b n).length = n := by simp [QmU]
theorem Qxa {b : List UInt8} {n k : Nat} (h : k < n) : (QmU b n).getD k 0 = rdF b (4 * k) 4 := by
 simp [QmU, qd, h]
theorem QvJ (b : List UInt8) (n : Nat) : isD (QyO b n) = true := by unfold QyO; split <;> simp [isD, isDL, XX]
theorem QgS (b : List UInt8) (n : Nat) : skR b n = 24 ∨ skR b n = 22 ∨ skR b n = 12 ∨ skR b n = 0 ∧ 4 * n + 4 ≤ b.length ∧ skN (iL (QmU b n)) = 0 := by
 unfold skR
 split
 ·exact .inl rfl
 split
 ·exact .inr (.inl rfl)
 split
 ·exact .inr (.inr (.inl rfl))
 ·rename_i h1 h2 h3
  exact .inr (.inr (.inr ⟨rfl, by omega, Decidable.not_not.1 h3⟩))
def Qcn (P : Prg) (f : Nat) : Prop := ∀ (b : List UInt8) (n : Nat), b.length ≤ 1000000 → 1 ≤ n → n ≤ 1000 → VC P f [bs b, .int .i64 n] (QyO b n)
set_option maxHeartbeats 1000000 in
theorem Qnz {P : Prg} {f fA fS fC t0 : Nat} (bd : Body P f 69 [.tmp 4, .tmp 5] (Xq fA fS fC t0)) (hA : QhI P fA) (hS : QmT P fS) (hC : Qco P fC) : Qcn P f := by
 intro b n hb n1 n2
 refine Qi 1 (by simp [isDL, QM, isD]) (QvJ b n) (Qb bd (by simp) ?_)
 have c4 : (4 : Int) * (n : Int) = ((4 * n : Nat) : Int) := by simp
 have hlu := Qk b
 unfold QyO skR
 by_cases h1 : b.length < 4 * n + 4
 ·rw [qh h1, qe (by omega), bs]
  simp (disch := omega) only [rq, simprocAttr, Xq, c4]
  simp [QK, Qx, frzL, Qu]
 rw [qe h1]
 have hA0 := hA b (4 * n) 4 (by omega) (by omega) (by omega) (by omega)
 rw [qh (by omega)] at hA0
 have e0 : leN ((b.drop (4 * n)).take 4) = rdF b (4 * n) 4 := rfl
 rw [e0] at hA0
 have hl4 : (b.take (4 * n)).length = 4 * n := by rw [qu]; omega
 have hS' := hS (b.take (4 * n))
 rw [qe (by omega), ← QkZ, bs, hl4] at hS'
 have hsm : QkZ (b.take (4 * n)) < 4294967296 := by unfold QkZ; omega
 have hrd := QdP b (4 * n) 4
 have hfirst : (u8 b).take (4 * n) = u8 (b.take (4 * n)) := Z1 _ _
 have hA1 := fun i (hi : i < n) => hA b (4 * i) 4 (by omega) (by omega) (by omega) (by omega)
 have hv : ∀ v ∈ iL (QmU b n), -9223372036854775808 ≤ v ∧ v ≤ 9223372036854775807 := fun v hv => by
  simp only [iL, QmU, jC, qO] at hv
  obtain ⟨i, _, rfl⟩ := hv
  have := QdP b (4 * i) 4
  simp only [Function.comp]
  omega
 have hC' := hC (iL (QmU b n)) (by rw [Zy, QaG]; omega) hv
 rw [Q6, Zy, QaG] at hC'
 have n0 : ¬ (n : Int) < 1 := by omega
 have s0 : 4 * n - 0 = 4 * n := rfl
 have hat := fun i (hi : i < n) => Qxa (b := b) hi
 have htn := QaG b n
 rw [bs] at hA0 ⊢
 generalize QkZ (b.take (4 * n)) = sm at *
 generalize rdF b (4 * n) 4 = sr at *
 by_cases h2 : sm ≠ sr
 ·rw [qh h2, qe (by omega)]
  simp (disch := omega) only [rq, simprocAttr, Xq, c4]
  refine Qa hA0 ?_
  simp (disch := omega) only [rq, simprocAttr, c4, hfirst, s0]
  refine Qa hS' ?_
  simp (disch := omega) only [rq, simprocAttr]
  simp [QK, Qx, frzL, Qu]
 have h2' : sm = sr := Decidable.not_not.1 h2
 subst h2'
 rw [qe h2]
 have hz : Qo [.int .i64 0] n = ks .i64 (iL (QmU b n |>.take 0) ++ List.replicate (n - 0) 0) := by rw [Qsp]; simp [iL]
 have tl := Qp .i64 (iL (QmU b n))
 simp (disch := omega) only [rq, simprocAttr, Xq, c4]
 refine Qa hA0 ?_
 simp (disch := omega) only [rq, simprocAttr, c4, hfirst, s0]
 refine Qa hS' ?_
 simp (disch := omega) only [rq, simprocAttr, hz]
 generalize QmU b n = L at *
 refine Qj (ι := Nat) (fun k => ⟨[(49, .int .i64 k), (48, .int .i64 n), (10, .own 0 n), (0, .list b.length (u8 b))], [⟨t0, 1, n, ks .i64 (iL (L.take k) ++ List.replicate (n - k) 0), 0⟩]⟩) (fun k => k ≤ n) (fun k => n - k) 0 (Qe) (by omega) ?_
 intro k hk
 have hkl : (ks .i64 (iL (L.take k) ++ List.replicate (n - k) 0)).length = n := by rw [Qc, qt, Zy, qu, yO]; omega
 by_cases hlt : k < n
 ·have hA2 := hA1 k hlt
  rw [qh (by omega), show leN ((b.drop (4 * k)).take 4) = rdF b (4 * k) 4 from rfl, ← hat k hlt, bs] at hA2
  have hzb := QdP b (4 * k) 4
  rw [← hat k hlt] at hzb
  have hst : (ks .i64 (iL (L.take k) ++ List.replicate (n - k) 0)).take k ++ .int .i64 ((L.getD k 0 : Nat) : Int) :: (ks .i64 (iL (L.take k) ++ List.replicate (n - k) 0)).drop (k + 1) = ks .i64 (iL (L.take (k + 1)) ++ List.replicate (n - (k + 1)) 0) := by
   have hl1 : (iL (L.take k)).length = k := by rw [Zy, qu]; omega
   have htk : iL (L.take (k + 1)) = iL (L.take k) ++ [((L.getD k 0 : Nat) : Int)] := by
    rw [qm (by omega)]
    simp only [iL, yB, qF, yY, qd, qc (show k < L.length by omega), yE]
   rw [Qs2, Jr, htk, List.take_append_of_le_length (by omega), qi (by omega), jP, yw (by omega), hl1, List.drop_replicate, jl]
   simp only [ks, yB, qF, yY, qz, qR, jl]
   rw [show n - k - (k + 1 - k) = n - (k + 1) by omega]
  have hst2 : (ks .i64 (iL (L.take k) ++ List.replicate (n - k) 0)).take k ++ [.int .i64 ((L.getD k 0 : Nat) : Int)] ++ (ks .i64 (iL (L.take k) ++ List.replicate (n - k) 0)).drop (k + 1) = ks .i64 (iL (L.take (k + 1)) ++ List.replicate (n - (k + 1)) 0) := by rw [← hst]; simp
  have c4k : (4 : Int) * (k : Int) = ((4 * k : Nat) : Int) := by simp
  generalize hzz : L.getD k 0 = z at *
  simp (disch := omega) only [rq, simprocAttr, c4k, hkl]
  refine Qa hA2 ?_
  simp (disch := omega) only [rq, simprocAttr, hkl, hst, hst2]
  exact ⟨k + 1, by omega, by omega, Qe⟩
 ·have ek : k = n := by omega
  subst ek
  have e0 : iL (L.take k) ++ List.replicate (k - k) (0 : Int) = iL L := by rw [qi (by omega)]; simp
  rw [e0]
  by_cases h3 : skN (iL L) = 0
  ·rw [h3] at hC' ⊢
   simp only [ne_eq, not_true_eq_false, yC, yo, Q6, Zy, htn]
   simp (disch := omega) only [rq, simprocAttr]
   refine Qv 1 [0] hC' (by simp [QK, Qx, frzL, Qu, frzL_T _ tl]) ?_
   simp (disch := omega) only [rq, simprocAttr, Qg]
   simp [QK, Qx, frzL, Qu, frzL_T _ tl]
  ·rw [qh h3, qe (by omega)]
   simp (disch := omega) only [rq, simprocAttr]
   refine Qv 1 [0] hC' (by simp [QK, Qx, frzL, Qu, frzL_T _ tl]) ?_
   simp (disch := omega) only [rq, simprocAttr, Qg]
   simp [QK, Qx, frzL, Qu]
theorem QlD : ∀ (l : List Nat) (m : Int), Qo7 m (iL l) → 0 ≤ m → ((l.sum : Nat) : Int) ≤ m
 | [], m, _, h => by simpa using h
 | n :: l, m, h, _ => by
  simp only [iL, qF, Qo7] at h
  have := QlD l (m - n) h.2.2 (by omega)
  rw [jd]
  omega
theorem QlC {l : List Nat} (h : skN (iL l) = 0) : l.sum ≤ 100000 ∧ 1 ≤ l.length ∧ l.length ≤ 1000 := by
 unfold skN at h
 split at h
 ·cases h
 split at h
 ·rename_i h1 h2
  have := QlD l 100000 h2 (by omega)
  rw [Zy] at h1
  omega
 ·cases h
theorem Qgd (l : List Nat) (k : Nat) : (l.take (k + 1)).sum = (l.take k).sum + l.getD k 0 := by
 by_cases h : k < l.length
 ·rw [qm h]
  simp only [jF, jd, Yl, qd, qc h, yE, yI]
 ·rw [qi (by omega), qi (by omega)]
  simp [qd, qU (show l.length ≤ k by omega)]
theorem Jn (l : List Nat) (k : Nat) : (l.take k).sum ≤ l.sum := by
 conv => rhs; rw [← yD k l, jF]
 omega
def Qgm (l : List Nat) : List Nat := (List.range (l.length + 1)).map fun k => (l.take k).sum
theorem Qgl (l : List Nat) : (Qgm l).length = l.length + 1 := by simp [Qgm]
theorem QsL {l : List Nat} {k : Nat} (h : k ≤ l.length) : (Qgm l).getD k 0 = (l.take k).sum := by
 simp [Qgm, qd, show k < l.length + 1 by omega]
theorem QsK {l : List Nat} {k : Nat} (h : k < l.length) : (Qgm l).take (k + 2) = (Qgm l).take (k + 1) ++ [(l.take (k + 1)).sum] := by
 rw [qm (by rw [Qgl]; omega)]
 simp [Qgm]
theorem QnO : ∀ {l : List Nat} {n : Nat}, n ∈ l → n ≤ l.sum
 | m :: l, n, h => by
  rw [jd]
  rcases qx.1 h with rfl | h
  ·omega
  ·have := QnO h; omega
theorem Qqg {P : Prg} {g : Nat} (bd : Body P g 8 [.tmp 3] Z3) {n s : Int} {t0 : Nat} (hn : 0 ≤ n ∧ n ≤ 1000000) (hs : 0 ≤ s ∧ s ≤ 1000000) {y : Ob} {K : AV → List Ob → Prop} (hK : K (.int .i64 (s + n)) [⟨t0, 1, 1, [.int .i64 (s + n)], 0⟩, y]) : ACall P g [.int .i64 n, .ref 0 1 0] [⟨t0, 1, 1, [.int .i64 s], 0⟩, y] K := by
 refine Qb bd (by simp) ?_
 simp (disch := omega) only [rq, simprocAttr, Z3]
 exact hK
def QoK (P : Prg) (f : Nat) : Prop := ∀ l : List Nat, skN (iL l) = 0 → VC P f [Q6 (iL l)] (.tup [Q6 (iL (Qgm l)), .int .i64 0])
set_option maxHeartbeats 1000000 in
theorem QjH {P : Prg} {f fC g t0 : Nat} (bd : Body P f 31 [.tmp 2, .tmp 3] (JZ fC g t0)) (hC : Qco P fC) (bG : Body P g 8 [.tmp 3] Z3) : QoK P f := by
 intro l h
 obtain ⟨hs, h1, h2⟩ := QlC h
 refine Qi 1 (by simp [isDL, XX]) (by simp [isD, isDL, XX]) (Qb bd (by simp) ?_)
 have hv : ∀ v ∈ iL l, -9223372036854775808 ≤ v ∧ v ≤ 9223372036854775807 := fun v hv => by
  simp only [iL, qO] at hv
  obtain ⟨i, hi, rfl⟩ := hv
  have := QnO hi
  omega
 have hC' := hC (iL l) (by rw [Zy]; omega) hv
 rw [h, Q6, Zy] at hC'
 have hol := Qgl l
 rw [Q6, Zy, Q6, Zy, hol]
 have tl := Qp .i64 (iL (Qgm l))
 simp (disch := omega) only [rq, simprocAttr, JZ]
 refine Qa hC' ?_
 simp (disch := omega) only [rq, simprocAttr]
 refine Qj (ι := Nat) (fun k => ⟨[(19, .int .i64 k), (18, .int .i64 l.length), (17, .list l.length (ks .i64 (iL l))), (7, .own 1 (k + 1)), (6, .fn (.func g) [] [.ref 0 1 0])], [⟨t0, 1, 1, [.int .i64 ((l.take k).sum : Nat)], 0⟩, ⟨t0, 1, k + 1, ks .i64 (iL ((Qgm l).take (k + 1))), 0⟩]⟩) (fun k => k ≤ l.length) (fun k => l.length - k) 0 ?_ (by omega) ?_
 ·have e0 : (Qgm l).take (0 + 1) = [0] := by simp [Qgm, List.range_succ_eq_map]
  rw [e0]
  exact Qe
 intro k hk
 have hsk := Jn l k
 have hkl : (ks .i64 (iL ((Qgm l).take (k + 1)))).length = k + 1 := by rw [Qc, Zy, qu, hol]; omega
 by_cases hlt : k < l.length
 ·have e2 := Qbu (K := .i64) (l := iL l) (i := k) (by rw [Zy]; exact hlt)
  rw [Qtd] at e2
  have hs1 := Qgd l k
  have hsk1 := Jn l (k + 1)
  have cl := fun {y : Ob} {K : AV → List Ob → Prop} => Qqg (n := (l.getD k 0 : Nat)) (s := ((l.take k).sum : Nat)) (t0 := t0) (y := y) (K := K) bG (by omega) (by omega)
  have e3 : (((l.take k).sum : Nat) : Int) + ((l.getD k 0 : Nat) : Int) = (((l.take (k + 1)).sum : Nat) : Int) := by omega
  rw [e3] at cl
  have e4 : ks .i64 (iL ((Qgm l).take (k + 1))) ++ [.int .i64 ((l.take (k + 1)).sum : Nat)] = ks .i64 (iL ((Qgm l).take (k + 1 + 1))) := by
   rw [show k + 1 + 1 = k + 2 from rfl, QsK hlt]
   simp only [iL, yB, ks, qF, yY]
  generalize hS1 : (l.take (k + 1)).sum = s1 at *
  generalize (l.take k).sum = s0 at *
  generalize l.getD k 0 = z at *
  simp (disch := omega) only [rq, simprocAttr, e2, Zy]
  refine cl ?_
  simp (disch := omega) only [rq, simprocAttr, hkl, e4]
  refine ⟨k + 1, by omega, by omega, ?_⟩
  rw [hS1]
  refine Le.drop 2 2 (by omega) rfl (by simp [Am.look, Qx, frzL, Qu, frzL_T _ (Qp .i64 (iL l))]) ?_
  intro i z hz
  match i, hz with
  | 0, hz => cases hz; exact ⟨_, rfl, by simp [Qx, frzL, Qu]⟩
  | 1, hz => cases hz; exact ⟨_, rfl, by simp [Qx, frzL, Qu, frzL_T _ (Qp _ _)]⟩
  | i + 2, hz => simp at hz
 ·obtain rfl : k = l.length := by omega
  have e5 : (Qgm l).take (l.length + 1) = Qgm l := qi (by omega)
  rw [e5] at *
  simp (disch := omega) only [rq, simprocAttr]
  simp [QK, Qx, frzL, Qu, frzL_T _ tl]
def oA (b : List UInt8) : Nat := (frN b).1.toNat
def oH (b : List UInt8) : List UInt8 := b.drop (oA b)
def oF (b : List UInt8) : Int := rdF (oH b) 4 2
def oC (b : List UInt8) : Int := rdF (oH b) 6 2
def oX (b : List UInt8) : Int := rdF (oH b) 8 2
def oR (b : List UInt8) : Int := rdF (oH b) 10 4
def oN (b : List UInt8) : Int := rdF (oH b) 14 4
def oL (b : List UInt8) : List Int := Zl (Q5 (oR b)).toNat (oN b).toNat
def oD (p : List UInt8) : Nat := if p = [] then 0 else 8
def oT (b p : List UInt8) : List UInt8 := b.drop (oA b + 22 + oD p)
def oS (b p : List UInt8) : List Nat := QmU (oT b p) (oL b).length
def oM (b p : List UInt8) : Nat := oA b + 22 + oD p + (4 * (oL b).length + 4)
def oE1 (b : List UInt8) : Int := if 100000 < b.length then 4 else if (frN b).2 ≠ 0 then (frN b).2 else hrN (oH b)
def oE2 (b p : List UInt8) : Int := if (p = [] ∧ oF b ≠ 1) ∨ (p ≠ [] ∧ oF b = 1) then 26 else if p = [] then 0 else if b.length < oA b + 30 then 24 else if (b.drop (oA b + 22)).take 8 ≠ leB (Qbn 0 p) 8 then 26 else 0
def opN (b p : List UInt8) : Int := if 64 < p.length then 2 else if oE1 b ≠ 0 then oE1 b else if oE2 b p ≠ 0 then oE2 b p else skR (oT b p) (oL b).length
def ixA (b p : List UInt8) : AV := .agg [.int .i64 (oF b), .int .i64 (oC b), .int .i64 (oX b), .int .i64 (oR b), .int .i64 (oN b), .int .i64 (oM b p), Q6 (iL (oS b p))]
def ix0 : AV := .agg [.int .i64 0, .int .i64 0, .int .i64 0, .int .i64 0, .int .i64 0, .int .i64 0, .list 0 []]
def QsE (b p : List UInt8) : AV := if opN b p = 0 then .tup [ixA b p, .int .i64 0] else .tup [ix0, .int .i64 (opN b p)]
theorem QvL (b p : List UInt8) : isD (QsE b p) = true := by unfold QsE; split <;> simp [isD, isDL, ixA, ix0, XX]
theorem QzG {B : List UInt8} (h : hrN B = 0) : 22 ≤ B.length ∧ hdN (rdF B 4 2) (rdF B 6 2) (rdF B 8 2) (rdF B 10 4) (rdF B 14 4) = 0 := by
 unfold hrN at h
 split at h
 ·cases h
 split at h
 ·cases h
 split at h
 ·cases h
 split at h
 ·cases h
 split at h
 ·cases h
 rename_i h1 h2 h3 h4 h5
 exact ⟨by omega, qh ⟨Decidable.not_not.1 h4, Decidable.not_not.1 h5⟩⟩
structure FOk (b : List UInt8) : Prop where
 le : b.length ≤ 100000
 fr : (frN b).2 = 0
 fa : (frN b).1 = oA b
 hr : hrN (oH b) = 0
 hd : hdN (oF b) (oC b) (oX b) (oR b) (oN b) = 0
 a4 : oA b ≤ 4000
 len : oA b + 22 ≤ b.length
 l1 : 1 ≤ (oL b).length
 l2 : (oL b).length ≤ 1000
 f12 : oF b = 1 ∨ oF b = 2
theorem QpB {b : List UInt8} (h : oE1 b = 0) : FOk b := by
 unfold oE1 at h
 split at h
 ·cases h
 split at h
 ·rename_i h2; exact absurd h h2
 rename_i h1 h2
 have h3 := Decidable.not_not.1 h2
 have hb := Qhe b
 obtain ⟨k1, k2⟩ := QzG h
 have e : (frN b).1 = oA b ∧ oA b ≤ 4000 ∧ oA b ≤ b.length := by
  rcases hb with ⟨_, n, hn, h4, h5⟩ | ⟨_, h5⟩
  ·rw [oA, hn, qw]; exact ⟨rfl, h4, h5⟩
  ·omega
 obtain ⟨m, hm, hok⟩ := Qpy k2
 have hn : oN b = m := hm
 rw [oH, qr] at k1
 have hl : (oL b).length ≤ 1000 := by
  have := hok.2.2.2.2
  rw [oL, hn]
  exact this
 refine ⟨by omega, h3, e.1, h, k2, e.2.1, by omega, by rw [oL, Qaq]; exact Nat.le_add_left 1 _, hl, ?_⟩
 have h6 : shP (oF b) (oC b) (oX b) (oR b) (oN b) := by
  have : hdN (oF b) (oC b) (oX b) (oR b) (oN b) = 0 := k2
  unfold hdN at this
  split at this
  ·rename_i h; exact h.1
  ·cases this
 exact h6.2.1
theorem Qvj (p : List UInt8) : p = [] ∧ oD p = 0 ∨ p ≠ [] ∧ oD p = 8 := by
 by_cases h : p = []
 ·exact .inl ⟨h, by rw [oD, qh h]⟩
 ·exact .inr ⟨h, by rw [oD, qe h]⟩
theorem QwD {b p : List UInt8} (h : oE2 b p = 0) : (p = [] ∧ oF b = 1) ∨ (p ≠ [] ∧ oF b ≠ 1 ∧ oA b + 30 ≤ b.length ∧ (b.drop (oA b + 22)).take 8 = leB (Qbn 0 p) 8) := by
 unfold oE2 at h
 split at h
 ·cases h
 rename_i h1
 split at h
 ·rename_i h2
  refine .inl ⟨h2, Decidable.not_not.1 fun h3 => h1 (.inl ⟨h2, h3⟩)⟩
 rename_i h2
 split at h
 ·cases h
 split at h
 ·cases h
 rename_i h3 h4
 exact .inr ⟨h2, fun h5 => h1 (.inr ⟨h2, h5⟩), by omega, Decidable.not_not.1 h4⟩
theorem QdV {b p : List UInt8} (h : opN b p = 0) : ¬ 64 < p.length ∧ FOk b ∧ oE2 b p = 0 ∧ skR (oT b p) (oL b).length = 0 := by
 unfold opN at h
 split at h
 ·cases h
 split at h
 ·rename_i h1; exact absurd h h1
 split at h
 ·rename_i h1; exact absurd h h1
 rename_i h1 h2 h3
 exact ⟨h1, QpB (Decidable.not_not.1 h2), Decidable.not_not.1 h3, h⟩
theorem QsO (b : List UInt8) : oE1 b = 0 ∨ oE1 b = 4 ∨ oE1 b = 12 ∨ oE1 b = 22 ∨ oE1 b = 24 := by
 have h1 := Qte (oH b)
 have h2 := Qhe b
 unfold oE1
 split
 ·omega
 split
 ·omega
 ·omega
theorem QsN (b p : List UInt8) : oE2 b p = 0 ∨ oE2 b p = 24 ∨ oE2 b p = 26 := by
 unfold oE2
 repeat' split
 all_goals omega
theorem QsF (b p : List UInt8) : opN b p = 0 ∨ opN b p = 2 ∨ opN b p = 4 ∨ opN b p = 12 ∨ opN b p = 22 ∨ opN b p = 24 ∨ opN b p = 26 := by
 have h1 := QsO b
 have h2 := QsN b p
 have h3 := QgS (oT b p) (oL b).length
 unfold opN
 repeat' split
 all_goals omega
theorem QeY {b p : List UInt8} (h : opN b p = 0) : oM b p ≤ b.length ∧ skN (iL (oS b p)) = 0 ∧ (oS b p).length = (oL b).length := by
 obtain ⟨_, hf, h2, h3⟩ := QdV h
 have hs := QgS (oT b p) (oL b).length
 have hl := hf.len
 rcases hs with h4 | h4 | h4 | ⟨_, h5, h6⟩
 ·omega
 ·omega
 ·omega
 ·have hd := QwD h2
  rw [oT, qr] at h5
  have e := Qvj p
  refine ⟨?_, h6, QaG _ _⟩
  unfold oM
  rcases hd with ⟨g1, _⟩ | ⟨g1, _, g3, _⟩ <;> rcases e with ⟨e1, e2⟩ | ⟨e1, e2⟩
  ·omega
  ·exact absurd g1 e1
  ·exact absurd e1 g1
  ·omega
def QcF (P : Prg) (f : Nat) : Prop := ∀ b p : List UInt8, b.length ≤ 1000000 → VC P f [bs b, .str p] (QsE b p)
set_option maxHeartbeats 4000000 in
theorem Qny {P : Prg} {f fF fR fD fM fS t0 t1 : Nat} (bd : Body P f 108 [.cell 4 t0, .tmp 5] (Qz fF fR fD fM fS t0 t1)) (ht : Zq P t0 = some (some 7)) (hF : QcG P fF) (hR : QeJ P fR) (hD : QeK P fD) (hM : Ju P fM) (hS : Qcn P fS) : QcF P f := by
 intro b p hb
 refine Qi 1 (by simp [isDL, QM, isD]) (QvL b p) (Qb bd (by simp) ?_)
 have hlu := Qk b
 have err : ∀ e : Int, opN b p = e → e ≠ 0 → QsE b p = .tup [ix0, .int .i64 e] := fun e h h0 => by rw [QsE, h, qe h0]
 by_cases h1 : 64 < p.length
 ·rw [err 2 (by rw [opN, qh h1]) (by omega), ix0, bs]
  simp (disch := omega) only [rq, simprocAttr, Qz, QP, ht, Qr]
  simp [QK, Qx, frzL, Qu]
 by_cases h2 : 100000 < b.length
 ·have e1 : oE1 b = 4 := by rw [oE1, qh h2]
  rw [err 4 (by rw [opN, qe h1, e1, qh (by omega)]) (by omega), ix0, bs]
  simp (disch := omega) only [rq, simprocAttr, Qz, QP, ht, Qr]
  simp [QK, Qx, frzL, Qu]
 have hF' := hF b hb
 rw [bs] at hF'
 by_cases h3 : (frN b).2 ≠ 0
 ·have e1 : oE1 b = (frN b).2 := by rw [oE1, qe h2, qh h3]
  rw [err (frN b).2 (by rw [opN, qe h1, e1, qh h3]) h3, ix0, bs]
  generalize (frN b).2 = e at *
  generalize (frN b).1 = m at *
  simp (disch := omega) only [rq, simprocAttr, Qz, QP, ht, Qr]
  refine Qa hF' ?_
  simp (disch := omega) only [rq, simprocAttr, QP, ht, Qr]
  simp [QK, Qx, frzL, Qu]
 have h3' : (frN b).2 = 0 := Decidable.not_not.1 h3
 have e1 : oE1 b = hrN (oH b) := by rw [oE1, qe h2, qe h3]
 have ha : (frN b).1 = oA b ∧ oA b ≤ 4000 ∧ oA b ≤ b.length := by
  rcases Qhe b with ⟨_, n, hn, h4, h5⟩ | ⟨_, h5⟩
  ·rw [oA, hn, qw]; exact ⟨rfl, h4, h5⟩
  ·omega
 rw [h3', ha.1] at hF'
 have hHl : (oH b).length = b.length - oA b := by rw [oH, qr]
 have hR' := hR (oH b) (by omega)
 have hsH : ((u8 b).drop (oA b)).take (b.length - oA b) = u8 (oH b) := by
  rw [Zr]; exact qi (by rw [Qk, qr]; exact qj _)
 rw [bs, hHl] at hR'
 rw [hrA] at hR'
 by_cases h4 : hrN (oH b) ≠ 0
 ·rw [err (hrN (oH b)) (by rw [opN, qe h1, e1, qh h4]) h4, ix0, bs]
  rw [qe h4, hdA] at hR'
  generalize hrN (oH b) = e at *
  generalize oA b = a at *
  simp (disch := omega) only [rq, simprocAttr, Qz, QP, ht, Qr]
  refine Qa hF' ?_
  simp (disch := omega) only [rq, simprocAttr, hsH]
  refine Qa hR' ?_
  simp (disch := omega) only [rq, simprocAttr, QP, ht, Qr]
  simp [QK, Qx, frzL, Qu]
 have h4' : hrN (oH b) = 0 := Decidable.not_not.1 h4
 rw [qh h4', hdA] at hR'
 have hf := QpB (b := b) (by rw [e1]; exact h4')
 have hM' := hM (oF b) (oC b) (oX b) (oR b) (oN b)
 rw [Qtf, qh hf.hd, hdA, ← oL, Q6] at hM'
 have hR2 : VC P fR [.list (b.length - oA b) (u8 (oH b))] (.tup [.agg [.int .i64 (oF b), .int .i64 (oC b), .int .i64 (oX b), .int .i64 (oR b), .int .i64 (oN b)], .int .i64 0]) := hR'
 clear hR'
 have o2 : oE2 b p ≠ 0 → opN b p = oE2 b p := fun h => by rw [opN, qe h1, e1, qe h4, qh h]
 have o3 : oE2 b p = 0 → opN b p = skR (oT b p) (oL b).length := fun h => by rw [opN, qe h1, e1, qe h4, qe (by omega)]
 have hl := hf.len
 have hl1 := hf.l1
 have hl2 := hf.l2
 have h12 := hf.f12
 have hs8 : 100000 ≥ b.length := hf.le
 have hTl : (oT b p).length = b.length - (oA b + 22 + oD p) := by rw [oT, qr]
 have hsT : ((u8 b).drop (oA b + 22 + oD p)).take (b.length - (oA b + 22 + oD p)) = u8 (oT b p) := by
  rw [Zr]; exact qi (by rw [Qk, qr]; exact qj _)
 have hS2 := hS (oT b p) (oL b).length (by omega) hl1 hl2
 rw [bs, hTl, QyO] at hS2
 have hD' := hD ((b.drop (oA b + 22)).take 8) p (by simp; omega)
 have hs22 : ((u8 b).drop (oA b + 22)).take 8 = u8 ((b.drop (oA b + 22)).take 8) := by rw [Zr, Z1]
 have hkL : (ks .i64 (oL b)).length = (oL b).length := Qc _ _
 have hzS : (iL (oS b p)).length = (oL b).length := by rw [Zy]; exact QaG _ _
 have eS : QmU (oT b p) (oL b).length = oS b p := rfl
 rw [eS, Q6, hzS] at hS2
 have eM : oM b p = oA b + 22 + oD p + (4 * (oL b).length + 4) := rfl
 have tS := Qp .i64 (iL (oS b p))
 have hokA : opN b p = 0 → QsE b p = .tup [.agg [.int .i64 (oF b), .int .i64 (oC b), .int .i64 (oX b), .int .i64 (oR b), .int .i64 (oN b), .int .i64 ((oA b + 22 + oD p + (4 * (oL b).length + 4) : Nat) : Int), .list (oL b).length (ks .i64 (iL (oS b p)))], .int .i64 0] := fun h => by rw [QsE, qh h, ixA, Q6, hzS, eM]
 by_cases hp : p = []
 ·have e3 : (p == []) = true := by rw [hp]; rfl
  have eD : oD p = 0 := by rw [oD, qh hp]
  rw [eD, yI] at hS2 hsT hokA
  by_cases h5 : oF b = 1
  ·have e2 : oE2 b p = 0 := by rw [oE2, qe (fun h => h.elim (fun h => h.2 h5) (fun h => h.1 hp)), qh hp]
   have o4 := o3 e2
   by_cases h6 : skR (oT b p) (oL b).length = 0
   ·rw [qh h6] at hS2
    rw [hokA (by rw [o4, h6]), bs]
    clear hokA o2 o3 o4 err hD' hF hR hD hM hS eM eS h6 hzS
    rw [h5] at hR2 hM' ⊢
    generalize oA b = a at *
    generalize oS b p = S at *
    generalize skR (oT b p) (oL b).length = sk at *
    generalize oH b = H at *
    generalize oT b p = T at *
    generalize (oL b).length = n at *
    generalize oL b = L at *
    simp (disch := omega) only [rq, simprocAttr, Qz, QP, ht, Qr, Qa4, e3]
    refine Qa hF' ?_
    simp (disch := omega) only [rq, simprocAttr, hsH]
    refine Qa hR2 ?_
    simp (disch := omega) only [rq, simprocAttr, Qa4, e3]
    refine Qa hM' ?_
    simp (disch := omega) only [rq, simprocAttr, hsT]
    refine Qa hS2 ?_
    simp (disch := omega) only [rq, simprocAttr, QP, ht, Qr]
    simp [QK, Qx, frzL, Qu, frzL_T _ tS]
    omega
   ·rw [qe h6] at hS2
    rw [err _ o4 h6, ix0, bs]
    clear hokA o2 o3 o4 err hD' hF hR hD hM hS eM eS hzS
    rw [h5] at hR2 hM'
    generalize oA b = a at *
    generalize oS b p = S at *
    generalize skR (oT b p) (oL b).length = sk at *
    generalize oH b = H at *
    generalize oT b p = T at *
    generalize (oL b).length = n at *
    generalize oL b = L at *
    simp (disch := omega) only [rq, simprocAttr, Qz, QP, ht, Qr, Qa4, e3]
    refine Qa hF' ?_
    simp (disch := omega) only [rq, simprocAttr, hsH]
    refine Qa hR2 ?_
    simp (disch := omega) only [rq, simprocAttr, Qa4, e3]
    refine Qa hM' ?_
    simp (disch := omega) only [rq, simprocAttr, hsT]
    refine Qa hS2 ?_
    simp (disch := omega) only [rq, simprocAttr, QP, ht, Qr]
    simp [QK, Qx, frzL, Qu, frzL_T _ tS]
  ·have e2 : oE2 b p = 26 := by rw [oE2, qh (.inl ⟨hp, h5⟩)]
   rw [err _ (o2 (by omega)) (by omega), e2, ix0, bs]
   have h5' : oF b = 2 := by omega
   clear hokA o2 o3 err hD' hF hR hD hM hS eM eS hzS
   rw [h5'] at hR2 hM'
   generalize oA b = a at *
   generalize oS b p = S at *
   generalize skR (oT b p) (oL b).length = sk at *
   generalize oH b = H at *
   generalize oT b p = T at *
   generalize (oL b).length = n at *
   generalize oL b = L at *
   simp (disch := omega) only [rq, simprocAttr, Qz, QP, ht, Qr, Qa4, e3]
   refine Qa hF' ?_
   simp (disch := omega) only [rq, simprocAttr, hsH]
   refine Qa hR2 ?_
   simp (disch := omega) only [rq, simprocAttr, Qa4, e3, QP, ht, Qr]
   simp [QK, Qx, frzL, Qu]
 ·have e3 : (p == []) = false := yh.2 hp
  have eD : oD p = 8 := by rw [oD, qe hp]
  rw [eD, j1 (oA b) 22 8] at hS2 hsT hokA
  simp only [Nat.reduceAdd] at hS2 hsT hokA
  by_cases h5 : oF b = 1
  ·have e2 : oE2 b p = 26 := by rw [oE2, qh (.inr ⟨hp, h5⟩)]
   rw [err _ (o2 (by omega)) (by omega), e2, ix0, bs]
   clear hokA o2 o3 err hD' hF hR hD hM hS eM eS hzS
   rw [h5] at hR2 hM'
   generalize oA b = a at *
   generalize oS b p = S at *
   generalize skR (oT b p) (oL b).length = sk at *
   generalize oH b = H at *
   generalize oT b p = T at *
   generalize (oL b).length = n at *
   generalize oL b = L at *
   simp (disch := omega) only [rq, simprocAttr, Qz, QP, ht, Qr, Qa4, e3]
   refine Qa hF' ?_
   simp (disch := omega) only [rq, simprocAttr, hsH]
   refine Qa hR2 ?_
   simp (disch := omega) only [rq, simprocAttr, Qa4, e3, QP, ht, Qr]
   simp [QK, Qx, frzL, Qu]
  have h5' : oF b = 2 := by omega
  have e0 : ¬ ((p = [] ∧ oF b ≠ 1) ∨ (p ≠ [] ∧ oF b = 1)) := fun h => h.elim (fun h => hp h.1) (fun h => h5 h.2)
  by_cases h7 : b.length < oA b + 30
  ·have e2 : oE2 b p = 24 := by rw [oE2, qe e0, qe hp, qh h7]
   rw [err _ (o2 (by omega)) (by omega), e2, ix0, bs]
   clear hokA o2 o3 err hD' hF hR hD hM hS eM eS hzS e0
   rw [h5'] at hR2 hM'
   generalize oA b = a at *
   generalize oS b p = S at *
   generalize skR (oT b p) (oL b).length = sk at *
   generalize oH b = H at *
   generalize oT b p = T at *
   generalize (oL b).length = n at *
   generalize oL b = L at *
   simp (disch := omega) only [rq, simprocAttr, Qz, QP, ht, Qr, Qa4, e3]
   refine Qa hF' ?_
   simp (disch := omega) only [rq, simprocAttr, hsH]
   refine Qa hR2 ?_
   simp (disch := omega) only [rq, simprocAttr, Qa4, e3, QP, ht, Qr]
   simp [QK, Qx, frzL, Qu]
  have h8l : ((b.drop (oA b + 22)).take 8).length = 8 := by rw [qu, qr]; omega
  rw [Qfq, qe (by omega), bs, h8l] at hD'
  have eX : (b.drop (oA b + 22)).take 8 ≠ leB (Qbn 0 p) 8 ↔ ((b.drop (oA b + 22)).take 8 == leB (Qbn 0 p) 8) = false := by simp
  have hX2 : oE2 b p = if ((b.drop (oA b + 22)).take 8 == leB (Qbn 0 p) 8) = false then 26 else 0 := by
   rw [oE2, qe e0, qe hp, qe h7]
   by_cases hh : (b.drop (oA b + 22)).take 8 = leB (Qbn 0 p) 8
   ·rw [qe (by simpa using hh), qe (by simpa using hh)]
   ·rw [qh hh, qh (by simpa using hh)]
  clear eX e0
  generalize ((b.drop (oA b + 22)).take 8 == leB (Qbn 0 p) 8) = r at *
  generalize (b.drop (oA b + 22)).take 8 = D8 at *
  have q8 : oA b + 22 + 8 - (oA b + 22) = 8 := by omega
  have q30 : (oA b : Int) + 22 + 8 = ((oA b + 30 : Nat) : Int) := by omega
  cases r with
  | false =>
   rw [qh rfl] at hX2
   rw [err _ (o2 (by omega)) (by omega), hX2, ix0, bs]
   have hD2 := hD'
   clear hokA o2 o3 err hD' hF hR hD hM hS eM eS hzS
   rw [h5'] at hR2 hM'
   generalize oA b = a at *
   generalize oS b p = S at *
   generalize skR (oT b p) (oL b).length = sk at *
   generalize oH b = H at *
   generalize oT b p = T at *
   generalize (oL b).length = n at *
   generalize oL b = L at *
   simp (disch := omega) only [rq, simprocAttr, Qz, QP, ht, Qr, Qa4, e3]
   refine Qa hF' ?_
   simp (disch := omega) only [rq, simprocAttr, hsH]
   refine Qa hR2 ?_
   simp (disch := omega) only [rq, simprocAttr, Qa4, e3, q8, hs22]
   refine Qa hD2 ?_
   simp (disch := omega) only [rq, simprocAttr, QP, ht, Qr]
   simp [QK, Qx, frzL, Qu]
  | true =>
   rw [qe (fun h => Bool.noConfusion h)] at hX2
   have o4 := o3 hX2
   have hD2 := hD'
   by_cases h6 : skR (oT b p) (oL b).length = 0
   ·rw [qh h6] at hS2
    rw [hokA (by rw [o4, h6]), bs]
    clear hokA o2 o3 o4 err hD' hF hR hD hM hS eM eS h6 hzS
    rw [h5'] at hR2 hM' ⊢
    generalize oA b = a at *
    generalize oS b p = S at *
    generalize skR (oT b p) (oL b).length = sk at *
    generalize oH b = H at *
    generalize oT b p = T at *
    generalize (oL b).length = n at *
    generalize oL b = L at *
    simp (disch := omega) only [rq, simprocAttr, Qz, QP, ht, Qr, Qa4, e3]
    refine Qa hF' ?_
    simp (disch := omega) only [rq, simprocAttr, hsH]
    refine Qa hR2 ?_
    simp (disch := omega) only [rq, simprocAttr, Qa4, e3, q8, hs22]
    refine Qa hD2 ?_
    simp (disch := omega) only [rq, simprocAttr]
    refine Qa hM' ?_
    simp (disch := omega) only [rq, simprocAttr, hsT]
    refine Qa hS2 ?_
    simp (disch := omega) only [rq, simprocAttr, QP, ht, Qr]
    simp [QK, Qx, frzL, Qu, frzL_T _ tS]
    omega
   ·rw [qe h6] at hS2
    rw [err _ o4 h6, ix0, bs]
    clear hokA o2 o3 o4 err hD' hF hR hD hM hS eM eS hzS
    rw [h5'] at hR2 hM'
    generalize oA b = a at *
    generalize oS b p = S at *
    generalize skR (oT b p) (oL b).length = sk at *
    generalize oH b = H at *
    generalize oT b p = T at *
    generalize (oL b).length = n at *
    generalize oL b = L at *
    simp (disch := omega) only [rq, simprocAttr, Qz, QP, ht, Qr, Qa4, e3]
    refine Qa hF' ?_
    simp (disch := omega) only [rq, simprocAttr, hsH]
    refine Qa hR2 ?_
    simp (disch := omega) only [rq, simprocAttr, Qa4, e3, q8, hs22]
    refine Qa hD2 ?_
    simp (disch := omega) only [rq, simprocAttr]
    refine Qa hM' ?_
    simp (disch := omega) only [rq, simprocAttr, hsT]
    refine Qa hS2 ?_
    simp (disch := omega) only [rq, simprocAttr, QP, ht, Qr]
    simp [QK, Qx, frzL, Qu, frzL_T _ tS]
def Qon (g : Nat → Int) : Nat → Nat
 | 0 => 0
 | m + 1 => if Qon g m < m then Qon g m else if g m ≠ 0 then m else m + 1
theorem Qkg (g : Nat → Int) : ∀ m, Qon g m ≤ m
 | 0 => qj _
 | m + 1 => by
  have := Qkg g m
  unfold Qon
  split
  ·omega
  split <;> omega
theorem Qom (g : Nat → Int) : ∀ m, (∀ j, j < Qon g m → g j = 0) ∧ (Qon g m < m → g (Qon g m) ≠ 0)
 | 0 => ⟨fun j h => absurd h (by simp [Qon]), fun h => absurd h (by simp [Qon])⟩
 | m + 1 => by
  obtain ⟨h1, h2⟩ := Qom g m
  have hl := Qkg g m
  unfold Qon
  split
  ·rename_i h
   exact ⟨h1, fun _ => h2 h⟩
  rename_i h
  have e : Qon g m = m := by omega
  rw [e] at h1
  split
  ·rename_i h3
   exact ⟨h1, fun _ => h3⟩
  ·rename_i h3
   refine ⟨fun j hj => ?_, fun h => absurd h (by omega)⟩
   by_cases hm : j < m
   ·exact h1 j hm
   ·rw [show j = m by omega]; exact Decidable.not_not.1 h3
theorem Qkh {g : Nat → Int} {m k : Nat} (hk : k ≤ m) (h1 : ∀ j, j < k → g j = 0) (h2 : k < m → g k ≠ 0) : Qon g m = k := by
 have hl := Qkg g m
 obtain ⟨h3, h4⟩ := Qom g m
 by_cases hlt : Qon g m < k
 ·exact absurd (h1 _ hlt) (h4 (by omega))
 by_cases hgt : k < Qon g m
 ·exact absurd (h3 _ hgt) (h2 (by omega))
 omega
def oW (b p : List UInt8) (k : Nat) : Nat := oM b p + ((oS b p).take k).sum
def ofB (b p : List UInt8) (k : Nat) : List UInt8 := (b.drop (oW b p k)).take ((oS b p).getD k 0)
def tpT (p : List UInt8) : List Int := ofK (Qbn 0 p) 8
def ofE (b p : List UInt8) (k : Nat) : Int := if b.length < oW b p (k + 1) then 24 else Qv7 (oC b) (oX b) (tpT p) ((oL b).getD k 0) (ofB b p k)
def ofP (b p : List UInt8) (k : Nat) : List Int := Qym (oC b) (oX b) (tpT p) ((oL b).getD k 0) (ofB b p k)
def smF (b p : List UInt8) : Nat → List Int
 | 0 => []
 | k + 1 => smF b p k ++ ofP b p k
theorem QnL (b p : List UInt8) (k : Nat) : (ofP b p k).length ≤ 4000 := (Qyl _ _ _ _ _).2.1
theorem Qr6 (b p : List UInt8) : ∀ k, (smF b p k).length ≤ 4000 * k
 | 0 => by simp [smF]
 | k + 1 => by
  have h1 := Qr6 b p k
  have h2 := QnL b p k
  rw [smF, qt]
  omega
def oB (b p : List UInt8) : Nat := Qon (ofE b p) (oL b).length
def clN (b p : List UInt8) : Int := if opN b p ≠ 0 then opN b p else if oB b p < (oL b).length then ofE b p (oB b p) else if (bhN (b.drop (oW b p (oL b).length))).2 ≠ 0 then 38 else 0
def QwT (b p : List UInt8) : AV := if clN b p = 0 then .tup [clA (oC b) (oX b) (oR b) (smF b p (oL b).length), .int .i64 0] else .tup [clA 0 0 0 [], .int .i64 (clN b p)]
theorem QvT (b p : List UInt8) : isD (QwT b p) = true := by unfold QwT; split <;> simp [isD, isDL, clA, Qar]
theorem QsM (b p : List UInt8) (k : Nat) : oW b p (k + 1) = oW b p k + (oS b p).getD k 0 := by
 rw [oW, oW, Qgd]; omega
theorem Qvi {b p : List UInt8} (h : opN b p = 0) (k : Nat) : oW b p k ≤ 200000 ∧ (oS b p).getD k 0 ≤ 100000 := by
 obtain ⟨h1, h2, h3⟩ := QeY h
 obtain ⟨_, hf, _⟩ := QdV h
 have h4 := (QlC h2).1
 have h5 := Jn (oS b p) k
 have h6 := Qgd (oS b p) k
 have h7 := Jn (oS b p) (k + 1)
 have h8 := hf.le
 rw [oW]
 omega
theorem QAM {b p : List UInt8} (h : opN b p = 0) : ∀ {k}, (∀ j, j < k → ofE b p j = 0) → oW b p k ≤ b.length
 | 0, _ => by rw [oW, jx]; exact (QeY h).1
 | k + 1, hk => by
  have := hk k (by omega)
  unfold ofE at this
  split at this
  ·cases this
  ·omega
theorem Qwx (p : List UInt8) : (tpT p).length = 16 ∧ I32 (tpT p) := ⟨Qdf _ _, Qus _ _⟩
def hdG (b : List UInt8) (y z : Nat) : List AV := [.int .i64 (oF b), .int .i64 (oC b), .int .i64 (oX b), .int .i64 (oR b), .int .i64 (oN b), .int .i64 (oA b), .int .i64 ((oA b + 22 : Nat) : Int), .int .i64 ((oA b + 22 + (if oF b = 2 then 8 else 0) : Nat) : Int), .int .i64 y, .int .i64 z, .list (oL b).length (ks .i64 (oL b))]
def hd0 : List AV := [.int .i64 0, .int .i64 0, .int .i64 0, .int .i64 0, .int .i64 0, .int .i64 0, .int .i64 0, .int .i64 0, .int .i64 0, .int .i64 0, .list 0 []]
def Qw5 (b : List UInt8) : AV := if oE1 b = 0 then .tup [.agg (hdG b 0 0), .int .i64 0] else .tup [.agg hd0, .int .i64 (oE1 b)]
theorem QvE (b : List UInt8) : isD (Qw5 b) = true := by unfold Qw5; split <;> simp [isD, isDL, hdG, hd0, Zf]
def QkB (P : Prg) (f : Nat) : Prop := ∀ b : List UInt8, b.length ≤ 1000000 → VC P f [bs b] (Qw5 b)
set_option maxHeartbeats 2000000 in
theorem Qk9 {P : Prg} {f fF fR fM t0 : Nat} (bd : Body P f 62 [.cell 2 t0, .tmp 3] (Q9 fF fR fM t0)) (ht : Zq P t0 = some (some 11)) (hF : QcG P fF) (hR : QeJ P fR) (hM : Ju P fM) : QkB P f := by
 intro b hb
 refine Qi 1 (by simp [isDL, QM]) (QvE b) (Qb bd (by simp) ?_)
 have hlu := Qk b
 have err : ∀ e : Int, oE1 b = e → e ≠ 0 → Qw5 b = .tup [.agg hd0, .int .i64 e] := fun e h h0 => by rw [Qw5, h, qe h0]
 by_cases h2 : 100000 < b.length
 ·rw [err 4 (by rw [oE1, qh h2]) (by omega), hd0, bs]
  simp (disch := omega) only [rq, simprocAttr, Q9, QP, ht, Qr]
  simp [QK, Qx, frzL, Qu]
 have hF' := hF b hb
 rw [bs] at hF'
 by_cases h3 : (frN b).2 ≠ 0
 ·rw [err (frN b).2 (by rw [oE1, qe h2, qh h3]) h3, hd0, bs]
  generalize (frN b).2 = e at *
  generalize (frN b).1 = m at *
  simp (disch := omega) only [rq, simprocAttr, Q9, QP, ht, Qr]
  refine Qa hF' ?_
  simp (disch := omega) only [rq, simprocAttr, QP, ht, Qr]
  simp [QK, Qx, frzL, Qu]
 have h3' : (frN b).2 = 0 := Decidable.not_not.1 h3
 have e1 : oE1 b = hrN (oH b) := by rw [oE1, qe h2, qe h3]
 have ha : (frN b).1 = oA b ∧ oA b ≤ 4000 ∧ oA b ≤ b.length := by
  rcases Qhe b with ⟨_, n, hn, h4, h5⟩ | ⟨_, h5⟩
  ·rw [oA, hn, qw]; exact ⟨rfl, h4, h5⟩
  ·omega
 rw [h3', ha.1] at hF'
 have hHl : (oH b).length = b.length - oA b := by rw [oH, qr]
 have hR' := hR (oH b) (by omega)
 have hsH : ((u8 b).drop (oA b)).take (b.length - oA b) = u8 (oH b) := by
  rw [Zr]; exact qi (by rw [Qk, qr]; exact qj _)
 rw [bs, hHl] at hR'
 rw [hrA] at hR'
 by_cases h4 : hrN (oH b) ≠ 0
 ·rw [err _ e1 h4, hd0, bs]
  rw [qe h4, hdA] at hR'
  generalize hrN (oH b) = e at *
  generalize oA b = a at *
  simp (disch := omega) only [rq, simprocAttr, Q9, QP, ht, Qr]
  refine Qa hF' ?_
  simp (disch := omega) only [rq, simprocAttr, hsH]
  refine Qa hR' ?_
  simp (disch := omega) only [rq, simprocAttr, QP, ht, Qr]
  simp [QK, Qx, frzL, Qu]
 have h4' : hrN (oH b) = 0 := Decidable.not_not.1 h4
 rw [qh h4', hdA] at hR'
 have hf := QpB (b := b) (by rw [e1]; exact h4')
 have hM' := hM (oF b) (oC b) (oX b) (oR b) (oN b)
 rw [Qtf, qh hf.hd, hdA, ← oL, Q6] at hM'
 have hR2 : VC P fR [.list (b.length - oA b) (u8 (oH b))] (.tup [.agg [.int .i64 (oF b), .int .i64 (oC b), .int .i64 (oX b), .int .i64 (oR b), .int .i64 (oN b)], .int .i64 0]) := hR'
 have h12 := hf.f12
 have tl := Qp .i64 (oL b)
 rw [Qw5, qh (by rw [e1]; exact h4'), hdG, bs]
 clear hR' err e1 hF hR hM
 generalize oA b = a at *
 generalize (oL b).length = n at *
 generalize oL b = L at *
 generalize oH b = H at *
 rcases h12 with h5 | h5
 ·rw [h5] at hR2 hM' ⊢
  simp (disch := omega) only [rq, simprocAttr, Q9]
  refine Qa hF' ?_
  simp (disch := omega) only [rq, simprocAttr, hsH]
  refine Qa hR2 ?_
  simp (disch := omega) only [rq, simprocAttr]
  refine Qa hM' ?_
  simp (disch := omega) only [rq, simprocAttr, QP, ht, Qr]
  simp [QK, Qx, frzL, Qu, frzL_T _ tl]
 ·rw [h5] at hR2 hM' ⊢
  simp (disch := omega) only [rq, simprocAttr, Q9]
  refine Qa hF' ?_
  simp (disch := omega) only [rq, simprocAttr, hsH]
  refine Qa hR2 ?_
  simp (disch := omega) only [rq, simprocAttr]
  refine Qa hM' ?_
  simp (disch := omega) only [rq, simprocAttr, QP, ht, Qr]
  simp [QK, Qx, frzL, Qu, frzL_T _ tl]
section
variable {P : Prg} {b p : List UInt8}
set_option maxHeartbeats 1000000 in
theorem Qm5 {f fD : Nat} (bd : Body P f 51 [.tmp 6] (QF fD)) (hD : QeK P fD) (hf : FOk b) (hp : ¬ 64 < p.length) {y : Ob} {tH : Nat} {K : AV → List Ob → Prop} (hK : K (.int .i64 (oE2 b p)) [y, ⟨tH, 11, 1, hdG b 0 0, 0⟩]) : ACall P f [.ref 1 1 0, bs b, .str p] [y, ⟨tH, 11, 1, hdG b 0 0, 0⟩] K := by
 refine Qb bd (by simp) ?_
 have hle := hf.le
 have hub := Qk b
 have h12 := hf.f12
 have hl := hf.len
 have hD' := hD ((b.drop (oA b + 22)).take 8) p (by simp; omega)
 have hs22 : ((u8 b).drop (oA b + 22)).take 8 = u8 ((b.drop (oA b + 22)).take 8) := by rw [Zr, Z1]
 simp only [hdG] at hK ⊢
 by_cases e : p = []
 ·have e3 : (p == []) = true := by rw [e]; rfl
  by_cases h5 : oF b = 1
  ·have e2 : oE2 b p = 0 := by rw [oE2, qe (fun h => h.elim (fun h => h.2 h5) (fun h => h.1 e)), qh e]
   rw [e2] at hK
   rw [h5] at hK ⊢
   generalize oA b = a at *
   rw [bs]
   simp (disch := omega) only [rq, simprocAttr, QF, Qa4, e3]
   simpa using hK
  ·have e2 : oE2 b p = 26 := by rw [oE2, qh (.inl ⟨e, h5⟩)]
   have h5' : oF b = 2 := by omega
   rw [e2] at hK
   rw [h5'] at hK ⊢
   generalize oA b = a at *
   rw [bs]
   simp (disch := omega) only [rq, simprocAttr, QF, Qa4, e3]
   simpa using hK
 have e3 : (p == []) = false := yh.2 e
 by_cases h5 : oF b = 1
 ·have e2 : oE2 b p = 26 := by rw [oE2, qh (.inr ⟨e, h5⟩)]
  rw [e2] at hK
  rw [h5] at hK ⊢
  generalize oA b = a at *
  rw [bs]
  simp (disch := omega) only [rq, simprocAttr, QF, Qa4, e3]
  simpa using hK
 have h5' : oF b = 2 := by omega
 have e0 : ¬ ((p = [] ∧ oF b ≠ 1) ∨ (p ≠ [] ∧ oF b = 1)) := fun h => h.elim (fun h => e h.1) (fun h => h5 h.2)
 have q0 : (if (2 : Int) = 2 then 8 else 0) = 8 := qh rfl
 by_cases h7 : b.length < oA b + 30
 ·have e2 : oE2 b p = 24 := by rw [oE2, qe e0, qe e, qh h7]
  rw [e2] at hK
  rw [h5'] at hK ⊢
  clear e0
  generalize oA b = a at *
  rw [bs]
  simp (disch := omega) only [rq, simprocAttr, QF, Qa4, e3]
  simpa using hK
 have h8l : ((b.drop (oA b + 22)).take 8).length = 8 := by rw [qu, qr]; omega
 rw [Qfq, qe (by omega), bs, h8l] at hD'
 have hX2 : oE2 b p = if ((b.drop (oA b + 22)).take 8 == leB (Qbn 0 p) 8) = false then 26 else 0 := by
  rw [oE2, qe e0, qe e, qe h7]
  by_cases hh : (b.drop (oA b + 22)).take 8 = leB (Qbn 0 p) 8
  ·rw [qe (by simpa using hh), qe (by simpa using hh)]
  ·rw [qh hh, qh (by simpa using hh)]
 rw [hX2] at hK
 clear e0 hX2
 rw [h5'] at hK ⊢
 generalize ((b.drop (oA b + 22)).take 8 == leB (Qbn 0 p) 8) = r at *
 generalize (b.drop (oA b + 22)).take 8 = D8 at *
 have q8 : oA b + 22 + 8 - (oA b + 22) = 8 := by omega
 generalize oA b = a at *
 rw [bs]
 cases r with
 | false =>
  rw [qh rfl] at hK
  simp (disch := omega) only [rq, simprocAttr, QF, Qa4, e3, q8, hs22]
  refine QN hD' ?_
  simp (disch := omega) only [rq, simprocAttr]
  simpa using hK
 | true =>
  rw [qe (fun h => Bool.noConfusion h)] at hK
  simp (disch := omega) only [rq, simprocAttr, QF, Qa4, e3, q8, hs22]
  refine QN hD' ?_
  simp (disch := omega) only [rq, simprocAttr]
  simpa using hK
end
section
variable {P : Prg} {b p : List UInt8}
theorem Qzq (hf : FOk b) (h : oE2 b p = 0) : (if oF b = 2 then 8 else 0) = oD p ∧ oA b + 22 + oD p ≤ b.length := by
 have h12 := hf.f12
 have hl := hf.len
 rcases QwD h with ⟨h1, h2⟩ | ⟨h1, h2, h3, _⟩
 ·rw [oD, qh h1, qe (by omega)]; omega
 ·rw [oD, qe h1, qh (by omega)]; omega
set_option maxHeartbeats 1000000 in
theorem Qk8 {f fS : Nat} (bd : Body P f 78 [.tmp 4, .tmp 5] (QZ fS)) (hS : Qcn P fS) (hf : FOk b) (h2 : oE2 b p = 0) {y : Ob} {tH : Nat} {K : AV → List Ob → Prop}
  (hK : if skR (oT b p) (oL b).length = 0 then K (.tup [.list (oL b).length (ks .i64 (iL (oS b p))), .int .i64 0]) [y, ⟨tH, 11, 1, hdG b (oM b p) (oW b p (oL b).length), 0⟩] else K (.tup [.emp true, .int .i64 (skR (oT b p) (oL b).length)]) [y, ⟨tH, 11, 1, hdG b 0 0, 0⟩]) :
  ACall P f [.ref 1 1 0, bs b] [y, ⟨tH, 11, 1, hdG b 0 0, 0⟩] K := by
 refine Qb bd (by simp) ?_
 have hle := hf.le
 have hub := Qk b
 obtain ⟨hd, hdl⟩ := Qzq hf h2
 have hl1 := hf.l1
 have hl2 := hf.l2
 have hTl : (oT b p).length = b.length - (oA b + 22 + oD p) := by rw [oT, qr]
 have hsT : ((u8 b).drop (oA b + 22 + oD p)).take (b.length - (oA b + 22 + oD p)) = u8 (oT b p) := by
  rw [Zr]; exact qi (by rw [Qk, qr]; exact qj _)
 have hS2 := hS (oT b p) (oL b).length (by omega) hl1 hl2
 have hzL : (oS b p).length = (oL b).length := QaG _ _
 have hzS : (iL (oS b p)).length = (oL b).length := by rw [Zy]; exact hzL
 have hkS : (ks .i64 (iL (oS b p))).length = (oL b).length := by rw [Qc, hzS]
 have hkL : (ks .i64 (oL b)).length = (oL b).length := Qc _ _
 have eS : QmU (oT b p) (oL b).length = oS b p := rfl
 rw [bs, hTl, QyO, eS, Q6, hzS] at hS2
 obtain ⟨D, hD⟩ : ∃ D, D = oA b + 22 + oD p := ⟨_, rfl⟩
 rw [← hD] at hsT hS2 hdl
 have hM : oM b p = D + (4 * (oL b).length + 4) := by rw [oM, ← hD]
 have hdD : ∀ y z : Nat, hdG b y z = [.int .i64 (oF b), .int .i64 (oC b), .int .i64 (oX b), .int .i64 (oR b), .int .i64 (oN b), .int .i64 (oA b), .int .i64 ((oA b + 22 : Nat) : Int), .int .i64 D, .int .i64 y, .int .i64 z, .list (oL b).length (ks .i64 (oL b))] := fun y z => by rw [hdG, hd, ← hD]
 have hWs : ∀ k, oW b p k = oM b p + ((oS b p).take k).sum := fun _ => rfl
 have hts := Qgd (oS b p)
 have hsm : skR (oT b p) (oL b).length = 0 → (oS b p).sum ≤ 100000 := fun h => by
  rcases QgS (oT b p) (oL b).length with h1 | h1 | h1 | ⟨_, _, h1⟩
  ·omega
  ·omega
  ·omega
  ·exact (QlC h1).1
 have htl := Jn (oS b p)
 rw [hdD, hdD] at hK
 rw [hdD]
 by_cases h6 : skR (oT b p) (oL b).length = 0
 case neg =>
  rw [qe h6] at hK hS2
  clear hsm hdD hS eS
  generalize skR (oT b p) (oL b).length = e at *
  generalize oA b = a at *
  generalize (oL b).length = n at *
  rw [bs]
  simp (disch := omega) only [rq, simprocAttr, QZ, hsT]
  refine QN hS2 ?_
  simp (disch := omega) only [rq, simprocAttr]
  simpa using hK
 rw [qh h6] at hK hS2
 have hsm := hsm h6
 have hat : ∀ i, i < (oL b).length → (ks .i64 (iL (oS b p))).drop i = .int .i64 ((oS b p).getD i 0 : Nat) :: ks .i64 ((iL (oS b p)).drop (i + 1)) := fun i hi => by
  have := Qbu (K := .i64) (l := iL (oS b p)) (i := i) (by omega)
  rw [Qtd] at this
  exact this
 rw [hWs, hM] at hK
 clear hS eS h6 hWs hM hdD
 generalize oA b = a at *
 generalize oS b p = S at *
 generalize (oL b).length = n at *
 have ht0 : (S.take n) = S := qi (by omega)
 obtain ⟨A, hA⟩ : ∃ A, A = D + (4 * n + 4) := ⟨_, rfl⟩
 rw [← hA] at hK
 have hAi : (D : Int) + 4 * (n : Int) + 4 = (A : Int) := by omega
 rw [bs]
 simp (disch := omega) only [rq, simprocAttr, QZ, hsT]
 refine QN hS2 ?_
 simp (disch := omega) only [rq, simprocAttr, hAi]
 refine Qj (ι := Nat) (fun k => ⟨[(62, .int .i64 k), (61, .int .i64 n), (60, .list n (ks .i64 (iL S))), (0, .ref 1 1 0), (6, .list n (ks .i64 (iL S)))], [y, ⟨tH, 11, 1, [.int .i64 (oF b), .int .i64 (oC b), .int .i64 (oX b), .int .i64 (oR b), .int .i64 (oN b), .int .i64 a, .int .i64 ((a + 22 : Nat) : Int), .int .i64 (D : Int), .int .i64 (A : Int), .int .i64 ((A + (S.take k).sum : Nat) : Int), .list n (ks .i64 (oL b))], 0⟩]⟩) (fun k => k ≤ n) (fun k => n - k) 0 ?_ (by omega) ?_
 ·simp only [jx, Yl, yI]
  exact Qe
 intro k hk
 have hfl2 := htl k
 by_cases hlt : k < n
 ·have e2 := hat k hlt
  have hs1 := hts k
  have hfl3 := htl (k + 1)
  generalize S.getD k 0 = z at *
  generalize (S.take k).sum = s at *
  simp (disch := omega) only [rq, simprocAttr, e2]
  refine ⟨k + 1, by omega, by omega, ?_⟩
  rw [hs1]
  simp only [yU, Int.add_assoc]
  exact Qe
 ·obtain rfl : k = n := by omega
  simp (disch := omega) only [rq, simprocAttr]
  simpa using hK
end
theorem Qmt {b p : List UInt8} (h : opN b p ≠ 0) : clN b p = opN b p := qh h
theorem Qyt {b p : List UInt8} (h : opN b p = 0) {k : Nat} (hk : k < (oL b).length) (h1 : ∀ j, j < k → ofE b p j = 0) (h2 : ofE b p k ≠ 0) : clN b p = ofE b p k := by
 have e : oB b p = k := Qkh (by omega) h1 fun _ => h2
 rw [clN, qe (by omega), e, qh hk]
theorem Qyu {b p : List UInt8} (h : opN b p = 0) (h1 : ∀ j, j < (oL b).length → ofE b p j = 0) : clN b p = if (bhN (b.drop (oW b p (oL b).length))).2 ≠ 0 then 38 else 0 := by
 have e : oB b p = (oL b).length := Qkh (qj _) h1 fun h => absurd h (by omega)
 rw [clN, qe (by omega), e, qe (by omega)]
def QkC (P : Prg) (f : Nat) : Prop := ∀ b p : List UInt8, b.length ≤ 1000000 → VC P f [bs b, .str p] (QwT b p)
set_option maxHeartbeats 4000000 in
theorem Qm6 {P : Prg} {f fS fP fT fs fD fB gD gS t0 t1 t2 t3 t4 : Nat} (bd : Body P f 130 [.cell 4 t0, .tmp 5] (J8 fS fP fT fs fD fB t0 t1 t2 t3 t4)) (ht : Zq P t0 = some (some 4)) (hS : QkB P fS) (bP : Body P fP 51 [.tmp 6] (QF gD)) (hGD : QeK P gD) (bT : Body P fT 78 [.tmp 4, .tmp 5] (QZ gS)) (hGS : Qcn P gS) (hs : QpN P fs) (hD : QgB P fD) (hB : QhS P fB) : QkC P f := by
 intro b p hb
 refine Qi 2 (by simp [isDL, isD, QM]) (QvT b p) (Qb bd (by simp) ?_)
 have hlu := Qk b
 have err : ∀ e : Int, clN b p = e → e ≠ 0 → QwT b p = .tup [.agg [.int .i64 0, .int .i64 0, .int .i64 0, .list 0 []], .int .i64 e] := fun e h h0 => by rw [QwT, h, qe h0]; rfl
 have z16 : (z3L : List AV) = ks .i32 Jf := rfl
 unfold J8
 rw [z16]
 by_cases h1 : 64 < p.length
 ·have e0 : opN b p = 2 := by rw [opN, qh h1]
  rw [err 2 (by rw [Qmt (by omega), e0]) (by omega), bs]
  clear err hS bP hGD bT hGS hs hD hB
  simp (disch := omega) only [rq, simprocAttr, QP, ht, Qr]
  simp [QK, Qx, frzL, Qu]
 have hS' := hS b hb
 rw [Qw5] at hS'
 by_cases h2 : oE1 b ≠ 0
 ·rw [qe h2, hd0] at hS'
  have e0 : opN b p = oE1 b := by rw [opN, qe h1, qh h2]
  rw [err (oE1 b) (by rw [Qmt (by omega), e0]) h2, bs]
  rw [bs] at hS'
  clear err hS bP hGD bT hGS hs hD hB e0
  generalize oE1 b = e at *
  simp (disch := omega) only [rq, simprocAttr]
  refine Qa hS' ?_
  simp (disch := omega) only [rq, simprocAttr, QP, ht, Qr]
  simp [QK, Qx, frzL, Qu]
 have h2' : oE1 b = 0 := Decidable.not_not.1 h2
 rw [qh h2'] at hS'
 have hf := QpB h2'
 have hle := hf.le
 have pass := fun {y : Ob} {tH : Nat} {K : AV → List Ob → Prop} => Qm5 (y := y) (tH := tH) (K := K) bP hGD hf h1
 obtain ⟨D2, hD2⟩ : ∃ D2 : Nat, D2 = oA b + 22 + (if oF b = 2 then 8 else 0) := ⟨_, rfl⟩
 have hdD : ∀ y z : Nat, hdG b y z = [.int .i64 (oF b), .int .i64 (oC b), .int .i64 (oX b), .int .i64 (oR b), .int .i64 (oN b), .int .i64 (oA b), .int .i64 ((oA b + 22 : Nat) : Int), .int .i64 D2, .int .i64 y, .int .i64 z, .list (oL b).length (ks .i64 (oL b))] := fun y z => by rw [hdG, ← hD2]
 by_cases h3 : oE2 b p ≠ 0
 ·have e0 : opN b p = oE2 b p := by rw [opN, qe h1, qe h2, qh h3]
  rw [err (oE2 b p) (by rw [Qmt (by omega), e0]) h3]
  simp only [hdD] at pass hS'
  rw [bs] at hS' pass ⊢
  clear err hS bP hGD bT hGS hs hD hB e0 hD2 hdD
  generalize oE2 b p = e at *
  generalize oA b = a at *
  simp (disch := omega) only [rq, simprocAttr]
  refine Qa hS' ?_
  simp (disch := omega) only [rq, simprocAttr]
  refine pass ?_
  simp (disch := omega) only [rq, simprocAttr, QP, ht, Qr]
  simp [QK, Qx, frzL, Qu]
 have h3' : oE2 b p = 0 := Decidable.not_not.1 h3
 rw [h3'] at pass
 have tb := fun {y : Ob} {tH : Nat} {K : AV → List Ob → Prop} => Qk8 (y := y) (tH := tH) (K := K) bT hGS hf h3'
 have hop : opN b p = skR (oT b p) (oL b).length := by rw [opN, qe h1, qe h2, qe h3]
 by_cases h4 : skR (oT b p) (oL b).length ≠ 0
 ·rw [err _ (by rw [Qmt (by omega), hop]) h4]
  simp only [qe h4] at tb
  simp only [hdD] at pass hS' tb
  rw [bs] at hS' pass tb ⊢
  clear err hS bP hGD bT hGS hs hD hB hop hD2 hdD
  generalize skR (oT b p) (oL b).length = e at *
  generalize oA b = a at *
  simp (disch := omega) only [rq, simprocAttr]
  refine Qa hS' ?_
  simp (disch := omega) only [rq, simprocAttr]
  refine pass ?_
  simp (disch := omega) only [rq, simprocAttr]
  refine tb ?_
  simp (disch := omega) only [rq, simprocAttr, QP, ht, Qr]
  simp [QK, Qx, frzL, Qu]
 have h4' := Decidable.not_not.1 h4
 simp only [qh h4'] at tb
 rw [h4'] at hop
 have hs' := hs p
 rw [Qjx, qe h1] at hs'
 have hTl : (ofK (Qbn 0 p) 8).length = 16 := Qdf _ _
 have hTI := Qus (Qbn 0 p) 8
 have eT : ofK (Qbn 0 p) 8 = tpT p := rfl
 rw [eT] at hs' hTl hTI
 have oT := Jl .i32 (tpT p)
 have kT : (ks .i32 (tpT p)).length = 16 := by rw [Qc, hTl]
 have tT : (ks .i32 (tpT p)).take 16 = ks .i32 (tpT p) := qi (by omega)
 have tTT := Qp .i32 (tpT p)
 have ol := Jl .i32 Jf
 have kl0 : (ks .i32 Jf).length = 16 := rfl
 have zd : (ks .i32 Jf).drop 16 = [] := rfl
 have hl1 := hf.l1
 have hl2 := hf.l2
 have hzL : (oS b p).length = (oL b).length := QaG _ _
 have hzS : (iL (oS b p)).length = (oL b).length := by rw [Zy]; exact hzL
 have hW := Qvi hop
 have hWs := QsM b p
 have hin := fun {k : Nat} => QAM (k := k) hop
 have hbad := fun {k : Nat} (hk : k < (oL b).length) h1 h2 => err (ofE b p k) (Qyt (k := k) hop hk h1 h2) h2
 have hall := fun h1 => Qyu hop h1
 have hok : clN b p = 0 → QwT b p = .tup [.agg [.int .i64 (oC b), .int .i64 (oX b), .int .i64 (oR b), .list (smF b p (oL b).length).length (ks .i32 (smF b p (oL b).length))], .int .i64 0] := fun h => by rw [QwT, qh h]; rfl
 have hsl := Qr6 b p
 have hkn := hf.hd
 simp only [hdD] at pass hS' tb
 rw [bs] at hS' pass tb ⊢
 have hM0 : oW b p 0 = oM b p := by rw [oW, jx]; simp
 clear hS bP hGD bT hGS hs hop hD2 hdD h2 h3 h4 eT hkn
 simp (disch := omega) only [rq, simprocAttr]
 refine Qa hS' ?_
 simp (disch := omega) only [rq, simprocAttr]
 refine pass ?_
 simp (disch := omega) only [rq, simprocAttr]
 refine tb ?_
 simp (disch := omega) only [rq, simprocAttr, ol, kl0, oT, kT, zd, yA, tT]
 refine Qa hs' ?_
 simp (disch := omega) only [rq, simprocAttr, ol, kl0, oT, kT, zd, yA, tT]
 refine Qj (ι := Nat) (fun k => ⟨[(77, .int .i64 k), (76, .int .i64 (oL b).length), (75, .list (oL b).length (ks .i64 (iL (oS b p)))), (14, .int .i64 (oW b p k)), (12, .ref 4 1 0), (11, .ref 3 1 0), (10, .ref 2 1 0), (6, .ref 1 1 0), (4, .ref 0 1 0), (5, .int .i64 0), (0, .list b.length (u8 b))],
  [⟨t0, 4, 1, [.int .i64 0, .int .i64 0, .int .i64 0, .emp true], 0⟩, ⟨t1, 11, 1, [.int .i64 (oF b), .int .i64 (oC b), .int .i64 (oX b), .int .i64 (oR b), .int .i64 (oN b), .int .i64 (oA b), .int .i64 ((oA b : Int) + 22), .int .i64 D2, .int .i64 (oM b p), .int .i64 (oW b p (oL b).length), .list (oL b).length (ks .i64 (oL b))], 0⟩, ⟨t0, 4, 1, [.int .i64 (oC b), .int .i64 (oX b), .int .i64 (oR b), .own 5 (smF b p k).length], 0⟩, ⟨t2, 2, 1, [.int .i64 (oC b), .int .i64 (oX b)], 0⟩, ⟨t3, 16, 1, ks .i32 (tpT p), 0⟩, ⟨t4, 1, (smF b p k).length, ks .i32 (smF b p k), 0⟩]⟩) (fun k => k ≤ (oL b).length ∧ ∀ j, j < k → ofE b p j = 0) (fun k => (oL b).length - k) 0 (Le.trans (Le.virtC 2 3 t4 1 (by decide) rfl rfl) ?_) ⟨by omega, fun j hj => absurd hj (by omega)⟩ ?_
 ·rw [hM0]
  simp only [smF, qC, QwI]
  exact Qe
 rintro k ⟨hk, hz⟩
 have hWk := hW k
 have hink := hin hz
 have hslk := hsl k
 have kP := Qc .i32 (smF b p k)
 by_cases hlt : k < (oL b).length
 ·have e2 := Qbu (K := .i64) (l := iL (oS b p)) (i := k) (by omega)
  rw [Qtd] at e2
  have e3 := Qbu (K := .i64) (l := oL b) (i := k) hlt
  have hWsk := hWs k
  by_cases hsh : b.length < oW b p (k + 1)
  ·have e5 : ofE b p k = 24 := by rw [ofE, qh hsh]
   have hE := hbad hlt hz (by omega)
   rw [e5] at hE
   rw [hE]
   rw [hWsk] at hsh
   clear err hbad hall hok hin hsl hWs hW hD hB hE
   generalize oW b p k = s at *
   generalize (oS b p).getD k 0 = z at *
   simp (disch := omega) only [rq, simprocAttr, e2, QP, ht, Qr]
   simp [QK, Qx, frzL, Qu]
  have hbl : (ofB b p k).length = (oS b p).getD k 0 := by rw [ofB, qu, qr]; omega
  have hat : ((u8 b).drop (oW b p k)).take ((oS b p).getD k 0) = u8 (ofB b p k) := by rw [Zr, Z1]; rfl
  have hD' := hD (oC b) (oX b) ((oL b).getD k 0) (tpT p) (ofB b p k) hTl hTI (by omega)
  rw [(Qyl _ _ _ _ _).1, shA, bs, il, hbl] at hD'
  have e6 : Qym (oC b) (oX b) (tpT p) ((oL b).getD k 0) (ofB b p k) = ofP b p k := rfl
  have e7 : ofE b p k = Qv7 (oC b) (oX b) (tpT p) ((oL b).getD k 0) (ofB b p k) := by rw [ofE, qe hsh]
  rw [e6, ← e7] at hD'
  have kp := Qc .i32 (ofP b p k)
  have hpl := QnL b p k
  have hcat : ks .i32 (smF b p k) ++ ks .i32 (ofP b p k) = ks .i32 (smF b p (k + 1)) := by rw [smF, Qg7]
  have hcl : (smF b p (k + 1)).length = (smF b p k).length + (ofP b p k).length := by rw [smF, qt]
  have hsk1 := hsl (k + 1)
  rw [hWsk] at hsh
  by_cases h8 : ofE b p k ≠ 0
  ·rw [hbad hlt hz h8]
   clear err hbad hall hok hin hsl hWs hW hD hB e6 e7 hcat
   generalize ofE b p k = e at *
   generalize ofP b p k = P1 at *
   generalize ofB b p k = B1 at *
   generalize (oL b).getD k 0 = N1 at *
   generalize oW b p k = s at *
   generalize (oS b p).getD k 0 = z at *
   simp (disch := omega) only [rq, simprocAttr, e2, e3, tT, kT, hat, Nat.add_sub_cancel_left]
   refine QN hD' ?_
   simp (disch := omega) only [rq, simprocAttr, QP, ht, Qr]
   simp [QK, Qx, frzL, Qu]
  have h8' : ofE b p k = 0 := Decidable.not_not.1 h8
  rw [h8'] at hD'
  clear err hbad hall hok hin hsl hWs hW hD hB e6 e7
  generalize ofP b p k = P1 at *
  generalize ofB b p k = B1 at *
  generalize (oL b).getD k 0 = N1 at *
  generalize hsg : oW b p k = s at *
  generalize (oS b p).getD k 0 = z at *
  simp (disch := omega) only [rq, simprocAttr, e2, e3, tT, kT, hat, Nat.add_sub_cancel_left]
  refine QN hD' ?_
  simp (disch := omega) only [rq, simprocAttr, kP, kp, hcat]
  refine ⟨k + 1, ⟨by omega, fun j hj => ?_⟩, by omega, ?_⟩
  ·by_cases hjk : j < k
   ·exact hz j hjk
   ·rw [show j = k by omega]; exact h8'
  rw [hWsk, hcl]
  simp only [yU]
  exact Qe
 ·obtain rfl : k = (oL b).length := by omega
  have hB' := hB (b.drop (oW b p (oL b).length)) (by rw [qr]; omega)
  have hbl : (b.drop (oW b p (oL b).length)).length = b.length - oW b p (oL b).length := qr
  have hat : ((u8 b).drop (oW b p (oL b).length)).take (b.length - oW b p (oL b).length) = u8 (b.drop (oW b p (oL b).length)) := by
   rw [Zr]; exact qi (by rw [Qk, hbl]; exact qj _)
  rw [bs, hbl] at hB'
  have hcl := hall hz
  have tl := Qp .i32 (smF b p (oL b).length)
  by_cases h9 : (bhN (b.drop (oW b p (oL b).length))).2 ≠ 0
  ·rw [qh h9] at hcl
   rw [err 38 hcl (by omega)]
   clear err hbad hall hok hin hsl hWs hW hD hB hcl
   generalize (bhN (b.drop (oW b p (oL b).length))).2 = e at *
   generalize (bhN (b.drop (oW b p (oL b).length))).1 = c at *
   generalize oW b p (oL b).length = s at *
   simp (disch := omega) only [rq, simprocAttr, hat]
   refine Qa hB' ?_
   simp (disch := omega) only [rq, simprocAttr, QP, ht, Qr]
   simp [QK, Qx, frzL, Qu]
  ·rw [qe h9] at hcl
   rw [hok hcl]
   rw [Decidable.not_not.1 h9] at hB'
   clear err hbad hall hok hin hsl hWs hW hD hB hcl h9
   generalize (bhN (b.drop (oW b p (oL b).length))).1 = c at *
   generalize oW b p (oL b).length = s at *
   simp (disch := omega) only [rq, simprocAttr, hat]
   refine Qa hB' ?_
   simp (disch := omega) only [rq, simprocAttr, QP, ht, Qr]
   simp [QK, Qx, frzL, Qu, isDL, isD, frzL_T _ tl]
def QhJ (P : Prg) (f : Nat) : Prop := ∀ b p : List UInt8, b.length ≤ 1000000 → VC P f [bs b, .str p] (.int .i64 (clN b p))
theorem Qla {P : Prg} {f fC t0 : Nat} (bd : Body P f 14 [.tmp 4] (Xz fC t0)) (hC : QkC P fC) : QhJ P f := by
 intro b p hb
 refine QJ (by simp [isDL, isD, QM]) rfl bd ?_
 have hC' := hC b p hb
 have hlu := Qk b
 rw [QwT] at hC'
 rw [bs] at hC' ⊢
 by_cases h : clN b p = 0
 ·rw [qh h, clA, il] at hC'
  rw [h]
  simp (disch := omega) only [rq, simprocAttr, Xz]
  refine Qa hC' ?_
  simp (disch := omega) only [rq, simprocAttr]
 ·rw [qe h, clA, il] at hC'
  generalize clN b p = e at *
  simp (disch := omega) only [rq, simprocAttr, Xz]
  refine Qa hC' ?_
  simp (disch := omega) only [rq, simprocAttr]
def QtS (b p : List UInt8) : List AV := [.cell [.int .i64 (oF b), .int .i64 (oC b), .int .i64 (oX b), .int .i64 (oR b), .int .i64 (oN b), .int .i64 (oM b p), .list (oL b).length (ks .i64 (iL (oS b p)))], .cell [.list ((oL b).length + 1) (ks .i64 (iL (Qgm (oS b p))))], .cell [bs b], .cell [.int .i64 (oC b), .int .i64 (oX b)], .cell (ks .i32 (tpT p)), .cell [.list (oL b).length (ks .i64 (oL b))]]
theorem Qpv (b p : List UInt8) : isDL (QtS b p) = true := by simp [QtS, isDL, isD, Zf, QM]
def Qzi (g : Nat) (b p : List UInt8) : AV := if opN b p = 0 then .tup [.fn (.func g) [] (QtS b p), .int .i64 (oL b).length, .int .i64 (oW b p (oL b).length), .int .i64 0] else .tup [.lit .nilFunc, .int .i64 0, .int .i64 0, .int .i64 (opN b p)]
theorem QvK (g : Nat) (b p : List UInt8) : isD (Qzi g b p) = true := by unfold Qzi; split <;> simp [isD, isDL, Qpv]
def Qyb (b p : List UInt8) (k : Nat) : AV := if ofE b p k ≠ 0 then .tup [.list 0 [], .int .i64 (ofE b p k)] else .tup [bs (QeN (oX b) (ofP b p k)), .int .i64 0]
theorem Qps (b p : List UInt8) (k : Nat) : isD (Qyb b p k) = true := by unfold Qyb; split <;> simp [isD, isDL, QM]
theorem QzW {x : Int} {l : List Int} (hx : QaU x ≠ 0) (h : okQ x l) : ZF x l = 0 := by
 rw [ZF, qe hx, qe (by have := h.1; omega), qh (qW.2 h.2)]
theorem Qx7 {f c x r n : Int} (h : hdN f c x r n = 0) : QaU x ≠ 0 := by
 unfold hdN at h
 split at h
 ·rename_i hh
  rcases hh.1.1 with h1 | h1 | h1 <;> rw [h1] <;> decide
 ·cases h
def QyJ (P : Prg) (g : Nat) : Prop := ∀ (b p : List UInt8) (k : Nat), opN b p = 0 → k < (oL b).length → VC P g (.int .i64 k :: QtS b p) (Qyb b p k)
set_option maxHeartbeats 2000000 in
theorem Qib {P : Prg} {g fD fB : Nat} (bd : Body P g 56 [.tmp 8, .tmp 9] (Zo fD fB)) (hD : QgB P fD) (hB : QkA P fB) : QyJ P g := by
 intro b p k hop hk
 obtain ⟨h64, hf, h2, h3⟩ := QdV hop
 refine Qi 1 (by simp [isDL, isD, Qpv]) (Qps b p k) (Qb bd (by simp [QtS]) ?_)
 have hle := hf.le
 have hlu := Qk b
 have hl2 := hf.l2
 obtain ⟨hTl, hTI⟩ := Qwx p
 have kT : (ks .i32 (tpT p)).length = 16 := by rw [Qc, hTl]
 have tT : (ks .i32 (tpT p)).take 16 = ks .i32 (tpT p) := qi (by omega)
 have oT := Jl .i32 (tpT p)
 have hzL : (oS b p).length = (oL b).length := QaG _ _
 have hol := Qgl (oS b p)
 have e0 := Qbu (K := .i64) (l := iL (Qgm (oS b p))) (i := k) (by rw [Zy]; omega)
 have e1 := Qbu (K := .i64) (l := iL (Qgm (oS b p))) (i := k + 1) (by rw [Zy]; omega)
 rw [Qtd, QsL (by omega)] at e0 e1
 have e3 := Qbu (K := .i64) (l := oL b) (i := k) hk
 have hW := Qvi hop k
 have hWs := QsM b p k
 have hW1 : oM b p + ((oS b p).take (k + 1)).sum = oW b p (k + 1) := rfl
 have hW0 : oM b p + ((oS b p).take k).sum = oW b p k := rfl
 have hil : (iL (Qgm (oS b p))).length = (oL b).length + 1 := by rw [Zy]; omega
 have w0 : (oM b p : Int) + (((oS b p).take k).sum : Nat) = (oW b p k : Int) := by omega
 have w1 : (oM b p : Int) + (((oS b p).take (k + 1)).sum : Nat) = (oW b p (k + 1) : Int) := by omega
 have hM2 : oM b p ≤ 200000 := by omega
 have hs0 : ((oS b p).take k).sum ≤ 200000 := by omega
 have hW2 := Qvi hop (k + 1)
 have hs1 : ((oS b p).take (k + 1)).sum ≤ 200000 := by omega
 unfold Qyb
 by_cases hsh : b.length < oW b p (k + 1)
 ·have e5 : ofE b p k = 24 := by rw [ofE, qh hsh]
  rw [e5, qh (by omega)]
  clear hD hB e5
  simp only [QtS, bs]
  generalize oW b p (k + 1) = w at *
  generalize ((oS b p).take (k + 1)).sum = s1 at *
  generalize ((oS b p).take k).sum = s0 at *
  generalize oW b p k = w' at *
  simp (maxSteps := 4000000) (disch := omega) only [rq, simprocAttr, Zo, e0, e1, hil, w0, w1]
  simp [QK, Qx, frzL, Qu]
 have hbl : (ofB b p k).length = (oS b p).getD k 0 := by rw [ofB, qu, qr]; omega
 have hat : ((u8 b).drop (oW b p k)).take ((oS b p).getD k 0) = u8 (ofB b p k) := by rw [Zr, Z1]; rfl
 have hD' := hD (oC b) (oX b) ((oL b).getD k 0) (tpT p) (ofB b p k) hTl hTI (by omega)
 have hpe := Qyl (oC b) (oX b) (tpT p) ((oL b).getD k 0) (ofB b p k)
 rw [hpe.1, shA, bs, il, hbl] at hD'
 have e6 : Qym (oC b) (oX b) (tpT p) ((oL b).getD k 0) (ofB b p k) = ofP b p k := rfl
 have e7 : ofE b p k = Qv7 (oC b) (oX b) (tpT p) ((oL b).getD k 0) (ofB b p k) := by rw [ofE, qe hsh]
 have hok := hpe.2
 rw [e6] at hok
 rw [e6, ← e7] at hD'
 have hB' := hB (oX b) (ofP b p k) (QAc hok)
 rw [qe (by rw [QzW (Qx7 hf.hd) hok]; simp), il] at hB'
 have q0 : oW b p (k + 1) - oW b p k = (oS b p).getD k 0 := by omega
 have kp := Qc .i32 (ofP b p k)
 have hpl := QnL b p k
 by_cases h8 : ofE b p k ≠ 0
 ·rw [qh h8]
  clear hD hB e6 e7 hB' hpe hok
  simp only [QtS, bs]
  generalize ofE b p k = e at *
  generalize ofP b p k = P1 at *
  generalize ofB b p k = B1 at *
  generalize (oL b).getD k 0 = N1 at *
  generalize oW b p (k + 1) = w at *
  generalize ((oS b p).take (k + 1)).sum = s1 at *
  generalize ((oS b p).take k).sum = s0 at *
  generalize oW b p k = w' at *
  generalize (oS b p).getD k 0 = z at *
  simp (maxSteps := 4000000) (disch := omega) only [rq, simprocAttr, Zo, e0, e1, hil, w0, w1, e3, tT, kT, hat, oT, q0]
  refine QN hD' ?_
  simp (maxSteps := 4000000) (disch := omega) only [rq, simprocAttr]
  simp [QK, Qx, frzL, Qu]
 have h8' : ofE b p k = 0 := Decidable.not_not.1 h8
 rw [qe h8]
 rw [h8'] at hD'
 clear hD hB e6 e7 hpe hok h8 h8'
 simp only [QtS, bs] at hB' ⊢
 have ts := Zx (QeN (oX b) (ofP b p k))
 generalize QeN (oX b) (ofP b p k) = R at *
 generalize ofP b p k = P1 at *
 generalize ofB b p k = B1 at *
 generalize (oL b).getD k 0 = N1 at *
 generalize oW b p (k + 1) = w at *
 generalize ((oS b p).take (k + 1)).sum = s1 at *
 generalize ((oS b p).take k).sum = s0 at *
 generalize oW b p k = w' at *
 generalize (oS b p).getD k 0 = z at *
 simp (maxSteps := 4000000) (disch := omega) only [rq, simprocAttr, Zo, e0, e1, hil, w0, w1, e3, tT, kT, hat, oT, q0]
 refine QN hD' ?_
 simp (maxSteps := 4000000) (disch := omega) only [rq, simprocAttr]
 refine Qa hB' ?_
 simp (maxSteps := 4000000) (disch := omega) only [rq, simprocAttr]
 simp [QK, Qx, frzL, Qu, frzL_T _ ts]
def Qfb (g : Nat) (P : Prg) (f : Nat) : Prop := ∀ b p : List UInt8, b.length ≤ 1000000 → VC P f [bs b, .str p] (Qzi g b p)
set_option maxHeartbeats 2000000 in
theorem QjG {P : Prg} {f fO fM fS fT g t0 t1 t2 t3 t4 : Nat} (bd : Body P f 67 [.tmp 4, .tmp 5, .tmp 6, .tmp 7] (XD fO fM fS fT g t0 t1 t2 t3 t4)) (hO : QcF P fO) (hM : Ju P fM) (hS : QoK P fS) (hT : QpN P fT) : Qfb g P f := by
 intro b p hb
 refine Qi 2 (by simp [isDL, QM, isD]) (QvK g b p) (Qb bd (by simp) ?_)
 have hO' := hO b p hb
 have hlu := Qk b
 unfold QsE at hO'
 unfold Qzi
 by_cases h : opN b p = 0
 case neg =>
  rw [qe h, ix0] at hO'
  rw [qe h]
  rw [bs] at hO' ⊢
  generalize opN b p = e at *
  simp (maxSteps := 4000000) (disch := omega) only [rq, simprocAttr, XD]
  refine Qa hO' ?_
  simp (maxSteps := 4000000) (disch := omega) only [rq, simprocAttr]
  simp [QK, Qx, frzL, Qu, show cV Value.nilFunc = AV.lit Value.nilFunc from rfl]
 rw [qh h, ixA, Q6, Zy] at hO'
 rw [qh h]
 obtain ⟨h64, hf, h2, h3⟩ := QdV h
 obtain ⟨g1, g2, g3⟩ := QeY h
 rw [g3] at hO'
 have hM' := hM (oF b) (oC b) (oX b) (oR b) (oN b)
 rw [Qtf, qh hf.hd, hdA, ← oL, Q6] at hM'
 have hS' := hS (oS b p) g2
 have hol := Qgl (oS b p)
 rw [Q6, Zy, Q6, Zy, hol, g3] at hS'
 have hT' := hT p
 rw [Qjx, qe h64] at hT'
 obtain ⟨hTl, hTI⟩ := Qwx p
 have eT : ofK (Qbn 0 p) 8 = tpT p := rfl
 rw [eT] at hT'
 have kT : (ks .i32 (tpT p)).length = 16 := by rw [Qc, hTl]
 have tT : (ks .i32 (tpT p)).take 16 = ks .i32 (tpT p) := qi (by omega)
 have oT := Jl .i32 (tpT p)
 have z16 : (z3L : List AV) = ks .i32 Jf := rfl
 have ol := Jl .i32 Jf
 have kl0 : (ks .i32 Jf).length = 16 := rfl
 have zd : (ks .i32 Jf).drop 16 = [] := rfl
 have e1 := Qbu (K := .i64) (l := iL (Qgm (oS b p))) (i := (oL b).length) (by rw [Zy]; omega)
 rw [Qtd, QsL (by omega)] at e1
 have hil : (iL (Qgm (oS b p))).length = (oL b).length + 1 := by rw [Zy]; omega
 have hW := Qvi h (oL b).length
 have w1 : (oM b p : Int) + (((oS b p).take (oL b).length).sum : Nat) = (oW b p (oL b).length : Int) := by rw [oW]; omega
 have hl2 := hf.l2
 have tb := Zx b
 have tL := Qp .i64 (oL b)
 have tS := Qp .i64 (iL (oS b p))
 have tO := Qp .i64 (iL (Qgm (oS b p)))
 have tTT := Qp .i32 (tpT p)
 have hs2 := (QlC g2).1
 have hst := Jn (oS b p) (oL b).length
 rw [QtS]
 rw [bs] at hO' ⊢
 unfold XD
 rw [z16]
 clear hO hM hS hT eT
 generalize oW b p (oL b).length = w at *
 generalize ((oS b p).take (oL b).length).sum = s at *
 generalize oM b p = m at *
 simp (maxSteps := 4000000) (disch := omega) only [rq, simprocAttr]
 iterate 3 (refine Qa (by assumption) ?_; simp (maxSteps := 4000000) (disch := omega) only [rq, simprocAttr])
 refine Qa hT' ?_
 simp (maxSteps := 4000000) (disch := omega) only [rq, simprocAttr, ol, kl0, oT, kT, zd, yA, tT, e1, hil, w1]
 simp [QK, Qx, frzL, Qu, isDL, isD, frzL_T _ tb, frzL_T _ tL, frzL_T _ tS, frzL_T _ tO, frzL_T _ tTT]
def QhQ (P : Prg) (f : Nat) : Prop := ∀ (b p : List UInt8) (k : Nat), b.length ≤ 1000000 → opN b p = 0 → k < (oL b).length → VC P f [bs b, .str p, .int .i64 k] (Qyb b p k)
theorem QlH {P : Prg} {f fR g : Nat} (bd : Body P f 35 [.tmp 6, .tmp 7] (X3 fR)) (hR : Qfb g P fR) (hG : QyJ P g) : QhQ P f := by
 intro b p k hb h hk
 refine QJ (by simp [isDL, QM, isD]) (Qps b p k) bd ?_
 have hR' := hR b p hb
 rw [Qzi, qh h] at hR'
 have hG' := hG b p k h hk
 have hlu := Qk b
 have hl2 := (QdV h).2.1.l2
 unfold Qyb at hG' ⊢
 by_cases h8 : ofE b p k ≠ 0
 ·rw [qh h8] at hG' ⊢
  rw [QtS] at hR' hG'
  rw [bs] at hR' hG' ⊢
  generalize ofE b p k = e at *
  simp (maxSteps := 4000000) (disch := omega) only [rq, simprocAttr, X3]
  iterate 2 (refine Qa (by assumption) ?_; simp (maxSteps := 4000000) (disch := omega) only [rq, simprocAttr])
 ·rw [qe h8] at hG' ⊢
  rw [QtS] at hR' hG'
  rw [bs] at hR' hG' ⊢
  rw [bs] at hG' ⊢
  simp (maxSteps := 4000000) (disch := omega) only [rq, simprocAttr, X3]
  iterate 2 (refine Qa (by assumption) ?_; simp (maxSteps := 4000000) (disch := omega) only [rq, simprocAttr])
theorem QwC {b : List UInt8} (h : FOk b) : ∃ n : Nat, oN b = n ∧ n ≤ 4000 ∧ (∀ k, 0 ≤ ((oL b).take k).sum ∧ ((oL b).take k).sum ≤ n) ∧ ∀ k, k < (oL b).length → 0 ≤ (oL b).getD k 0 ∧ (oL b).getD k 0 ≤ n := by
 obtain ⟨m, hm, hok⟩ := Qpy h.hd
 have hm4 : m ≤ 4000 := by have := hok.2.2.2.1; omega
 have hs : (oL b).sum = m := by rw [oL, hm, qw, QuO]
 have hnn : ∀ v ∈ oL b, 0 ≤ v := fun v hv => by
  rw [oL, Zl, qA] at hv
  rcases hv with hv | hv
  ·rw [List.mem_replicate] at hv
   omega
  ·rw [qH] at hv
   have : ((oN b).toNat - 1) / (Q5 (oR b)).toNat * (Q5 (oR b)).toNat ≤ (oN b).toNat - 1 := Nat.div_mul_le_self _ _
   omega
 have nn : ∀ l : List Int, (∀ v ∈ l, 0 ≤ v) → 0 ≤ l.sum := fun l => by
  induction l with
  | nil => intro _; simp
  | cons a l ih =>
   intro h
   have h1 := h a (by simp)
   have h2 := ih fun v hv => h v (by simp [hv])
   rw [jd]
   omega
 have h1 : ∀ k, 0 ≤ ((oL b).take k).sum ∧ ((oL b).take k).sum ≤ m := fun k => by
  have a1 := nn ((oL b).take k) fun v hv => hnn v (qP hv)
  have a2 := nn ((oL b).drop k) fun v hv => hnn v (ji hv)
  have a3 : ((oL b).take k).sum + ((oL b).drop k).sum = (oL b).sum := by rw [← jF, yD]
  omega
 refine ⟨m, hm, hm4, h1, fun k hk => ?_⟩
 have a4 := h1 k
 have a5 := h1 (k + 1)
 have e : ((oL b).take (k + 1)).sum = ((oL b).take k).sum + (oL b).getD k 0 := by
  rw [qm hk]
  simp only [jF, jd, Yl, qd, qc hk, yE, Yp]
 have a6 := hnn _ (qS hk)
 have a7 : (oL b).getD k 0 = (oL b)[k] := by simp [qd, qc hk]
 omega
theorem QxK (b : List UInt8) {k : Nat} (hk : k < (oL b).length) : ((oL b).take (k + 1)).sum = ((oL b).take k).sum + (oL b).getD k 0 := by
 rw [qm hk]
 simp only [jF, jd, Yl, qd, qc hk, yE, Yp]
def gdN (b : List UInt8) (k : Nat) : Int := ((oL b).take k).sum * oC b * oX b / 8
def QoQ (P : Prg) (f : Nat) : Prop := ∀ (b : List UInt8) (k : Nat), FOk b → k ≤ (oL b).length → VC P f [hdA (oF b) (oC b) (oX b) (oR b) (oN b), .int .i64 k] (.tup [.int .i64 (gdN b k), .int .i64 0])
theorem Qoa {P : Prg} {f fM t0 : Nat} (bd : Body P f 42 [.tmp 4, .tmp 5] (JE fM t0)) (hM : Ju P fM) : QoQ P f := by
 intro b k hf hk
 refine QJ rfl rfl bd ?_
 have hM' := hM (oF b) (oC b) (oX b) (oR b) (oN b)
 rw [Qtf, qh hf.hd, ← oL, Q6, hdA] at hM'
 rw [hdA]
 have hl2 := hf.l2
 obtain ⟨n, hn, hn4, hsum, hat⟩ := QwC hf
 have hkL : (ks .i64 (oL b)).length = (oL b).length := Qc _ _
 have hc : 1 ≤ oC b ∧ oC b ≤ 6 ∧ (oX b = 8 ∨ oX b = 16 ∨ oX b = 24) := by
  have h := hf.hd
  unfold hdN at h
  split at h
  ·rename_i hh; exact ⟨hh.1.2.2.1, hh.1.2.2.2.1, hh.1.1⟩
  ·cases h
 simp (disch := omega) only [rq, simprocAttr, JE]
 refine Qa hM' ?_
 simp (disch := omega) only [rq, simprocAttr]
 refine Qj (ι := Nat) (fun j => ⟨[(24, .int .i64 j), (23, .int .i64 k), (8, .int .i64 ((oL b).take j).sum), (6, .list (oL b).length (ks .i64 (oL b))), (2, .ref 0 1 0)], [⟨t0, 5, 1, [.int .i64 (oF b), .int .i64 (oC b), .int .i64 (oX b), .int .i64 (oR b), .int .i64 (oN b)], 0⟩]⟩) (fun j => j ≤ k) (fun j => k - j) 0 ?_ (by omega) ?_
 ·simp only [jx, Yl]
  exact Qe
 intro j hj
 have hs := hsum j
 by_cases hlt : j < k
 ·have e3 := Qbu (K := .i64) (l := oL b) (i := j) (by omega)
  have hs1 := QxK b (k := j) (by omega)
  have hs2 := hsum (j + 1)
  have ha := hat j (by omega)
  generalize ((oL b).take j).sum = s at *
  generalize (oL b).getD j 0 = z at *
  simp (disch := omega) only [rq, simprocAttr, e3]
  refine ⟨j + 1, by omega, by omega, ?_⟩
  rw [hs1]
  exact Qe
 ·obtain rfl : j = k := by omega
  rw [gdN]
  generalize ((oL b).take j).sum = s at *
  obtain ⟨c1, c2, c3⟩ := hc
  have b1 : 0 ≤ s * oC b ∧ s * oC b ≤ 24000 := by
   have h1 : s * oC b ≤ s * 6 := Int.mul_le_mul_of_nonneg_left c2 hs.1
   have h2 : 0 ≤ s * oC b := Int.mul_nonneg hs.1 (by omega)
   omega
  generalize hsc : s * oC b = sc at *
  have b2 : 0 ≤ sc * oX b ∧ sc * oX b ≤ 1000000 := by
   rcases c3 with h | h | h <;> rw [h] <;> omega
  have q : (sc * oX b).tdiv 8 = sc * oX b / 8 := ym b2.1
  generalize hsx : sc * oX b = sx at *
  simp (disch := omega) only [rq, simprocAttr, hsc, hsx, q]
theorem Qtk {b : List UInt8} (h : FOk b) (k : Nat) : 0 ≤ gdN b k ∧ gdN b k ≤ 12000 := by
 obtain ⟨n, hn, hn4, hsum, _⟩ := QwC h
 have hs := hsum k
 have hh := h.hd
 unfold hdN at hh
 split at hh
 case isFalse => cases hh
 rename_i h1
 obtain ⟨⟨c3, _, c1, c2, _⟩, hfit⟩ := h1
 have h2 : (n : Int) ≤ 4000 / oC b := by rw [← hn]; exact hfit.1
 have h3 : (n : Int) * oC b ≤ 4000 := Int.le_trans (Int.mul_le_mul_of_nonneg_right h2 (by omega)) (Int.ediv_mul_le _ (by omega))
 unfold gdN
 generalize ((oL b).take k).sum = s at *
 have b1 : 0 ≤ s * oC b ∧ s * oC b ≤ 4000 := by
  have h1 : s * oC b ≤ n * oC b := Int.mul_le_mul_of_nonneg_right hs.2 (by omega)
  have h2 : 0 ≤ s * oC b := Int.mul_nonneg hs.1 (by omega)
  omega
 generalize s * oC b = sc at *
 rcases c3 with h | h | h <;> rw [h] <;> omega
def ptF (b : List UInt8) (e : Int) : Int := if 100000 < b.length then 0 else if (frN b).2 ≠ 0 then 1 else if hrN (oH b) ≠ 0 then 2 else if e = 26 ∨ (oF b = 2 ∧ b.length < oA b + 30) then 3 else 4
def QkS (P : Prg) (f : Nat) : Prop := ∀ (b p : List UInt8) (e : Int), b.length ≤ 1000000 → VC P f [bs b, .str p, .int .i64 e] (.int .u8 (ptF b e))
theorem Qmo {P : Prg} {f fF fR t0 : Nat} (bd : Body P f 43 [.tmp 6] (QT fF fR t0)) (hF : QcG P fF) (hR : QeJ P fR) : QkS P f := by
 intro b p e hb
 refine QJ (by simp [isDL, QM, isD]) rfl bd ?_
 have hlu := Qk b
 by_cases h2 : 100000 < b.length
 ·rw [ptF, qh h2, bs]
  simp (disch := omega) only [rq, simprocAttr, QT]
 have hF' := hF b hb
 rw [bs] at hF'
 by_cases h3 : (frN b).2 ≠ 0
 ·rw [ptF, qe h2, qh h3, bs]
  generalize (frN b).2 = e' at *
  generalize (frN b).1 = m at *
  simp (disch := omega) only [rq, simprocAttr, QT]
  refine Qa hF' ?_
  simp (disch := omega) only [rq, simprocAttr]
 have h3' : (frN b).2 = 0 := Decidable.not_not.1 h3
 have ha : (frN b).1 = oA b ∧ oA b ≤ 4000 ∧ oA b ≤ b.length := by
  rcases Qhe b with ⟨_, n, hn, h4, h5⟩ | ⟨_, h5⟩
  ·rw [oA, hn, qw]; exact ⟨rfl, h4, h5⟩
  ·omega
 rw [h3', ha.1] at hF'
 have hHl : (oH b).length = b.length - oA b := by rw [oH, qr]
 have hR' := hR (oH b) (by omega)
 have hsH : ((u8 b).drop (oA b)).take (b.length - oA b) = u8 (oH b) := by
  rw [Zr]; exact qi (by rw [Qk, qr]; exact qj _)
 rw [bs, hHl] at hR'
 rw [hrA] at hR'
 by_cases h4 : hrN (oH b) ≠ 0
 ·rw [ptF, qe h2, qe h3, qh h4, bs]
  rw [qe h4, hdA] at hR'
  generalize hrN (oH b) = e' at *
  generalize oA b = a at *
  simp (disch := omega) only [rq, simprocAttr, QT]
  refine Qa hF' ?_
  simp (disch := omega) only [rq, simprocAttr, hsH]
  refine Qa hR' ?_
  simp (disch := omega) only [rq, simprocAttr]
 have h4' : hrN (oH b) = 0 := Decidable.not_not.1 h4
 rw [qh h4', hdA] at hR'
 have hR2 : VC P fR [.list (b.length - oA b) (u8 (oH b))] (.tup [.agg [.int .i64 (oF b), .int .i64 (oC b), .int .i64 (oX b), .int .i64 (oR b), .int .i64 (oN b)], .int .i64 0]) := hR'
 rw [ptF, qe h2, qe h3, qe h4, bs]
 clear hR' hR hF h3 h4
 by_cases h5 : e = 26
 ·rw [qh (.inl h5)]
  generalize oA b = a at *
  subst h5
  simp (disch := omega) only [rq, simprocAttr, QT]
  refine Qa hF' ?_
  simp (disch := omega) only [rq, simprocAttr, hsH]
  refine Qa hR2 ?_
  simp (disch := omega) only [rq, simprocAttr]
 by_cases h6 : oF b = 2
 ·by_cases h7 : b.length < oA b + 30
  ·rw [qh (.inr ⟨h6, h7⟩)]
   rw [h6] at hR2
   generalize oA b = a at *
   simp (disch := omega) only [rq, simprocAttr, QT]
   refine Qa hF' ?_
   simp (disch := omega) only [rq, simprocAttr, hsH]
   refine Qa hR2 ?_
   simp (disch := omega) only [rq, simprocAttr]
  ·rw [qe (fun h => h.elim h5 fun h => h7 h.2)]
   rw [h6] at hR2
   generalize oA b = a at *
   simp (disch := omega) only [rq, simprocAttr, QT]
   refine Qa hF' ?_
   simp (disch := omega) only [rq, simprocAttr, hsH]
   refine Qa hR2 ?_
   simp (disch := omega) only [rq, simprocAttr]
 ·rw [qe (fun h => h.elim h5 fun h => h6 h.1)]
  generalize oF b = f' at *
  generalize oA b = a at *
  simp (disch := omega) only [rq, simprocAttr, QT]
  refine Qa hF' ?_
  simp (disch := omega) only [rq, simprocAttr, hsH]
  refine Qa hR2 ?_
  simp (disch := omega) only [rq, simprocAttr]
theorem Qsy (b : List UInt8) (e : Int) : 0 ≤ ptF b e ∧ ptF b e ≤ 4 := by
 unfold ptF
 repeat' split
 all_goals omega
def tdP (b p : List UInt8) : Int := if opN b p ≠ 0 then ptF b (opN b p) else if oB b p < (oL b).length then 5 else if clN b p ≠ 0 then 6 else 0
def tdQ (b p : List UInt8) : Int := if opN b p = 0 ∧ oB b p < (oL b).length then oB b p else 0
def tdG (b p : List UInt8) : Int := if opN b p ≠ 0 then 0 else gdN b (oB b p)
def tdA (b p : List UInt8) : AV := if 64 < p.length then .tup [.agg [.int .i64 0, .int .u8 0, .int .i64 0, .int .i64 0], .int .i64 2] else .tup [.agg [.int .i64 (clN b p), .int .u8 (tdP b p), .int .i64 (tdQ b p), .int .i64 (tdG b p)], .int .i64 0]
theorem QxY (b p : List UInt8) : isD (tdA b p) = true := by unfold tdA; split <;> rfl
theorem QAN {b p : List UInt8} {k : Nat} (hk : k < (oL b).length) (h1 : ∀ j, j < k → ofE b p j = 0) (h2 : ofE b p k ≠ 0) : oB b p = k := Qkh (by omega) h1 fun _ => h2
theorem Qzr {b p : List UInt8} (h1 : ∀ j, j < (oL b).length → ofE b p j = 0) : oB b p = (oL b).length := Qkh (qj _) h1 fun h => absurd h (by omega)
theorem QxL (b p : List UInt8) : oB b p ≤ (oL b).length := Qkg _ _
theorem QAO {b p : List UInt8} (h : opN b p = 0) (hc : clN b p = 0) : oB b p = (oL b).length := by
 have hl := QxL b p
 obtain ⟨h1, h2⟩ := Qom (ofE b p) (oL b).length
 by_cases hlt : oB b p < (oL b).length
 ·rw [clN, qe (by omega), qh hlt] at hc
  exact absurd hc (h2 hlt)
 ·omega
def Qgu (P : Prg) (f : Nat) : Prop := ∀ b p : List UInt8, b.length ≤ 1000000 → VC P f [bs b, .str p] (tdA b p)
set_option maxHeartbeats 4000000 in
theorem Qob {P : Prg} {f fC fO fF fR fG t0 t1 : Nat} (bd : Body P f 73 [.cell 4 t0, .tmp 5] (Zv fC fO fF fR fG t0 t1)) (ht : Zq P t0 = some (some 4)) (hC : QhJ P fC) (hO : QcF P fO) (hF : QkS P fF) (hR : QhQ P fR) (hG : QoQ P fG) : Qgu P f := by
 intro b p hb
 refine Qi 1 (by simp [isDL, QM, isD]) (QxY b p) (Qb bd (by simp) ?_)
 have hlu := Qk b
 unfold tdA
 by_cases h1 : 64 < p.length
 ·rw [qh h1, bs]
  simp (disch := omega) only [rq, simprocAttr, Zv, QP, ht, Qr]
  simp [QK, Qx, frzL, Qu]
 rw [qe h1]
 have hC' := hC b p hb
 have hO' := hO b p hb
 unfold QsE at hO'
 by_cases h2 : opN b p ≠ 0
 ·have hF' := hF b p (opN b p) hb
  rw [qe h2, ix0] at hO'
  have e1 : clN b p = opN b p := Qmt h2
  rw [tdP, qh h2, tdQ, qe (fun h => h2 h.1), tdG, qh h2, e1]
  rw [e1] at hC'
  rw [bs] at hC' hO' hF' ⊢
  have hp0 := Qsy b (opN b p)
  generalize ptF b (opN b p) = q at *
  generalize opN b p = e at *
  clear e1
  simp (disch := omega) only [rq, simprocAttr, Zv]
  iterate 2 (refine Qa (by assumption) ?_; simp (disch := omega) only [rq, simprocAttr])
  refine Qa hF' ?_
  simp (disch := omega) only [rq, simprocAttr, QP, ht, Qr]
  simp [QK, Qx, frzL, Qu]
 have h2' : opN b p = 0 := Decidable.not_not.1 h2
 obtain ⟨_, hf, _, _⟩ := QdV h2'
 have hl1 := hf.l1
 have hl2 := hf.l2
 obtain ⟨_, _, g3⟩ := QeY h2'
 rw [qh h2', ixA, Q6, Zy, g3] at hO'
 rw [tdP, qe h2, tdQ, tdG, qe h2]
 simp only [h2', true_and]
 have hR' := fun k (hk : k < (oL b).length) => hR b p k hb h2' hk
 have hG' := fun k (hk : k ≤ (oL b).length) => hG b k hf hk
 have hob := QxL b p
 have hbnd := Qtk hf
 have hsl : (ks .i64 (iL (oS b p))).length = (oL b).length := by rw [Qc, Zy, g3]
 simp only [hdA] at hG'
 rw [bs] at hC' hO' ⊢
 simp only [bs] at hR'
 by_cases hcl : clN b p = 0
 ·have e1 := QAO h2' hcl
  have hG2 := hG' (oL b).length (qj _)
  have hgb := hbnd (oL b).length
  rw [e1, hcl, qe (by omega), qe (by omega), qe (by omega)]
  rw [hcl] at hC'
  clear hG' hR' hbnd e1 hcl hC hO hF hR hG
  generalize gdN b (oL b).length = gd at *
  simp (disch := omega) only [rq, simprocAttr, Zv]
  iterate 2 (refine Qa (by assumption) ?_; simp (disch := omega) only [rq, simprocAttr])
  refine Qj (ι := Unit) (fun _ => ⟨[(43, .int .i64 0), (42, .int .i64 (oL b).length), (9, .int .i64 (oL b).length), (7, .ref 2 1 0), (6, .ref 1 1 0), (4, .ref 0 1 0), (5, .int .i64 0)], [⟨t0, 4, 1, [.int .i64 0, .int .u8 0, .int .i64 0, .int .i64 0], 0⟩, ⟨t0, 4, 1, [.int .i64 0, .int .u8 0, .int .i64 0, .int .i64 0], 0⟩, ⟨t1, 7, 1, [.int .i64 (oF b), .int .i64 (oC b), .int .i64 (oX b), .int .i64 (oR b), .int .i64 (oN b), .int .i64 (oM b p), .list (oL b).length (ks .i64 (iL (oS b p)))], 0⟩]⟩) (fun _ => True) (fun _ => 0) () (Qe) trivial ?_
  intro _ _
  simp (disch := omega) only [rq, simprocAttr]
  refine Qa hG2 ?_
  simp (disch := omega) only [rq, simprocAttr, QP, ht, Qr]
  simp [QK, Qx, frzL, Qu]
 ·simp only [qh (show clN b p ≠ 0 from hcl)]
  generalize hcn : clN b p = cl at *
  simp (disch := omega) only [rq, simprocAttr, Zv]
  iterate 2 (refine Qa (by assumption) ?_; simp (disch := omega) only [rq, simprocAttr])
  refine Qj (ι := Nat) (fun k => ⟨[(43, .int .i64 k), (42, .int .i64 (oL b).length), (9, .int .i64 (oL b).length), (7, .ref 2 1 0), (6, .ref 1 1 0), (4, .ref 0 1 0), (5, .int .i64 0), (0, .list b.length (u8 b)), (1, .str p)], [⟨t0, 4, 1, [.int .i64 0, .int .u8 0, .int .i64 0, .int .i64 0], 0⟩, ⟨t0, 4, 1, [.int .i64 cl, .int .u8 6, .int .i64 0, .int .i64 0], 0⟩, ⟨t1, 7, 1, [.int .i64 (oF b), .int .i64 (oC b), .int .i64 (oX b), .int .i64 (oR b), .int .i64 (oN b), .int .i64 (oM b p), .list (oL b).length (ks .i64 (iL (oS b p)))], 0⟩]⟩) (fun k => k ≤ (oL b).length ∧ ∀ j, j < k → ofE b p j = 0) (fun k => (oL b).length - k) 0 (Qe) ⟨by omega, fun j hj => absurd hj (by omega)⟩ ?_
  rintro k ⟨hk, hz⟩
  by_cases hlt : k < (oL b).length
  ·have hR2 := hR' k hlt
   unfold Qyb at hR2
   by_cases h8 : ofE b p k ≠ 0
   ·have e1 := QAN hlt hz h8
    have hG2 := hG' k hk
    have hgb := hbnd k
    rw [e1, qh hlt, qh hlt]
    rw [qh h8] at hR2
    clear hG' hR' hbnd e1 hC hO hF hR hG hcn
    generalize ofE b p k = e at *
    generalize gdN b k = gd at *
    simp (disch := omega) only [rq, simprocAttr]
    refine Qa hR2 ?_
    simp (disch := omega) only [rq, simprocAttr]
    refine Qa hG2 ?_
    simp (disch := omega) only [rq, simprocAttr, QP, ht, Qr]
    simp [QK, Qx, frzL, Qu]
   ·rw [qe h8] at hR2
    have h8' := Decidable.not_not.1 h8
    clear hG' hR' hbnd hC hO hF hR hG hcn
    simp only [bs] at hR2
    simp (disch := omega) only [rq, simprocAttr]
    refine Qa hR2 ?_
    simp (disch := omega) only [rq, simprocAttr]
    refine ⟨k + 1, ⟨by omega, fun j hj => ?_⟩, by omega, Qe⟩
    by_cases hjk : j < k
    ·exact hz j hjk
    ·rw [show j = k by omega]; exact h8'
  ·obtain rfl : k = (oL b).length := by omega
   have e1 := Qzr hz
   have hG2 := hG' (oL b).length (qj _)
   have hgb := hbnd (oL b).length
   rw [e1, qe (by omega), qe (by omega)]
   clear hG' hR' hbnd e1 hC hO hF hR hG hcn
   generalize gdN b (oL b).length = gd at *
   simp (disch := omega) only [rq, simprocAttr]
   refine Qa hG2 ?_
   simp (disch := omega) only [rq, simprocAttr, QP, ht, Qr]
   simp [QK, Qx, frzL, Qu]
theorem Qv6 (c x : Int) (t : List Int) (n : Int) (b : List UInt8) : 0 ≤ Qv7 c x t n b ∧ Qv7 c x t n b ≤ 99 := by
 have hop : QdU b = 24 ∨ QdU b = 4 ∨ QdU b = 0 ∨ QdU b = 22 := by
  unfold QdU
  repeat' split
  all_goals simp
 have er : ∀ e : Int, avE (erA e) = e := fun e => rfl
 unfold Qv7 QuB
 split
 ·rw [er]; omega
 split
 ·rw [er]; omega
 unfold Qyk
 split
 ·rename_i e o h
  have := ((Qdu (V := leN (b.take (b.length - 4))) (N := 8 * (b.take (b.length - 4)).length) (c := c.toNat) (n.toNat * c.toNat) [] 0 (yd _) (fun x hx => by simp at hx)).1 e o h).1
  rw [er]
  omega
 split
 ·rw [er]; omega
 ·unfold Qrg
  split
  ·show 0 ≤ ZF _ _ ∧ ZF _ _ ≤ 99
   unfold ZF
   repeat' split
   all_goals omega
  ·exact ⟨Int.le_refl _, by show (0 : Int) ≤ 99; omega⟩
theorem QxJ (b p : List UInt8) (k : Nat) : 0 ≤ ofE b p k ∧ ofE b p k ≤ 99 := by
 unfold ofE
 split
 ·omega
 ·exact Qv6 _ _ _ _ _
theorem Qys (b p : List UInt8) : 0 ≤ clN b p ∧ clN b p ≤ 99 := by
 have h1 := QsF b p
 have h2 := QxJ b p (oB b p)
 unfold clN
 repeat' split
 all_goals omega
def rpF (b p : List UInt8) : Rp := ⟨oF b, oC b, oX b, oR b, oN b, oM b p, iL (oS b p), clN b p, tdP b p, tdQ b p, tdG b p⟩
theorem Qzg {b p : List UInt8} (h : opN b p = 0) : Qql (rpF b p) := by
 obtain ⟨_, hf, _, _⟩ := QdV h
 obtain ⟨g1, g2, g3⟩ := QeY h
 have hl := hf.le
 have hc := Qys b p
 have hob := QxL b p
 have hl1 := hf.l1
 have hg := Qtk hf (oB b p)
 have hp : 0 ≤ tdP b p ∧ tdP b p ≤ 6 := by
  have := Qsy b (opN b p)
  unfold tdP
  repeat' split
  all_goals omega
 have hq : 0 ≤ tdQ b p ∧ tdQ b p < (oL b).length := by
  unfold tdQ
  split <;> omega
 have hgd : 0 ≤ tdG b p ∧ tdG b p ≤ 12000 := by
  unfold tdG
  rw [qe (by omega)]
  exact hg
 have hm : 22 ≤ oM b p := by unfold oM; omega
 have hs : (iL (oS b p)).length = (oL b).length := by rw [Zy, g3]
 exact ⟨hf.hd, g2, hs.symm, by show (22 : Int) ≤ (oM b p : Nat); omega, by show ((oM b p : Nat) : Int) ≤ 100000; omega, hc.1, hc.2, hp.1, hp.2, hq.1, by show tdQ b p < ((iL (oS b p)).length : Nat); rw [hs]; exact hq.2, hgd.1, hgd.2⟩
def Qzw (b p : List UInt8) : AV := if opN b p = 0 then .tup [(rpF b p).av, .int .i64 0] else .tup [Rp.zero.av, .int .i64 (opN b p)]
theorem QvP (b p : List UInt8) : isD (Qzw b p) = true := by unfold Qzw; split <;> simp [isD, isDL, Qha]
def QyL (P : Prg) (f : Nat) : Prop := ∀ b p : List UInt8, b.length ≤ 1000000 → VC P f [bs b, .str p] (Qzw b p)
theorem Qvs {P : Prg} {f fO fT t0 t1 t2 : Nat} (bd : Body P f 32 [.cell 4 t0, .tmp 5] (Qaz fO fT t0 t1 t2)) (ht : Zq P t0 = some (some 11)) (hO : QcF P fO) (hT : Qgu P fT) : QyL P f := by
 intro b p hb
 refine Qi 1 (by simp [isDL, QM, isD]) (QvP b p) (Qb bd (by simp) ?_)
 have hlu := Qk b
 have hO' := hO b p hb
 have hT' := hT b p hb
 unfold QsE at hO'
 unfold Qzw
 by_cases h : opN b p = 0
 ·obtain ⟨h64, hf, _, _⟩ := QdV h
  rw [tdA, qe h64] at hT'
  rw [qh h, ixA, Q6] at hO'
  rw [qh h, Rp.av, rpF]
  have tS := Qp .i64 (iL (oS b p))
  simp only [Q6]
  rw [bs] at hO' hT' ⊢
  generalize clN b p = e at *
  generalize tdP b p = q1 at *
  generalize tdQ b p = q2 at *
  generalize tdG b p = q3 at *
  simp (disch := omega) only [rq, simprocAttr, Qaz]
  refine Qa hO' ?_
  simp (disch := omega) only [rq, simprocAttr]
  refine Qa hT' ?_
  simp (disch := omega) only [rq, simprocAttr, QP, ht, Qr]
  simp [QK, Qx, frzL, Qu, frzL_T _ tS]
 ·rw [qe h, ix0] at hO'
  rw [qe h]
  rw [bs] at hO' ⊢
  generalize opN b p = e at *
  simp (disch := omega) only [rq, simprocAttr, Qaz]
  refine Qa hO' ?_
  simp (disch := omega) only [rq, simprocAttr, QP, ht, Qr]
  simp [QK, Qx, frzL, Qu, Rp.av, Rp.zero, Q6, ks]
def QAm (n : Nat) : Bool := decide (5000 < n ∧ n < 12000) || decide (12100 < n)
def QkJ (P : Prg) (f : Nat) : Prop := ∀ b : List UInt8, VC P f [bs b] (.bool (QAm b.length))
theorem Qqo {P : Prg} {f : Nat} (bd : Body P f 16 [.tmp 2] QV) : QkJ P f := by
 intro b
 refine QJ (by simp [isDL, QM]) rfl bd ?_
 have hlu := Qk b
 unfold QAm
 rw [bs]
 generalize b.length = n at *
 by_cases h1 : 5000 < n
 ·by_cases h2 : n < 12000
  ·rw [decide_eq_true ⟨h1, h2⟩]
   simp (disch := omega) only [rq, simprocAttr, QV]
  ·rw [decide_eq_false (fun h => h2 h.2)]
   by_cases h3 : 12100 < n
   ·rw [decide_eq_true h3]
    simp (disch := omega) only [rq, simprocAttr, QV]
   ·rw [decide_eq_false h3]
    simp (disch := omega) only [rq, simprocAttr, QV]
 ·rw [decide_eq_false (fun h => h1 h.1), decide_eq_false (by omega)]
  simp (disch := omega) only [rq, simprocAttr, QV]
theorem Qtm {P : Prg} {f : Nat} (h : QcG P f) : VC P f [bs Qie] (.tup [.int .i64 0, .int .i64 0]) := by
 have h1 := h Qie (by decide)
 have e : frN Qie = (0, 0) := by decide +kernel
 rw [e] at h1
 exact h1
theorem QgX (x : Rp) : QyR x x = true ∧ QyS x x = true := by simp [QyR, QzI, QyS]
set_option maxHeartbeats 4000000 in
theorem Qf2 {P : Prg} {f fA fL fO fI fT fS fX fR fJ fC t0 t1 t2 : Nat} (bd : Body P f 108 [.tmp 4] (QG fA fL fO fI fT fS fX fR fJ fC t0 t1 t2)) (hA : VC P fA [] (.bool true)) (hL : QkJ P fL) (hO : QyL P fO) (hI : QcF P fI) (hT : Qgu P fT) (hS : Qgx P fS) (hX : QkL P fX) (hR : QkM P fR) (hJ : Qgy P fJ) (hC : QeI P fC) : Qui P f := by
 intro b p
 refine QJ (by simp [isDL, QM, isD]) rfl bd ?_
 have hlu := Qk b
 have hL' := hL b
 rw [bs] at hL'
 cases hg : QAm b.length with
 | true =>
  rw [hg] at hL'
  rw [bs]
  simp (disch := omega) only [rq, simprocAttr, QG]
  iterate 2 (refine Qa (by assumption) ?_; simp (disch := omega) only [rq, simprocAttr])
 | false =>
 rw [hg] at hL'
 have hb : b.length ≤ 12100 := by
  unfold QAm at hg
  simp only [Bool.or_eq_false_iff, decide_eq_false_iff_not] at hg
  omega
 by_cases h64 : 64 < p.length
 ·rw [bs]
  simp (disch := omega) only [rq, simprocAttr, QG]
  iterate 2 (refine Qa (by assumption) ?_; simp (disch := omega) only [rq, simprocAttr])
 have hO' := hO b p (by omega)
 have hI' := hI b p (by omega)
 have hT' := hT b p (by omega)
 rw [tdA, qe h64] at hT'
 unfold QsE at hI'
 unfold Qzw at hO'
 by_cases h : opN b p = 0
 case neg =>
  rw [qe h] at hO' hI'
  have hS0 := hS Rp.zero Rp.zero (by simp [Rp.zero]) (by simp [Rp.zero])
  rw [(QgX _).1, (QgX _).2] at hS0
  have hS1 : VC P fS [.agg [.int .i64 0, .int .i64 0, .int .i64 0, .int .i64 0, .int .i64 0, .int .i64 0, .list 0 [], .int .i64 0, .int .u8 0, .int .i64 0, .int .i64 0], .agg [.int .i64 0, .int .i64 0, .int .i64 0, .int .i64 0, .int .i64 0, .int .i64 0, .emp true, .int .i64 0, .int .u8 0, .int .i64 0, .int .i64 0]] (.bool true) := VC.em _ hS0 (by simp [isDL, isD])
  rw [ix0] at hI'
  rw [Rp.zero, Rp.av, Q6] at hO'
  rw [bs] at hO' hI' hT' ⊢
  have kz : ks .i64 [] = [] := rfl
  rw [kz, qC] at hO'
  generalize clN b p = e at *
  generalize tdP b p = q1 at *
  generalize tdQ b p = q2 at *
  generalize tdG b p = q3 at *
  generalize opN b p = oe at *
  clear hS0 hS hX hR hJ hC hO hI hT
  simp (disch := omega) only [rq, simprocAttr, QG]
  iterate 6 (refine Qa (by assumption) ?_; simp (disch := omega) only [rq, simprocAttr])
 rw [qh h] at hO' hI'
 have hok := Qzg h
 obtain ⟨_, hf, _, _⟩ := QdV h
 obtain ⟨g1, g2, g3⟩ := QeY h
 have hlen := Qw8 hok
 have hl2 := hf.l2
 have hil : (iL (oS b p)).length = (oL b).length := by rw [Zy, g3]
 have hv : ∀ v ∈ iL (oS b p), -9223372036854775808 ≤ v ∧ v ≤ 9223372036854775807 := fun v hv => by
  simp only [iL, qO] at hv
  obtain ⟨i, hi, rfl⟩ := hv
  have := QnO hi
  have := (QlC g2).1
  omega
 have hrb : rpB (rpF b p) := ⟨by show (iL (oS b p)).length ≤ 1000000; omega, hv, hok.2.2.2.2.2.2.2.1, by have := hok.2.2.2.2.2.2.2.2.1; omega⟩
 have hX' := hX _ hrb
 rw [Qp7, qh hok] at hX'
 have hR' := (hR (txt (rpF b p)) (by omega)).1 _ hok rfl
 have hC' := hC _ hrb
 rw [rpN, qh hok] at hC'
 have hS' := hS (rpF b p) (rpF b p) (by show (iL (oS b p)).length ≤ 1000000; omega) (by show (iL (oS b p)).length ≤ 1000000; omega)
 rw [(QgX _).1, (QgX _).2] at hS'
 have hJ' := hJ (rpF b p) (rpF b p) (by show (iL (oS b p)).length ≤ 1000000; omega) (by show (iL (oS b p)).length ≤ 1000000; omega)
 rw [(QgX _).1] at hJ'
 generalize txt (rpF b p) = t at *
 rw [ixA] at hI'
 rw [QuA] at hJ'
 rw [Rp.av] at hO' hX' hR' hC' hS'
 simp only [rpF, Q6] at hO' hX' hR' hC' hS' hJ' hI'
 rw [bs] at hO' hI' hT' ⊢
 generalize clN b p = e at *
 generalize tdP b p = q1 at *
 generalize tdQ b p = q2 at *
 generalize tdG b p = q3 at *
 clear hrb hok hv hS hX hR hJ hC hO hI hT
 simp (disch := omega) only [rq, simprocAttr, QG]
 iterate 7 (refine Qa (by assumption) ?_; simp (disch := omega) only [rq, simprocAttr])
 refine Qa hJ' ?_
 simp (disch := omega) only [rq, simprocAttr, Qrj]
 iterate 2 (refine Qa (by assumption) ?_; simp (disch := omega) only [rq, simprocAttr])
end Go.Am
