/- What the functions that the law reaches return, for every program that has their code; the conditions stand in each statement. -/
import Derived.Lib.ItoaLen
import Derived.Test.YtnkkbheggkaopaaDoorLinesReadsL1
set_option linter.unusedSectionVars false
set_option linter.unusedSimpArgs false
set_option linter.unusedVariables false
namespace Go.Am
open Go.RowKit
theorem QiU (x : Rp) : (Qi4 x x && Qjb x x) = true := Qku.2 rfl
def Qd7 (P : Prg) (f : Nat) : Prop := ∀ (x : Rp) (s : List UInt8), x.l.length ≤ 9223372036854775807 → (∀ v ∈ x.l, -9223372036854775808 ≤ v ∧ v ≤ 9223372036854775807) → 0 ≤ x.p → x.p ≤ 255 → VC P f [x.av, .str s] (.bool true)
theorem QaM {P : Prg} {f fT fU fR fS fC fD fE t0 : Nat} (bd : Body P f 68 [.tmp 4] (Qt fT fU fR fS fC fD fE t0)) (hT : Qc5 P fT) (hU : Qc1 P fU) (hR : Qc6 P fR) (hS : QeS P fS) (hC : ZC P fC) (hD : ZC P fD) (hE : QcZ P fE) : Qd7 P f := by
 intro x s hl hv hp0 hp1
 refine JM (by simp [isDL, isD, XJ]) rfl (ACall.of_cuts [false, false, false, false, false, false, true] bd (by simp) ?_)
 by_cases h1 : 1010 < x.l.length
 ·simp (maxSteps := 4000000) (disch := omega) only [rq, simprocAttr, QQ, Qt, Rp.av, QD]
 by_cases h2 : 13000 < s.length
 ·simp (maxSteps := 4000000) (disch := omega) only [rq, simprocAttr, QQ, Qt, Rp.av, QD]
 have hb : rpB x := ⟨by omega, hv, hp0, hp1⟩
 have hT' := hT x hb
 have hU' := hU x hb
 have hC' := hC x hb
 have hD' := hD x hb
 obtain ⟨r1, r2⟩ := hR s (by omega)
 obtain ⟨q1, q2⟩ := hS s (by omega)
 obtain ⟨y, e, hy, hR', hS'⟩ : ∃ (y : Rp) (e : Int), y.l.length ≤ 1000000 ∧ VC P fR [.str s] (.tup [y.av, .int .i64 e]) ∧ VC P fS [.str s] (.tup [y.av, .int .i64 e]) := by
  by_cases hx : ∃ y, Qb3 y ∧ txt y = s
  ·obtain ⟨y, hy, hyt⟩ := hx
   have := (Qak hy.2.1).2.1
   exact ⟨y, 0, by omega, r1 y hy hyt, q1 y hy hyt⟩
  ·exact ⟨Rp.zero, 12, by decide, r2 hx, q2 hx⟩
 have hE' := hE y y hy hy
 rw [QiU] at hE'
 obtain ⟨t, te, ht⟩ : ∃ (t : List UInt8) (te : Int), Qcn x = .tup [.str t, .int .i64 te] := by
  unfold Qcn
  split
  ·exact ⟨_, _, rfl⟩
  ·exact ⟨_, _, rfl⟩
 unfold Qc1 at hU
 rw [ht] at hT' hU'
 have hse : QbJ .eql t t = some (.bool true) := by
  show some (AV.bool (t == t)) = _
  rw [beq_iff_eq.2 rfl]
 have tl := Qy .i64 x.l
 have tl2 := Qy .i64 y.l
 rw [Rp.av, QD] at hT' hU' hC' hD' hR' hS' hE'
 rw [Rp.av, QD]
 simp (maxSteps := 4000000) (disch := omega) only [rq, simprocAttr, QQ, Qt]
 refine Qa hT' ?_
 simp (maxSteps := 4000000) (disch := omega) only [rq, simprocAttr, QQ]
 refine Qa hU' ?_
 simp (maxSteps := 4000000) (disch := omega) only [rq, simprocAttr, QQ]
 refine Qa hR' ?_
 simp (maxSteps := 4000000) (disch := omega) only [rq, simprocAttr, QQ]
 refine Qa hS' ?_
 simp (maxSteps := 4000000) (disch := omega) only [rq, simprocAttr, QQ]
 refine JO ⟨[(2, .cell [.int .i64 x.f, .int .i64 x.c, .int .i64 x.b, .int .i64 x.r, .int .i64 x.n, .int .i64 x.m, .list x.l.length (ks .i64 x.l), .int .i64 x.e, .int .u8 x.p, .int .i64 x.q, .int .i64 x.g]),
  (9, .cell [.int .i64 y.f, .int .i64 y.c, .int .i64 y.b, .int .i64 y.r, .int .i64 y.n, .int .i64 y.m, .list y.l.length (ks .i64 y.l), .int .i64 y.e, .int .u8 y.p, .int .i64 y.q, .int .i64 y.g]),
  (11, .cell [.int .i64 y.f, .int .i64 y.c, .int .i64 y.b, .int .i64 y.r, .int .i64 y.n, .int .i64 y.m, .list y.l.length (ks .i64 y.l), .int .i64 y.e, .int .u8 y.p, .int .i64 y.q, .int .i64 y.g]),
  (5, .str t), (7, .str t), (6, .int .i64 te), (8, .int .i64 te), (10, .int .i64 e), (12, .int .i64 e)], []⟩ (ZZ [] (by simp) (by simp [Am.look, Zh, frzL, Q7, isDL, isD, Xg, frzL_T _ tl, frzL_T _ tl2])) ?_
 simp (maxSteps := 4000000) (disch := omega) only [rq, simprocAttr, QQ]
 refine Qo hC' ?_
 simp (maxSteps := 4000000) (disch := omega) only [rq, simprocAttr, QQ]
 refine Qo hD' ?_
 simp (maxSteps := 4000000) (disch := omega) only [rq, simprocAttr, QQ, hse]
 refine Qo hE' ?_
 simp (maxSteps := 4000000) (disch := omega) only [rq, simprocAttr, QQ]
def Qkn : Sh := .tuple [.tuple [.tuple [.int .i64, .int .i64, .int .i64, .int .i64, .int .i64], .int .i64, .slice (.int .i64)], .tuple [.int .i64, .int .u8, .int .i64, .int .i64]]
theorem Qja {cs0 : List AV} (h : QaR Qkn cs0) : ∃ x : Rp, AV.agg cs0 = x.av ∧ x.l.length ≤ 9223372036854775807 ∧ (∀ v ∈ x.l, -9223372036854775808 ≤ v ∧ v ≤ 9223372036854775807) ∧ 0 ≤ x.p ∧ x.p ≤ 255 := by
 simp only [Qkn, QaR, FitsL] at h
 obtain ⟨_, _, rfl, ⟨_, _, rfl, ⟨_, _, rfl, ⟨f, rfl, _⟩, _, _, rfl, ⟨c, rfl, _⟩, _, _, rfl, ⟨b, rfl, _⟩, _, _, rfl, ⟨r, rfl, _⟩, _, _, rfl, ⟨n, rfl, _⟩, rfl⟩, _, _, rfl, ⟨m, rfl, _⟩, _, _, rfl, ⟨L, rfl, hm, h2⟩, rfl⟩,
  _, _, rfl, ⟨_, _, rfl, ⟨e, rfl, _⟩, _, _, rfl, ⟨p, rfl, hp⟩, _, _, rfl, ⟨q, rfl, _⟩, _, _, rfl, ⟨g, rfl, _⟩, rfl⟩, rfl⟩ := h
 obtain ⟨l, h3, h4, h5⟩ := Qhe (K := .i64) (L := L) (fun c hc => by simp only [QaR]; exact h2 c hc)
 refine ⟨⟨f, c, b, r, n, m, l, e, p, q, g⟩, ?_, ?_, ?_, ?_, ?_⟩
 ·simp [Rp.av, h4, QD]
 ·show l.length ≤ _
  rw [← h3]
  unfold maxLen at hm
  omega
 ·intro v hv
  have := h5 v hv
  simpa [IntKind.min, IntKind.max, IntKind.signed, IntKind.bits] using this
 ·simpa [IntKind.min, IntKind.max, IntKind.signed, IntKind.bits] using hp.1
 ·simpa [IntKind.min, IntKind.max, IntKind.signed, IntKind.bits] using hp.2
end Go.Am
