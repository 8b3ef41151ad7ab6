/- What the functions that the law reaches return, for every program that has their code; the conditions stand in each statement. -/
import Derived.Test.YtghngklehkkecaaGreatDoorTopFileL2
set_option linter.unusedSectionVars false
set_option linter.unusedSimpArgs false
set_option linter.unusedVariables false
namespace Go.Am
open Go.RowKit
def QCp (c x : Int) (t : List Int) (n : Int) (b : List UInt8) : List Int := if QA7 c x t n b = 0 then unB c.toNat x t (iL (QEx (QDO b c.toNat n.toNat))) else []
theorem QBc (c x n : Int) (t : List Int) (b : List UInt8) : Qvu c x t n b = .tup [il (QCp c x t n b), .int .i64 (QA7 c x t n b)] ∧ (QCp c x t n b).length ≤ 4000 := by
 unfold Qvu QCp QA7 QDO
 by_cases h1 : X2 c x n = 0
 case neg => simp only [qh h1]; exact ⟨rfl, by simp⟩
 have a1 : ¬ (X2 c x n ≠ 0) := by omega
 simp only [qf a1]
 by_cases h2 : Qeq b = 0
 case neg =>
  have h2' : ((Qeq b : Nat) : Int) ≠ 0 := by omega
  simp only [qh h2, qf h2']
  exact ⟨rfl, by simp⟩
 have a2 : ¬ (Qeq b ≠ 0) := by omega
 simp only [qf a2]
 obtain ⟨_, c', n', rfl, rfl, q1, q2, q3, q4, q5⟩ := Qjv h1
 simp only [qm]
 have hs := Qft (V := leN (b.take (b.length - 4))) (N := 8 * (b.take (b.length - 4)).length) (c := c') (n' * c') [] 0 (jt _) (fun x hx => by simp at hx)
 generalize leN (b.take (b.length - 4)) = V at *
 generalize 8 * (b.take (b.length - 4)).length = N at *
 cases hw : QbI V N c' (n' * c') [] 0 with
 | inl w =>
  obtain ⟨e, o⟩ := w
  have he := (hs.1 e o hw).1
  have he0 : ¬ ((e : Int) = 0) := by omega
  have he2 : ¬ (QD5 V N c' x t (.inl (e, o)) = 0) := he0
  rw [qf he2]
  exact ⟨rfl, by simp⟩
 | inr w =>
  obtain ⟨o, a⟩ := w
  obtain ⟨hv, ha, hol⟩ := QAS q1 q2 q3 q4 hw
  simp only [QCo, QD5, QEx]
  by_cases h3 : QiN V N a = 0
  ·have a3 : ¬ (QiN V N a ≠ 0) := by omega
   simp only [qf a3]
   unfold Qvs
   by_cases h4 : QE x (unB c' x t (iL o)) = 0
   ·have a4 : ¬ (QE x (unB c' x t (iL o)) ≠ 0) := by omega
    simp only [qf a4, qh h4]
    rw [h4]
    exact ⟨rfl, by rw [QvQ]; simp only [iL, je]; omega⟩
   ·simp only [qh h4, qf h4]
    exact ⟨rfl, by simp⟩
  ·have a5 : ¬ ((12 : Int) = 0) := by omega
   simp only [qh h3, qf a5]
   exact ⟨rfl, by simp⟩
def Qgr (v k : Nat) : Nat := if 48 ≤ v / 2 ^ k then 80 else v / 2 ^ k + 1 + k
def Qj1 (v k : Nat) : Nat := if 48 ≤ v / 2 ^ k then 2 ^ 48 - 1 + 2 ^ 48 * v else 2 ^ (v / 2 ^ k) - 1 + 2 ^ (v / 2 ^ k + 1) * (v % 2 ^ k)
def Qce (d : Dl) (v : Nat) : Nat := if v < 2 ^ d.k0 then 1 + d.k0 else 1 + Qgr (v - 2 ^ d.k0) d.k1
def Qkn (d : Dl) (v : Nat) : Nat := if v < 2 ^ d.k0 then 2 * v else 1 + 2 * Qj1 (v - 2 ^ d.k0) d.k1
theorem Qa3 {V N W n : Nat} (hV : V < 2 ^ N) (hW : W < 2 ^ n) : V + 2 ^ N * W < 2 ^ (N + n) := by
 have h1 : 2 ^ N * (W + 1) ≤ 2 ^ N * 2 ^ n := yt _ hW
 rw [q9]
 rw [y9, jp] at h1
 omega
theorem Qzv {v k : Nat} (hv : v < 4294967296) : Qj1 v k < 2 ^ Qgr v k := by
 unfold Qj1 Qgr
 split
 ·exact Qa3 (N := 48) (n := 32) (by decide) hv
 ·have h1 : v % 2 ^ k < 2 ^ k := qM _ (qW (by omega))
  refine Qa3 ?_ h1
  have : 0 < 2 ^ (v / 2 ^ k) := qW (by omega)
  rw [yx]
  omega
theorem Qzu {v k : Nat} (hk : k ≤ 24) : Qgr v k ≤ 80 := by unfold Qgr; split <;> omega
theorem Qmw {d : Dl} {v : Nat} (hd : okD d) : Qce d v ≤ 81 := by
 have := Qzu (v := v - 2 ^ d.k0) hd.2.1
 have := hd.1
 unfold Qce
 split <;> omega
theorem Qo7 (d : Dl) (v : Nat) : 1 ≤ Qce d v := by unfold Qce; split <;> omega
theorem Qtl {d : Dl} {v : Nat} (hv : v < 4294967296) : Qkn d v < 2 ^ Qce d v := by
 unfold Qkn Qce
 split
 ·rename_i h
  rw [q9, Nat.pow_one]
  omega
 ·have h := Qzv (v := v - 2 ^ d.k0) (k := d.k1) (jI (Yy _ _) hv)
  exact Qa3 (N := 1) (V := 1) (by decide) h
def QDp (c : Nat) (v : List Nat) : Nat → Nat × Nat
 | 0 => (0, 0)
 | i + 1 => ((QDp c v i).1 + Qce (Zf c (i % c) (v.take i)) (v.getD i 0), (QDp c v i).2 + 2 ^ (QDp c v i).1 * Qkn (Zf c (i % c) (v.take i)) (v.getD i 0))
def Qfr (c : Nat) (v : List Nat) (i : Nat) : Nat := (QDp c v i).1
def Qtd (c : Nat) (v : List Nat) (i : Nat) : Nat := (QDp c v i).2
theorem QiX (c : Nat) (v : List Nat) : Qfr c v 0 = 0 := rfl
theorem QoL (c : Nat) (v : List Nat) : Qtd c v 0 = 0 := rfl
theorem Qa6 (c : Nat) (v : List Nat) (i : Nat) : Qfr c v (i + 1) = Qfr c v i + Qce (Zf c (i % c) (v.take i)) (v.getD i 0) := rfl
theorem QfU (c : Nat) (v : List Nat) (i : Nat) : Qtd c v (i + 1) = Qtd c v i + 2 ^ Qfr c v i * Qkn (Zf c (i % c) (v.take i)) (v.getD i 0) := rfl
theorem N32.take {v : List Nat} (h : N32 v) (i : Nat) : N32 (v.take i) := fun x hx => h x (qP hx)
theorem N32.getD {v : List Nat} (h : N32 v) (i : Nat) : v.getD i 0 < 4294967296 := by
 rw [qd]
 cases hx : v[i]? with
 | none => simp
 | some x => exact h x (yk hx)
theorem XF {c : Nat} {v : List Nat} (h : N32 v) : ∀ i, Qtd c v i < 2 ^ Qfr c v i ∧ Qfr c v i ≤ 81 * i ∧ i ≤ Qfr c v i
 | 0 => by rw [QiX, QoL]; decide
 | i + 1 => by
  obtain ⟨h1, h2, h3⟩ := XF h i
  have hd := Qjc (c := c) (r := i % c) (h.take i)
  have h4 := Qmw (v := v.getD i 0) hd
  have h5 := Qo7 (Zf c (i % c) (v.take i)) (v.getD i 0)
  rw [Qa6, QfU]
  exact ⟨Qa3 h1 (Qtl (h.getD i)), by omega, by omega⟩
def QgC (c : Nat) (v : List Nat) : List UInt8 := leB (Qtd c v v.length) (nB (Qfr c v v.length))
def Q9 (p : List UInt8) : List UInt8 := p ++ leB (Qbm p) 4
theorem Qdx (p : List UInt8) : (Q9 p).length = p.length + 4 := by simp [Q9, Qc]
theorem QfV (c : Nat) (v : List Nat) : (QgC c v).length = nB (Qfr c v v.length) := by simp [QgC, Qc]
theorem QD2 (ob J : List Ob) (k : Nat) : (ob ++ J)[ob.length + k]? = J[k]? := by rw [qC (by omega), yA]
theorem Qxw (ob J : List Ob) : (ob ++ J)[ob.length]? = J[0]? := QD2 ob J 0
theorem QDX (ob J : List Ob) (k : Nat) (y : Ob) : (ob ++ J).set (ob.length + k) y = ob ++ J.set k y := by rw [List.set_append_right _ _ (by omega), yA]
theorem QBJ (ob J : List Ob) (y : Ob) : (ob ++ J).set ob.length y = ob ++ J.set 0 y := QDX ob J 0 y
def Qic (t : Nat) (P : Prg) (f : Nat) : Prop := ∀ l : List UInt8, l.length ≤ 1000000 → VO P f [bs l] (.own 0 l.length) ⟨t, 1, l.length, u8 l, 0⟩
theorem QCu {P : Prg} {f t0 : Nat} (b : Body P f 8 [.tmp 2] (QW t0)) : Qic t0 P f := by
 intro l hl
 refine VO.of_walk (by simp [isDL, QD]) (QdG l) (by simp [okr]) (ACall.virtR t0 1 (by decide) (Qb b (by simp) ?_))
 by_cases h0 : l = []
 ·subst h0
  simp (disch := omega) only [rq, simprocAttr, QW, bs, QpQ, Qg7]
  exact ⟨.inr ⟨true, rfl, 0, rfl, rfl⟩, .inl ⟨0, rfl, rfl⟩⟩
 ·have h1 : l.length ≠ 0 := by simpa using h0
  simp (disch := omega) only [rq, simprocAttr, QW, bs, QpQ, h1]
  exact .inl ⟨0, rfl, rfl⟩
theorem Qyn {P : Prg} {f fC t0 tb : Nat} (bd : Body P f 9 [.cell 2 t0] (QbG fC t0)) (hC : Qic tb P fC) (ht : Zu P t0 = some (some 2)) {N V : Nat} (hN : N ≤ 400000) {ob : List Ob} (hl : Low ob.length ob) {K : AV → List Ob → Prop}
  (hK : K (.agg [.own ob.length (nB N), .int .i64 N]) (ob ++ [bY tb N V])) : ACall P f [bA N V] ob K := by
 refine ACall.low (ACall.pad (Qb bd (by simp) ?_))
 have hC' := hC (leB V (nB N)) (by rw [Qc]; unfold nB; omega)
 rw [bs, Qc] at hC'
 have hlow : Low (ob.length + 1) (ob ++ [bY tb N V]) := (hl.mono (by omega)).append (Low.cons (lowL_D _ (QaD _ _)) Low.nil)
 simp (disch := omega) only [rq, simprocAttr, QbG, bA, qj, yc, qX, QD2, Qxw, QDX, QBJ]
 refine Qa9.vo hC' ob.length (by rw [Qxw]; rfl) Nat.one_ne_zero ?_
 simp (disch := omega) only [rq, simprocAttr, shr, qj, yc, qX, QD2, Qxw, QDX, QBJ, Q1, ht, QL]
 exact ⟨ob ++ [bY tb N V], [_, _], by simp [bY]; exact ⟨rfl, rfl⟩, by simp, by simpa using hlow, by simp [JG, lowL], hK⟩
def QpL (P : Prg) (f : Nat) : Prop := ∀ N V v n : Nat, V < 2 ^ N → v < 2 ^ n → n ≤ 64 → N + n ≤ 330000 → VC P f [bA N V, .int .u64 v, .int .i64 n] (.tup [bA (N + n) (V + 2 ^ N * v), .int .i64 0])
theorem QAz {P : Prg} {f fC fT fK fP t0 t1 tb : Nat} (bd : Body P f 44 [.cell 6 t0, .tmp 7] (Qc2 fC fT fP t0)) (hC : JF P fC) (bT : Body P fT 9 [.cell 2 t1] (QbG fK t1)) (bP : Body P fP 75 [] (Qbi tb)) (hK : Qic tb P fK) (ht : Zu P t0 = some (some 2)) (ht1 : Zu P t1 = some (some 2)) : QpL P f := by
 intro N V v n hV hv hn hN
 refine Qk 2 (by simp [isDL, JO, isD]) (by simp [isD, isDL, JO]) (Qb bd (by simp) ?_)
 have hC' := hC N V hV (by omega)
 rw [bA] at hC'
 have e1 : n < 64 → Qj false .u64 (v : Int) (n : Int) = some (.int .u64 0) := fun h => by
  rw [Qny (K := .u64) (by show n ≤ 64; omega), y7 hv]; rfl
 have tu : isTL (u8 (leB V (nB N))) = true := QF _
 have tl : ∀ W M, isTL (u8 (leB W M)) = true := fun W M => QF _
 have tw : ∀ (Q : Exit → St → Prop) os fr dst, wpQ P os Q ⟨ZQ fr dst (.agg [.own 2 (nB N), .int .i64 N]), [⟨t0, 2, 1, [.list (nB N) (u8 (leB V (nB N))), .int .i64 N], 0⟩, ⟨t0, 2, 1, [.emp true, .int .i64 0], 0⟩, bY tb N V]⟩ →
   QcI P fT [.agg [.list (nB N) (u8 (leB V (nB N))), .int .i64 N]] [⟨t0, 2, 1, [.list (nB N) (u8 (leB V (nB N))), .int .i64 N], 0⟩, ⟨t0, 2, 1, [.emp true, .int .i64 0], 0⟩] os Q fr dst := fun Q os fr dst h =>
  Qyn bT hK ht1 (N := N) (V := V) (by omega) (Low.cons (by simp [lowL, JG, lowL_D _ (QaD _ _)]) (Low.cons (by simp [lowL, JG]) Low.nil)) h
 have pt : ∀ (Q : Exit → St → Prop) os fr dst, wpQ P os Q ⟨ZQ fr dst (.tup []), [⟨t0, 2, 1, [.own 2 (nB (N + n)), .int .i64 ((N + n : Nat) : Int)], 0⟩, ⟨t0, 2, 1, [.emp true, .int .i64 0], 0⟩, bY tb (N + n) (V + 2 ^ N * v)]⟩ →
   QcI P fP [.ref 0 1 0, .int .u64 v, .int .i64 n] [⟨t0, 2, 1, [.own 2 (nB N), .int .i64 N], 0⟩, ⟨t0, 2, 1, [.emp true, .int .i64 0], 0⟩, bY tb N V] os Q fr dst := fun Q os fr dst h =>
  Qts bP (ob := [⟨t0, 2, 1, [.own 2 (nB N), .int .i64 N], 0⟩, ⟨t0, 2, 1, [.emp true, .int .i64 0], 0⟩, bY tb N V]) (p := 0) (o := 2) (t := t0) rfl rfl (by decide) hV hv hn (by omega)
   (Low.cons (by simp [lowL, JG]) (Low.cons (by simp [lowL, JG]) (Low.cons (lowL_D _ (QaD _ _)) Low.nil))) h
 have tu' := tl (V + 2 ^ N * v) (nB (N + n))
 generalize V + 2 ^ N * v = W at *
 by_cases h64 : n < 64
 ·have e1' := e1 h64
  simp (disch := omega) only [rq, simprocAttr, Qc2, bA]
  refine Qa hC' ?_
  simp (disch := omega) only [rq, simprocAttr, e1']
  refine tw _ _ _ _ ?_
  simp (disch := omega) only [rq, simprocAttr]
  refine pt _ _ _ _ ?_
  simp (disch := omega) only [rq, simprocAttr, Q1, ht, QL]
  simp [QO, Qx, frzL, Qy, bY, frzL_T _ tu']
 ·simp (disch := omega) only [rq, simprocAttr, Qc2, bA]
  refine Qa hC' ?_
  simp (disch := omega) only [rq, simprocAttr]
  refine tw _ _ _ _ ?_
  simp (disch := omega) only [rq, simprocAttr]
  refine pt _ _ _ _ ?_
  simp (disch := omega) only [rq, simprocAttr, Q1, ht, QL]
  simp [QO, Qx, frzL, Qy, bY, frzL_T _ tu']
def uN (n : Nat) : Nat := min (n + 1) 48
def QyB (P : Prg) (f : Nat) : Prop := ∀ n : Nat, n ≤ 48 → VC P f [.int .i64 n] (.tup [.int .i64 (uN n), .int .i64 0])
theorem Qn0 {P : Prg} {f : Nat} (bd : Body P f 13 [.tmp 2, .tmp 3] Qbd) : QyB P f := by
 intro n hn
 refine Qv rfl rfl bd ?_
 have e1 : (if (48 : Int) < (n : Int) + 1 then (48 : Int) else (n : Int) + 1) = (uN n : Nat) := by unfold uN; split <;> omega
 simp (disch := omega) only [rq, simprocAttr, Qbd, e1]
theorem QwU {n : Nat} (h : n ≤ 48) : 2 ^ n ≤ 281474976710656 := qr (by omega) h
def Qm8 (P : Prg) (f : Nat) : Prop := ∀ N V n : Nat, V < 2 ^ N → n ≤ 48 → N + uN n ≤ 330000 → VC P f [bA N V, .int .i64 n] (.tup [bA (N + uN n) (V + 2 ^ N * (2 ^ n - 1)), .int .i64 0])
theorem Qqe {P : Prg} {f fC fL fP t0 : Nat} (bd : Body P f 32 [.cell 4 t0, .tmp 5] (QbN fC fL fP t0)) (hC : JF P fC) (hL : QyB P fL) (hP : QpL P fP) (ht : Zu P t0 = some (some 2)) : Qm8 P f := by
 intro N V n hV hn hN
 refine Qk 1 (by simp [isDL, JO, isD]) (by simp [isD, isDL, JO]) (Qb bd (by simp) ?_)
 have hC' := hC N V hV (by omega)
 have hL' := hL n hn
 have hp := QwU hn
 have hpos : 0 < 2 ^ n := qW (by omega)
 have hlt : 2 ^ n - 1 < 2 ^ uN n := by
  unfold uN
  rcases yM n 48 with h | h
  ·rw [qL (by omega), yx]; omega
  ·obtain rfl : n = 48 := by omega
   decide
 have hP' := hP N V (2 ^ n - 1) (uN n) hV hlt (by unfold uN; omega) hN
 have e3 : Qj true .u64 1 (n : Int) = some (.int .u64 ((2 ^ n : Nat) : Int)) := by
  have := Qvr (K := .u64) rfl (c := 1) (s := n) (by show n ≤ 64; omega) (by show 1 * 2 ^ n < 18446744073709551616; omega)
  rw [yG] at this
  exact this
 have e4 : IntKind.u64.wrap (((2 ^ n : Nat) : Int) - 1) = ((2 ^ n - 1 : Nat) : Int) := by rw [ZR]; omega
 generalize V + 2 ^ N * (2 ^ n - 1) = W at *
 generalize 2 ^ n - 1 = x at *
 generalize 2 ^ n = p at *
 generalize uN n = u at *
 have tl : isTL (u8 (leB W (nB (N + u)))) = true := QF _
 simp only [bA] at hC' hP' ⊢
 simp (disch := omega) only [rq, simprocAttr, QbN]
 refine Qa hC' ?_
 simp (disch := omega) only [rq, simprocAttr]
 refine Qa hL' ?_
 simp (disch := omega) only [rq, simprocAttr, e3, e4]
 refine QX hP' ?_
 simp (disch := omega) only [rq, simprocAttr, Q1, ht, QL]
 simp [QO, Qx, frzL, Qy, frzL_T _ tl]
def Qnb (P : Prg) (f : Nat) : Prop := ∀ N V v k : Nat, V < 2 ^ N → v < 4294967296 → k ≤ 24 → N + 80 ≤ 330000 → VC P f [bA N V, .int .u32 v, .int .i64 k] (.tup [bA (N + Qgr v k) (V + 2 ^ N * Qj1 v k), .int .i64 0])
theorem Quk {P : Prg} {f fC fE fU fP t0 : Nat} (bd : Body P f 57 [.cell 6 t0, .tmp 7] (QaH fC fE fU fP t0)) (hC : JF P fC) (hE : QAF P fE) (hU : Qm8 P fU) (hP : QpL P fP) (ht : Zu P t0 = some (some 2)) : Qnb P f := by
 intro N V v k hV hv hk hN
 refine Qk 1 (by simp [isDL, JO, isD]) (by simp [isD, isDL, JO]) (Qb bd (by simp) ?_)
 have hC' := hC N V hV (by omega)
 have hE' := hE v k hk hv
 obtain ⟨q1, _⟩ := p24 hk
 have hpk : 0 < 2 ^ k := qW (by omega)
 have e1 : Qj false .u32 (v : Int) (k : Int) = some (.int .u32 ((v / 2 ^ k : Nat) : Int)) := Qny (K := .u32) (by show k ≤ 32; omega)
 have e2 : Qj true .u32 1 (k : Int) = some (.int .u32 ((2 ^ k : Nat) : Int)) := by
  have := Qvr (K := .u32) rfl (c := 1) (s := k) (by show k ≤ 32; omega) (by show 1 * 2 ^ k < 4294967296; omega)
  rw [yG] at this
  exact this
 have e3 : IntKind.u32.wrap (((2 ^ k : Nat) : Int) - 1) = ((2 ^ k - 1 : Nat) : Int) := by rw [Qaa]; omega
 have e4 : IntKind.u32.wrap (BitVec.ofInt IntKind.u32.bits (v : Int) &&& BitVec.ofInt IntKind.u32.bits ((2 ^ k - 1 : Nat) : Int)).toNat = ((v % 2 ^ k : Nat) : Int) := by
  rw [QD7 (K := .u32) rfl hv (by show 2 ^ k - 1 < 4294967296; omega), yR]
 have hqv : v / 2 ^ k ≤ v := jO _ _
 have hrv : v % 2 ^ k < 2 ^ k := qM _ hpk
 unfold Qgr Qj1
 by_cases hq : 48 ≤ v / 2 ^ k
 ·rw [qh hq, qh hq]
  simp only [hq, qG] at hE'
  have hU' := hU N V 48 hV (qo _) (by unfold uN; omega)
  have hu : uN 48 = 48 := rfl
  rw [hu] at hU'
  have hV1 : V + 2 ^ N * (2 ^ 48 - 1) < 2 ^ (N + 48) := Qa3 hV (by decide)
  have hP' := hP (N + 48) (V + 2 ^ N * (2 ^ 48 - 1)) v 32 hV1 hv (by omega) (by omega)
  have hW : V + 2 ^ N * (2 ^ 48 - 1) + 2 ^ (N + 48) * v = V + 2 ^ N * (2 ^ 48 - 1 + 2 ^ 48 * v) := by rw [q9, y9, yK, yy]
  rw [hW] at hP'
  generalize V + 2 ^ N * (2 ^ 48 - 1 + 2 ^ 48 * v) = W at *
  generalize V + 2 ^ N * (2 ^ 48 - 1) = W1 at *
  have hNN : N + 48 + 32 = N + 80 := by omega
  rw [hNN] at hP'
  have tl : isTL (u8 (leB W (nB (N + 80)))) = true := QF _
  simp only [bA] at hC' hP' hU' ⊢
  have hU'' : VC P fU [.agg [.list (nB N) (u8 (leB V (nB N))), .int .i64 N], .int .i64 48] (.tup [.agg [.list (nB (N + 48)) (u8 (leB W1 (nB (N + 48)))), .int .i64 ((N + 48 : Nat) : Int)], .int .i64 0]) := hU'
  have hP'' : VC P fP [.agg [.list (nB (N + 48)) (u8 (leB W1 (nB (N + 48)))), .int .i64 ((N + 48 : Nat) : Int)], .int .u64 v, .int .i64 32] (.tup [.agg [.list (nB (N + 80)) (u8 (leB W (nB (N + 80)))), .int .i64 ((N + 80 : Nat) : Int)], .int .i64 0]) := hP'
  generalize v / 2 ^ k = q at *
  generalize v % 2 ^ k = r at *
  generalize 2 ^ k - 1 = mk at *
  generalize 2 ^ k = pk at *
  simp (disch := omega) only [rq, simprocAttr, QaH]
  refine Qa hC' ?_
  simp (disch := omega) only [rq, simprocAttr, e1, e2, e3, e4]
  refine Qa hE' ?_
  simp (disch := omega) only [rq, simprocAttr]
  refine Qa hU'' ?_
  simp (disch := omega) only [rq, simprocAttr]
  refine Qa hP'' ?_
  simp (disch := omega) only [rq, simprocAttr, Q1, ht, QL]
  simp [QO, Qx, frzL, Qy, frzL_T _ tl]
 ·rw [qf hq, qf hq]
  simp only [hq, qB] at hE'
  have hu : uN (v / 2 ^ k) = v / 2 ^ k + 1 := by unfold uN; omega
  have hU' := hU N V (v / 2 ^ k) hV (by omega) (by rw [hu]; omega)
  rw [hu] at hU'
  have hlt : 2 ^ (v / 2 ^ k) - 1 < 2 ^ (v / 2 ^ k + 1) := by
   have : 0 < 2 ^ (v / 2 ^ k) := qW (by omega)
   rw [yx]; omega
  have hV1 : V + 2 ^ N * (2 ^ (v / 2 ^ k) - 1) < 2 ^ (N + (v / 2 ^ k + 1)) := Qa3 hV hlt
  have hP' := hP (N + (v / 2 ^ k + 1)) (V + 2 ^ N * (2 ^ (v / 2 ^ k) - 1)) (v % 2 ^ k) k hV1 hrv (by omega) (by omega)
  have hW : V + 2 ^ N * (2 ^ (v / 2 ^ k) - 1) + 2 ^ (N + (v / 2 ^ k + 1)) * (v % 2 ^ k) = V + 2 ^ N * (2 ^ (v / 2 ^ k) - 1 + 2 ^ (v / 2 ^ k + 1) * (v % 2 ^ k)) := by rw [q9 2 N, y9, yK, yy]
  rw [hW] at hP'
  generalize V + 2 ^ N * (2 ^ (v / 2 ^ k) - 1 + 2 ^ (v / 2 ^ k + 1) * (v % 2 ^ k)) = W at *
  generalize V + 2 ^ N * (2 ^ (v / 2 ^ k) - 1) = W1 at *
  have hNN : N + (v / 2 ^ k + 1) + k = N + (v / 2 ^ k + 1 + k) := by omega
  rw [hNN] at hP'
  have tl : isTL (u8 (leB W (nB (N + (v / 2 ^ k + 1 + k))))) = true := QF _
  simp only [bA] at hC' hP' hU' ⊢
  generalize v / 2 ^ k = q at *
  generalize v % 2 ^ k = r at *
  generalize 2 ^ k - 1 = mk at *
  generalize 2 ^ k = pk at *
  generalize hM : N + (q + 1 + k) = M at *
  generalize hM1 : N + (q + 1) = M1 at *
  simp (disch := omega) only [rq, simprocAttr, QaH]
  refine Qa hC' ?_
  simp (disch := omega) only [rq, simprocAttr, e1, e2, e3, e4]
  iterate 2 (refine Qa (by assumption) ?_; simp (disch := omega) only [rq, simprocAttr])
  refine Qa hP' ?_
  simp (disch := omega) only [rq, simprocAttr, Q1, ht, QL]
  simp [QO, Qx, frzL, Qy, frzL_T _ tl]
def Qnd (P : Prg) (f : Nat) : Prop := ∀ (N V v : Nat) (d : Dl), V < 2 ^ N → v < 4294967296 → okD d → N + 81 ≤ 330000 → VC P f [bA N V, dlA d, .int .u32 v] (.tup [bA (N + Qce d v) (V + 2 ^ N * Qkn d v), dlA (Xm d v), .int .i64 0])
theorem QuR {P : Prg} {f fC fD fV fP fR fL fl1 fll t0 t1 : Nat} (bd : Body P f 69 [.cell 6 t0, .cell 7 t1, .tmp 8] (QaK fC fD fV fP fR fL t0 t1)) (hC : JF P fC) (hD : Qib P fD) (hLv : QgR P fV) (hP : QpL P fP) (hR : Qnb P fR)
  (bL : Body P fL 36 [] (XM fl1 fll)) (b1 : Body P fl1 58 [] Qu) (hL : QgR P fll) (ht0 : Zu P t0 = some (some 2)) (ht : Zu P t1 = some (some 4)) : Qnd P f := by
 intro N V v d hV hv hd hN
 refine Qk 1 (by simp [isDL, JO, QqW, isD]) (by simp [isD, isDL, JO, QqW]) (ACall.of_cut 7 bd (by simp) ?_)
 have hd' := hd
 have hC' := hC N V hV (by omega)
 have hD' := hD d hd
 have hLv' := hLv d v hd hv
 have hL1 : ∀ {ob : List Ob} {p : Nat} {v : Nat} {K : AV → List Ob → Prop}, ob[p]? = some ⟨t1, 4, 1, dlC d, 0⟩ → v < 4294967296 → K (.tup []) (ob.set p ⟨t1, 4, 1, dlC (Xm d v), 0⟩) → ACall P fL [.ref p 1 0, .int .u32 v] ob K :=
  fun hp hv hK => Qlb bL b1 hL hp hd hv hK
 obtain ⟨k0, k1, s0, s1⟩ := d
 obtain ⟨h1, h2, h3, h4⟩ := hd'
 simp only at h1 h2 h3 h4
 obtain ⟨pk, _⟩ := p24 h1
 simp only [bA] at hC'
 simp only [dlA, dlC] at hD' hLv'
 unfold Qce Qkn
 by_cases c : v < 2 ^ k0
 ·simp only [c, qO] at hLv' ⊢
  have hP1 := hP N V 0 1 hV (by decide) (by omega) (by omega)
  rw [Yo, yi] at hP1
  have hV1 : V < 2 ^ (N + 1) := yF hV (qr (by omega) (by omega))
  have hP2 := hP (N + 1) V v k0 hV1 c (by omega) (by omega)
  have hW : V + 2 ^ (N + 1) * v = V + 2 ^ N * (2 * v) := by rw [yx, yK]
  rw [hW, yy] at hP2
  generalize V + 2 ^ N * (2 * v) = W at *
  have tl : isTL (u8 (leB W (nB (N + (1 + k0))))) = true := QF _
  simp only [bA] at hP1 hP2 ⊢
  have hP1' : VC P fP [.agg [.list (nB N) (u8 (leB V (nB N))), .int .i64 N], .int .u64 0, .int .i64 1] (.tup [.agg [.list (nB (N + 1)) (u8 (leB V (nB (N + 1)))), .int .i64 ((N + 1 : Nat) : Int)], .int .i64 0]) := hP1
  simp (disch := omega) only [rq, simprocAttr, QeR, QaK, dlA, dlC]
  refine Qa hC' ?_
  simp (disch := omega) only [rq, simprocAttr, QeR]
  refine Qa hD' ?_
  simp (disch := omega) only [rq, simprocAttr, QeR]
  refine Qa hLv' ?_
  simp (disch := omega) only [rq, simprocAttr, QeR]
  refine Qa hP1' ?_
  simp (disch := omega) only [rq, simprocAttr, QeR]
  refine Qa hP2 ?_
  simp (disch := omega) only [rq, simprocAttr, QeR]
  refine hL1 (v := v) rfl hv ?_
  generalize Xm ⟨k0, k1, s0, s1⟩ v = d'
  obtain ⟨l0, l1, l2, l3⟩ := d'
  simp (disch := omega) only [rq, simprocAttr, QeR]
  refine ⟨⟨[(8, .int .i64 0), (7, .ref 3 1 0), (6, .ref 2 1 0), (4, .cell [.int .i64 l0, .int .i64 l1, .int .u64 l2, .int .u64 l3]), (3, .ref 0 1 0)], _⟩, Le.still [1] 1 (by simp [Am.look, Qx, frzL, Qy, dlC, isDL, isD]), ?_⟩
  simp (disch := omega) only [rq, simprocAttr, Q1, ht, ht0, QL, dlC, QA]
  simp [QO, Qx, frzL, Qy, frzL_T _ tl]
 ·simp only [c, qI] at hLv' ⊢
  have hP1 := hP N V 1 1 hV (by decide) (by omega) (by omega)
  rw [jp] at hP1
  have hV1 : V + 2 ^ N < 2 ^ (N + 1) := by rw [yx]; omega
  have hl : v - 2 ^ k0 < 4294967296 := jI (Yy _ _) hv
  have hR2 := hR (N + 1) (V + 2 ^ N) (v - 2 ^ k0) k1 hV1 hl h2 (by omega)
  have hW : V + 2 ^ N + 2 ^ (N + 1) * Qj1 (v - 2 ^ k0) k1 = V + 2 ^ N * (1 + 2 * Qj1 (v - 2 ^ k0) k1) := by rw [yx, yK, y9, jp, yy]
  rw [hW, yy] at hR2
  generalize V + 2 ^ N * (1 + 2 * Qj1 (v - 2 ^ k0) k1) = W at *
  generalize Qgr (v - 2 ^ k0) k1 = rn at *
  generalize v - 2 ^ k0 = lf at *
  generalize V + 2 ^ N = W1 at *
  have tl : isTL (u8 (leB W (nB (N + (1 + rn))))) = true := QF _
  simp only [bA] at hP1 hR2 ⊢
  have hP1' : VC P fP [.agg [.list (nB N) (u8 (leB V (nB N))), .int .i64 N], .int .u64 1, .int .i64 1] (.tup [.agg [.list (nB (N + 1)) (u8 (leB W1 (nB (N + 1)))), .int .i64 ((N + 1 : Nat) : Int)], .int .i64 0]) := hP1
  simp (disch := omega) only [rq, simprocAttr, QeR, QaK, dlA, dlC]
  refine Qa hC' ?_
  simp (disch := omega) only [rq, simprocAttr, QeR]
  refine Qa hD' ?_
  simp (disch := omega) only [rq, simprocAttr, QeR]
  refine Qa hLv' ?_
  simp (disch := omega) only [rq, simprocAttr, QeR]
  refine Qa hP1' ?_
  simp (disch := omega) only [rq, simprocAttr, QeR]
  refine Qa hR2 ?_
  simp (disch := omega) only [rq, simprocAttr, QeR]
  refine hL1 (v := v) rfl hv ?_
  generalize Xm ⟨k0, k1, s0, s1⟩ v = d'
  obtain ⟨l0, l1, l2, l3⟩ := d'
  simp (disch := omega) only [rq, simprocAttr, QeR]
  refine ⟨⟨[(8, .int .i64 0), (7, .ref 3 1 0), (6, .ref 2 1 0), (4, .cell [.int .i64 l0, .int .i64 l1, .int .u64 l2, .int .u64 l3]), (3, .ref 0 1 0)], _⟩, Le.still [1] 1 (by simp [Am.look, Qx, frzL, Qy, dlC, isDL, isD]), ?_⟩
  simp (disch := omega) only [rq, simprocAttr, Q1, ht, ht0, QL, dlC, QA]
  simp [QO, Qx, frzL, Qy, frzL_T _ tl]
theorem Low.putB {ob : List Ob} (h : Low ob.length ob) {t t0 t2 o p N V N' n C : Nat} (ho : o < ob.length) : Low (ob.length + 1) (Zn ob o p (bY t0 N V) (bO t o N') ++ [⟨t2, 2, 1, [.list (nB n) (u8 (leB C (nB n))), .int .i64 n], 0⟩]) :=
 ((h.put ho).mono (by omega)).append (Low.cons (by simp [lowL, JG, lowL_D _ (QaD _ _)]) Low.nil)
set_option maxHeartbeats 1000000 in
theorem Qrc {P : Prg} {f t0 t1 : Nat} (bd : Body P f 64 [] (J6 t0 t1)) {ob : List Ob} {t p o N V C n : Nat} (hp : ob[p]? = some (bO t o N)) (ho : ob[o]? = some (bY t1 N V)) (hpo : p ≠ o) (hV : V < 2 ^ N) (hC : C < 2 ^ n) (hn : n ≤ 1000) (hN : N + n ≤ 400000) (hfz : Low ob.length ob)
  {K : AV → List Ob → Prop} (hK : K (.tup []) (Zn ob o p (bY t1 (N + n) (V + 2 ^ N * C)) (bO t o (N + n)))) : ACall P f [.ref p 1 0, bA n C] ob K := by
 have hol : o < ob.length := (qa.1 ho).1
 have hpl : p < ob.length := (qa.1 hp).1
 refine ACall.low (Qb bd (by simp) ?_)
 have g0 : ∀ x y J, (Zn ob o p x y ++ J)[p]? = some y := fun x y J => by rw [qp (by rw [Zh]; exact hpl)]; exact QeY hpl
 have g1 : ∀ x y J, (Zn ob o p x y ++ J)[o]? = some x := fun x y J => by rw [qp (by rw [Zh]; exact hol)]; exact QeZ hol hpo
 have g2 : ∀ x y J y', (Zn ob o p x y ++ J).set p y' = Zn ob o p x y' ++ J := fun x y J y' => by rw [jk _ _ (by rw [Zh]; exact hpl), QeJ]
 have g3 : ∀ x y J x', (Zn ob o p x y ++ J).set o x' = Zn ob o p x' y ++ J := fun x y J x' => by rw [jk _ _ (by rw [Zh]; exact hol), Qiy hpo]
 have g4 : ∀ x y (J : List Ob), (Zn ob o p x y ++ J)[ob.length]? = J[0]? := fun x y J => by rw [qC (by rw [Zh]; exact qo _), Zh, Yr]
 have g5 : ∀ x y (J : List Ob), (Zn ob o p x y ++ J)[ob.length + 1]? = J[1]? := fun x y J => by rw [qC (by rw [Zh]; omega), Zh, yA]
 have ln : ∀ x y, (Zn ob o p x y).length = ob.length := fun x y => Zh
 have hs : ob = Zn ob o p (bY t1 N V) (bO t o N) := (Qdr ho hp hpo).symm
 simp (disch := omega) only [rq, simprocAttr, J6, bA, Qxw]
 refine Qg (ι := Nat) (fun j => ⟨[(8, .int .i64 j), (7, .int .i64 n), (3, .ref ob.length 1 0), (0, .ref p 1 0)], Zn ob o p (bY t1 (N + j) (V + 2 ^ N * (C % 2 ^ j))) (bO t o (N + j)) ++ [⟨t0, 2, 1, [.list (nB n) (u8 (leB C (nB n))), .int .i64 n], 0⟩]⟩) (fun j => j ≤ n) (fun j => n - j) 0 ?_ (by omega) ?_
 ·rw [yi, jZ, Nat.mod_one, Yo, yi, ← hs]
  exact Ql
 intro j hj
 by_cases hlt : j < n
 ·obtain ⟨M, hM⟩ : ∃ M, M = N + j := ⟨_, rfl⟩
  obtain ⟨i, hi⟩ : ∃ i, i = M / 8 := ⟨_, rfl⟩
  obtain ⟨a, ha⟩ : ∃ a, a = M % 8 := ⟨_, rfl⟩
  obtain ⟨q, hq⟩ : ∃ q, q = j / 8 := ⟨_, rfl⟩
  obtain ⟨r, hr⟩ : ∃ r, r = j % 8 := ⟨_, rfl⟩
  obtain ⟨b, hb0⟩ : ∃ b, b = C / 2 ^ j % 2 := ⟨_, rfl⟩
  have hM8 : M = 8 * i + a := by omega
  have hj8 : 8 * q + r = j := by omega
  have hb : b < 2 := by rw [hb0]; exact qM _ (by decide)
  have hW : V + 2 ^ N * (C % 2 ^ j) < 2 ^ M := by
   rw [hM]
   exact Qa3 hV (qM _ (qW (by omega)))
  have hstep := QEB (V := V) (N := N) (v := C) (j := j) (r := 1)
  rw [← hM, Nat.pow_one, ← hb0] at hstep
  have hat := Qxi (V := C) (k := nB n) (i := q) (by unfold nB; omega)
  have hbit := QDG C q r (by omega)
  rw [hj8, ← hb0] at hbit
  have hby : C / 256 ^ q % 256 < 256 := qM _ (by decide)
  have s1 : Qj false .u8 ((C / 256 ^ q % 256 : Nat) : Int) (r : Int) = some (.int .u8 ((C / 256 ^ q % 256 / 2 ^ r : Nat) : Int)) := Qny (K := .u8) (by show r ≤ 8; omega)
  have hle : C / 256 ^ q % 256 / 2 ^ r ≤ C / 256 ^ q % 256 := jO _ _
  have s2 : IntKind.u8.wrap (BitVec.ofInt IntKind.u8.bits ((C / 256 ^ q % 256 / 2 ^ r : Nat) : Int) &&& BitVec.ofInt IntKind.u8.bits ((1 : Nat) : Int)).toNat = ((b : Nat) : Int) := by
   rw [QD7 (K := .u8) rfl (by show _ < 256; omega) (by decide), Yg, hbit]
  have s2' : IntKind.u8.wrap (BitVec.ofInt IntKind.u8.bits ((C / 256 ^ q % 256 / 2 ^ r : Nat) : Int) &&& BitVec.ofInt IntKind.u8.bits 1).toNat = ((b : Nat) : Int) := s2
  generalize C / 256 ^ q % 256 / 2 ^ r = y1 at *
  generalize C / 256 ^ q % 256 = y0 at *
  rw [← hM]
  have hq1 : (j : Int) / 8 = (q : Int) := by omega
  have hr1 : (j : Int) % 8 = (r : Int) := by omega
  have hi1 : (M : Int) / 8 = (i : Int) := by omega
  have ha1 : (M : Int) % 8 = (a : Int) := by omega
  have hnq : q < nB n := by unfold nB; omega
  generalize V + 2 ^ N * (C % 2 ^ j) = W at *
  generalize hWW : V + 2 ^ N * (C % 2 ^ (j + 1)) = W' at *
  have h2a : 2 ^ a ≤ 2 ^ 7 := qr (by omega) (by omega)
  have hpos : 0 < 2 ^ a := qW (by omega)
  obtain ⟨l1, l2⟩ := QdL (V := W) (i := i) (at_ := a) (by rw [← hM8]; exact hW) (by omega)
  obtain ⟨b1, b2, _⟩ := QeS (V := W) (i := i) (at_ := a) (w := b) (r := 1) (by rw [← hM8]; exact hW) (by omega) (by omega)
  rw [← hM8, ← hstep] at b1
  have hyb : W / 256 ^ i < 256 := by omega
  have hyb2 : W / 256 ^ i + 2 ^ a * b < 256 := by
   have : 2 ^ (a + 1) ≤ 2 ^ 8 := qr (by omega) (by omega)
   omega
  have hca : b * 2 ^ a < 2 ^ 8 := by
   rcases (by omega : b = 0 ∨ b = 1) with rfl | rfl <;> omega
  have hu : ∀ y, y < 256 → u8 [UInt8.ofNat y] = [.int .u8 (y : Int)] := fun y hy => by simp [u8]; omega
  have e8 : IntKind.u8.wrap (BitVec.ofInt IntKind.u8.bits ((W / 256 ^ i : Nat) : Int) ||| BitVec.ofInt IntKind.u8.bits ((b * 2 ^ a : Nat) : Int)).toNat = ((W / 256 ^ i + 2 ^ a * b : Nat) : Int) := by
   rw [orK (K := .u8) rfl hyb hca, QkX l2, yd]
  have e7 : Qj true .u8 (b : Int) (a : Int) = some (.int .u8 ((b * 2 ^ a : Nat) : Int)) := Qvr rfl (by show a ≤ 8; omega) hca
  have hnB : nB (M + 1) = i + 1 := by unfold nB; omega
  have hcell : u8 (leB W' (i + 1)) = u8 (leB W i) ++ [.int .u8 ((W / 256 ^ i + 2 ^ a * b : Nat) : Int)] := by
   rw [b1, show u8 (leB W i ++ [UInt8.ofNat (W / 256 ^ i + 2 ^ a * b)]) = u8 (leB W i) ++ u8 [UInt8.ofNat (W / 256 ^ i + 2 ^ a * b)] by simp [u8]]
   rw [hu _ hyb2]
  have hlen : (u8 (leB W i)).length = i := by simp [u8, Qc]
  generalize W / 256 ^ i + 2 ^ a * b = y' at *
  generalize b * 2 ^ a = ca at *
  have d1 : ∀ z : AV, (u8 (leB W i) ++ [z]).drop i = [z] := fun z => by rw [yI hlen]
  have d2 : ∀ z : AV, (u8 (leB W i) ++ [z]).take i = u8 (leB W i) := fun z => by rw [qZ hlen]
  have d3 : ∀ z : AV, (u8 (leB W i) ++ [z]).drop (i + 1) = [] := fun z => yf (by simp [hlen])
  have el : (⟨t1, 1, i + 1, u8 (leB W i) ++ [.int .u8 (y' : Int)], 0⟩ : Ob) = bY t1 (M + 1) W' := by rw [bY, hnB, hcell]
  have er : (⟨t, 2, 1, [.own o (i + 1), .int .i64 ((M : Int) + 1)], 0⟩ : Ob) = bO t o (M + 1) := by rw [bO, hnB, yY]; rfl
  have hMr : N + (j + 1) = M + 1 := by omega
  have hcl : (u8 (leB C (nB n))).length = nB n := by simp [u8, Qc]
  by_cases h0 : a = 0
  ·subst h0
   have hnM : nB M = i := by unfold nB; omega
   have hW0 : W / 256 ^ i = 0 := by
    have := l2
    rw [jZ] at this
    exact Nat.lt_one_iff.1 this
   rw [hW0] at e8
   have e8' : IntKind.u8.wrap (BitVec.ofInt IntKind.u8.bits 0 ||| BitVec.ofInt IntKind.u8.bits (ca : Int)).toNat = (y' : Int) := e8
   have e7' : Qj true .u8 (b : Int) 0 = some (.int .u8 (ca : Int)) := e7
   have ha1' : (M : Int) % 8 = 0 := ha1
   simp (disch := omega) only [rq, simprocAttr, bO, bY, g0, g1, g2, g3, g4, g5, ln, hnM, hlen, hcl, hat, s1, s2', e7', e8', hq1, hr1, hi1, ha1', d1, d2, d3, qj, yc, qX]
   refine ⟨j + 1, by omega, by omega, ?_⟩
   show Le ob.length _ ⟨[(8, .int .i64 ((j + 1 : Nat) : Int)), (7, .int .i64 n), (3, .ref ob.length 1 0), (0, .ref p 1 0)], Zn ob o p (bY t1 (N + (j + 1)) (V + 2 ^ N * (C % 2 ^ (j + 1)))) (bO t o (N + (j + 1))) ++ [⟨t0, 2, 1, [.list (nB n) (u8 (leB C (nB n))), .int .i64 n], 0⟩]⟩
   rw [hWW, hMr, el, er, List.append_cons]
   have hl : (Zn ob o p (bY t1 (M + 1) W') (bO t o (M + 1)) ++ [⟨t0, 2, 1, [.list (nB n) (u8 (leB C (nB n))), .int .i64 n], 0⟩] : List Ob).length = ob.length + 1 := by simp [ln]
   exact Le.low (by rw [hl]; omega) (by rw [hl]; exact hfz.putB hol) (by rw [hl]; simp [Am.look, JG, Nat.lt_succ_of_lt hpl])
  ·have hnM : nB M = i + 1 := by unfold nB; omega
   have l3 : u8 (leB W (i + 1)) = u8 (leB W i) ++ [.int .u8 ((W / 256 ^ i : Nat) : Int)] := by
    rw [l1, show u8 (leB W i ++ [UInt8.ofNat (W / 256 ^ i)]) = u8 (leB W i) ++ u8 [UInt8.ofNat (W / 256 ^ i)] by simp [u8], hu _ hyb]
   have ha0 : (a : Int) ≠ 0 := by omega
   generalize W / 256 ^ i = y at *
   simp (disch := omega) only [rq, simprocAttr, bO, bY, g0, g1, g2, g3, g4, g5, ln, hnM, hlen, hcl, l3, hat, s1, s2', e7, e8, hq1, hr1, hi1, ha1, d1, d2, d3, qj, yc, qX]
   refine ⟨j + 1, by omega, by omega, ?_⟩
   show Le ob.length _ ⟨[(8, .int .i64 ((j + 1 : Nat) : Int)), (7, .int .i64 n), (3, .ref ob.length 1 0), (0, .ref p 1 0)], Zn ob o p (bY t1 (N + (j + 1)) (V + 2 ^ N * (C % 2 ^ (j + 1)))) (bO t o (N + (j + 1))) ++ [⟨t0, 2, 1, [.list (nB n) (u8 (leB C (nB n))), .int .i64 n], 0⟩]⟩
   rw [hWW, hMr, el, er]
   exact Ql
 ·obtain rfl : j = n := by omega
  rw [qT hC]
  simp (disch := omega) only [rq, simprocAttr]
  exact ⟨Zn ob o p (bY t1 (N + j) (V + 2 ^ N * C)) (bO t o (N + j)), _, rfl, by rw [ln]; exact qo _, by rw [ln]; exact hfz.put hol, by rfl, hK⟩
theorem Qad {X m n A B : Nat} (hA : A < 2 ^ m) : X % 2 ^ (m + n) = A + 2 ^ m * B ↔ X % 2 ^ m = A ∧ X / 2 ^ m % 2 ^ n = B := by
 rw [q9, Nat.mod_mul]
 have h1 : X % 2 ^ m < 2 ^ m := qM _ (qW (by omega))
 constructor
 ·intro h
  have e1 : X % 2 ^ m = A := by
   have := congrArg (· % 2 ^ m) h
   simpa [Nat.add_mul_mod_self_left, qT h1, qT hA] using this
  rw [e1] at h
  have e2 : 2 ^ m * (X / 2 ^ m % 2 ^ n) = 2 ^ m * B := by omega
  exact ⟨e1, Nat.eq_of_mul_eq_mul_left (qW (by omega)) e2⟩
 ·rintro ⟨e1, e2⟩
  rw [e1, e2]
theorem QwZ : ∀ (q m X : Nat), q < m → X % 2 ^ (q + 1) = 2 ^ q - 1 → Qdy m X = q
 | 0, m + 1, X, _, h => by
  unfold Qdy
  have : X % 2 = 0 := by simpa using h
  simp [this]
 | q + 1, m + 1, X, hm, h => by
  rw [show q + 1 + 1 = 1 + (q + 1) by omega] at h
  have hp : 1 ≤ 2 ^ q := qW (by omega)
  have e : 2 ^ (q + 1) - 1 = 1 + 2 ^ 1 * (2 ^ q - 1) := by rw [yx]; omega
  rw [e] at h
  obtain ⟨h1, h2⟩ := (Qad (by decide)).1 h
  unfold Qdy
  rw [qh (by simpa using h1), QwZ q m (X / 2) (by omega) (by simpa using h2)]
theorem QsU : ∀ (m X : Nat), X % 2 ^ m = 2 ^ m - 1 → Qdy m X = m
 | 0, X, _ => rfl
 | m + 1, X, h => by
  rw [show m + 1 = 1 + m by omega] at h
  have hp : 1 ≤ 2 ^ m := qW (by omega)
  have e : 2 ^ (1 + m) - 1 = 1 + 2 ^ 1 * (2 ^ m - 1) := by rw [q9]; omega
  rw [e] at h
  obtain ⟨h1, h2⟩ := (Qad (by decide)).1 h
  unfold Qdy
  rw [qh (by simpa using h1), QsU m (X / 2) (by simpa using h2)]
theorem QwK {V N a q : Nat} (hq : q < 48) (hN : a + q + 1 ≤ N) (h : V / 2 ^ a % 2 ^ (q + 1) = 2 ^ q - 1) : Qdb V N a = .inr (q, a + q + 1) := by
 unfold Qdb
 rw [qf (by omega), QwZ q (min 48 (N - a)) _ (by omega) h, qh (by omega)]
theorem QwJ {V N a : Nat} (hN : a + 48 ≤ N) (h : V / 2 ^ a % 2 ^ 48 = 2 ^ 48 - 1) : Qdb V N a = .inr (48, a + 48) := by
 unfold Qdb
 rw [qf (by omega), show min 48 (N - a) = 48 by omega, QsU 48 _ h, qf (by omega), qh rfl]
theorem QcD (V a b : Nat) : V / 2 ^ (a + b) = V / 2 ^ a / 2 ^ b := by rw [q9, yT]
theorem Qzs {V N a k v : Nat} (hv : v < 4294967296) (hN : a + Qgr v k ≤ N) (h : V / 2 ^ a % 2 ^ Qgr v k = Qj1 v k) : Qgs V N a k = .inr (v, a + Qgr v k) := by
 unfold Qgr Qj1 at *
 unfold Qgs
 by_cases hq : 48 ≤ v / 2 ^ k
 ·simp only [hq, qO] at h hN ⊢
  obtain ⟨h1, h2⟩ := (Qad (m := 48) (n := 32) (by decide)).1 h
  rw [QwJ (by omega) h1]
  simp only [qO]
  rw [qf (by omega), qf (by omega), QcD, h2, qf (by omega)]
 ·simp only [hq, qI] at h hN ⊢
  have hp : 1 ≤ 2 ^ (v / 2 ^ k) := qW (by omega)
  obtain ⟨h1, h2⟩ := (Qad (m := v / 2 ^ k + 1) (n := k) (by rw [yx]; omega)).1 h
  rw [QwK (by omega) (by omega) h1]
  simp only
  rw [qf (show ¬ v / 2 ^ k = 48 by omega), qf (by omega), qh (by omega), yy a, QcD, h2, Nat.div_add_mod', yy a]
theorem QAc {V N a v : Nat} {d : Dl} (hv : v < 4294967296) (hN : a + Qce d v ≤ N) (h : V / 2 ^ a % 2 ^ Qce d v = Qkn d v) : QpR V N a d = .inr (v, a + Qce d v) := by
 have hc := Qo7 d v
 unfold QpR
 rw [qf (by omega)]
 unfold Qce Qkn at *
 by_cases hl : v < 2 ^ d.k0
 ·simp only [hl, qO] at h hN ⊢
  rw [show (2 : Nat) * v = 0 + 2 ^ 1 * v by omega] at h
  obtain ⟨h1, h2⟩ := (Qad (m := 1) (n := d.k0) (by decide)).1 h
  rw [qh (by simpa using h1), qf (by omega), QcD, h2, yy]
 ·simp only [hl, qI] at h hN ⊢
  obtain ⟨h1, h2⟩ := (Qad (m := 1) (n := Qgr (v - 2 ^ d.k0) d.k1) (by decide)).1 h
  rw [qf (by have : V / 2 ^ a % 2 = 1 := (by simpa using h1); omega)]
  rw [← QcD] at h2
  rw [Qzs (jI (Yy _ _) hv) (by omega) h2]
  simp only
  have hle : 2 ^ d.k0 ≤ v := by omega
  rw [Nat.sub_add_cancel hle, qf (by omega), yy]
theorem QzD {V N a v : Nat} {d : Dl} (hd : okD d) (hv : v < 4294967296) (hN : a + Qce d v ≤ N) (h : V / 2 ^ a % 2 ^ Qce d v = Qkn d v) : QpR (QwR V N a) (QkS N a) 0 d = .inr (v, Qce d v) := by
 have hl := Qmw (v := v) hd
 have hle : Qce d v ≤ QkS N a := by unfold QkS; omega
 have := QAc (V := QwR V N a) (N := QkS N a) (a := 0) (d := d) hv (by omega) (by
  rw [jZ, Nat.div_one, QwR, Nat.mod_mod_of_dvd _ (Nat.pow_dvd_pow 2 hle)]; exact h)
 rw [yB] at this
 exact this
theorem Qsu {V N c : Nat} {v : List Nat} (hv : N32 v) : ∀ (k i : Nat), i + k ≤ v.length → Qfr c v (i + k) ≤ N → V % 2 ^ Qfr c v (i + k) = Qtd c v (i + k) → QbI V N c k (v.take i) (Qfr c v i) = .inr (v.take (i + k), Qfr c v (i + k))
 | 0, i, _, _, _ => rfl
 | k + 1, i, hi, hN, hV => by
  have hmono : ∀ j i, Qfr c v i ≤ Qfr c v (i + j) := by
   intro j
   induction j with
   | zero => intro i; exact qo _
   | succ j ih => intro i; have := ih i; rw [← yy, Qa6]; omega
  have hlow : ∀ j i, V % 2 ^ Qfr c v (i + j) = Qtd c v (i + j) → V % 2 ^ Qfr c v i = Qtd c v i := by
   intro j
   induction j with
   | zero => intro i h; exact h
   | succ j ih =>
    intro i h
    refine ih i ?_
    rw [← yy, Qa6, QfU] at h
    exact ((Qad (XF hv (i + j)).1).1 h).1
  have e1 : i + (k + 1) = i + 1 + k := by omega
  rw [e1] at hN hV hi ⊢
  have hN1 := hmono k (i + 1)
  have hV1 := hlow k (i + 1) hV
  rw [Qa6, QfU] at hV1
  rw [Qa6] at hN1
  obtain ⟨_, h2⟩ := (Qad (XF hv i).1).1 hV1
  have hd := Qjc (c := c) (r := i % c) (hv.take i)
  have hl : (v.take i).length = i := by simp; omega
  rw [QbI, hl, QzD hd (hv.getD i) (by omega) h2]
  simp only
  have ht : v.take i ++ [v.getD i 0] = v.take (i + 1) := by
   rw [qq (by omega : i < v.length)]
   simp [qd, qc (by omega : i < v.length)]
  rw [ht, ← Qa6]
  exact Qsu hv k (i + 1) hi hN hV
theorem QiG {c q r : Nat} (h : r < c) : (c * q + r) / c = q ∧ (c * q + r) % c = r := by
 refine ⟨?_, by rw [Yz, qT h]⟩
 rw [Nat.mul_add_div (by omega), y7 h, yi]
theorem QC6 {c n q r : Nat} (hn : n % c = 0) (hr : r < c) (h : c * q + r < n) : c * q + c ≤ n := by
 have h1 := ji n c
 rw [hn, yi] at h1
 have h2 : q < n / c := Nat.lt_of_not_le fun hle => by
  have := yt c hle
  omega
 have := yt c (show q + 1 ≤ n / c from h2)
 rw [y9] at this
 omega
theorem Qcw {c : Nat} {l : List Int} {j : Nat} (h : j < l.length) : (Z3 c l).getD j 0 = Qut c l j := by rw [Z3, QS h]
theorem QvE {l : List Int} (h : I32 l) (j : Nat) : w32 (l.getD j 0) = l.getD j 0 := QnI (ZG h j).1 (ZG h j).2
theorem QAL {c q : Nat} {l : List Int} (hI : I32 l) (h : c * q + c ≤ l.length) : ∀ d, d < c → ud (Z3 c l) (c * q) c d = l.getD (c * q + (c - 1 - d)) 0
 | 0, hd => by
  unfold ud
  by_cases h1 : c = 1
  ·subst h1
   rw [qh rfl, Qcw (by omega), Qut, qh rfl]
   rfl
  ·rw [qf h1, Qcw (by omega), Qcw (by omega), Qut, Qut, qf h1, qf h1, (QiG (q := q) (show c - 1 < c by omega)).2, (QiG (q := q) (show c - 2 < c by omega)).2, qf (by omega), qh (by omega), show c * q + (c - 2) + 1 = c * q + (c - 1) by omega,
    show c * q + (c - 1) - 1 = c * q + (c - 2) by omega, Qlt, Int.sub_add_cancel, jm]
   exact QvE hI _
 | d + 1, hd => by
  unfold ud
  rw [QAL hI h d (by omega), Qcw (by omega), Qut, qf (by omega), (QiG (q := q) (show c - 2 - d < c by omega)).2, qh (by omega), show c * q + (c - 2 - d) + 1 = c * q + (c - 1 - d) by omega, Qy1,
   show l.getD (c * q + (c - 1 - d)) 0 - (l.getD (c * q + (c - 1 - d)) 0 - l.getD (c * q + (c - 2 - d)) 0) = l.getD (c * q + (c - 2 - d)) 0 by omega, QvE hI, show c - 1 - (d + 1) = c - 2 - d by omega]
theorem QBq {c : Nat} {l : List Int} (hc : 1 ≤ c) (hI : I32 l) (hm : l.length % c = 0) : QeK c (Z3 c l) = l := by
 apply X9 (by rw [Qd1, QaS])
 intro j hj
 rw [Qd1, QaS] at hj
 have hr := qM j (show 0 < c by omega)
 have hd := ji j c
 have hs := QC6 hm hr (by omega : c * (j / c) + j % c < l.length)
 rw [QeK, QDW, QS (by rw [QaS]; exact hj), QCN, QAL hI hs _ (by omega)]
 congr 1
 omega
theorem Qxx (c : XD) {x : Int} (h : -2147483648 ≤ x ∧ x ≤ 2147483647) : Qmz c (Qf0 c x) = x ∧ Qcg c (Qf0 c x) = Qcf c x := by
 have e1 : Qu9 c.fl (Qf0 c x) = Qyb c x := by
  unfold Qu9 Qf0 Qvt
  rw [Qlt, Int.sub_add_cancel, Qyb, QBn]
 have e2 : Qmz c (Qf0 c x) = x := by
  unfold Qmz
  rw [e1, Qyb, Qlt, Int.sub_add_cancel, QnI h.1 h.2]
 refine ⟨e2, ?_⟩
 unfold Qcg Qcf
 rw [e2, QDH, e1, QDn]
 rfl
theorem Qyo {x : Int} : XZ (Qj9 x) = x := by unfold XZ Qj9; split <;> split <;> omega
theorem Qyc (c : XD) (x : Int) : -2147483648 ≤ Qf0 c x ∧ Qf0 c x ≤ 2147483647 := JP _
theorem QDA {k c n : Nat} (hk : k < c) : (k + n * c) % c = k ∧ (k + n * c) / c = n := by
 rw [Ya, yd]
 exact ⟨(QiG hk).2, (QiG hk).1⟩
theorem QAN {c : Nat} {L L2 : List Int} {z : XD} {m k : Nat} (hL : I32 L) (h : ∀ j, j < m → L2.getD j 0 = Qf0 (stC c L z (j % c) (j / c)) (L.getD j 0)) (hk : k < c) : ∀ n, (∀ i, i < n → k + i * c < m) → stB c L2 z k n = stC c L z k n
 | 0, _ => rfl
 | n + 1, hn => by
  obtain ⟨e1, e2⟩ := QDA (n := n) hk
  rw [stB, stC, QAN hL h hk n fun i hi => hn i (by omega), h _ (hn n (by omega)), e1, e2]
  exact (Qxx _ (ZG hL _)).2
theorem QDz {c j m : Nat} (hj : j < m) : ∀ i, i < j / c → j % c + i * c < m := by
 intro i hi
 have h1 := ji j c
 have h2 := qA c (show i ≤ j / c by omega)
 rw [yd (j / c)] at h2
 omega
theorem QBr {c : Nat} {x : Int} {t l : List Int} (hc : 1 ≤ c) (hI : I32 l) (hm : l.length % c = 0) : unB c x t (QkU c (Z3 c l) (Qau x t) l.length) = l := by
 have hv := QhV c (Z3 c l) (Qau x t) l.length
 have hM : I32 (Z3 c l) := Qlp hI
 have hg : ∀ j, j < l.length → ((QkU c (Z3 c l) (Qau x t) l.length).map XZ).getD j 0 = Qf0 (stC c (Z3 c l) (Qau x t) (j % c) (j / c)) ((Z3 c l).getD j 0) := fun j hj => by
  rw [Qli (by rw [hv]; exact hj), QkU, QS hj, QEi, Qyo]
 unfold unB
 rw [hv]
 have : Qpk c ((QkU c (Z3 c l) (Qau x t) l.length).map XZ) (Qau x t) l.length = Z3 c l := by
  apply X9 (by rw [QcK, QaS])
  intro j hj
  rw [QcK] at hj
  rw [Qpk, QS hj, QEt, hg j hj, QAN hM hg (qM _ (by omega)) _ (QDz hj)]
  exact (Qxx _ (ZG hM _)).1
 rw [this, QBq hc hI hm]
def Qvp (c : Nat) (x : Int) (t l : List Int) : List Nat := (QkU c (Z3 c l) (Qau x t) l.length).map Int.toNat
def Qhd (c : Nat) (x : Int) (t l : List Int) : List UInt8 := Q9 (QgC c (Qvp c x t l))
theorem QsS (c : Nat) (L : List Int) (z : XD) (a : Nat) : U32 (QkU c L z a) := by
 intro y hy
 simp only [QkU, qU] at hy
 obtain ⟨j, _, rfl⟩ := hy
 exact QxD (Qyc _ _)
theorem Qz7 {v : List Int} (h : U32 v) : iL (v.map Int.toNat) = v := by
 unfold iL
 rw [Yb]
 conv => rhs; rw [← List.map_id v]
 apply yp
 intro y hy
 have := h y hy
 simp; omega
theorem QyL {v : List Int} (h : U32 v) : N32 (v.map Int.toNat) := by
 intro y hy
 simp only [qU] at hy
 obtain ⟨z, hz, rfl⟩ := hy
 have := h z hz
 omega
theorem QhM (c : Nat) (x : Int) (t l : List Int) : (Qvp c x t l).length = l.length := by simp [Qvp, QhV]
theorem Qlu (c : Nat) (x : Int) (t l : List Int) : N32 (Qvp c x t l) := QyL (QsS _ _ _ _)
theorem Qxs (c : Nat) (x : Int) (t l : List Int) : iL (Qvp c x t l) = QkU c (Z3 c l) (Qau x t) l.length := Qz7 (QsS _ _ _ _)
theorem QiH (p : List UInt8) : (Q9 p).take ((Q9 p).length - 4) = p := by rw [Qdx, Nat.add_sub_cancel, Q9, qZ rfl]
theorem Qwu (p : List UInt8) : (Q9 p).drop ((Q9 p).length - 4) = leB (Qbm p) 4 := by rw [Qdx, Nat.add_sub_cancel, Q9, yI rfl]
theorem QwY {p : List UInt8} (h : 1 ≤ p.length) (h2 : p.length ≤ 41250) : Qeq (Q9 p) = 0 := by
 unfold Qeq
 rw [QiH, Qwu, Qdx, qf (by omega), qf (by omega), QdE 4 _ (Qqi p), qh rfl]
theorem Qxg {c : Nat} {v : List Nat} (h : N32 v) : leN (QgC c v) = Qtd c v v.length := by
 unfold QgC
 refine QdE _ _ ?_
 rw [Qoo]
 exact yF (XF h v.length).1 (qr (by omega) (by unfold nB; omega))
theorem QiY {c : Nat} {v : List Nat} (h : N32 v) (h1 : 1 ≤ v.length) (h2 : v.length ≤ 4000) : 1 ≤ (QgC c v).length ∧ (QgC c v).length ≤ 40500 := by
 obtain ⟨_, q2, q3⟩ := XF (c := c) h v.length
 rw [QfV]
 unfold nB
 omega
theorem rest0 {V N a : Nat} (hV : V < 2 ^ a) (h : N - a ≤ 7) : QiN V N a = 0 := by
 unfold QiN
 rw [qf (by omega), qh (y7 hV)]
theorem QvF {c : Nat} {v : List Nat} (h : N32 v) : QbI (leN (QgC c v)) (8 * (QgC c v).length) c v.length [] 0 = .inr (v, Qfr c v v.length) := by
 rw [Qxg h, QfV]
 have hb := (XF (c := c) h v.length).1
 have := Qsu (V := Qtd c v v.length) (N := 8 * nB (Qfr c v v.length)) (c := c) h v.length 0 (by omega) (by rw [yB]; unfold nB; omega) (by rw [yB, qT hb])
 rw [yB, qD, yW, QiX] at this
 exact this
theorem QwE {c : Nat} {v : List Nat} (h : N32 v) : QiN (leN (QgC c v)) (8 * (QgC c v).length) (Qfr c v v.length) = 0 := by
 rw [Qxg h, QfV]
 exact rest0 (XF (c := c) h v.length).1 (by unfold nB; omega)
theorem Qm4 {c x : Int} {l : List Int} (hI : I32 l) (h : Qej c x l = 0) : ∃ k m : Nat, c = k ∧ okM k l ∧ Z5 x ≠ 0 ∧ Zz c x = 0 ∧ QE x l = 0 ∧ l.length = m * k ∧ 1 ≤ m ∧ (l.length : Int) / c = m ∧ X2 c x ((l.length : Int) / c) = 0 := by
 obtain ⟨k, rfl, hk, hx⟩ := QrV hI h
 have hk' := hk
 obtain ⟨h1, h2, h3, h4, h5, _⟩ := hk'
 have e1 : Zz k x = 0 := by
  rcases Zd k x with q | ⟨q, _⟩
  ·rw [Qm2 q] at h; omega
  ·exact q
 have e2 : QE x l = 0 := by
  rcases Int.decEq (QE x l) 0 with q | q
  ·rw [Qm3 e1 q] at h; exact absurd h q
  ·exact q
 have e3 : l.length = l.length / k * k := by have := ji l.length k; rw [yd] at this; omega
 have e4 : 1 ≤ l.length / k := by
  rcases yS (l.length / k) with q | q
  ·rw [q] at e3; omega
  ·exact q
 have e5 : (l.length : Int) / (k : Int) = ((l.length / k : Nat) : Int) := by rw [yC]
 refine ⟨k, l.length / k, rfl, hk, hx, e1, e2, e3, e4, e5, ?_⟩
 have e6 : l.length / k ≤ 4000 / k := Nat.div_le_div_right h4
 have e7 : (4000 : Int) / (k : Int) = ((4000 / k : Nat) : Int) := by rw [yC]; rfl
 unfold X2
 rw [qf (by omega), e5, e7, qf (by omega), qf (by omega)]
theorem QCn {c x : Int} {t l : List Int} (hI : I32 l) (h : Qej c x l = 0) : QA7 c x t ((l.length : Int) / c) (Qhd c.toNat x t l) = 0 ∧ QCp c x t ((l.length : Int) / c) (Qhd c.toNat x t l) = l := by
 obtain ⟨k, m, rfl, hk, hx, e1, e2, e3, e4, e5, e6⟩ := Qm4 hI h
 obtain ⟨h1, h2, h3, h4, h5, _⟩ := hk
 have hv := Qlu k x t l
 have hl := QhM k x t l
 obtain ⟨b1, b2⟩ := QiY (c := k) hv (by omega) (by omega)
 have hall : QDO (Qhd k x t l) k m = .inr (Qvp k x t l, Qfr k (Qvp k x t l) (Qvp k x t l).length) := by
  unfold QDO Qhd
  rw [QiH, ← e3, ← hl]
  exact QvF hv
 have hun : unB k x t (iL (Qvp k x t l)) = l := by rw [Qxs]; exact QBr h1 hI h5
 have he : QA7 k x t ((l.length : Int) / k) (Qhd k x t l) = 0 := by
  unfold QA7
  rw [qf (by omega), qf (by rw [Qhd, QwY b1 (by omega)]; simp), e5, qm, qm, hall]
  simp only [QD5]
  rw [Qhd, QiH, QwE hv, qf (by simp), hun, e2]
 simp only [qm] at he ⊢
 refine ⟨he, ?_⟩
 unfold QCp
 rw [qh he, e5, qm, qm, hall]
 exact hun
def Qf9 (P : Prg) (f : Nat) : Prop := VC P f [] (.agg (Qda fun _ => Qz))
theorem Qkb {P : Prg} {f fS t0 : Nat} (bd : Body P f 11 [.cell 0 t0] (JY fS t0)) (hS : QgQ P fS) (ht : Zu P t0 = some (some 24)) : Qf9 P f := by
 refine Qv rfl rfl bd ?_
 simp only [QgQ, Qz, dlA, dlC] at hS
 simp (disch := omega) only [rq, simprocAttr, JY]
 refine Qg (ι := Nat) (fun i => ⟨[(3, .int .i64 i), (1, .ref 1 1 0), (0, .ref 0 1 0)],
   [⟨t0, 24, 1, Qda (fun _ => ⟨0, 0, 0, 0⟩), 0⟩, ⟨t0, 24, 1, Qda (fun j => if j < i then Qz else ⟨0, 0, 0, 0⟩), 0⟩]⟩) (fun i => i ≤ 6) (fun i => 6 - i) 0 (Ql) (by omega) ?_
 intro i hi
 by_cases hlt : i < 6
 ·have e1 := QhR (fun j => if j < i then Qz else ⟨0, 0, 0, 0⟩) hlt Qz
  have e2 : Qy6 (fun j => if j < i then Qz else ⟨0, 0, 0, 0⟩) i Qz = fun j => if j < i + 1 then Qz else ⟨0, 0, 0, 0⟩ := by
   funext j
   unfold Qy6
   by_cases h1 : j = i
   ·subst h1; simp
   ·by_cases h2 : j < i
    ·simp [h1, h2, show j < i + 1 by omega]
    ·simp [h1, h2, show ¬ j < i + 1 by omega]
  rw [e2] at e1
  have e3 := Qcr (fun j => if j < i then Qz else ⟨0, 0, 0, 0⟩)
  simp (disch := omega) only [rq, simprocAttr]
  refine Qa hS ?_
  generalize hF : Qda (fun j => if j < i then Qz else ⟨0, 0, 0, 0⟩) = F at *
  have e1' : F.take (i * 4) ++ [.int .i64 10, .int .i64 10, .int .u64 16384, .int .u64 16384] ++ F.drop (i * 4 + 4) = Qda fun j => if j < i + 1 then Qz else ⟨0, 0, 0, 0⟩ := e1
  generalize Qda (fun _ => (⟨0, 0, 0, 0⟩ : Dl)) = Z
  simp (disch := omega) only [rq, simprocAttr, e3]
  refine ⟨i + 1, by omega, by omega, ?_⟩
  rw [e1']
  exact Ql
 obtain rfl : i = 6 := by omega
 have z1 : Qda (fun j => if j < 6 then Qz else ⟨0, 0, 0, 0⟩) = Qda (fun _ => Qz) := rfl
 have z2 := Qcr fun _ => Qz
 have z3 := Qcr fun _ => (⟨0, 0, 0, 0⟩ : Dl)
 rw [z1]
 have z4 : (Qda fun _ => Qz).all AV.one = true := rfl
 have z5 : (Qda fun _ => Qz).take 24 = Qda fun _ => Qz := rfl
 have z6 : (Qda fun _ => (⟨0, 0, 0, 0⟩ : Dl)).drop 24 = [] := rfl
 generalize (Qda fun _ => (⟨0, 0, 0, 0⟩ : Dl)) = Z at *
 generalize (Qda fun _ => Qz) = S at *
 simp (disch := omega) only [rq, simprocAttr, Q1, ht, QL, z2, z3, z4, z5, z6, yW, qX, q8]
def QsQ (L : List (List UInt8)) : AV := .list L.length (L.map bs)
def Qnq (P : Prg) (f : Nat) : Prop := ∀ L : List (List UInt8), L.length ≤ 1000000 → 0 < L.flatten.length → L.flatten.length ≤ 1000000 → VC P f [QsQ L] (bs L.flatten)
def QjH (t : Nat) (P : Prg) (f : Nat) : Prop := ∀ (ob : List Ob) (n : Nat) (z : Bool) (K : AV → List Ob → Prop), 0 < n → n ≤ 140737488355328 → K (.own ob.length 0) (ob ++ [⟨t, 1, 0, [], 0⟩]) → ACall P f [.emp z, .int .i64 n] ob K
theorem grow_nil {P : Prg} {f t : Nat} {ρ : Go.Shelf.Ren} (L : Go.Proofs.Lays8.n4 P.prog ρ) (hf : ρ.f 4 = f) (ht : ρ.t 25 = t) (h25 : (P.prog.info? t).map (fun i => (i.zero, i.size, i.bytes)) = some (some (.int .u8 0), 1, 1)) : QjH t P f := by
 intro ob n z K h1 h2 hK
 subst hf; subst ht
 exact ACall.grow_nil L h25 h1 h2 hK
theorem QoQ {L : List (List UInt8)} {k : Nat} (h : k < L.length) : (L.take (k + 1)).flatten = (L.take k).flatten ++ L.getD k [] := by
 rw [qq h, yj, qd, qc h]
 simp
theorem QxH (L : List (List UInt8)) (k : Nat) : (L.take k).flatten.length ≤ L.flatten.length := by
 conv => rhs; rw [← qN k L, yj, qe]
 omega
theorem QlW {P : Prg} {f fG t0 : Nat} (bd : Body P f 36 [.tmp 2] (ZA fG t0)) (hG : QjH t0 P fG) : Qnq P f := by
 intro L hL h0 h1
 refine Qk 1 (by simp [isDL, isD, QsQ, Qeb]) (QD _) (Qb bd (by simp) ?_)
 have hat : ∀ k, k < L.length → (L.map bs).drop k = bs (L.getD k []) :: (L.map bs).drop (k + 1) := fun k hk => by
  rw [qy (by simpa using hk)]
  simp [qd, qc hk]
 have hml : (L.map bs).length = L.length := by simp
 simp only [bs] at hat
 simp (disch := omega) only [rq, simprocAttr, ZA, QsQ]
 refine Qg (ι := Nat) (fun k => ⟨[(11, .int .i64 k), (10, .int .i64 L.length), (9, .list L.length (L.map bs)), (3, .int .i64 (L.take k).flatten.length), (0, .list L.length (L.map bs))], []⟩) (fun k => k ≤ L.length) (fun k => L.length - k) 0 (Ql) (by omega) ?_
 intro k hk
 by_cases hlt : k < L.length
 ·have ha := hat k hlt
  have hf := QoQ hlt
  have hle := QxH L (k + 1)
  rw [hf, qe] at hle
  have hl : ((L.take (k + 1)).flatten.length : Int) = (L.take k).flatten.length + (L.getD k []).length := by rw [hf]; simp
  generalize (L.take k).flatten.length = s at *
  generalize L.getD k [] = x at *
  simp (disch := omega) only [rq, simprocAttr, ha, hml]
  exact ⟨k + 1, by omega, by omega, by simp only [hl]; exact Ql⟩
 obtain rfl : k = L.length := by omega
 rw [qD]
 have hG' := fun K hK => hG [] L.flatten.length true K h0 (by omega) hK
 simp (disch := omega) only [rq, simprocAttr]
 refine hG' _ ?_
 simp (disch := omega) only [rq, simprocAttr]
 refine Qg (ι := Nat) (fun k => ⟨[(27, .int .i64 k), (26, .int .i64 L.length), (25, .list L.length (L.map bs)), (6, .own 0 (L.take k).flatten.length)], [⟨t0, 1, (L.take k).flatten.length, u8 (L.take k).flatten, 0⟩]⟩) (fun k => k ≤ L.length) (fun k => L.length - k) 0 (Ql) (by omega) ?_
 intro k hk
 by_cases hlt : k < L.length
 ·have ha := hat k hlt
  have hf := QoQ hlt
  have hle := QxH L (k + 1)
  rw [hf, qe] at hle
  have hl : (L.take (k + 1)).flatten.length = (L.take k).flatten.length + (L.getD k []).length := by rw [hf]; simp
  have hu : u8 (L.take (k + 1)).flatten = u8 (L.take k).flatten ++ u8 (L.getD k []) := by rw [hf, Zb]
  have hc : (u8 (L.take k).flatten).length = (L.take k).flatten.length := Qr _
  have hx : (u8 (L.getD k [])).length = (L.getD k []).length := Qr _
  generalize u8 (L.take k).flatten = cs at *
  generalize (L.take k).flatten.length = s at *
  generalize u8 (L.getD k []) = us at *
  generalize (L.getD k []).length = xl at *
  simp (disch := omega) only [rq, simprocAttr, ha, hml, hc, hx]
  exact ⟨k + 1, by omega, by omega, by rw [hl, hu]; exact Ql⟩
 obtain rfl : k = L.length := by omega
 rw [qD]
 simp (disch := omega) only [rq, simprocAttr]
 simp [QO, Qx, frzL, Qy, frzL_T _ (QF _), bs]
theorem QvR (c : Nat) (x : Int) (t l : List Int) : QkM (QkU c (Z3 c l) (Qau x t) l.length) = .list l.length (ks .u32 ((Qvp c x t l).map fun n : Nat => (n : Int))) := by
 have := Qxs c x t l
 unfold iL at this
 rw [this, QkM, QhV]
theorem Qy4 {c i : Nat} {v : List Nat} (hc : 1 ≤ c) (hi : i < v.length) : Qy6 (fun j => if j < c then Zf c j (v.take i) else Qz) (i % c) (Xm (Zf c (i % c) (v.take i)) (v.getD i 0)) = fun j => if j < c then Zf c j (v.take (i + 1)) else Qz := by
 have ht : v.take (i + 1) = v.take i ++ [v.getD i 0] := by
  rw [qq hi]
  simp [qd, qc hi]
 have hl : (v.take i).length = i := by simp; omega
 have hr : i % c < c := qM _ (by omega)
 funext j
 unfold Qy6
 rw [ht]
 by_cases hj : j = i % c
 ·subst hj
  rw [qh rfl, qh hr, QfZ, qh (by rw [hl])]
 ·rw [qf hj]
  by_cases hjc : j < c
  ·simp only [hjc, qO]
   rw [QfZ, qf (by rw [hl]; exact fun e => hj e.symm)]
  ·simp only [hjc, qI]
def QDt (c x : Int) (t l : List Int) : AV := if Qej c x l ≠ 0 then .tup [.list 0 [], .int .i64 (Qej c x l)] else .tup [bs (Qhd c.toNat x t l), .int .i64 0]
theorem Qz2 (c x : Int) (t l : List Int) : isD (QDt c x t l) = true := by unfold QDt; split <;> simp [isD, isDL, QD]
def QCK (P : Prg) (f : Nat) : Prop := ∀ (c x : Int) (t l : List Int), t.length = 16 → I32 t → I32 l → VC P f [shA c x, .agg (ks .i32 t), il l] (QDt c x t l)
set_option maxHeartbeats 2000000 in
set_option maxRecDepth 20000 in
theorem Qkd {P : Prg} {f fV fS fW fP fC fB fK t0 t1 t2 t3 t4 t5 tp tb : Nat} (bd : Body P f 85 [.tmp 6, .tmp 7] (XL fV fS fW fP fC fB fK t0 t1 t2 t3 t4 t5)) (hV : Qsf P fV) (hS : Qf9 P fS) (hW : Qnd P fW) (bP : Body P fP 64 [] (J6 tp tb)) (hC : Qhj P fC) (hB : X7 P fB) (hK : Qnq P fK) : QCK P f := by
 intro c x t l ht hI hL
 refine Qk 1 (by simp [isDL, isD, Zc, Zi, shA]) (Qz2 _ _ _ _) (Qb bd (by simp) ?_)
 have hk : (ks .i32 t).length = 16 := by simp [Qh, ht]
 have tt : (ks .i32 t).take 16 = ks .i32 t := QG (by omega)
 have ot := Jt .i32 t
 have hV' := hV c x t l ht hI hL
 unfold QDt
 by_cases h0 : Qej c x l = 0
 case neg =>
  rw [Qy3, qh h0] at hV'
  rw [qh h0]
  rw [shA] at hV' ⊢
  simp (disch := omega) only [rq, simprocAttr, XL, hk, ot, tt]
  refine Qa hV' ?_
  simp (disch := omega) only [rq, simprocAttr, h0]
  simp [QO, Qx, frzL, Qy]
 obtain ⟨k, m, rfl, hkM, hx, e1, e2, e3, e4, e5, e6⟩ := Qm4 hL h0
 obtain ⟨c1, c6, l0, l4, lm, _⟩ := hkM
 rw [Qy3, qf (by omega), qm, QvR] at hV'
 rw [qf (by omega), qm, Qhd, Q9]
 have hv := Qlu k x t l
 have hvl := QhM k x t l
 rw [← hvl] at hV' l0 l4
 generalize Qvp k x t l = v at *
 rw [shA] at hV' ⊢
 have hfb := XF (c := k) hv
 have hkv : (ks .u32 (v.map fun n : Nat => (n : Int))).length = v.length := by simp [ks]
 have s24 := Qcr fun _ => Qz
 have sone : (Qda fun _ => Qz).all AV.one = true := rfl
 have stk : (Qda fun _ => Qz).take 24 = Qda fun _ => Qz := rfl
 have z2 : (fun j => if j < k then Zf k j (v.take 0) else Qz) = fun _ => Qz := by
  funext j
  rw [yW]
  split <;> rfl
 simp only [Qf9] at hS
 simp (disch := omega) only [rq, simprocAttr, XL, hk, ot, tt]
 refine Qa hV' ?_
 simp (disch := omega) only [rq, simprocAttr, hkv]
 refine Qa hS ?_
 generalize hS0 : (Qda fun _ => Qz) = S0 at *
 simp (disch := omega) only [rq, simprocAttr, hkv, s24, sone, stk, q8, yW, qX]
 refine Qg (ι := Nat) (fun i => ⟨[(32, .int .i64 i), (31, .int .i64 v.length), (30, .list v.length (ks .u32 (v.map fun n : Nat => (n : Int)))), (11, .ref 3 1 0), (10, .ref 2 1 0), (7, .int .i64 0), (6, .emp true), (3, .ref 0 1 0)],
   [⟨t0, 2, 1, [.int .i64 k, .int .i64 x], 0⟩, ⟨t1, 16, 1, ks .i32 t, 0⟩, ⟨t2, 24, 1, Qda (fun j => if j < k then Zf k j (v.take i) else Qz), 0⟩, bO t3 4 (Qfr k v i), bY tb (Qfr k v i) (Qtd k v i)]⟩)
  (fun i => i ≤ v.length) (fun i => v.length - i) 0 ?_ (by omega) ?_
 ·simp only [z2, hS0]
  rw [QiX, QoL]
  refine Le.trans (Le.virtF 3 tb 1 (by decide) rfl rfl) ?_
  exact Ql
 intro i hi
 by_cases hlt : i < v.length
 ·obtain ⟨r, hr⟩ : ∃ r, r = i % k := ⟨_, rfl⟩
  have hrc : r < k := by rw [hr]; exact qM _ (by omega)
  have q1 : (i : Int) % k = (r : Int) := by rw [hr]; simp [Yv]
  have q1' : ((i : Int)).tmod (k : Int) = (r : Int) := by rw [yO (by omega), q1]
  have hc0 : (k : Int) ≠ 0 := by omega
  obtain ⟨b1, b2, b3⟩ := hfb i
  obtain ⟨_, b5, _⟩ := hfb (i + 1)
  have hd := Qjc (c := k) (r := r) (hv.take i)
  have hvi := hv.getD i
  have hW' := hW 0 0 (v.getD i 0) (Zf k r (v.take i)) (by decide) hvi hd (by omega)
  rw [yB, jZ, yG, yB] at hW'
  have hcl := Qtl (d := Zf k r (v.take i)) hvi
  have hcn := Qmw (v := v.getD i 0) hd
  obtain ⟨rest, hg⟩ := QsH (fun j => if j < k then Zf k j (v.take i) else Qz) (j := r) (by omega)
  simp only [hrc, qO] at hg
  have hset := QhR (fun j => if j < k then Zf k j (v.take i) else Qz) (j := r) (by omega) (Xm (Zf k r (v.take i)) (v.getD i 0))
  have hup := Qy4 c1 hlt
  rw [← hr] at hup
  rw [hup] at hset
  have hln := Qcr (fun j => if j < k then Zf k j (v.take i) else Qz)
  have hkat := Qca (K := .u32) (l := v.map fun n : Nat => (n : Int)) (i := i) (by simpa using hlt)
  have hgd : (v.map fun n : Nat => (n : Int)).getD i 0 = ((v.getD i 0 : Nat) : Int) := by simp [qd, qc hlt]
  rw [hgd] at hkat
  have hsN := Qa6 k v i
  have hsV := QfU k v i
  rw [← hr] at hsN hsV
  have hb6 : Qfr k v i + Qce (Zf k r (v.take i)) (v.getD i 0) ≤ 400000 := by omega
  have hD6 : isDL (Qda (fun j => if j < k then Zf k j (v.take (i + 1)) else Qz)) = true := QoC (QoB _)
  generalize hF1 : Qda (fun j => if j < k then Zf k j (v.take (i + 1)) else Qz) = F' at *
  generalize Qda (fun j => if j < k then Zf k j (v.take i) else Qz) = F at *
  generalize hN0 : Qfr k v i = N at *
  generalize hV0 : Qtd k v i = V at *
  generalize hN1 : Qfr k v (i + 1) = N1 at *
  generalize hV1 : Qtd k v (i + 1) = V1 at *
  generalize hn0 : Qce (Zf k r (v.take i)) (v.getD i 0) = n at *
  generalize hC0 : Qkn (Zf k r (v.take i)) (v.getD i 0) = C at *
  generalize Xm (Zf k r (v.take i)) (v.getD i 0) = d' at *
  generalize Zf k r (v.take i) = d at *
  generalize v.getD i 0 = vi at *
  obtain ⟨d0, d1, d2, d3⟩ := d
  obtain ⟨m0, m1, m2, m3⟩ := d'
  simp only [dlA, dlC, bA] at hW'
  simp only at hg hset
  have hfr : QO (fun o => ([] : List Nat).contains o) [⟨t0, 2, 1, [.int .i64 k, .int .i64 x], 0⟩, ⟨t1, 16, 1, ks .i32 t, 0⟩, ⟨t2, 24, 1, F, 0⟩, ⟨t3, 2, 1, [.own 4 (nB N), .int .i64 N], 0⟩, bY tb N V] (0 + 1) [.agg [.emp true, .int .i64 0], .agg [.int .i64 d0, .int .i64 d1, .int .u64 d2, .int .u64 d3], .int .u32 vi] =
   some [.agg [.list (nB 0) (u8 (leB 0 (nB 0))), .int .i64 ((0 : Nat) : Int)], .agg [.int .i64 d0, .int .i64 d1, .int .u64 d2, .int .u64 d3], .int .u32 vi] := by
   simp [QO, Qx, frzL, Qy, nB, leB, u8]
  have pt : ∀ (Q : Exit → St → Prop) os fr dst, wpQ P os Q ⟨ZQ fr dst (.tup []), [⟨t0, 2, 1, [.int .i64 k, .int .i64 x], 0⟩, ⟨t1, 16, 1, ks .i32 t, 0⟩, ⟨t2, 24, 1, F', 0⟩, bO t3 4 N1, bY tb N1 V1, ⟨t3, 2, 1, [.list (nB n) (u8 (leB C (nB n))), .int .i64 n], 0⟩, ⟨t4, 4, 1, [.int .i64 m0, .int .i64 m1, .int .u64 m2, .int .u64 m3], 0⟩]⟩ →
    QcI P fP [.ref 3 1 0, .agg [.list (nB n) (u8 (leB C (nB n))), .int .i64 n]] [⟨t0, 2, 1, [.int .i64 k, .int .i64 x], 0⟩, ⟨t1, 16, 1, ks .i32 t, 0⟩, ⟨t2, 24, 1, F', 0⟩, ⟨t3, 2, 1, [.own 4 (nB N), .int .i64 N], 0⟩, bY tb N V, ⟨t3, 2, 1, [.list (nB n) (u8 (leB C (nB n))), .int .i64 n], 0⟩, ⟨t4, 4, 1, [.int .i64 m0, .int .i64 m1, .int .u64 m2, .int .u64 m3], 0⟩] os Q fr dst := fun Q os fr dst h =>
   Qrc bP (ob := [⟨t0, 2, 1, [.int .i64 k, .int .i64 x], 0⟩, ⟨t1, 16, 1, ks .i32 t, 0⟩, ⟨t2, 24, 1, F', 0⟩, ⟨t3, 2, 1, [.own 4 (nB N), .int .i64 N], 0⟩, bY tb N V, ⟨t3, 2, 1, [.list (nB n) (u8 (leB C (nB n))), .int .i64 n], 0⟩, ⟨t4, 4, 1, [.int .i64 m0, .int .i64 m1, .int .u64 m2, .int .u64 m3], 0⟩]) (t := t3) (p := 3) (o := 4) (N := N) (V := V) (C := C) (n := n) rfl rfl (by decide) b1 hcl (by omega) (by omega)
    (Low.cons (by simp [lowL, JG]) (Low.cons (lowL_D _ (Zc _ _)) (Low.cons (lowL_D _ hD6) (Low.cons (by simp [lowL, JG]) (Low.cons (lowL_D _ (QaD _ _)) (Low.cons (by simp [lowL, JG, lowL_D _ (QaD _ _)]) (Low.cons (by simp [lowL, JG]) Low.nil)))))))
    (by rw [hsN, hsV] at h; exact h)
  simp (disch := omega) only [rq, simprocAttr, bO, hkat, hkv, q1, q1', hc0, hg, hln]
  refine Q6 0 [] hW' hfr ?_
  simp (disch := omega) only [rq, simprocAttr, QA, hkat, hkv, q1, q1', hc0, hg, hln, hset]
  refine pt _ _ _ _ ?_
  simp (disch := omega) only [rq, simprocAttr]
  refine ⟨i + 1, by omega, by omega, ?_⟩
  simp only [hN1, hV1, hF1]
  refine Le.low (ob := [⟨t0, 2, 1, [.int .i64 k, .int .i64 x], 0⟩, ⟨t1, 16, 1, ks .i32 t, 0⟩, ⟨t2, 24, 1, F', 0⟩, bO t3 4 N1, bY tb N1 V1]) (J := [_, _]) (jt _) ?_ (by simp [Am.look, JG, lowL_D _ (Zc _ _)])
  exact Low.cons (by simp [lowL, JG]) (Low.cons (lowL_D _ (Zc _ _)) (Low.cons (lowL_D _ hD6) (Low.cons (by simp [bO, lowL, JG]) (Low.cons (lowL_D _ (QaD _ _)) Low.nil))))
 ·obtain rfl : i = v.length := by omega
  obtain ⟨_, b5, b6⟩ := hfb v.length
  have hfl := QfV k v
  have hle : nB (Qfr k v v.length) ≤ 40500 := by unfold nB; omega
  have hC' := hC (QgC k v)
  rw [qf (by omega), ← Qbm] at hC'
  have hsm := Qqi (QgC k v)
  have hB' := hB (Qbm (QgC k v)) 4 (by omega) (by omega) hsm
  have hK' := hK [QgC k v, leB (Qbm (QgC k v)) 4] (by simp) (by simp [Qc]) (by simp [Qc]; omega)
  have hfe : QgC k v = leB (Qtd k v v.length) (nB (Qfr k v v.length)) := rfl
  simp only [QsQ, bs, yq, Yp, qJ, yg, yN, Yt, q8, qe, hfl, Qc] at hC' hB' hK' ⊢
  have tfl : isTL (u8 (QgC k v)) = true := QF _
  have tfs : isTL (u8 (leB (Qbm (QgC k v)) 4)) = true := QF _
  have tfa : isTL (u8 (QgC k v ++ leB (Qbm (QgC k v)) 4)) = true := QF _
  have hul : (u8 (QgC k v)).length = nB (Qfr k v v.length) := by rw [Qr, hfl]
  generalize Qda (fun j => if j < k then Zf k j (v.take v.length) else Qz) = F at *
  simp only [bO, bY]
  rw [← hfe]
  generalize QgC k v ++ leB (Qbm (QgC k v)) 4 = R at *
  generalize leB (Qbm (QgC k v)) 4 = s4 at *
  generalize Qbm (QgC k v) = sm at *
  generalize QgC k v = fb at *
  generalize nB (Qfr k v v.length) = nn at *
  simp (disch := omega) only [rq, simprocAttr]
  refine Q6 1 [4] hC' (by simp [QO, Qx, frzL, Qy, frzL_T _ tfl]) ?_
  simp (disch := omega) only [rq, simprocAttr, QA]
  refine Qa hB' ?_
  simp (disch := omega) only [rq, simprocAttr]
  refine Q6 2 [5, 4] hK' (by simp [QO, Qx, frzL, Qy, frzL_T _ tfl, frzL_T _ tfs]) ?_
  simp (disch := omega) only [rq, simprocAttr, QA]
  simp [QO, Qx, frzL, Qy, frzL_T _ tfa]
theorem QxR {c x : Int} {t l : List Int} (hL : I32 l) (h : Qej c x l = 0) : (Qhd c.toNat x t l).length ≤ 40504 ∧ 5 ≤ (Qhd c.toNat x t l).length := by
 obtain ⟨k, m, rfl, hkM, hx, e1, e2, e3, e4, e5, e6⟩ := Qm4 hL h
 obtain ⟨c1, c6, l0, l4, lm, _⟩ := hkM
 have hvl := QhM k x t l
 have := QiY (c := k) (Qlu k x t l) (by omega) (by omega)
 rw [qm, Qhd, Qdx]
 omega
def emL : List AV → List AV
 | [] => []
 | .emp _ :: l => .list 0 [] :: emL l
 | a :: l => a :: emL l
theorem QtH {X : Cx} : ∀ (l : List AV) (vs : List Value), RepL X l vs → RepL X (emL l) vs
 | [], _, h => h
 | a :: l, vs, h => by
  simp only [RepL] at h
  obtain ⟨v, rest, e, g1, g2⟩ := h
  have h2 := QtH l rest g2
  cases a with
  | emp z =>
   simp only [emL, RepL]
   refine ⟨v, rest, e, ?_, h2⟩
   simp only [Rep] at g1 ⊢
   obtain ⟨a, e, _⟩ := g1
   exact ⟨a, 0, [], e, qo _, .inl rfl, by simp [RepL]⟩
  | _ => simp only [emL, RepL]; exact ⟨v, rest, e, g1, h2⟩
theorem VC.emp {P : Prg} {f : FuncId} (avs : List AV) {r : AV} (h : VC P f (emL avs) r) (hd : isDL avs = true) : VC P f avs r :=
 ⟨h.1, hd, h.2.2.1, fun w C vs hC hG hr => h.2.2.2 w C vs hC hG (QtH _ _ hr)⟩
def nl (l : List Int) : AV := .list l.length (ks .i64 l)
theorem Qxp (l : List Int) : isD (nl l) = true := by simp [nl, isD, Zc]
def nls (L : List (List Int)) : AV := .list L.length (L.map nl)
theorem Qtb : ∀ L : List (List Int), isDL (L.map nl) = true
 | [] => rfl
 | l :: L => by simp [isDL, Qxp, Qtb L]
def QjI (t : Nat) (P : Prg) (f : Nat) : Prop := ∀ L : List (List Int), L.length ≤ 1000000 → 0 < L.flatten.length → L.flatten.length ≤ 1000000 → VO P f [nls L] (.own 0 L.flatten.length) ⟨t, 1, L.flatten.length, ks .i64 L.flatten, 0⟩
theorem grow_nilI {P : Prg} {f t : Nat} {ρ : Go.Shelf.Ren} (L : Go.Proofs.Lays8.n4 P.prog ρ) (hf : ρ.f 4 = f) (ht : ρ.t 25 = t) (h25 : (P.prog.info? t).map (fun i => (i.zero, i.size, i.bytes)) = some (some (.int .i64 0), 1, 8)) : ∀ (ob : List Ob) (n : Nat) (z : Bool) (K : AV → List Ob → Prop), 0 < n → n ≤ 1000000 → K (.own ob.length 0) (ob ++ [⟨t, 1, 0, [], 0⟩]) → ACall P f [.emp z, .int .i64 n] ob K := by
 intro ob n z K h1 h2 hK
 subst hf; subst ht
 exact ACall.grow_nilI (by omega) L h25 h1 (by omega) hK
def Qlm (t : Nat) (P : Prg) (f : Nat) : Prop := ∀ (ob : List Ob) (n : Nat) (z : Bool) (K : AV → List Ob → Prop), 0 < n → n ≤ 1000000 → K (.own ob.length 0) (ob ++ [⟨t, 1, 0, [], 0⟩]) → ACall P f [.emp z, .int .i64 n] ob K
theorem Qk4 {L : List (List Int)} {k : Nat} (h : k < L.length) : (L.take (k + 1)).flatten = (L.take k).flatten ++ L.getD k [] := by
 rw [qq h, yj, qd, qc h]
 simp
theorem Qth (L : List (List Int)) (k : Nat) : (L.take k).flatten.length ≤ L.flatten.length := by
 conv => rhs; rw [← qN k L, yj, qe]
 omega
theorem Qj0 {P : Prg} {f fG t0 : Nat} (bd : Body P f 36 [.tmp 2] (ZN fG t0)) (hG : Qlm t0 P fG) : QjI t0 P f := by
 intro L hL h0 h1
 refine VO.of_walk (by simp [isDL, isD, nls, Qtb]) (Zc _ _) (by simp [okr]) (Qb bd (by simp) ?_)
 have hat : ∀ k, k < L.length → (L.map nl).drop k = nl (L.getD k []) :: (L.map nl).drop (k + 1) := fun k hk => by
  rw [qy (by simpa using hk)]
  simp [qd, qc hk]
 have hml : (L.map nl).length = L.length := by simp
 simp only [nl] at hat
 simp (disch := omega) only [rq, simprocAttr, ZN, nls]
 refine Qg (ι := Nat) (fun k => ⟨[(11, .int .i64 k), (10, .int .i64 L.length), (9, .list L.length (L.map nl)), (3, .int .i64 (L.take k).flatten.length), (0, .list L.length (L.map nl))], []⟩) (fun k => k ≤ L.length) (fun k => L.length - k) 0 (Ql) (by omega) ?_
 intro k hk
 by_cases hlt : k < L.length
 ·have ha := hat k hlt
  have hf := Qk4 hlt
  have hle := Qth L (k + 1)
  rw [hf, qe] at hle
  have hl : ((L.take (k + 1)).flatten.length : Int) = (L.take k).flatten.length + (L.getD k []).length := by rw [hf]; simp
  generalize (L.take k).flatten.length = s at *
  generalize L.getD k [] = x at *
  simp (disch := omega) only [rq, simprocAttr, ha, hml]
  exact ⟨k + 1, by omega, by omega, by simp only [hl]; exact Ql⟩
 obtain rfl : k = L.length := by omega
 rw [qD]
 have hG' := fun K hK => hG [] L.flatten.length true K h0 h1 hK
 simp (disch := omega) only [rq, simprocAttr]
 refine hG' _ ?_
 simp (disch := omega) only [rq, simprocAttr]
 refine Qg (ι := Nat) (fun k => ⟨[(27, .int .i64 k), (26, .int .i64 L.length), (25, .list L.length (L.map nl)), (6, .own 0 (L.take k).flatten.length)], [⟨t0, 1, (L.take k).flatten.length, ks .i64 (L.take k).flatten, 0⟩]⟩) (fun k => k ≤ L.length) (fun k => L.length - k) 0 (Qm (by simp [Am.look, ks])) (by omega) ?_
 intro k hk
 by_cases hlt : k < L.length
 ·have ha := hat k hlt
  have hf := Qk4 hlt
  have hle := Qth L (k + 1)
  rw [hf, qe] at hle
  have hl : (L.take (k + 1)).flatten.length = (L.take k).flatten.length + (L.getD k []).length := by rw [hf]; simp
  have hu : ks .i64 (L.take (k + 1)).flatten = ks .i64 (L.take k).flatten ++ ks .i64 (L.getD k []) := by rw [hf]; simp [ks]
  have hc : (ks .i64 (L.take k).flatten).length = (L.take k).flatten.length := Qh _ _
  have hx : (ks .i64 (L.getD k [])).length = (L.getD k []).length := Qh _ _
  generalize ks .i64 (L.take k).flatten = cs at *
  generalize (L.take k).flatten.length = s at *
  generalize ks .i64 (L.getD k []) = us at *
  generalize (L.getD k []).length = xl at *
  simp (disch := omega) only [rq, simprocAttr, ha, hml, hc, hx]
  exact ⟨k + 1, by omega, by omega, by rw [hl, hu]; exact Ql⟩
 obtain rfl : k = L.length := by omega
 rw [qD]
 simp (disch := omega) only [rq, simprocAttr]
 exact ⟨0, rfl, rfl⟩
def Qvn (P : Prg) (f : Nat) : Prop := ∀ x y : Nat, x ≤ 65535 → y ≤ 65535 → VC P f [.int .u64 x, .int .u64 y] (.tup [.int .u64 0, .int .u64 ((x * y : Nat) : Int)])
theorem Quu {P : Prg} {f : Nat} (bd : Body P f 51 [.tmp 4, .tmp 5] Jz) : Qvn P f := by
 intro x y hx hy
 refine Qv rfl rfl bd ?_
 have hxy : x * y ≤ 65535 * 65535 := yX hx hy
 have hm : (x : Int) * (y : Int) = ((x * y : Nat) : Int) := by simp
 have an : ∀ a : Nat, a ≤ 4294967295 → IntKind.u64.wrap (BitVec.ofInt IntKind.u64.bits (a : Int) &&& BitVec.ofInt IntKind.u64.bits 4294967295).toNat = (a : Int) := by
  intro a ha
  have := QrX a 4294967295 (by omega) (by decide)
  rw [show (4294967295 : Nat) = 2 ^ 32 - 1 from rfl, yR, qT (by omega)] at this
  exact this
 have sh : ∀ a : Nat, a ≤ 4294967295 → Qj false .u64 (a : Int) 32 = some (.int .u64 0) := by
  intro a ha
  have := Qny (K := .u64) (n := a) (k := 32) (by decide)
  rw [y7 (by omega)] at this
  exact this
 have a1 := an x (by omega)
 have a2 := an y (by omega)
 have a3 : IntKind.u64.wrap (BitVec.ofInt IntKind.u64.bits 0 &&& BitVec.ofInt IntKind.u64.bits 4294967295).toNat = 0 := by decide
 have s1 := sh x (by omega)
 have s2 := sh y (by omega)
 have s3 := sh (x * y) (by omega)
 have s4 : Qj false .u64 0 32 = some (.int .u64 0) := sh 0 (by omega)
 generalize x * y = z at *
 simp (disch := omega) only [rq, simprocAttr, Jz, a1, a2, a3, s1, s2, s3, s4, hm, Int.zero_mul, Int.mul_zero, Int.add_zero, Int.zero_add]
theorem QzJ {P : Prg} {f f32 f64 : Nat} (bd : Body P f 30 [.tmp 4, .tmp 5] (Qam f32 f64)) (h64 : Qvn P f64) : Qvn P f := by
 intro x y hx hy
 refine Qv rfl rfl bd ?_
 have h := h64 x y hx hy
 generalize x * y = z at *
 simp (disch := omega) only [rq, simprocAttr, Qam]
 refine Qa h ?_
 simp (disch := omega) only [rq, simprocAttr]
def rpL (v : Int) (m c : Nat) : List Int := List.replicate m v ++ List.replicate (c - m) 0
theorem QDb {v : Int} {m c : Nat} (h : m ≤ c) : (rpL v m c).length = c := by simp [rpL]; omega
def Qjy (t : Nat) (P : Prg) (f : Nat) : Prop := ∀ (v : Int) (c : Nat), c ≤ 1000 → VO P f [nl [v], .int .i64 c] (.own 0 c) ⟨t, 1, c, ks .i64 (List.replicate c v), 0⟩
theorem QjZ {P : Prg} {f fM t0 : Nat} (bd : Body P f 48 [.tmp 4] (ZM fM t0)) (hM : Qvn P fM) : Qjy t0 P f := by
 intro v c hc
 refine VO.of_walk (by simp [isDL, Qxp, isD]) (Zc _ _) (by simp [okr]) (Qb bd (by simp) ?_)
 have hM' := hM 1 c (by omega) (by omega)
 rw [yG] at hM'
 have hM2 : VC P fM [.int .u64 1, .int .u64 c] (.tup [.int .u64 0, .int .u64 c]) := hM'
 have e1 : nl [v] = .list 1 [.int .i64 v] := rfl
 have er : Qf [.int .i64 0] c = ks .i64 (List.replicate c 0) := QsL .i64 c
 have hl : (ks .i64 (List.replicate c 0)).length = c := by simp [Qh]
 rw [e1]
 simp (disch := omega) only [rq, simprocAttr, ZM]
 refine Qa hM2 ?_
 by_cases h0 : c = 0
 ·subst h0
  simp (disch := omega) only [rq, simprocAttr, er]
  refine Qg (ι := Nat) (fun _ => ⟨[(8, .int .i64 0), (7, .own 0 0)], [⟨t0, 1, 0, [], 0⟩]⟩) (fun _ => True) (fun _ => 0) 0 (Qm (by simp [Am.look, ks])) trivial ?_
  intro _ _
  simp (disch := omega) only [rq, simprocAttr]
  exact ⟨0, rfl, rfl⟩
 ·have hmn : Nat.min 1 c = 1 := qL (by omega)
  have hst : (1 : Int) < (c : Int) ∨ c = 1 := by omega
  simp (disch := omega) only [rq, simprocAttr, er, hl, hmn]
  refine Qg (ι := Nat) (fun m => ⟨[(8, .int .i64 m), (7, .own 0 c)], [⟨t0, 1, c, ks .i64 (rpL v m c), 0⟩]⟩) (fun m => 1 ≤ m ∧ m ≤ c) (fun m => c - m) 1 ?_ (by omega) ?_
  ·have : [AV.int .i64 v] ++ (ks .i64 (List.replicate c 0)).drop 1 = ks .i64 (rpL v 1 c) := by simp [rpL, ks]
   rw [← this]
   exact Ql
  intro m hm
  obtain ⟨hm1, hm2⟩ := hm
  have hkl : (ks .i64 (rpL v m c)).length = c := by rw [Qh, QDb hm2]
  by_cases hlt : m < c
  ·obtain ⟨q, hq⟩ : ∃ q, q = Nat.min m (c - m) := ⟨_, rfl⟩
   have hq1 : q ≤ m := by rw [hq]; exact YA _ _
   have hq2 : q ≤ c - m := by rw [hq]; exact Nat.min_le_right _ _
   have hq3 : 1 ≤ q := by rw [hq]; exact Nat.le_min.2 ⟨hm1, by omega⟩
   have hmc : min m c = m := qL hm2
   have hal : ((ks .i64 (rpL v m c)).take m).all AV.one = true := by
    rw [qR]
    intro x hx
    exact qR.1 (Jt .i64 (rpL v m c)) x (qP hx)
   have e1 : (rpL v m c).take m = List.replicate m v := by unfold rpL; rw [qZ (by simp)]
   have e2 : (rpL v m c).drop (m + q) = List.replicate (c - (m + q)) 0 := by
    unfold rpL
    rw [jA, yf (by simp), qX, List.drop_replicate, yn]
    congr 1
    omega
   have hcs : (ks .i64 (rpL v m c)).take m ++ (((ks .i64 (rpL v m c)).take m).take q ++ (ks .i64 (rpL v m c)).drop (m + q)) = ks .i64 (rpL v (m + q) c) := by
    have k1 : ∀ l n, (ks .i64 l).take n = ks .i64 (l.take n) := fun l n => by simp [ks, jx]
    have k2 : ∀ l n, (ks .i64 l).drop n = ks .i64 (l.drop n) := fun l n => by simp [ks, jC]
    have k3 : ∀ a b, ks .i64 a ++ ks .i64 b = ks .i64 (a ++ b) := fun a b => by simp [ks]
    rw [k1, e1, k1, k2, e2, List.take_replicate, qL hq1, k3, k3, ← qj, List.replicate_append_replicate]
    rfl
   have hcs2 : (ks .i64 (rpL v m c)).take m ++ ((ks .i64 (rpL v m c)).take m).take q ++ (ks .i64 (rpL v m c)).drop (m + q) = ks .i64 (rpL v (m + q) c) := by rw [qj]; exact hcs
   simp (disch := omega) only [rq, simprocAttr, hkl, h0, jm, hmc, hal, ← hq, jp, hcs2, hcs]
   refine ⟨m + q, ⟨by omega, by omega⟩, by omega, ?_⟩
   exact Ql
  ·obtain rfl : m = c := by omega
   have : rpL v m m = List.replicate m v := by simp [rpL]
   rw [this]
   simp (disch := omega) only [rq, simprocAttr]
   exact ⟨0, rfl, rfl⟩
def QyK (t : Nat) (P : Prg) (f : Nat) : Prop := ∀ a b : List Int, 0 < a.length + b.length → a.length + b.length ≤ 1000000 → VO P f [nl a, nl b] (.own 0 (a.length + b.length)) ⟨t, 1, a.length + b.length, ks .i64 (a ++ b), 0⟩
theorem Qj8 {P : Prg} {f fC t0 t1 : Nat} (bd : Body P f 9 [.tmp 4] (JX fC t1)) (hC : QjI t0 P fC) : QyK t0 P f := by
 intro a b h0 h1
 refine VO.of_walk (by simp [isDL, Qxp]) (Zc _ _) (by simp [okr]) (Qb bd (by simp) ?_)
 have hC' := hC [a, b] (by simp) (by simpa using h0) (by simpa using h1)
 have e1 : nls [a, b] = .list 2 [nl a, nl b] := rfl
 have e2 : [a, b].flatten = a ++ b := by simp
 rw [e1, e2, qe] at hC'
 have ta := Qq .i64 a
 have tb := Qq .i64 b
 simp only [nl] at hC' ⊢
 simp (disch := omega) only [rq, simprocAttr, JX]
 refine QcI.vo_still 1 [0] hC' (by simp [QO, Qx, frzL, Qy, frzL_T _ ta, frzL_T _ tb]) ?_
 simp (disch := omega) only [rq, simprocAttr, QA, shr]
 exact ⟨1, rfl, rfl⟩
def okA (r n : Int) : Prop := 1 ≤ r ∧ r ≤ 1048576 ∧ 1 ≤ n ∧ n ≤ 4000 ∧ (Q2 (QC r).toNat n.toNat).length ≤ 1000
def QpN (t : Nat) (P : Prg) (f : Nat) : Prop := ∀ r n : Int, okA r n → VO P f [.int .i64 r, .int .i64 n] (.tup [.own 0 (Q2 (QC r).toNat n.toNat).length, .int .i64 0]) ⟨t, 1, (Q2 (QC r).toNat n.toNat).length, ks .i64 (Q2 (QC r).toNat n.toNat), 0⟩
theorem QqR {P : Prg} {f fC fL fR fB t0 : Nat} (bd : Body P f 39 [.tmp 4, .tmp 5] (QbR fC fL fR fB t0)) (hC : Qah P fC) (hL : Qc6 P fL) (hR : Qjy t0 P fR) (hB : QyK t0 P fB) : QpN t0 P f := by
 intro r n ⟨a1, a2, a3, a4, a5⟩
 refine VO.of_walk rfl (Zc _ _) (by simp [okr, flat]) (Qb bd (by simp) ?_)
 have hlong : 1 ≤ QC r := by unfold QC; split <;> omega
 obtain ⟨L, hLe⟩ : ∃ L : Nat, QC r = L := ⟨(QC r).toNat, by omega⟩
 obtain ⟨m, rfl⟩ : ∃ m : Nat, n = m := ⟨n.toNat, by omega⟩
 rw [hLe, qm, qm] at a5 ⊢
 rw [ZL] at a5
 obtain ⟨q, hq⟩ : ∃ q, q = (m - 1) / L := ⟨_, rfl⟩
 have hql : (Q2 L m).length = q + 1 := by rw [ZL, hq]
 rw [← hq] at a5
 have hcd : ((m : Int) + (L : Int) - 1) / (L : Int) = ((q + 1 : Nat) : Int) := by
  have h1 : (m : Int) + (L : Int) - 1 = ((m - 1 + L : Nat) : Int) := by omega
  rw [h1, ← yC, jN _ (by omega), ← hq]
 have hk : Qi8 r m = .tup [.int .i64 ((q + 1 : Nat) : Int), .int .i64 0] := by
  rw [Qi8, qf (by omega), qf (by omega), hLe, hcd, qf (by omega)]
 have hC' := hC r m
 rw [hk] at hC'
 have hL' := hL r
 rw [Qdd, qf (by omega), hLe] at hL'
 have hR' := hR L q (by omega)
 have hB' := hB (List.replicate q (L : Int)) [(m : Int) - ((q * L : Nat) : Int)] (by simp) (by simp; omega)
 have e1 : List.replicate q (L : Int) ++ [(m : Int) - ((q * L : Nat) : Int)] = Q2 L m := by unfold Q2; rw [hq]
 rw [e1] at hB'
 have e2 : (List.replicate q (L : Int)).length + [(m : Int) - ((q * L : Nat) : Int)].length = q + 1 := by simp
 rw [e2] at hB'
 have e3 : nl [(L : Int)] = .list 1 [.int .i64 (L : Int)] := rfl
 have e4 : nl [(m : Int) - ((q * L : Nat) : Int)] = .list 1 [.int .i64 ((m : Int) - ((q * L : Nat) : Int))] := rfl
 rw [e3] at hR'
 rw [e4] at hB'
 have tr := Qq .i64 (List.replicate q (L : Int))
 have hqL : (q : Int) * (L : Int) = ((q * L : Nat) : Int) := by simp
 have hle : q * L ≤ m := by
  have := jS (m - 1) L
  rw [← hq] at this
  omega
 simp only [nl, yn] at hB'
 rw [hql]
 generalize ks .i64 (Q2 L m) = LL at *
 generalize ks .i64 (List.replicate q (L : Int)) = RR at *
 generalize q * L = w at *
 simp only [yY, Int.cast_ofNat_Int] at hC'
 have hq1 : (q : Int) + 1 - 1 = (q : Int) := by omega
 simp (disch := omega) only [rq, simprocAttr, QbR]
 refine Qa hC' ?_
 simp (disch := omega) only [rq, simprocAttr]
 refine Qa hL' ?_
 simp (disch := omega) only [rq, simprocAttr, hq1]
 refine QcI.vo_still 1 [0] hR' (by simp [QO, Qx, frzL, Qy]) ?_
 simp (disch := omega) only [rq, simprocAttr, QA, shr, hq1, hqL]
 refine QcI.vo_still 1 [1, 2] hB' (by simp [QO, Qx, frzL, Qy, frzL_T _ tr]) ?_
 simp (disch := omega) only [rq, simprocAttr, QA, shr]
 exact ⟨3, rfl, rfl⟩
def JI (Lc : Nat) (l : List Int) (j : Nat) : List Int := (l.drop (j * Lc)).take Lc
def QjB (t : Nat) (P : Prg) (f : Nat) : Prop := ∀ (k n : Nat) (x r : Int) (l : List Int), 1 ≤ k → k ≤ 1000 → l.length = n * k → okA r n →
 Qlo P f [.int .i64 k, .int .i64 x, .int .i64 r, il l] [t] (cnt := (Q2 (QC r).toNat n).length) (fun j => il (JI ((QC r).toNat * k) l j.1))
theorem Qd6 {X : Cx} {a : Act} : ∀ i, Rep X (look [] i) (a.tmps.getD i undef) := fun i => by simp only [look, Rep]
theorem Q5 {X : Cx} {a : Act} {fr : List (Nat × AV)} {j : Nat} {v : AV} (h : Rep X v (a.tmps.getD j undef)) (g : ∀ i, Rep X (look fr i) (a.tmps.getD i undef)) : ∀ i, Rep X (look ((j, v) :: fr) i) (a.tmps.getD i undef) := fun i => by
 simp only [look]
 split
 ·rename_i e; subst e; exact h
 ·exact g i
theorem QEd {N : Nat} {fr : List (Nat × AV)} {a : Act} {W : World} (hd : a.defers = []) (hz : a.tmps.size = N) (h : ∀ i, Rep ⟨W, [], [], fun _ _ => False⟩ (look fr i) (a.tmps.getD i undef)) : Sim ⟨W.heap.size, ⟨W, [], [], fun _ _ => False⟩, N, []⟩ ⟨fr, []⟩ a W :=
 ⟨hd, hz, Below.refl _ _, [], ⟨rfl, by simp, by simp, by simp, fun _ _ h => h.elim, qo _⟩, Moves.refl _, h⟩
theorem Qba {W W' : World} (h : Below W.heap.size W W') : W.grownBy W' none := ⟨h.os, h.tape, h.output, h.size, fun k hk _ => h.block k hk⟩
theorem Qgw {k n L j : Nat} {l : List Int} (hl : l.length = n * k) (hn : 1 ≤ n) (hL : 1 ≤ L) (hj : j < (Q2 L n).length) :
  ∃ m : Nat, (Q2 L n).getD j 0 = m ∧ m ≤ n ∧ min (j * (L * k)) (n * k) = j * (L * k) ∧ j * (L * k) ≤ n * k ∧ min ((j + 1) * (L * k)) (n * k) = j * (L * k) + m * k ∧ JI (L * k) l j = (l.drop (j * (L * k))).take (m * k) ∧ j * (L * k) + m * k ≤ n * k := by
 rw [ZL] at hj
 have g0 : (n - 1) / L * L ≤ n - 1 := jS _ _
 have g2 : n - 1 < (n - 1) / L * L + L := Nat.lt_div_mul_add (by omega)
 have g1 : j * L ≤ (n - 1) / L * L := qA _ (by omega)
 have e0 : j * (L * k) = j * L * k := by rw [yK]
 have e1 : (j + 1) * (L * k) = (j * L + L) * k := by rw [← yK, ym, yG]
 have h3 : j * L * k ≤ n * k := qA _ (by omega)
 by_cases hq : j < (n - 1) / L
 ·have g3 : (j + 1) * L ≤ (n - 1) / L * L := qA _ (by omega)
  rw [ym, yG] at g3
  have h7 : j * L + L ≤ n := yL g3 (yL g0 (Yy _ _))
  have h4 : (j * L + L) * k ≤ n * k := qA _ h7
  refine ⟨L, ?_, by omega, by rw [e0]; exact qL h3, by rw [e0]; exact h3, by rw [e1, e0, qL h4, ym], rfl, by rw [e0, ← ym]; exact h4⟩
  unfold Q2
  rw [qd, qp (by simpa using hq), List.getElem?_replicate, qh hq]
  rfl
 ·have hjq : j = (n - 1) / L := by omega
  have h7 : n ≤ j * L + L := by rw [hjq]; generalize (n - 1) / L * L = w at *; omega
  have h8 : n - j * L ≤ L := by omega
  have h4 : n * k ≤ (j * L + L) * k := qA _ h7
  have h5 : j * L * k + (n - j * L) * k = n * k := by rw [← ym]; congr 1; omega
  refine ⟨n - j * L, ?_, Yy _ _, by rw [e0]; exact qL h3, by rw [e0]; exact h3, by rw [e1, e0, j7 h4, h5], ?_, by rw [e0, h5]; exact qo _⟩
  ·unfold Q2
   rw [qd, qC (by simp; omega)]
   simp only [yn, ← hjq, Yr, Yi, y5]
   omega
  ·unfold JI
   have h6 : (l.drop (j * (L * k))).length = (n - j * L) * k := by rw [jl, hl, e0]; omega
   rw [qg (by rw [h6]; exact qA _ h8), qg (by rw [h6]; exact qo _)]
theorem QxN {m j : Nat} (h : j < m) : (List.finRange m).take (j + 1) = (List.finRange m).take j ++ [⟨j, h⟩] := by
 rw [qq (by simpa using h)]
 simp
theorem QzL (L n : Nat) : 1 ≤ (Q2 L n).length := by rw [ZL]; exact Nat.le_add_left 1 _
set_option maxHeartbeats 1000000 in
theorem Qrs {P : Prg} {f fA t0 : Nat} (bd : Body P f 43 [] (JD fA)) (hA : QpN t0 P fA) : QjB t0 P f := by
 intro k n x r l hk1 hk2 hl hok
 obtain ⟨L, hL⟩ : ∃ L, (QC r).toNat = L := ⟨_, rfl⟩
 have hL1 : 1 ≤ L := by have := Z4 r; omega
 obtain ⟨a1, a2, a3, a4, a5⟩ := hok
 have hn1 : 1 ≤ n := by omega
 have hn2 : n ≤ 4000 := by omega
 have hA' := hA r n ⟨a1, a2, a3, a4, a5⟩
 rw [hL, qm] at hA' a5
 rw [hL]
 refine ⟨fun j => Zi _, fun w C v1 hv1 hex hG => ?_⟩
 have hv1' := hv1
 simp only [Rep] at hv1
 obtain ⟨b, o, vs, hv1e, hat, hvs⟩ := hv1
 simp only [RepL] at hvs
 obtain ⟨u0, q0, rfl, hu0, u1, q1, rfl, hu1, u2, q2, rfl, hu2, u3, q3, rfl, hu3, rfl⟩ := hvs
 have hu0' := hu0
 have hu3' := hu3
 simp only [Rep] at hu0 hu1 hu2
 rw [il] at hu3
 simp only [Rep] at hu3
 obtain ⟨sa, cap, ws, e3, hcap, hws, hwr⟩ := hu3
 rw [hl] at hcap
 obtain ⟨atN, hatN⟩ : ∃ atN : Nat → Nat, ∀ j, atN j = min (j * (L * k)) (n * k) := ⟨_, fun _ => rfl⟩
 obtain ⟨cnt, hcnt⟩ : ∃ cnt, (Q2 L n).length = cnt := ⟨_, rfl⟩
 have hnk : n * k ≤ 4000000 := yX hn2 hk2
 rw [hcnt] at hA' a5 ⊢
 have hcnt1 : 1 ≤ cnt := by rw [← hcnt]; exact QzL _ _
 have pf : ∀ j, j < cnt → ∃ m : Nat, (Q2 L n).getD j 0 = m ∧ m ≤ n ∧ atN j = j * (L * k) ∧ atN (j + 1) = atN j + m * k ∧ JI (L * k) l j = (l.drop (atN j)).take (m * k) ∧ atN j + m * k ≤ n * k := fun j hj => by
  obtain ⟨m, h1, h2, h3, h4, h5, h6, h7⟩ := Qgw (j := j) hl hn1 hL1 (by rw [hcnt]; exact hj)
  refine ⟨m, h1, h2, by rw [hatN]; exact h3, by rw [hatN, hatN, h3]; exact h5, by rw [hatN, h3]; exact h6, by rw [hatN, h3]; exact h7⟩
 have hun : ∀ {W' : World}, (∀ (b k : Nat) (v : Value), ¬ C b k → w.cell? ⟨b, k, none⟩ = some v → W'.cell? ⟨b, k, none⟩ = some v) → ∀ (c : AV) (v : Value), isD c = true → Rep ⟨w, [], [], C⟩ c v → Rep ⟨W', [], [], fun _ _ => False⟩ c v := fun h c v hd hr =>
  Rep.data (X := ⟨w, [], [], C⟩) (Y := ⟨_, [], [], fun _ _ => False⟩) (fun b k v hc ha => ⟨h b k v (fun h => ha (.inl h)) hc, fun h => by
   rcases h with h | ⟨o, x, c, h1, _⟩
   ·exact h.elim
   ·simp at h1⟩) c v hd hr
 have hlit : ∀ {W' : World}, (∀ (b k : Nat) (v : Value), ¬ C b k → w.cell? ⟨b, k, none⟩ = some v → W'.cell? ⟨b, k, none⟩ = some v) → Rep ⟨W', [], [], fun _ _ => False⟩ (.cell [.int .i64 k, .int .i64 x, .int .i64 r, .lit u3]) v1 := fun {W'} h => by
  have h1 : Rep ⟨w, [], [], C⟩ (.cell [.int .i64 k, .int .i64 x, .int .i64 r, .lit u3]) v1 := by
   simp only [Rep]
   exact ⟨b, o, _, hv1e, hat, by simp only [RepL, Rep]; exact ⟨u0, _, rfl, hu0, u1, _, rfl, hu1, u2, _, rfl, hu2, u3, _, rfl, rfl, rfl⟩⟩
  exact hun h _ _ rfl h1
 refine ⟨fun j => .slice (if cap = atN j.1 then sa else sa.map (·.add (atN j.1 * 1))) (atN (j.1 + 1) - atN j.1) (cap - atN j.1), fun j => ?rep, ?seq⟩
 case rep =>
  obtain ⟨m, h1, h2, h3, h4, h5, h6⟩ := pf j.1 j.2
  have g : Held 0 ⟨w, [], [], fun _ _ => False⟩ := ⟨rfl, by simp, by simp, by simp, fun _ _ h => h.elim, jt _⟩
  have e4 : ((atN (j.1 + 1) : Nat) - (atN j.1 : Nat) : Int).toNat = m * k := by omega
  have e5 : (JI (L * k) l j.1).length = m * k := by rw [h5, qu, jl, hl]; omega
  have hs : Qhu [] 1 (il l) (atN j.1 : Nat) (atN (j.1 + 1) : Nat) = some (il (JI (L * k) l j.1)) := by
   simp only [Qhu, il]
   rw [qh (by omega), qh (by rw [hl]; simp [ks]; omega), e4, e5, h5]
   simp [ks, jx, jC]
  have hr := Qqy (X := ⟨w, [], [], fun b k => C b k ∧ b < w.heap.size⟩) (B := w.heap.size) ⟨rfl, by simp, by simp, by simp, fun _ _ h => h.2, qo _⟩ (η := fun _ => .any) (ρ := fun _ => undef) (fun _ => by simp only [Rep]) (sz := 1) (n := l.length) (cs := ks .i32 l) (a := sa) (cap := cap) (m := cap) (by
   rw [← e3]
   exact Rep.data (X := ⟨w, [], [], C⟩) (Y := ⟨w, [], [], fun b k => C b k ∧ b < w.heap.size⟩) (fun b k v hc ha => ⟨hc, fun h => ha (by
    rcases h with h | ⟨o, x, c, h1, _⟩
    ·exact .inl h.1
    ·simp at h1)⟩) _ _ (Zi l) hu3') rfl hs (by omega) (.inl (qo _))
  have hr2 := hr.2.2.2
  simp only [qm] at hr2
  exact Rep.data (X := ⟨w, [], [], fun b k => C b k ∧ b < w.heap.size⟩) (Y := ⟨w, [], [], C⟩) (fun b k v hc ha => ⟨hc, fun h => ha (by
   rcases h with h | ⟨o, x, c, h1, _⟩
   ·exact .inl ⟨h, World.block_lt_of_cell? w _ hc⟩
   ·simp at h1)⟩) _ _ (Zi _) hr2
 case seq =>
  intro ll J Jx W hW hJ hJx hY hJ0
  have hkw : ∀ (b k : Nat) (v : Value), ¬ C b k → w.cell? ⟨b, k, none⟩ = some v → W.cell? ⟨b, k, none⟩ = some v := fun b k v _ hc => (hW.cell (p := ⟨b, k, none⟩) (World.block_lt_of_cell? w _ hc)).trans hc
  obtain ⟨fn, hf, hnm, hN, hrl, hc'⟩ := bd
  obtain ⟨c, hb, hc⟩ := qi.1 hc'
  refine callsIn_of_wp hf hb trivial ?_ rfl
  rw [hN]
  unfold JD at hc
  obtain ⟨c1, r1, rfl, hc1, hr1⟩ := XY hc
  obtain ⟨c2, r2, rfl, hc2, hr2⟩ := XY hr1
  obtain ⟨c3, c4, rfl, hc3, hc4⟩ := XY hr2
  obtain ⟨c5, rfl, hc5⟩ := Qjd hc4
  obtain ⟨c6, rfl, hc6⟩ := Qu5 hc5
  obtain ⟨d1, s1, rfl, hd1, hs1⟩ := XY hc6
  obtain ⟨d2, s2, rfl, hd2, hs2⟩ := XY hs1
  obtain ⟨y1, y2, rfl, hy1, hy2⟩ := Qlg hd2
  obtain rfl := Qlf hy1
  obtain rfl := Qu6 hy2
  obtain ⟨d3, d9, rfl, hd3, hd9⟩ := XY hs2
  obtain ⟨d4, rfl, hd4⟩ := Qjd hd3
  obtain ⟨d5, s5, rfl, hd5, hs5⟩ := XY hd4
  obtain ⟨d6, s6, rfl, hd6, hs6⟩ := XY hs5
  obtain ⟨s7, d8, rfl, hs7, hd8⟩ := XY hs6
  obtain ⟨d7, dc, rfl, hd7, hdc⟩ := XY hs7
  obtain ⟨y3, y4, rfl, hy3, hy4⟩ := Qlg hdc
  obtain rfl := Qyl hy3
  obtain rfl := Qlf hy4
  obtain ⟨id7, ops, rfl, hm7⟩ := Qph hd7
  obtain ⟨l5, l3, hops, hm5, hm3⟩ := Qs2 (q1 := [_, _, _, _, _]) hm7
  obtain ⟨oS, l2, rfl, hoS, hm2⟩ := Qs1 hm3
  obtain ⟨oY, l1, rfl, hoY, hm1⟩ := Qs1 hm2
  generalize hyv : (Value.func (.yield ll) #[] #[]) = yv at *
  let a0 : Act := { tmps := #[yv] ++ #[v1] ++ Array.replicate (43 - (#[yv] ++ #[v1]).size) undef, defers := [] }
  show Code.wpIn _ _ _ _ _ a0 _
  have z0 : a0.tmps.size = 43 := by simp [a0]
  have t00 : a0.tmps.getD 0 undef = yv := by simp [a0]
  have t01 : a0.tmps.getD 1 undef = v1 := by simp [a0]
  let C0 : Nat → Nat → Prop := fun b k => C b k ∧ b < W.heap.size
  have g0 : Held W.heap.size ⟨W, [ph2], [none], C0⟩ := by
   have g := (Held.empty (B := W.heap.size) (X := ⟨W, [], [], C0⟩) ⟨rfl, by simp, by simp, by simp, fun _ _ h => h.2, qo _⟩ 1 0).1
   exact g
  have hC0 : ∀ c v, isD c = true → Rep ⟨w, [], [], C⟩ c v → Rep ⟨W, [ph2], [none], C0⟩ c v := fun c v hd hr =>
   Rep.data (X := ⟨w, [], [], C⟩) (Y := ⟨W, [ph2], [none], C0⟩) (fun b k v hc ha => ⟨hkw b k v (fun h => ha (.inl h)) hc, fun h => by
    rcases h with h | ⟨o, x, c, h1, h2, _⟩
    ·exact ha (.inl h.1)
    ·rcases o with _ | o <;> simp at h2⟩) c v hd hr
  let Γ0 : Ctx := ⟨W.heap.size, ⟨W, [ph2], [none], C0⟩, 43, []⟩
  have hs0 : Sim Γ0 ⟨[(0, .lit yv), (1, .cell [.int .i64 k, .int .i64 x, .int .i64 r, il l])], [ph2]⟩ a0 W :=
   ⟨rfl, z0, Below.refl _ _, [none], g0, Moves.refl _, Q5 (by rw [t00]; simp only [Rep]) (Q5 (by rw [t01]; exact hC0 _ _ (by simp [isD, isDL, Zi]) hv1') Qd6)⟩
  have hF0 : Fit P 43 Γ0 := ⟨rfl, fun q cs hq => hC0 _ _ (by simp only [isD]; exact P.gd q cs hq) (hG q cs hq)⟩
  refine wpIn_seq ?_
  have hk0 : ((n * k : Nat) : Int) / (k : Int) = n := by
   rw [jh, jz _ (by omega)]
  have hk3 : ((n * k : Nat) : Int).tdiv (k : Int) = n := by rw [qK (by omega), hk0]
  refine QxZ (Q := fun _ st' => st'.ob = [⟨t0, 1, cnt, ks .i64 (Q2 L n), 0⟩] ∧ look st'.fr 0 = .lit yv ∧ look st'.fr 3 = .own 0 cnt) hF0 hc1 1 (by rfl) t01 ?_ hs0 ?_
  ·simp only [il]
   simp (disch := omega) only [rq, simprocAttr, hl, hk3, hk0]
   refine ⟨shr 0 (.tup [.own 0 cnt, .int .i64 0]), some (0, ⟨t0, 1, cnt, ks .i64 (Q2 L n), 0⟩), ?_, ?_⟩
   ·unfold QaQ
    rw [qh rfl]
    exact ⟨ACall.of_vo_at hA' rfl ⟨rfl, rfl⟩, fun o x' e => by cases e; exact ⟨ph2, rfl, by simp [ph2, ph]⟩⟩
   ·simp (disch := omega) only [rq, simprocAttr, shr]
  ·intro st1 a1 W1 ⟨hob1, h10, h13⟩ hs1 t11
   show (Code.seq c2 _).wpIn Fence.wide 4 _ _ a1 W1
   let row : Ob := ⟨t0, 1, cnt, ks .i64 (Q2 L n), 0⟩
   have hs1' : Sim Γ0 ⟨[(0, .lit yv), (3, .own 0 cnt)], [row]⟩ a1 W1 := by
    have h : st1 = ⟨st1.fr, [row]⟩ := by rw [← hob1]
    rw [h] at hs1
    exact Qm (M := 1) (by simp [h10, h13]) Γ0 a1 W1 rfl hs1
   refine wpIn_seq ?_
   refine Qcv (Q := fun _ st' => st' = ⟨[(5, .int .i64 0), (0, .lit yv), (3, .own 0 cnt)], [row]⟩) hF0 hc2 [(1, v1)] (by simp only [jg]; rintro _ rfl; exact ⟨rfl, t11⟩) (by simp (disch := omega) only [rq, simprocAttr]) hs1' ?_
   rintro _ a2 W2 rfl hs2 t2
   show (Code.seq c3 _).wpIn Fence.wide 4 _ _ a2 W2
   refine wpIn_seq ?_
   refine Qcv (Q := fun _ st' => st' = ⟨[(23, .int .i64 0), (22, .int .i64 cnt), (21, .own 0 cnt), (5, .int .i64 0), (0, .lit yv), (3, .own 0 cnt)], [row]⟩) hF0 hc3 [(1, v1)] (by simp only [jg]; rintro _ rfl; exact ⟨rfl, t2 _ (by simp)⟩) (by simp (disch := omega) only [rq, simprocAttr, row]) hs2 ?_
   rintro _ a3 W3 rfl hs3 t3
   show (Code.block 0 (.loop _)).wpIn Fence.wide 4 _ _ a3 W3
   obtain ⟨f1, f2, f3, be, f4, f5, f6⟩ := hs3
   have f1' : a3.defers = [] := f1
   have f2' : a3.tmps.size = 43 := f2
   obtain ⟨e, he, hoke⟩ := f4.get (o := 0) (x := row) rfl
   have f21 := f6 21
   simp only [look, Nat.reduceEqDiff, qI, qO, Rep] at f21
   obtain ⟨⟨rw', hrw, _, _, hown⟩, _⟩ := f21
   have hrw' : row = rw' := by simpa using hrw
   subst hrw'
   have hown' := hown rfl
   have he' : be[0]? = some e := he
   simp only [he'] at hown'
   cases e with
   | none => exact absurd hoke.1 (by simp only [row]; omega)
   | some p =>
   obtain ⟨br, capr⟩ := p
   obtain ⟨cur, ⟨frz, hblk, _⟩, hcs, hnc, _, hcl, hcr, hone⟩ := hoke
   simp only [OwnV] at hown'
   have hblk' : W3.heap[br]? = some (.cells cur t0 frz) := hblk
   obtain ⟨sv, hsv⟩ : ∃ sv, sv = Value.slice (some ⟨br, 0, none⟩) cnt capr := ⟨_, rfl⟩
   have hcr' : ∀ {Y : Cx}, RepL Y (ks .i64 (Q2 L n)) (cur.toList.take cnt) := fun {Y} => by
    have h := RepL.flat (Y := Y) (by simp [row, ks, flat]) hcr
    have e : row.cs.length = cnt := by simp [row, ks, hcnt]
    rw [e] at h
    exact h
   have hrowR : ∀ {W' : World}, W'.heap[br]? = some (.cells cur t0 frz) → Rep ⟨W', [], [], fun _ _ => False⟩ (.list cnt (ks .i64 (Q2 L n))) sv := fun {W'} h => by
    simp only [Rep]
    refine ⟨_, _, cur.toList.take cnt, hsv, hnc, .inr ⟨br, 0, rfl, fun i v hv => ?_⟩, hcr'⟩
    rw [jd] at hv
    split at hv
    ·have hv2 : cur[i]? = some v := by simpa using hv
     refine ⟨⟨by simp [World.cell?, h, hv2], fun h => ?_⟩, hone v (by
      obtain ⟨h1, h2⟩ := qv.1 hv2
      rw [← h2]; simp)⟩
     rcases h with h | ⟨o, x, c, h1, _⟩
     ·exact h.elim
     ·simp at h1
    ·cases hv
   have hJ3 : J [] W3 := hJ _ W W3 none hJ0 (Qba f3) (fun r h => by cases h)
   refine wpIn_block ?_
   refine wpIn_loop (fun a W' => ∃ j, j ≤ cnt ∧ a.defers = [] ∧ a.tmps.size = 43 ∧ a.tmps.getD 0 undef = yv ∧ a.tmps.getD 1 undef = v1 ∧ a.tmps.getD 5 undef = .int .i64 (atN j : Nat) ∧ a.tmps.getD 21 undef = sv ∧ a.tmps.getD 22 undef = .int .i64 cnt ∧ a.tmps.getD 23 undef = .int .i64 j ∧
     W'.heap[br]? = some (.cells cur t0 frz) ∧ (∀ (b k : Nat) (v : Value), ¬ C b k → w.cell? ⟨b, k, none⟩ = some v → W'.cell? ⟨b, k, none⟩ = some v) ∧ J ((List.finRange cnt).take j) W')
    (fun a _ => match a.tmps.getD 23 undef with | .int _ z => cnt - z.toNat | _ => 0) ?_ ?_
   ·refine ⟨0, jt _, f1', f2', ?_, t3 (1, v1) (by simp), ?_, by rw [hsv]; exact hown', ?_, ?_, hblk', ?_, hJ3⟩
    ·have h := f6 0
     simpa [look, Rep] using h
    ·have h := f6 5
     have e0 : atN 0 = 0 := by rw [hatN]; simp
     simpa [look, Rep, e0] using h
    ·have h := f6 22
     simpa [look, Rep] using h
    ·have h := f6 23
     simpa [look, Rep] using h
    ·intro b k v hc hv
     have h := hkw b k v hc hv
     exact (f3.cell (p := ⟨b, k, none⟩) (World.block_lt_of_cell? W _ h)).trans h
   intro a Wj ⟨j, hj, i1, i2, i3, i4, i5, i6, i7, i8, i9, i10, i11⟩
   let ΓW : World → Ctx := fun W' => ⟨W'.heap.size, ⟨W', [], [], fun _ _ => False⟩, 43, []⟩
   have hF : ∀ {W' : World}, (∀ (b k : Nat) (v : Value), ¬ C b k → w.cell? ⟨b, k, none⟩ = some v → W'.cell? ⟨b, k, none⟩ = some v) → Fit P 43 (ΓW W') := fun {W'} h => ⟨rfl, fun q cs hq => hun h _ _ (by simp only [isD]; exact P.gd q cs hq) (hG q cs hq)⟩
   have hsA : Sim (ΓW Wj) ⟨[(0, .lit yv), (1, .cell [.int .i64 k, .int .i64 x, .int .i64 r, .lit u3]), (5, .int .i64 (atN j : Nat)), (21, .list cnt (ks .i64 (Q2 L n))), (22, .int .i64 cnt), (23, .int .i64 j)], []⟩ a Wj :=
    QEd i1 i2 (Q5 (by rw [i3]; simp only [Rep]) (Q5 (by rw [i4]; exact hlit i10) (Q5 (by rw [i5]; simp only [Rep]) (Q5 (by rw [i6]; exact hrowR i9) (Q5 (by rw [i7]; simp only [Rep]) (Q5 (by rw [i8]; simp only [Rep]) Qd6))))))
   have hI : ∀ {qs : List AO} {a : Act}, QiS 1 qs = true → QiS 21 qs = true → a.tmps.getD 1 undef = v1 → a.tmps.getD 21 undef = sv → ∀ p ∈ [(1, v1), (21, sv)], QiS p.1 qs = true ∧ a.tmps.getD p.1 undef = p.2 := fun h1 h2 h3 h4 p hp => by
    simp only [yH, List.not_mem_nil, or_false] at hp
    rcases hp with rfl | rfl
    ·exact ⟨h1, h3⟩
    ·exact ⟨h2, h4⟩
   refine wpIn_seq ?_
   refine Qcv (Q := fun _ st' => st' = ⟨[(24, .bool (decide ((j : Int) < cnt))), (0, .lit yv), (1, .cell [.int .i64 k, .int .i64 x, .int .i64 r, .lit u3]), (5, .int .i64 (atN j : Nat)), (21, .list cnt (ks .i64 (Q2 L n))), (22, .int .i64 cnt), (23, .int .i64 j)], []⟩) (hF i10) hd1 [(1, v1), (21, sv)] (hI rfl rfl i4 i6) (by simp (disch := omega) only [rq, simprocAttr]) hsA ?_
   rintro _ aB WB rfl hsB tB
   have bW : Below Wj.heap.size Wj WB := hsB.2.2.1
   show (Code.seq (.cond _ .skip (.exit 0)) _).wpIn Fence.wide 4 _ _ aB WB
   have h24 : aB.eval (.tmp 24) = .bool (decide ((j : Int) < cnt)) := by
    obtain ⟨_, _, _, _, _, _, h⟩ := hsB
    have h : Rep _ (.bool _) (aB.tmps.getD 24 undef) := h 24
    simp only [Rep] at h
    exact h
   refine wpIn_seq ?_
   by_cases hjc : j < cnt
   ·have e24 : decide ((j : Int) < cnt) = true := by simp; omega
    rw [e24] at h24 hsB
    obtain ⟨m, p1, p2, p3, p4, p5, p6⟩ := pf j hjc
    have la : (ks .i64 (Q2 L n)).drop j = .int .i64 m :: (ks .i64 (Q2 L n)).drop (j + 1) := by
     have h := Qca (K := .i64) (l := Q2 L n) (i := j) (by omega)
     rw [p1, ← JU] at h
     exact h
    refine wpIn_cond_true h24 (wpIn_skip ?_)
    show (Code.seq (.block 1 (.seq d5 _)) _).wpIn Fence.wide 4 _ _ aB WB
    obtain ⟨mk, hmk⟩ : ∃ mk, m * k = mk := ⟨_, rfl⟩
    rw [hmk] at p4 p5 p6
    have emk : (m : Int) * (k : Int) = mk := by rw [← hmk]; simp
    have e8 : ((atN j : Nat) : Int) + (mk : Int) = ((atN (j + 1) : Nat) : Int) := by omega
    obtain ⟨nk, hnk'⟩ : ∃ nk, n * k = nk := ⟨_, rfl⟩
    rw [hnk'] at p6 hnk hcap hl
    have hm4 : (m : Int) ≤ 4000 := by omega
    refine wpIn_seq (wpIn_block (wpIn_seq ?_))
    refine Qcv (Q := fun _ st' => Le 0 st' ⟨[(7, .int .i64 m), (0, .lit yv), (1, .cell [.int .i64 k, .int .i64 x, .int .i64 r, .lit u3]), (5, .int .i64 (atN j : Nat)), (21, .list cnt (ks .i64 (Q2 L n))), (22, .int .i64 cnt), (23, .int .i64 j)], []⟩) (hF i10) hd5 [(1, v1), (21, sv)] (hI rfl rfl (tB (1, v1) (by simp)) (tB (21, sv) (by simp)))
     (by simp (disch := omega) only [rq, simprocAttr, la, Qh]; exact Ql) hsB ?_
    intro st5 a5 W5 hle5 hs5' t5
    have hs5 := hle5 _ _ _ rfl hs5'
    show (Code.seq d6 _).wpIn Fence.wide 4 _ _ a5 W5
    refine wpIn_seq ?_
    refine Qcv (Q := fun _ st' => Le 0 st' ⟨[(8, .int .i64 (atN (j + 1) : Nat)), (0, .lit yv), (1, .cell [.int .i64 k, .int .i64 x, .int .i64 r, .lit u3]), (5, .int .i64 (atN j : Nat)), (21, .list cnt (ks .i64 (Q2 L n))), (22, .int .i64 cnt), (23, .int .i64 j)], []⟩) (hF i10) hd6 [(1, v1), (21, sv)] (hI rfl rfl (t5 (1, v1) (by simp)) (t5 (21, sv) (by simp)))
     (by simp (disch := omega) only [rq, simprocAttr, emk, e8]; exact Ql) hs5 ?_
    intro st6 a6 W6 hle6 hs6' t6
    have hs6 := hle6 _ _ _ rfl hs6'
    show (Code.seq (.seq (.region id7 ops false) _) d8).wpIn Fence.wide 4 _ _ a6 W6
    refine wpIn_seq (wpIn_seq (wpIn_region_list ?_))
    rw [hops]
    refine Qdk l5 _ a6 W6 (QN ?_ _ _ _ (QfR (Q := fun _ st' => Le 0 st' ⟨[(33, .lit yv), (0, .lit yv), (35, .lit u3), (36, .int .i64 (atN j : Nat)), (37, .int .i64 (atN (j + 1) : Nat)), (8, .int .i64 (atN (j + 1) : Nat)), (22, .int .i64 cnt), (23, .int .i64 j)], []⟩) (hF i10) hm5 [(1, v1), (21, sv)] (hI rfl rfl (t6 (1, v1) (by simp)) (t6 (21, sv) (by simp)))
     (by simp (disch := omega) only [rq, simprocAttr]; exact Ql) hs6))
    rintro _ a7 W7 ⟨rfl, st7, hle7, hs7', t7⟩
    have hs7 := hle7 _ _ _ rfl hs7'
    show wpListIn Fence.wide 4 _ _ _ (oS :: oY :: l1) a7 W7
    have W7b : Below Wj.heap.size Wj W7 := hs7.2.2.1
    have hd7 : a7.defers = [] := hs7.1
    have hz7 : a7.tmps.size = 43 := hs7.2.1
    have f7 : ∀ {i : Nat} {v : Value}, Rep ⟨W7, [], [], fun _ _ => False⟩ (.lit v) (a7.tmps.getD i undef) → a7.tmps.getD i undef = v := fun h => by simpa only [Rep] using h
    have f33 : a7.tmps.getD 33 undef = yv := by obtain ⟨_, _, _, _, _, _, h⟩ := hs7; have h : Rep _ (.lit yv) (a7.tmps.getD 33 undef) := h 33; simpa only [Rep] using h
    have f35 : a7.tmps.getD 35 undef = u3 := by obtain ⟨_, _, _, _, _, _, h⟩ := hs7; have h : Rep _ (.lit u3) (a7.tmps.getD 35 undef) := h 35; simpa only [Rep] using h
    have f8 : a7.tmps.getD 8 undef = .int .i64 (atN (j + 1) : Nat) := by obtain ⟨_, _, _, _, _, _, h⟩ := hs7; have h : Rep _ (.int .i64 _) (a7.tmps.getD 8 undef) := h 8; simpa only [Rep] using h
    have f22 : a7.tmps.getD 22 undef = .int .i64 cnt := by obtain ⟨_, _, _, _, _, _, h⟩ := hs7; have h : Rep _ (.int .i64 _) (a7.tmps.getD 22 undef) := h 22; simpa only [Rep] using h
    have f23 : a7.tmps.getD 23 undef = .int .i64 j := by obtain ⟨_, _, _, _, _, _, h⟩ := hs7; have h : Rep _ (.int .i64 _) (a7.tmps.getD 23 undef) := h 23; simpa only [Rep] using h
    obtain ⟨be7, g7, _, hη, _⟩ := hs7.eta (hF i10).2
    obtain ⟨cS, dS, _, gS⟩ := XH hoS
    obtain ⟨tS, eS, opS, uS, zS⟩ := Qyg (Qlh cS (by intro h; cases h))
    have gS' : oS.guard = none := by
     rcases gS with ⟨h, _⟩ | ⟨_, _, _, _, _, h⟩
     ·exact h
     ·cases h
    have ex : a7.eval (.tmp 35) = .slice sa nk cap := by rw [← hl]; exact f35.trans e3
    have hrun := Qqq (X := ⟨W7, [], be7, fun _ _ => False⟩) g7 hη opS uS zS ex (l := (atN j : Nat)) (h := (atN (j + 1) : Nat)) (by simp [loA, opd, look]) (by simp [hiA, opd, look]) (by omega) (by omega) (by omega)
    simp only [qm] at hrun
    unfold wpListIn
    rw [qh (by simp [Region.wanted, gS'])]
    unfold Oper.wpIn
    refine ⟨fun _ _ => trivial, ?_⟩
    rw [QDY, hrun]
    show wpListIn Fence.wide 4 _ _ _ (oY :: l1) (a7.put oS.dst _) W7
    rw [← dS]
    obtain ⟨cY, dY, _, gY⟩ := XH hoY
    obtain ⟨cl, opY, calY, argY⟩ := QdK cY
    have gY' : oY.guard = none := by
     rcases gY with ⟨h, _⟩ | ⟨_, _, _, _, _, h⟩
     ·exact h
     ·cases h
    have argY' : cl.args = #[.tmp 38] := yU argY.symm
    unfold wpListIn
    rw [qh (by simp [Region.wanted, gY'])]
    have hJ7 : J ((List.finRange cnt).take j) W7 := hJ _ Wj W7 none i11 (Qba W7b) (fun r h => by cases h)
    have hlen : ((List.finRange cnt).take j).length < cnt := by simp; omega
    obtain ⟨vj, hvj⟩ : ∃ vj : Value, vj = .slice (if cap = atN j then sa else sa.map (·.add (atN j * 1))) (atN (j + 1) - atN j) (cap - atN j) := ⟨_, rfl⟩
    have hY' := hY ((List.finRange cnt).take j) ⟨j, hjc⟩ W7 hJ7 hlen
    simp only at hY'
    rw [← hvj] at hY' ⊢
    have p38 : (a7.put (some 38) vj).tmps.getD 38 undef = vj := by simp [Act.put, hz7]
    have p33 : (a7.put (some 38) vj).tmps.getD 33 undef = .func (.yield ll) #[] #[] := by rw [Js (by simp), f33]; exact hyv.symm
    refine QtL opY calY argY' p33 p38 hY' ?_
    rw [← dY]
    have z8 : ∀ bb : Bool, ((a7.put (some 38) vj).put (some 39) (.bool bb)).tmps.size = 43 := fun bb => by rw [QhU, QhU]; exact hz7
    have p39 : ∀ bb : Bool, ((a7.put (some 38) vj).put (some 39) (.bool bb)).tmps.getD 39 undef = .bool bb := fun bb => by simp [Act.put, hz7]
    have pO : ∀ (bb : Bool) (i : Nat), i ≠ 38 → i ≠ 39 → ((a7.put (some 38) vj).put (some 39) (.bool bb)).tmps.getD i undef = a7.tmps.getD i undef := fun bb i h1 h2 => by
     rw [Js (by simpa using fun h => h2 h.symm), Js (by simpa using fun h => h1 h.symm)]
    have d8' : ∀ bb : Bool, ((a7.put (some 38) vj).put (some 39) (.bool bb)).defers = [] := fun bb => by rw [Qgv, Qgv]; exact hd7
    have hI3 : ∀ {qs : List AO} {a : Act}, QiS 0 qs = true → QiS 1 qs = true → QiS 21 qs = true → a.tmps.getD 0 undef = yv → a.tmps.getD 1 undef = v1 → a.tmps.getD 21 undef = sv → ∀ p ∈ [(0, yv), (1, v1), (21, sv)], QiS p.1 qs = true ∧ a.tmps.getD p.1 undef = p.2 := fun h1 h2 h3 h4 h5 h6 p hp => by
     simp only [yH, List.not_mem_nil, or_false] at hp
     rcases hp with rfl | rfl | rfl
     ·exact ⟨h1, h4⟩
     ·exact ⟨h2, h5⟩
     ·exact ⟨h3, h6⟩
    have f0 : a7.tmps.getD 0 undef = yv := by obtain ⟨_, _, _, _, _, _, h⟩ := hs7; have h : Rep _ (.lit yv) (a7.tmps.getD 0 undef) := h 0; simpa only [Rep] using h
    have q0 : ∀ bb : Bool, _ := fun bb => (pO bb 0 (by omega) (by omega)).trans f0
    have q1 : ∀ bb : Bool, _ := fun bb => (pO bb 1 (by omega) (by omega)).trans (t7 (1, v1) (by simp))
    have q21 : ∀ bb : Bool, _ := fun bb => (pO bb 21 (by omega) (by omega)).trans (t7 (21, sv) (by simp))
    rintro e W8 (⟨rfl, hJ8, hK8⟩ | ⟨rfl, hX8⟩)
    ·refine ⟨true, rfl, ?_⟩
     have hbr7 : W7.heap[br]? = some (.cells cur t0 frz) := (W7b.block br (qv.1 i9).1).trans i9
     have hbr8 : W8.heap[br]? = some (.cells cur t0 frz) := (hK8.1 br cur t0 frz hbr7 (by simp)).trans hbr7
     have hk8 : ∀ (b k : Nat) (v : Value), ¬ C b k → w.cell? ⟨b, k, none⟩ = some v → W8.cell? ⟨b, k, none⟩ = some v := fun b k v hc hv => by
      have h1 := i10 b k v hc hv
      exact hK8.2 b k v hc ((W7b.cell (p := ⟨b, k, none⟩) (World.block_lt_of_cell? Wj _ h1)).trans h1)
     have hs8 : Sim (ΓW W8) ⟨[(39, .bool true), (8, .int .i64 (atN (j + 1) : Nat)), (22, .int .i64 cnt), (23, .int .i64 j)], []⟩ ((a7.put (some 38) vj).put (some 39) (.bool true)) W8 :=
      QEd (d8' true) (z8 true) (Q5 (by rw [p39]; simp only [Rep]) (Q5 (by rw [pO true 8 (by omega) (by omega), f8]; simp only [Rep]) (Q5 (by rw [pO true 22 (by omega) (by omega), f22]; simp only [Rep]) (Q5 (by rw [pO true 23 (by omega) (by omega), f23]; simp only [Rep]) Qd6))))
     refine QN ?_ _ _ _ (QfR (Q := fun _ st' => Le 0 st' ⟨[(40, .bool false), (8, .int .i64 (atN (j + 1) : Nat)), (22, .int .i64 cnt), (23, .int .i64 j)], []⟩) (hF hk8) hm1 [(0, yv), (1, v1), (21, sv)] (hI3 rfl rfl rfl (q0 true) (q1 true) (q21 true))
      (by simp (disch := omega) only [rq, simprocAttr, Bool.not_true]; exact Ql) hs8)
     rintro _ a9 W9 ⟨rfl, st9, hle9, hs9', t9⟩
     have hs9 := hle9 _ _ _ rfl hs9'
     show (Code.cond _ .ret .skip).wpIn Fence.wide 4 _ _ a9 W9
     have h40 : a9.eval (.tmp 40) = .bool false := by obtain ⟨_, _, _, _, _, _, h⟩ := hs9; have h : Rep _ (.bool _) (a9.tmps.getD 40 undef) := h 40; simp only [Rep] at h; exact h
     refine wpIn_cond_false h40 (wpIn_skip ?_)
     show d8.wpIn Fence.wide 4 _ _ a9 W9
     refine Qcv (Q := fun _ st' => Le 0 st' ⟨[(5, .int .i64 (atN (j + 1) : Nat)), (22, .int .i64 cnt), (23, .int .i64 j)], []⟩) (hF hk8) hd8 [(0, yv), (1, v1), (21, sv)] (hI3 rfl rfl rfl (t9 (0, yv) (by simp)) (t9 (1, v1) (by simp)) (t9 (21, sv) (by simp)))
      (by simp (disch := omega) only [rq, simprocAttr]; exact Ql) hs9 ?_
     intro stA aA WA hleA hsA' tA
     have hsA2 := hleA _ _ _ rfl hsA'
     show d9.wpIn Fence.wide 4 _ _ aA WA
     refine Qcv (Q := fun _ st' => Le 0 st' ⟨[(5, .int .i64 (atN (j + 1) : Nat)), (22, .int .i64 cnt), (23, .int .i64 ((j + 1 : Nat) : Int))], []⟩) (hF hk8) hd9 [(0, yv), (1, v1), (21, sv)] (hI3 rfl rfl rfl (tA (0, yv) (by simp)) (tA (1, v1) (by simp)) (tA (21, sv) (by simp)))
      (by simp (disch := omega) only [rq, simprocAttr]; exact Ql) hsA2 ?_
     intro stC aC WC hleC hsC' tC
     have hsC := hleC _ _ _ rfl hsC'
     have WCb : Below W8.heap.size W8 WC := hsC.2.2.1
     obtain ⟨h1, h2, _, _, _, _, hC⟩ := hsC
     have c5 : aC.tmps.getD 5 undef = .int .i64 (atN (j + 1) : Nat) := by have h : Rep _ (.int .i64 _) (aC.tmps.getD 5 undef) := hC 5; simpa only [Rep] using h
     have c22 : aC.tmps.getD 22 undef = .int .i64 cnt := by have h : Rep _ (.int .i64 _) (aC.tmps.getD 22 undef) := hC 22; simpa only [Rep] using h
     have c23 : aC.tmps.getD 23 undef = .int .i64 ((j + 1 : Nat) : Int) := by have h : Rep _ (.int .i64 _) (aC.tmps.getD 23 undef) := hC 23; simpa only [Rep] using h
     refine ⟨⟨j + 1, by omega, h1, h2, tC (0, yv) (by simp), tC (1, v1) (by simp), c5, tC (21, sv) (by simp), c22, c23, (WCb.block br (qv.1 hbr8).1).trans hbr8, fun b k v hc hv => ?_, ?_⟩, ?_⟩
     ·have h := hk8 b k v hc hv
      exact (WCb.cell (p := ⟨b, k, none⟩) (World.block_lt_of_cell? W8 _ h)).trans h
     ·rw [QxN hjc]
      exact hJ _ W8 WC none hJ8 (Qba WCb) (fun r h => by cases h)
     ·simp only [c23, i8, qm]
      omega
    ·refine ⟨false, rfl, ?_⟩
     have hs8 : Sim (ΓW W8) ⟨[(39, .bool false)], []⟩ ((a7.put (some 38) vj).put (some 39) (.bool false)) W8 :=
      QEd (d8' false) (z8 false) (Q5 (by rw [p39]; simp only [Rep]) Qd6)
     let P0 : Prg := ⟨P.prog, [], fun _ _ h => by cases h⟩
     refine QN ?_ _ _ _ (QfR (P := P0) (N := 43) (Γ := ΓW W8) (Q := fun _ st' => Le 0 st' ⟨[(40, .bool true)], []⟩) ⟨rfl, fun _ _ h => by cases h⟩ hm1 [] (fun p hp => by cases hp)
      (by simp (disch := omega) only [rq, simprocAttr, Bool.not_false]; exact Ql) hs8)
     rintro _ a9 W9 ⟨rfl, st9, hle9, hs9', t9⟩
     have hs9 := hle9 _ _ _ rfl hs9'
     show (Code.cond _ .ret .skip).wpIn Fence.wide 4 _ _ a9 W9
     have h40 : a9.eval (.tmp 40) = .bool true := by obtain ⟨_, _, _, _, _, _, h⟩ := hs9; have h : Rep _ (.bool _) (a9.tmps.getD 40 undef) := h 40; simp only [Rep] at h; exact h
     refine wpIn_cond_true h40 (wpIn_ret ?_)
     have hX9 := hJx _ W8 W9 none hX8 (Qba hs9.2.2.1) (fun r h => by cases h)
     exact ⟨hs9.1, .tuple #[], results_none (yU hrl) _ _ _, ⟨_, rfl⟩, .inr ⟨_, trivial, hX9⟩⟩
   ·have e24 : decide ((j : Int) < cnt) = false := by simp; omega
    rw [e24] at h24
    refine wpIn_cond_false h24 (wpIn_exit ?_)
    have hjc' : j = cnt := by omega
    rw [hjc', qg (by simp)] at i11
    have hJB : J (List.finRange cnt) WB := hJ _ Wj WB none i11 (Qba bW) (fun r h => by cases h)
    have hdB : aB.defers = [] := hsB.1
    exact ⟨hdB, .tuple #[], results_none (yU hrl) _ _ _, ⟨_, rfl⟩, .inl ⟨_, rfl, hJB⟩⟩
def QjD (g : Nat) (P : Prg) (f : Nat) : Prop := ∀ (c x r : Int) (l : List Int), VC P f [clA c x r l] (.fn (.func g) [] [.cell [.int .i64 c, .int .i64 x, .int .i64 r, il l]])
theorem Qu0 {P : Prg} {f g t0 : Nat} (b : Body P f 4 [.tmp 2] (Qc0 g t0)) : QjD g P f := by
 intro c x r l
 refine Qk 1 (by simp [isDL, isD, Zi, clA]) (by simp [isD, isDL, Zi]) (Qb b (by simp) ?_)
 simp (disch := omega) only [rq, simprocAttr, Qc0, clA, il]
 simp [QO, Qx, frzL, Qy, isDL, isD, frzL_T _ (Qq .i32 _)]
def QB (c r : Int) (l : List Int) : List (List Int) := (List.range (Q2 (QC r).toNat (l.length / c.toNat)).length).map (JI ((QC r).toNat * c.toNat) l)
theorem ZH {c x r : Int} {l : List Int} (h : QT c x r l = 0) : ∃ k n : Nat, c = k ∧ 1 ≤ k ∧ k ≤ 1000 ∧ l.length = n * k ∧ okA r n ∧ l.length ≤ 4000 := by
 unfold QT at h
 split at h
 ·cases h
 rename_i h1
 split at h
 ·cases h
 rename_i h2
 split at h
 ·cases h
 rename_i h3
 have h3' : ZX c x r (l.length / c) = 0 := by simpa using h3
 have h2' : (l.length : Int) % c = 0 := by simpa using h2
 obtain ⟨k, rfl⟩ : ∃ k : Nat, c = k := ⟨c.toNat, by omega⟩
 have e1 : (l.length : Int) / (k : Int) = ((l.length / k : Nat) : Int) := by simp
 have e2 : l.length % k = 0 := by exact_mod_cast h2'
 rw [e1] at h3'
 have e3 := ji l.length k
 rw [e2, yi, yd] at e3
 unfold ZX at h3'
 split at h3'
 ·cases h3'
 rename_i a1
 split at h3'
 ·cases h3'
 rename_i a2
 split at h3'
 ·cases h3'
 rename_i a3
 split at h3'
 ·cases h3'
 rename_i a4
 obtain ⟨n, hn⟩ : ∃ n, l.length / k = n := ⟨_, rfl⟩
 rw [hn] at e3 a2 a3 a4
 have a5 : Zz k x = 0 := by simpa using a1
 have a6 : QhB r n = 0 := by simpa using a4
 rcases Zd (k : Int) x with h4 | ⟨_, h5, h6, h7⟩
 ·omega
 have hle : n * k ≤ 4000 := by
  have h8 : (n : Int) ≤ 4000 / (k : Int) := by omega
  have h9 := Int.mul_le_of_le_ediv (a := (n : Int)) (b := 4000) (c := (k : Int)) (by omega) h8
  have h10 : ((n * k : Nat) : Int) ≤ 4000 := by rw [jh]; exact h9
  omega
 have hn4 : n ≤ 4000 := yL (Yc n (by omega)) hle
 refine ⟨k, n, rfl, by omega, by omega, e3.symm, ?_, by omega⟩
 unfold QhB at a6
 split at a6
 ·cases a6
 split at a6
 ·cases a6
 split at a6
 ·cases a6
 rename_i b1 b2 b3
 refine ⟨by omega, by omega, by omega, by omega, ?_⟩
 have hlong : 1 ≤ QC r := Z4 r
 obtain ⟨L, hLe⟩ : ∃ L : Nat, QC r = L := ⟨(QC r).toNat, by omega⟩
 rw [hLe, qm, qm, ZL]
 rw [hLe] at b3
 have h1 : (n : Int) + (L : Int) - 1 = ((n - 1 + L : Nat) : Int) := by omega
 rw [h1, ← yC, jN _ (by omega)] at b3
 omega
theorem QaZ (c r : Int) (l : List Int) : (QB c r l).length = (Q2 (QC r).toNat (l.length / c.toNat)).length := by simp [QB]
theorem QcF (c x r : Int) (l : List Int) : QT c x r l = 0 ∨ QT c x r l = 8 := by
 unfold QT; repeat' split
 all_goals simp
theorem QkT (Lc : Nat) (l : List Int) : ∀ m : Nat, ((List.range m).map (JI Lc l)).flatten = l.take (m * Lc)
 | 0 => by simp
 | m + 1 => by
  rw [Yj, yr, yj, QkT Lc l m, ym, yG, List.take_add]
  simp [JI]
theorem Qb7 {c x r : Int} {l : List Int} (h : QT c x r l = 0) : (QB c r l).flatten = l := by
 obtain ⟨k, n, rfl, h1, h2, h3, ⟨o1, o2, o3, o4, o5⟩, h4⟩ := ZH h
 unfold QB
 rw [QkT, qm, h3, yE _ (by omega), ZL, qg]
 have hL : 1 ≤ (QC r).toNat := by have := Z4 r; omega
 have g2 : n - 1 < (n - 1) / (QC r).toNat * (QC r).toNat + (QC r).toNat := Nat.lt_div_mul_add (by omega)
 rw [h3, ← yK, ym, yG]
 refine qA _ ?_
 generalize (n - 1) / (QC r).toNat * (QC r).toNat = w at *
 omega
theorem Qb8 {c x r : Int} {l : List Int} (h : QT c x r l = 0) : (QB c r l).length ≤ 1000 := by
 obtain ⟨k, n, rfl, h1, h2, h3, ⟨o1, o2, o3, o4, o5⟩, h4⟩ := ZH h
 rw [QaZ, qm, h3, yE _ (by omega)]
 rwa [qm] at o5
def Qzj (c : Nat) : Nat := (2 * c) % 18446744073709551616 ^^^ (if 9223372036854775808 ≤ c then 4823603603198064275 else 0)
def QhQ : Nat → Nat → Nat
 | 0, c => c
 | k + 1, c => QhQ k (Qzj c)
theorem Qwk (c : Nat) : Qzj c < 18446744073709551616 := by
 unfold Qzj
 have : (if 9223372036854775808 ≤ c then 4823603603198064275 else 0) < 2 ^ 64 := by split <;> decide
 exact yQ (n := 64) (qM _ (by decide)) this
theorem QlY : ∀ (k : Nat) {c : Nat}, c < 18446744073709551616 → QhQ k c < 18446744073709551616
 | 0, _, h => h
 | k + 1, c, _ => QlY k (Qwk c)
theorem Qob : ∀ (k c : Nat), QhQ (k + 1) c = Qzj (QhQ k c)
 | 0, _ => rfl
 | k + 1, c => by rw [QhQ, Qob k, QhQ]
theorem QA5 (c : Nat) (h : c < 18446744073709551616) : (9223372036854775808 ≤ c) ↔ c.testBit 63 = true := by
 constructor
 ·intro h2
  rw [Nat.testBit_eq_decide_div_mod_eq]
  have : c / 2 ^ 63 = 1 := by omega
  rw [this]; rfl
 ·intro h2
  exact Nat.ge_two_pow_of_testBit h2
theorem Qzi {x l : Nat} (hx : x < 18446744073709551616) (hl : l < 9223372036854775808) : Qzj (x ^^^ l) = Qzj x ^^^ 2 * l := by
 have hxl : x ^^^ l < 18446744073709551616 := yQ (n := 64) hx (by omega)
 have e1 : (9223372036854775808 ≤ x ^^^ l) ↔ (9223372036854775808 ≤ x) := by
  rw [QA5 _ hxl, QA5 _ hx, j1, Nat.testBit_lt_two_pow (show l < 2 ^ 63 from hl), Bool.xor_false]
 have e2 : (2 * (x ^^^ l)) % 18446744073709551616 = (2 * x) % 18446744073709551616 ^^^ 2 * l := by
  apply j6
  intro i
  rw [show (18446744073709551616 : Nat) = 2 ^ 64 from rfl, Yh, j1, Yh]
  rw [show 2 * (x ^^^ l) = 2 ^ 1 * (x ^^^ l) from rfl, show 2 * x = 2 ^ 1 * x from rfl, show 2 * l = 2 ^ 1 * l from rfl, yw, yw, yw, j1]
  by_cases h : i < 64
  ·by_cases h1 : 1 ≤ i <;> simp [h, h1]
  ·have h2 : l.testBit (i - 1) = false := Nat.testBit_lt_two_pow (yF (show l < 2 ^ 63 from hl) (qr (by decide) (by omega)))
   simp [h, h2]
 unfold Qzj
 rw [e2]
 by_cases h : 9223372036854775808 ≤ x
 ·rw [qh h, qh (e1.2 h), jE, jE, jQ (2 * l)]
 ·rw [qf h, qf (fun h2 => h (e1.1 h2)), jE, jE, jQ (2 * l)]
theorem QsG : ∀ (k : Nat) {x l : Nat}, k ≤ 64 → x < 18446744073709551616 → l < 2 ^ (64 - k) → QhQ k (x ^^^ l) = QhQ k x ^^^ 2 ^ k * l
 | 0, x, l, _, _, _ => by simp [QhQ]
 | k + 1, x, l, hk, hx, hl => by
  have h1 : l < 9223372036854775808 := yF hl (qr (by omega) (by omega : 64 - (k + 1) ≤ 63))
  have h2 : 2 * l < 2 ^ (64 - k) := by
   rw [show 64 - k = (64 - (k + 1)) + 1 by omega, yx]; omega
  rw [QhQ, Qzi hx h1, QsG k (by omega) (Qwk x) h2, QhQ, yx, yK]
def QC3 (s b : Nat) : Nat := QhQ 8 (s ^^^ b * 72057594037927936)
theorem QBh {s b : Nat} (hs : s < 18446744073709551616) : s ^^^ b * 72057594037927936 = (s / 72057594037927936 ^^^ b) * 72057594037927936 ^^^ s % 72057594037927936 := by
 have h := QnD s 56
 rw [show (2 : Nat) ^ 56 = 72057594037927936 from rfl] at h
 have e : (s / 72057594037927936 ^^^ b) * 72057594037927936 = s / 72057594037927936 * 72057594037927936 ^^^ b * 72057594037927936 := by
  apply j6
  intro i
  rw [j1, show (72057594037927936 : Nat) = 2 ^ 56 from rfl, yd _ (2 ^ 56), yd _ (2 ^ 56), yd b, yw, yw, yw, j1]
  by_cases h : 56 ≤ i <;> simp [h]
 rw [e, jQ (s / 72057594037927936 * 72057594037927936), jE, yd (s / 72057594037927936), jQ (72057594037927936 * _), ← h, jQ]
theorem Qub {s b : Nat} (hs : s < 18446744073709551616) (hb : b < 256) : QC3 s b = s * 256 % 18446744073709551616 ^^^ QhQ 8 ((s / 72057594037927936 ^^^ b) * 72057594037927936) := by
 have h0 : (s / 72057594037927936 ^^^ b) < 2 ^ 8 := yQ (by omega) hb
 rw [QC3, QBh hs, QsG 8 (by omega) (by omega) (by show s % 72057594037927936 < 2 ^ 56; exact qM _ (by decide)), jQ]
 congr 1
 omega
theorem QBz {s b : Nat} (hs : s < 18446744073709551616) (hb : b < 256) : QC3 s b < 18446744073709551616 := QlY 8 (yQ (n := 64) hs (by omega))
def Zt (s : Nat) (l : List UInt8) : Nat := l.foldl (fun s b => QC3 s b.toNat) s
theorem Qwl {s : Nat} {l : List UInt8} {k : Nat} (h : k < l.length) : Zt s (l.take (k + 1)) = QC3 (Zt s (l.take k)) (l[k]).toNat := by
 rw [qq h, Zt, List.foldl_append]; rfl
theorem QlZ : ∀ {l : List UInt8} {s : Nat}, s < 18446744073709551616 → Zt s l < 18446744073709551616
 | [], _, h => h
 | b :: l, s, h => QlZ (l := l) (QBz h (UInt8.toNat_lt b))
def Qnw (i : Nat) : List Int := (List.range 256).map fun j => if j < i then ((QhQ 8 (j * 72057594037927936) : Nat) : Int) else 0
theorem Ji (i : Nat) : (Qnw i).length = 256 := by simp [Qnw]
theorem QhO {i j : Nat} (h : j < 256) : (Qnw i)[j]'(by rw [Ji]; exact h) = if j < i then ((QhQ 8 (j * 72057594037927936) : Nat) : Int) else 0 := by simp [Qnw]
theorem Qza {i : Nat} (h : i < 256) : (Qnw i).set i ((QhQ 8 (i * 72057594037927936) : Nat) : Int) = Qnw (i + 1) := by
 refine yZ (by simp [Ji]) fun j h1 h2 => ?_
 have hj : j < 256 := by simpa [Ji] using h2
 rw [Ys, QhO hj]
 split
 ·rename_i e; subst e; rw [QhO hj, qh (by omega)]
 ·rename_i e; rw [QhO hj]
  by_cases h3 : j < i
  ·rw [qh h3, qh (by omega)]
  ·rw [qf h3, qf (by omega)]
theorem QBD (c : Nat) : Qj true .u64 (c : Int) 1 = some (.int .u64 (((2 * c) % 18446744073709551616 : Nat) : Int)) := by
 have h3 : ¬ ((1 : Int) < 0) := by omega
 simp only [Qj, qf h3, qO]
 have h5 : (min (1 : Int).toNat IntKind.u64.bits) = 1 := rfl
 rw [h5, ZR]
 congr 2
 omega
theorem Qwn (c : Nat) : Qj true .u64 (c : Int) 8 = some (.int .u64 ((c * 256 % 18446744073709551616 : Nat) : Int)) := by
 have h3 : ¬ ((8 : Int) < 0) := by omega
 simp only [Qj, qf h3, qO]
 have h5 : (min (8 : Int).toNat IntKind.u64.bits) = 8 := rfl
 rw [h5, ZR]
 congr 2
def Qna (P : Prg) (f : Nat) : Prop := VC P f [] (.cell (ks .u64 (Qnw 256)))
set_option maxRecDepth 40000 in
theorem Qro {P : Prg} {f t0 : Nat} (bd : Body P f 25 [.tmp 0] (QbU t0)) : Qna P f := by
 refine Qk 1 rfl (by simp [isD, QoC (Qq _ _)]) (Qb bd (by simp) ?_)
 unfold QbU
 simp (disch := omega) only [rq, simprocAttr]
 refine Qg (ι := Nat) (fun i => ⟨[(5, .int .i64 i), (1, .ref 0 1 0)], [⟨t0, 256, 1, ks .u64 (Qnw i), 0⟩]⟩) (fun i => i ≤ 256) (fun i => 256 - i) 0 (Ql) (by omega) ?_
 intro i hi
 by_cases hlt : i < 256
 ·have s0 : Qj true .u64 (i : Int) 56 = some (.int .u64 ((i * 72057594037927936 : Nat) : Int)) := by
   have := Qvr (K := .u64) rfl (c := i) (s := 56) (by decide) (by show i * 2 ^ 56 < 2 ^ 64; omega)
   exact this
  have w0 : IntKind.u64.wrap (i : Int) = i := Qav (by omega) (by omega)
  simp (disch := omega) only [rq, simprocAttr, s0, w0]
  refine Qg (ι := Nat) (fun j => ⟨[(11, .int .i64 j), (3, .int .u64 (QhQ j (i * 72057594037927936))), (5, .int .i64 i), (2, .int .i64 i), (1, .ref 0 1 0)], [⟨t0, 256, 1, ks .u64 (Qnw i), 0⟩]⟩) (fun j => j ≤ 8) (fun j => 8 - j) 0 (Qm (by simp [Am.look, QhQ])) (by omega) ?_
  intro j hj
  by_cases hjl : j < 8
  ·have hc := QlY j (c := i * 72057594037927936) (by omega)
   have hn := Qob j (i * 72057594037927936)
   generalize QhQ j (i * 72057594037927936) = c at *
   have a1 := QBD c
   have a2 : Qj false .u64 (c : Int) 63 = some (.int .u64 ((c / 9223372036854775808 : Nat) : Int)) := Qny (K := .u64) (n := c) (k := 63) (by decide)
   have hm := qM (2 * c) (show 0 < 18446744073709551616 by decide)
   by_cases h2 : 9223372036854775808 ≤ c
   ·have a3 : IntKind.u64.wrap (BitVec.ofInt IntKind.u64.bits ((2 * c % 18446744073709551616 : Nat) : Int) ^^^ BitVec.ofInt IntKind.u64.bits 4823603603198064275).toNat = ((QhQ (j + 1) (i * 72057594037927936) : Nat) : Int) := by
     rw [hn, Qzj, qh h2]
     exact QyR (K := .u64) rfl (a := 2 * c % 18446744073709551616) (b := 4823603603198064275) hm (by decide)
    have a4 : c / 9223372036854775808 = 1 := by omega
    rw [a4] at a2
    generalize 2 * c % 18446744073709551616 = d at *
    simp (disch := omega) only [rq, simprocAttr, a1, a2, a3]
    exact ⟨j + 1, by omega, by omega, Ql⟩
   ·have a3 : IntKind.u64.wrap (BitVec.ofInt IntKind.u64.bits ((2 * c % 18446744073709551616 : Nat) : Int) ^^^ BitVec.ofInt IntKind.u64.bits 0).toNat = ((QhQ (j + 1) (i * 72057594037927936) : Nat) : Int) := by
     rw [hn, Qzj, qf h2]
     exact QyR (K := .u64) rfl (a := 2 * c % 18446744073709551616) (b := 0) hm (by decide)
    have a4 : c / 9223372036854775808 = 0 := by omega
    rw [a4] at a2
    generalize 2 * c % 18446744073709551616 = d at *
    simp (disch := omega) only [rq, simprocAttr, a1, a2, a3]
    exact ⟨j + 1, by omega, by omega, Ql⟩
  ·obtain rfl : j = 8 := by omega
   have e1 := Ji i
   have e2 := Qh .u64 (Qnw i)
   have e3 : (ks .u64 (Qnw i)).take i ++ [.int .u64 (QhQ 8 (i * 72057594037927936))] ++ (ks .u64 (Qnw i)).drop (i + 1) = ks .u64 (Qnw (i + 1)) := by
    rw [← Qza hlt, yz, qh (by rw [Ji]; exact hlt)]; simp [ks, jx, jC]
   simp (disch := omega) only [rq, simprocAttr, e1, e2, e3]
   exact ⟨i + 1, by omega, by omega, Ql⟩
 ·obtain rfl : i = 256 := by omega
  simp (disch := omega) only [rq, simprocAttr]
  simp [QO, Qx, frzL, Qy, frzL_T _ (Qq _ _)]
def QjJ (P : Prg) (f : Nat) : Prop := ∀ (s : Nat) (l : List UInt8), s < 18446744073709551616 → l.length ≤ 1000000 → VC P f [.cell (ks .u64 (Qnw 256)), .int .u64 s, bs l] (.int .u64 (Zt s l : Nat))
set_option maxRecDepth 40000 in
theorem Qo6 {P : Prg} {f : Nat} (bd : Body P f 29 [.tmp 6] Qbh) : QjJ P f := by
 intro s l hs hl
 refine Qv (by simp [isDL, isD, QD, Zc]) rfl bd ?_
 have t0 := Qh .u64 (Qnw 256)
 rw [Ji] at t0
 simp (disch := omega) only [rq, simprocAttr, Qbh, bs]
 refine Qg (ι := Nat) (fun k => ⟨[(11, .int .i64 k), (10, .int .i64 l.length), (9, .list l.length (u8 l)), (0, .cell (ks .u64 (Qnw 256))), (1, .int .u64 (Zt s (l.take k)))], []⟩) (fun k => k ≤ l.length) (fun k => l.length - k) 0 (Qm (by simp [Am.look, Zt])) (by omega) ?_
 intro k hk
 have hc := QlZ (l := l.take k) hs
 by_cases hlt : k < l.length
 ·have e1 := Qg8 hlt
  have hn := Qwl (s := s) hlt
  generalize Zt s (l.take k) = c at *
  have hb := (l[k]).toNat_lt
  rw [Qub hc hb] at hn
  have h0 : (c / 72057594037927936 ^^^ (l[k]).toNat) < 256 := yQ (n := 8) (by omega) hb
  have h1 := QlY 8 (c := (c / 72057594037927936 ^^^ (l[k]).toNat) * 72057594037927936) (by omega)
  have a1 : Qj false .u64 (c : Int) 56 = some (.int .u64 ((c / 72057594037927936 : Nat) : Int)) := Qny (K := .u64) (n := c) (k := 56) (by decide)
  have a0 := Qwn c
  have a2 : IntKind.u8.wrap ((c / 72057594037927936 : Nat) : Int) = ((c / 72057594037927936 : Nat) : Int) := by rw [ZV]; omega
  have a3 : IntKind.u8.wrap (BitVec.ofInt IntKind.u8.bits ((c / 72057594037927936 : Nat) : Int) ^^^ BitVec.ofInt IntKind.u8.bits ((l[k]).toNat : Int)).toNat = ((c / 72057594037927936 ^^^ (l[k]).toNat : Nat) : Int) :=
   QyR (K := .u8) rfl (a := c / 72057594037927936) (b := (l[k]).toNat) (by show c / 72057594037927936 < 256; omega) hb
  have hm := qM (c * 256) (show 0 < 18446744073709551616 by decide)
  have a4 : IntKind.u64.wrap (BitVec.ofInt IntKind.u64.bits ((c * 256 % 18446744073709551616 : Nat) : Int) ^^^ BitVec.ofInt IntKind.u64.bits ((QhQ 8 ((c / 72057594037927936 ^^^ (l[k]).toNat) * 72057594037927936) : Nat) : Int)).toNat = ((Zt s (l.take (k + 1)) : Nat) : Int) := by
   rw [hn]; exact QyR (K := .u64) rfl hm h1
  generalize c * 256 % 18446744073709551616 = d at *
  generalize c / 72057594037927936 ^^^ (l[k]).toNat = x at *
  have e2 : (ks .u64 (Qnw 256)).drop x = .int .u64 ((QhQ 8 (x * 72057594037927936) : Nat) : Int) :: ks .u64 ((Qnw 256).drop (x + 1)) := by
   rw [JU, qy (by rw [Ji]; exact h0), Qe7, QhO h0, qh h0]
  generalize c / 72057594037927936 = q at *
  simp (disch := omega) only [rq, simprocAttr, e1, a0, a1, a2, a3, a4, e2, t0]
  exact ⟨k + 1, by omega, by omega, Ql⟩
 ·have ek : k = l.length := by omega
  subst ek
  rw [qD]
  simp (disch := omega) only [rq, simprocAttr]
def Qsb (P : Prg) (f : Nat) : Prop := ∀ (s : Nat) (l : List UInt8), s < 18446744073709551616 → VC P f [.int .u64 s, bs l] (if 100000 < l.length then .tup [.int .u64 0, .int .i64 4] else .tup [.int .u64 (Zt s l), .int .i64 0])
theorem QuW {P : Prg} {f fT fB : Nat} (bd : Body P f 13 [.tmp 4, .tmp 5] (QaL fT fB)) (hT : Qna P fT) (hB : QjJ P fB) : Qsb P f := by
 intro s l hs
 refine Qv (by simp [isDL, isD, QD]) (by split <;> rfl) bd ?_
 by_cases hl : 100000 < l.length
 ·rw [qh hl]
  simp (disch := omega) only [rq, simprocAttr, QaL, bs]
 ·rw [qf hl]
  have hB' := hB s l hs (by omega)
  rw [bs] at hB'
  have hT' : VC P fT [] _ := hT
  simp (disch := omega) only [rq, simprocAttr, QaL, bs]
  iterate 2 (refine Qa (by assumption) ?_; simp (disch := omega) only [rq, simprocAttr])
def QtA (P : Prg) (f : Nat) : Prop := ∀ (l : List UInt8), VC P f [bs l] (if 100000 < l.length then .tup [.int .u64 0, .int .i64 4] else .tup [.int .u64 (Zt 0 l), .int .i64 0])
theorem Qx2 {P : Prg} {f fN : Nat} (bd : Body P f 8 [.tmp 2, .tmp 3] (QbE fN)) (hN : Qsb P fN) : QtA P f := by
 intro l
 refine Qv (by simp [isDL, isD, QD]) (by split <;> rfl) bd ?_
 have hN' := hN 0 l (by decide)
 rw [bs] at hN'
 by_cases hl : 100000 < l.length
 ·rw [qh hl] at hN' ⊢
  simp (disch := omega) only [rq, simprocAttr, QbE, bs]
  refine Qa hN' ?_
  simp (disch := omega) only [rq, simprocAttr]
 ·rw [qf hl] at hN' ⊢
  simp (disch := omega) only [rq, simprocAttr, QbE, bs]
  refine Qa hN' ?_
  simp (disch := omega) only [rq, simprocAttr]
def sb8 (x : Nat) : Int := if 127 < x % 256 then ((x % 256 : Nat) : Int) - 256 else ((x % 256 : Nat) : Int)
theorem QDa (x : Nat) : -128 ≤ sb8 x ∧ sb8 x ≤ 127 := by unfold sb8; split <;> omega
def ofK (d k : Nat) : List Int := (List.range 16).map fun i => if i < k then sb8 (d / 2 ^ (8 * i)) else 0
theorem QdA (d k : Nat) : (ofK d k).length = 16 := by simp [ofK]
theorem QBT {d k : Nat} (h : k < 16) : (ofK d k).set k (sb8 (d / 2 ^ (8 * k))) = ofK d (k + 1) := by
 refine yZ (by simp [QdA]) fun j h1 h2 => ?_
 have hj : j < 16 := by simpa [QdA] using h2
 rw [Ys]
 simp only [ofK, j8, List.getElem_range]
 split
 ·rename_i e; subst e; rw [qh (by omega)]
 ·by_cases h3 : j < k
  ·rw [qh h3, qh (by omega)]
  ·rw [qf h3, qf (by omega)]
theorem QBk (x : Nat) : IntKind.i8.wrap (x : Int) = sb8 x := by
 unfold sb8
 simp only [IntKind.wrap, IntKind.bits, IntKind.signed]
 simp
 split <;> split <;> omega
def QyE (P : Prg) (f : Nat) : Prop := ∀ d : Nat, d < 18446744073709551616 → VC P f [.int .u64 d] (.agg (ks .i32 (ofK d 8)))
theorem QBL {P : Prg} {f t0 : Nat} (bd : Body P f 18 [.cell 2 t0] (QgM t0)) (ht : Zu P t0 = some (some 16)) : QyE P f := by
 intro d hd
 refine Qv rfl (by simp [isD, Zc]) bd ?_
 unfold QgM
 have z : (z3L : List AV) = ks .i32 (ofK 0 0) := rfl
 have z0 : ks .i32 (ofK 0 0) = ks .i32 (ofK d 0) := rfl
 rw [z]
 have ol := Jt .i32 (ofK 0 0)
 have kl0 : (ks .i32 (ofK 0 0)).length = 16 := rfl
 simp (disch := omega) only [rq, simprocAttr, ol, kl0]
 refine Qg (ι := Nat) (fun i => ⟨[(5, .int .i64 i), (0, .int .u64 d), (3, .ref 1 1 0), (2, .ref 0 1 0)], [⟨t0, 16, 1, ks .i32 (ofK 0 0), 0⟩, ⟨t0, 16, 1, ks .i32 (ofK d i), 0⟩]⟩) (fun i => i ≤ 8) (fun i => 8 - i) 0 (Ql) (by omega) ?_
 intro i hi
 have kl : (ks .i32 (ofK d i)).length = 16 := by rw [Qh, QdA]
 by_cases hlt : i < 8
 ·have a1 : Qj false .u64 (d : Int) (8 * (i : Int)) = some (.int .u64 ((d / 2 ^ (8 * i) : Nat) : Int)) := by
   have := Qny (K := .u64) (n := d) (k := 8 * i) (by show 8 * i ≤ 64; omega)
   simpa using this
  have a2 := QBk (d / 2 ^ (8 * i))
  have a3 := QDa (d / 2 ^ (8 * i))
  have e3 : (ks .i32 (ofK d i)).take i ++ [.int .i32 (sb8 (d / 2 ^ (8 * i)))] ++ (ks .i32 (ofK d i)).drop (i + 1) = ks .i32 (ofK d (i + 1)) := by
   rw [← QBT (by omega), yz, qh (by rw [QdA]; omega)]; simp [ks, jx, jC]
  generalize d / 2 ^ (8 * i) = q at *
  generalize sb8 q = y at *
  simp (disch := omega) only [rq, simprocAttr, a1, a2, kl, e3]
  exact ⟨i + 1, by omega, by omega, Ql⟩
 ·obtain rfl : i = 8 := by omega
  have o8 := Jt .i32 (ofK d 8)
  have t8 : (ks .i32 (ofK d 8)).take 16 = ks .i32 (ofK d 8) := qg (by omega)
  simp (disch := omega) only [rq, simprocAttr, kl, kl0, t8, o8, Q1, ht]
  try simp [kl]
theorem QA2 : ∀ p : List UInt8, isTL (u8 p) = true
 | [] => rfl
 | b :: p => by have := QA2 p; simp only [u8, yq, isTL, isT, Bool.true_and] at this ⊢; exact this
def Jf : List Int := List.replicate 16 0
def Qep (p : List UInt8) : AV := if 64 < p.length then .tup [.agg (ks .i32 Jf), .int .i64 2] else .tup [.agg (ks .i32 (ofK (Zt 0 p) 8)), .int .i64 0]
theorem QzX (p : List UInt8) : isD (Qep p) = true := by unfold Qep; split <;> simp [isD, isDL, Zc]
def QpM (P : Prg) (f : Nat) : Prop := ∀ p : List UInt8, VC P f [.str p] (Qep p)
theorem Qwt {P : Prg} {f fS fO t0 : Nat} (bd : Body P f 22 [.cell 2 t0, .tmp 3] (QdQ fS fO t0)) (hS : QtA P fS) (hO : QyE P fO) (ht : Zu P t0 = some (some 16)) : QpM P f := by
 intro p
 refine Qv rfl (QzX p) bd ?_
 unfold QdQ
 have z : (z3L : List AV) = ks .i32 Jf := rfl
 rw [z]
 have ol := Jt .i32 Jf
 have kl0 : (ks .i32 Jf).length = 16 := rfl
 have t0' : (ks .i32 Jf).take 16 = ks .i32 Jf := rfl
 by_cases hp : 64 < p.length
 ·have e9 : Qep p = .tup [.agg (ks .i32 Jf), .int .i64 2] := by rw [Qep, qh hp]
  simp (disch := omega) only [rq, simprocAttr, ol, kl0, Q1, ht, t0', e9]
  rfl
 ·have e9 : Qep p = .tup [.agg (ks .i32 (ofK (Zt 0 p) 8)), .int .i64 0] := by rw [Qep, qf hp]
  have hS' := hS p
  rw [qf (by omega)] at hS'
  have hO' := hO (Zt 0 p) (QlZ (by decide))
  have o8 := Jt .i32 (ofK (Zt 0 p) 8)
  have kl : (ks .i32 (ofK (Zt 0 p) 8)).length = 16 := by rw [Qh, QdA]
  have t8 : (ks .i32 (ofK (Zt 0 p) 8)).take 16 = ks .i32 (ofK (Zt 0 p) 8) := qg (by omega)
  have tp := QA2 p
  rw [bs] at hS'
  simp (disch := omega) only [rq, simprocAttr, ol, kl0]
  refine QgG 1 hS' rfl (by simp [QO, Qx, frzL, Qy, frzL_T _ tp]) ?_
  simp (disch := omega) only [rq, simprocAttr]
  refine Qa hO' ?_
  have zl : Jf.length = 16 := rfl
  have zd : (ks .i32 Jf).drop 16 = [] := rfl
  simp (disch := omega) only [rq, simprocAttr, o8, kl, t8, Q1, ht, e9, zl, zd, q8]
  try simp [kl]
theorem Qxd {L n j : Nat} (hn : 1 ≤ n) (hL : 1 ≤ L) (hj : j < (Q2 L n).length) : 1 ≤ (Q2 L n).getD j 0 := by
 rw [qd, qc hj, y5]
 have hm := ye hj
 unfold Q2 at hm
 simp only [qV, List.mem_replicate, jg] at hm
 unfold Q2
 rcases hm with hm | hm
 ·rw [hm.2]; omega
 ·rw [hm]
  have g0 : (n - 1) / L * L ≤ n - 1 := jS _ _
  clear hm
  generalize (n - 1) / L * L = w at *
  omega
theorem QCB {c x : Int} {l p : List Int} (h : Qej c x l = 0) (hs : ∀ v ∈ p, v ∈ l) (hp : 1 ≤ p.length) (hl : p.length ≤ l.length) (hc : (p.length : Int) % c = 0) : Qej c x p = 0 := by
 unfold Qej at h ⊢
 split at h
 ·cases h
 rename_i h1
 split at h
 ·rename_i h2; exact absurd h h2
 rename_i h2
 have h2' : QE x l = 0 := by simpa using h2
 have h3 : QE x p = 0 := by
  unfold QE at h2' ⊢
  split at h2'
  ·cases h2'
  rename_i a1
  split at h2'
  ·cases h2'
  rename_i a2
  split at h2'
  ·rename_i a3
   rw [qf a1, qf (by omega), qh (qR.2 fun v hv => qR.1 a3 v (hs v hv))]
  ·cases h2'
 rw [qf h1, qf (by rw [h3]; simp), qf (by omega)]
theorem Qb6 {c x r : Int} {l : List Int} (h : QT c x r l = 0) : ∀ p ∈ QB c r l, Qej c x p = 0 ∧ p.length ≤ 4000 ∧ 1 ≤ p.length := by
 have ha : Qej c x l = 0 := by
  have h2 := QcE (c := c) (x := x) (r := r) (l := l)
  rw [h] at h2
  by_cases h3 : Qej c x l = 0 ∧ ZX c x r (l.length / c) = 0
  ·exact h3.1
  ·rw [qf h3] at h2; cases h2
 obtain ⟨k, n, rfl, k1, k2, hlen, ⟨o1, o2, o3, o4, o5⟩, h4⟩ := ZH h
 intro p hp
 unfold QB at hp
 rw [qm, hlen, yE _ (by omega)] at hp
 obtain ⟨j, hj, rfl⟩ := qU.1 hp
 rw [jc] at hj
 have hL1 : 1 ≤ (QC r).toNat := by have := Z4 r; omega
 obtain ⟨m, p1, p2, p3, p4, p5, p6, p7⟩ := Qgw (j := j) hlen (by omega) hL1 hj
 have hm1 := Qxd (n := n) (by omega) hL1 hj
 rw [p1] at hm1
 have hlen2 : (JI ((QC r).toNat * k) l j).length = m * k := by
  rw [p6, qu, jl, hlen]
  omega
 have hmk : 1 ≤ m * k := j0 (by omega) k1
 have hmn : m * k ≤ n * k := qA _ p2
 refine ⟨QCB ha (fun v hv => ?_) (by rw [hlen2]; exact hmk) (by rw [hlen2, hlen]; exact hmn) ?_, by rw [hlen2]; omega, by rw [hlen2]; exact hmk⟩
 ·rw [p6] at hv
  exact jw (qP hv)
 ·rw [hlen2, jh, Int.mul_emod_left]
def Qn (c x r : Int) (l : List Int) (t : List Int) : List (List UInt8) := (QB c r l).map (Qhd c.toNat x t)
def Qa7 (c x r : Int) (l : List Int) (p : List UInt8) : AV :=
 if QT c x r l ≠ 0 then .tup [bss [], .int .i64 8] else if 64 < p.length then .tup [bss [], .int .i64 2] else .tup [bss (Qn c x r l (ofK (Zt 0 p) 8)), .int .i64 0]
theorem QqV (c x r : Int) (l : List Int) (p : List UInt8) : isD (Qa7 c x r l p) = true := by unfold Qa7; split <;> (try split) <;> simp [isD, isDL, Qmc]
theorem Qsp (d k : Nat) : I32 (ofK d k) := fun x hx => by
 unfold ofK at hx
 obtain ⟨i, _, rfl⟩ := qU.1 hx
 split
 ·have := QDa (d / 2 ^ (8 * i)); omega
 ·omega
def Qh7 (P : Prg) (f : Nat) : Prop := ∀ (c x r : Int) (l : List Int) (p : List UInt8), I32 l → l.length ≤ 1000000 → VC P f [clA c x r l, .str p] (Qa7 c x r l p)
set_option maxHeartbeats 1000000 in
theorem Qrt {P : Prg} {f fC fT fP fS fE fA g t0 t1 t2 t3 t4 ti : Nat} (b : QyQ P f 45 [.cell 4 t1, .cell 5 t2] (QbW fC fT fP fS fE t0 t1 t2 t3 t4)) (hC : Z1 P fC) (hT : QpM P fT) (hP : QjD g P fP) (hI : QjB ti P g) (bG : Body P g 43 [] (JD fA)) (hS : Qag P fS) (hE : QCK P fE)
  (ht1 : Zu P t1 = some none) (ht2 : Zu P t2 = some none) (h0 : t0 ≠ ti) (h1 : t1 ≠ ti) (h2 : t2 ≠ ti) (h3 : t3 ≠ ti) (h4 : t4 ≠ ti) : Qh7 P f := by
 intro c x r l p hI32 hl
 refine Qk 2 (by simp [isDL, isD, Zi, clA]) (QqV _ _ _ _ _) (ACall.of_rangeC b (by simp) ?_)
 have hC' := hC c x r l hI32 hl
 rw [il] at hC'
 have tl := Qq .i32 l
 have z : (z3L : List AV) = ks .i32 Jf := rfl
 unfold QbW
 rw [z]
 have ol := Jt .i32 Jf
 have kl0 : (ks .i32 Jf).length = 16 := rfl
 rcases QcF c x r l with h | h
 ·rw [h] at hC'
  have hT' := hT p
  simp (disch := omega) only [rq, simprocAttr, clA, il, QdY, Qgk, Qcb, Qk2, QiW, QA0]
  refine Qa hC' ?_
  simp (disch := omega) only [rq, simprocAttr, Qcb, Qk2, QdY, Qgk]
  refine Qa hT' ?_
  by_cases hp : 64 < p.length
  ·have e9 : Qa7 c x r l p = .tup [bss [], .int .i64 2] := by rw [Qa7, qf (by omega), qh hp]
   have e8 : Qep p = .tup [.agg (ks .i32 Jf), .int .i64 2] := by rw [Qep, qh hp]
   have t0' : (ks .i32 Jf).take 16 = ks .i32 Jf := rfl
   have zl : Jf.length = 16 := rfl
   have zd : (ks .i32 Jf).drop 16 = [] := rfl
   rw [e8]
   simp (disch := omega) only [rq, simprocAttr, Qcb, Qk2, QdY, Qgk, ol, kl0, t0', zl, zd, q8, e9, Q1, ht1, ht2]
   simp [QO, Qx, frzL, Qy, isDL, isD, bss]
  ·have e9 : Qa7 c x r l p = .tup [bss (Qn c x r l (ofK (Zt 0 p) 8)), .int .i64 0] := by rw [Qa7, qf (by omega), qf hp]
   have e8 : Qep p = .tup [.agg (ks .i32 (ofK (Zt 0 p) 8)), .int .i64 0] := by rw [Qep, qf hp]
   obtain ⟨T, hTe⟩ : ∃ T, ofK (Zt 0 p) 8 = T := ⟨_, rfl⟩
   have hTl : T.length = 16 := by rw [← hTe, QdA]
   have hTI : I32 T := by rw [← hTe]; exact Qsp _ _
   have oT := Jt .i32 T
   have kT : (ks .i32 T).length = 16 := by rw [Qh, hTl]
   have tT : (ks .i32 T).take 16 = ks .i32 T := qg (by omega)
   have zl : Jf.length = 16 := rfl
   have zd : (ks .i32 Jf).drop 16 = [] := rfl
   rw [hTe] at e8 e9
   have hparts := Qb6 h
   obtain ⟨k, n, rfl, k1, k2, hlen, hok, h4'⟩ := ZH h
   have hP' := hP k x r l
   have hI' := hI k n x r l k1 k2 hlen hok
   rw [clA] at hP'
   rw [il] at hP' hI'
   have hS' := hS k x r l
   rw [shA, il] at hS'
   rw [e8]
   simp (disch := omega) only [rq, simprocAttr, Qcb, Qk2, QdY, Qgk, ol, kl0, oT, kT, zl, zd, q8]
   refine Qa hP' ?_
   simp (disch := omega) only [rq, simprocAttr, QiW]
   obtain ⟨Lc, hLc⟩ : ∃ Lc, (QC r).toNat * k = Lc := ⟨_, rfl⟩
   rw [hLc] at hI'
   have hcnt : (Q2 (QC r).toNat n).length ≤ 1000 := by have := hok.2.2.2.2; rwa [qm] at this
   obtain ⟨cnt, hcn⟩ : ∃ cnt, (Q2 (QC r).toNat n).length = cnt := ⟨_, rfl⟩
   have hpo : QB k r l = (List.finRange cnt).map (fun j => JI Lc l j.1) := by
    unfold QB
    rw [qm, hlen, yE _ (by omega), hcn, hLc]
    apply yZ <;> simp
   rw [hcn] at hI' hcnt
   refine ⟨cnt, g, _, [ti], _, [(27, .fn (.func g) [] [.cell [.int .i64 k, .int .i64 x, .int .i64 r, .list l.length (ks .i32 l)]]), (2, .ref 0 1 0), (4, .ref 1 1 0), (5, .ref 2 1 0), (7, .ref 3 1 0), (9, .ref 4 1 0)],
    fun pre => [⟨t0, 4, 1, [.int .i64 k, .int .i64 x, .int .i64 r, .list l.length (ks .i32 l)], 0⟩, ⟨t1, 1, 1, [.list 0 []], 0⟩, ⟨t2, 1, 1, [.int .i64 0], 0⟩, ⟨t3, 16, 1, ks .i32 T, 0⟩, ⟨t1, 1, 1, [.own 5 pre.length], 0⟩, ⟨t4, 1, pre.length, pre.map (fun j => bs (Qhd k x T (JI Lc l j.1))), 0⟩], ?_, rfl, bG.ent, by simp [isDL, isD, Zc], hI', by omega, by omega, rfl, ?_, ?_, ?_⟩
   ·refine Le.trans (Le.virtF (p := 4) (ty := t4) (sz := 1) (by omega) rfl rfl) (Le.drop 6 2 (by omega) rfl (by simp [Am.look, Qx, frzL, Qy, frzL_T _ tl]) ?_)
    intro i z hz
    match i, hz with
    | 0, hz => cases hz; exact ⟨_, rfl, by simp [Qx, frzL, Qy, frzL_T _ tl]⟩
    | 1, hz => cases hz; exact ⟨_, rfl, by simp [Qx, frzL, Qy]⟩
    | 2, hz => cases hz; exact ⟨_, rfl, by simp [Qx, frzL, Qy]⟩
    | 3, hz => cases hz; exact ⟨_, rfl, by simp [Qx, frzL_T _ (Qq .i32 T)]⟩
    | 4, hz => cases hz; exact ⟨_, rfl, by simp [Qx, frzL, Qy]⟩
    | 5, hz => cases hz; exact ⟨_, rfl, by simp [Qx, frzL, Qy]⟩
    | i + 6, hz => simp at hz
   ·intro pre x hx
    simp only [yH, List.not_mem_nil, or_false] at hx ⊢
    rcases hx with rfl | rfl | rfl | rfl | rfl | rfl
    ·exact h0
    ·exact h1
    ·exact h2
    ·exact h3
    ·exact h1
    ·exact h4
   ·intro pre y hpl
    have hmem : JI Lc l y.1 ∈ QB k r l := by rw [hpo]; exact qU.2 ⟨y, List.mem_finRange _, rfl⟩
    obtain ⟨q1, q2, q3⟩ := hparts _ hmem
    have hqI : I32 (JI Lc l y.1) := fun v hv => hI32 v (by
     unfold JI at hv
     exact jw (qP hv))
    have hE' := hE k x T (JI Lc l y.1) hTl hTI hqI
    rw [QDt, qf (by omega), qm] at hE'
    obtain ⟨w1, w2⟩ := QxR (t := T) hqI q1
    rw [qm] at w1 w2
    have hpm : (pre.map (fun j => bs (Qhd k x T (JI Lc l j.1)))).length = pre.length := by simp
    obtain ⟨Y, hYe⟩ : ∃ Y, Qhd k x T (JI Lc l y.1) = Y := ⟨_, rfl⟩
    rw [hYe] at hE' w1 w2
    obtain ⟨Z, hZ⟩ : ∃ Z, JI Lc l y.1 = Z := ⟨_, rfl⟩
    rw [hZ] at hE' hqI q1 q2 q3 hYe ⊢
    rw [shA, il, bs] at hE'
    have tZ := Qq .i32 Z
    have tT2 := Qq .i32 T
    rw [il]
    simp (disch := omega) only [rq, simprocAttr, tT, kT]
    refine QX hS' ?_
    simp (disch := omega) only [rq, simprocAttr, tT, kT]
    refine QX hE' ?_
    simp (disch := omega) only [rq, simprocAttr, hpm]
    refine Le.drop 6 2 (by omega) rfl (by simp) ?_
    intro i z hz
    match i, hz with
    | 0, hz => cases hz; exact ⟨_, rfl, by simp [Qx, frzL, Qy, frzL_T _ tl]⟩
    | 1, hz => cases hz; exact ⟨_, rfl, by simp [Qx, frzL, Qy]⟩
    | 2, hz => cases hz; exact ⟨_, rfl, by simp [Qx, frzL, Qy]⟩
    | 3, hz => cases hz; exact ⟨_, rfl, by simp [Qx, frzL_T _ tT2]⟩
    | 4, hz => cases hz; exact ⟨_, rfl, by simp [Qx, frzL, Qy]⟩
    | 5, hz =>
     cases hz
     have e : (pre ++ [y]).map (fun j => bs (Qhd k x T (JI Lc l j.1))) = pre.map (fun j => bs (Qhd k x T (JI Lc l j.1))) ++ [.list Y.length (u8 Y)] := by
      simp only [yr, yq, Yp, hZ, hYe]
      rfl
     rw [e]
     refine ⟨_, rfl, frzL_T _ ?_⟩
     rw [← e]
     have := Qcx ((pre ++ [y]).map (fun j => Qhd k x T (JI Lc l j.1)))
     rwa [Yb] at this
    | i + 6, hz => simp at hz
   ·have hfl : (List.finRange cnt).length = cnt := by simp
    have hpi : (List.finRange cnt).map (fun j => bs (Qhd k x T (JI Lc l j.1))) = (Qn k x r l T).map bs := by
     unfold Qn
     rw [hpo, Yb, Yb, qm]
     rfl
    dsimp only
    rw [hpi, hfl, e9]
    have hpl : (Qn k x r l T).length = cnt := by unfold Qn; rw [hpo]; simp
    have tp := Qcx (Qn k x r l T)
    generalize hPP : (Qn k x r l T).map bs = PP at *
    simp (disch := omega) only [rq, simprocAttr, Q1, ht1, ht2]
    simp [QO, Qx, frzL, Qy, isDL, isD, bss, hpl, hPP, frzL_T _ tp]
 ·rw [h] at hC'
  have e9 : Qa7 c x r l p = .tup [bss [], .int .i64 8] := by rw [Qa7, qh (by omega)]
  simp (disch := omega) only [rq, simprocAttr, clA, il, QdY, Qgk, Qcb, Qk2, QiW, QA0]
  refine Qa hC' ?_
  simp (disch := omega) only [rq, simprocAttr, Qcb, Qk2, QdY, Qgk, e9, Q1, ht1, ht2]
  simp [QO, Qx, frzL, Qy, isDL, isD, bss]
theorem Qtq {L : List (List UInt8)} {k : Nat} (h : k < L.length) : (L.map bs).drop k = bs (L.getD k []) :: (L.map bs).drop (k + 1) := by
 rw [qy (by simpa using h)]
 simp [qd, qc h]
def Qtt : List AV → List Int
 | .int _ n :: r => n :: Qtt r
 | _ => []
def avP : AV → List Int
 | .tup (.list _ cs :: _) => Qtt cs
 | _ => []
def avE : AV → Int
 | .tup [_, .int _ e] => e
 | _ => 0
theorem QpI (l : List Int) : Qtt (ks .i32 l) = l := by
 induction l with
 | nil => rfl
 | cons x l ih => simp only [Qe7, Qtt, ih]
def QAr (c x : Int) (t : List Int) (n : Int) (b : List UInt8) : List Int := avP (Qvu c x t n b)
def QCq (c x : Int) (t : List Int) (n : Int) (b : List UInt8) : Int := avE (Qvu c x t n b)
def okQ (x : Int) (l : List Int) : Prop := l.length ≤ 4000 ∧ ∀ v ∈ l, inR x v = true
theorem Qzr (x : Int) (l : List Int) : ∃ (p : List Int) (e : Int), Qvs x l = .tup [il p, .int .i64 e] ∧ okQ x p := by
 unfold Qvs
 by_cases h : QE x l = 0
 ·rw [qf (by omega)]
  refine ⟨l, 0, rfl, ?_⟩
  unfold QE at h
  split at h
  ·cases h
  split at h
  ·cases h
  split at h
  ·rename_i h1 h2 h3
   exact ⟨by omega, qR.1 h3⟩
  ·cases h
 ·rw [qh h]
  exact ⟨[], _, rfl, by simp [okQ]⟩
theorem Qmj (x e : Int) : ∃ (p : List Int) (e' : Int), erA e = .tup [il p, .int .i64 e'] ∧ okQ x p := ⟨[], e, rfl, by simp [okQ]⟩
theorem QDx (c x : Int) (t : List Int) (n : Int) (b : List UInt8) : ∃ (p : List Int) (e : Int), Qvu c x t n b = .tup [il p, .int .i64 e] ∧ okQ x p := by
 unfold Qvu
 split
 ·exact Qmj _ _
 split
 ·exact Qmj _ _
 unfold QCo
 split
 ·exact Qmj _ _
 split
 ·exact Qmj _ _
 ·exact Qzr _ _
theorem QAq (c x : Int) (t : List Int) (n : Int) (b : List UInt8) : Qvu c x t n b = .tup [il (QAr c x t n b), .int .i64 (QCq c x t n b)] ∧ okQ x (QAr c x t n b) := by
 obtain ⟨p, e, h1, h2⟩ := QDx c x t n b
 have hp : QAr c x t n b = p := by rw [QAr, h1]; simp only [avP, il, QpI]
 have he : QCq c x t n b = e := by rw [QCq, h1]; rfl
 rw [hp, he]
 exact ⟨h1, h2⟩
def XP (E : Nat → Int) : Nat → Int
 | 0 => 0
 | n + 1 => if XP E n ≠ 0 then XP E n else E n
theorem Qi2 {E : Nat → Int} {k : Nat} (h : XP E k ≠ 0) : ∀ m, XP E (k + m) = XP E k
 | 0 => rfl
 | m + 1 => by
  show (if XP E (k + m) ≠ 0 then XP E (k + m) else E (k + m)) = _
  rw [Qi2 h m, qh h]
theorem QxL {E : Nat → Int} {k m : Nat} (h : XP E k = 0) (h2 : E k ≠ 0) (hm : k < m) : XP E m = E k := by
 have h3 : XP E (k + 1) = E k := by simp [XP, h]
 have h4 := Qi2 (E := E) (k := k + 1) (by rw [h3]; exact h2) (m - (k + 1))
 rw [show k + 1 + (m - (k + 1)) = m by omega, h3] at h4
 exact h4
def Qae (r n : Int) : List Int := Q2 (QC r).toNat n.toNat
def QuK (c x r n : Int) (t : List Int) (L : List (List UInt8)) (j : Nat) : Int := QCq c x t ((Qae r n).getD j 0) (L.getD j [])
def Qus (c x r n : Int) (t : List Int) (L : List (List UInt8)) (j : Nat) : List Int := QAr c x t ((Qae r n).getD j 0) (L.getD j [])
def QpP (c x r n : Int) (t : List Int) (L : List (List UInt8)) (k : Nat) : List Int := ((List.range k).map (Qus c x r n t L)).flatten
def Qi9 (c x r n : Int) (p : List UInt8) (L : List (List UInt8)) : AV :=
 if ZX c x r n ≠ 0 then .tup [clA 0 0 0 [], .int .i64 8] else if 64 < p.length then .tup [clA 0 0 0 [], .int .i64 2] else if (Qae r n).length ≠ L.length then .tup [clA 0 0 0 [], .int .i64 12] else
 if XP (QuK c x r n (ofK (Zt 0 p) 8) L) L.length ≠ 0 then .tup [clA 0 0 0 [], .int .i64 (XP (QuK c x r n (ofK (Zt 0 p) 8) L) L.length)] else .tup [clA c x r (QpP c x r n (ofK (Zt 0 p) 8) L L.length), .int .i64 0]
theorem Qxr (c x r n : Int) (p : List UInt8) (L : List (List UInt8)) : isD (Qi9 c x r n p L) = true := by
 unfold Qi9
 repeat' split
 all_goals simp [isD, isDL, Zi, clA]
theorem Qn5 (c x r n : Int) (t : List Int) (L : List (List UInt8)) (k : Nat) : QpP c x r n t L (k + 1) = QpP c x r n t L k ++ Qus c x r n t L k := by
 simp [QpP, Yj]
theorem Qv0 (c x r n : Int) (t : List Int) (L : List (List UInt8)) : ∀ k, (QpP c x r n t L k).length ≤ k * 4000
 | 0 => by simp [QpP]
 | k + 1 => by
  have h1 := Qv0 c x r n t L k
  have h2 : (Qus c x r n t L k).length ≤ 4000 := (QAq _ _ _ _ _).2.1
  rw [Qn5, qe]
  omega
theorem Qq2 {c x r n : Int} (h : ZX c x r n = 0) : okA r n ∧ Zz c x = 0 ∧ 1 ≤ n ∧ n ≤ 4000 / c := by
 unfold ZX at h
 split at h
 ·cases h
 rename_i a1
 split at h
 ·cases h
 rename_i a2
 split at h
 ·cases h
 rename_i a3
 split at h
 ·cases h
 rename_i a4
 have a5 : Zz c x = 0 := by simpa using a1
 have a6 : QhB r n = 0 := by simpa using a4
 refine ⟨?_, a5, by omega, by omega⟩
 unfold QhB at a6
 split at a6
 ·cases a6
 split at a6
 ·cases a6
 split at a6
 ·cases a6
 rename_i b1 b2 b3
 refine ⟨by omega, by omega, by omega, by omega, ?_⟩
 have hlong : 1 ≤ QC r := Z4 r
 obtain ⟨L, hLe⟩ : ∃ L : Nat, QC r = L := ⟨(QC r).toNat, by omega⟩
 obtain ⟨m, rfl⟩ : ∃ m : Nat, n = m := ⟨n.toNat, by omega⟩
 rw [hLe, qm, qm, ZL]
 rw [hLe] at b3
 have h1 : (m : Int) + (L : Int) - 1 = ((m - 1 + L : Nat) : Int) := by omega
 rw [h1, ← yC, jN _ (by omega)] at b3
 omega
theorem RepL.split {X : Cx} : ∀ {cs bs : List AV} {vs : List Value}, RepL X (cs ++ bs) vs → ∃ us ws, vs = us ++ ws ∧ RepL X cs us ∧ RepL X bs ws
 | [], bs, vs, h => ⟨[], vs, rfl, by simp [RepL], h⟩
 | a :: cs, bs, vs, h => by
  simp only [yc, RepL] at h
  obtain ⟨v, rest, rfl, h1, h2⟩ := h
  obtain ⟨us, ws, rfl, h3, h4⟩ := RepL.split h2
  exact ⟨v :: us, ws, rfl, by simp only [RepL]; exact ⟨v, us, rfl, h1, h3⟩, h4⟩
theorem Le.virtI {M : Nat} {fr : List (Nat × AV)} {ob : List Ob} (p ty sz : Nat) {x : Ob} {z : Bool} {pre rest : List AV} (h0 : sz ≠ 0) (hp : ob[p]? = some x) (hx : x.cs = pre ++ .emp z :: rest) :
  Le M ⟨fr, ob⟩ ⟨fr, ob.set p { x with cs := pre ++ .own ob.length 0 :: rest } ++ [⟨ty, sz, 0, [], 0⟩]⟩ := by
 intro Γ a w hX ⟨q1, q2, q3, be, g, hm, hfr0⟩
 obtain ⟨g1, m1⟩ := g.empty ty sz
 have hpl : p < ob.length := (qa.1 hp).1
 have hp1 : (ob ++ [(⟨ty, sz, 0, [], 0⟩ : Ob)])[p]? = some x := by rw [qp hpl]; exact hp
 have hl : be.length = ob.length := g.len
 obtain ⟨g2, m2, _⟩ := g1.retell hp1 (pre ++ .own ob.length 0 :: rest) (by rw [hx]; simp) (fun vs hv => by
  rw [hx] at hv
  obtain ⟨us, ws, rfl, h1, h2⟩ := RepL.split hv
  refine h1.append ?_
  simp only [RepL] at h2 ⊢
  obtain ⟨v, r, rfl, hv, h2⟩ := h2
  refine ⟨v, r, rfl, ?_, h2⟩
  simp only [Rep] at hv ⊢
  obtain ⟨a', e, _⟩ := hv
  refine ⟨⟨⟨ty, sz, 0, [], 0⟩, by simp, h0, qo _, fun _ => ?_⟩, by rw [e]; rfl⟩
  simp only [OwnV]
  rw [show ob.length = be.length from hl.symm]
  simp [e])
 have e1 : (ob ++ [(⟨ty, sz, 0, [], 0⟩ : Ob)]).set p { x with cs := pre ++ .own ob.length 0 :: rest } = ob.set p { x with cs := pre ++ .own ob.length 0 :: rest } ++ [⟨ty, sz, 0, [], 0⟩] := jk _ _ hpl
 rw [← e1]
 exact ⟨q1, q2, q3, _, g2, hm.trans (m1.trans m2), fun i => Rep.move m2 _ _ (Rep.move m1 _ _ (hfr0 i))⟩
def ph3 : Ob := ⟨1, 1, 0, [], 0⟩
theorem Held.fill {B : Nat} {w : World} {ob : List Ob} {be : List (Option (Nat × Nat))} {C : Nat → Nat → Prop} {o : Nat} (g : Held B ⟨w, ob, be, C⟩) (ho : ob[o]? = some ph2) :
  Held B ⟨w, ob.set o ph3, be.set o none, C⟩ ∧ Moves ⟨w, ob, be, C⟩ ⟨w, ob.set o ph3, be.set o none, C⟩ := by
 have hol : o < ob.length := (qa.1 ho).1
 have hlen : be.length = ob.length := g.len
 have hav : ∀ b k, (Cx.mk w (ob.set o ph3) (be.set o none) C).av b k → (Cx.mk w ob be C).av b k := by
  rintro b k (h | ⟨o', x, c, h1, h2, h3⟩)
  ·exact .inl h
  ·simp only [qE] at h1 h2
   by_cases e : o = o'
   ·subst e; simp [hlen, hol] at h2
   ·simp [e] at h1 h2
    exact .inr ⟨o', x, c, h1, h2, h3⟩
 have m : Moves ⟨w, ob, be, C⟩ ⟨w, ob.set o ph3, be.set o none, C⟩ := by
  refine ⟨fun b k v hc ha => ⟨hc, fun h => ha (hav b k h)⟩, fun o' x hx => ?_, fun b hb hf => ⟨rfl, fun o' c h => ?_⟩⟩
  ·by_cases e : o = o'
   ·subst e
    have hx' : ob[o]? = some x := hx
    rw [ho] at hx'; cases hx'
    exact ⟨ph3, by simp [hol], qo _, fun h => absurd rfl h⟩
   ·exact ⟨x, by simp only [qE, e, qI]; exact hx, qo _, fun h => ⟨h, fun _ => by simp only [qE, e, qI]⟩⟩
  ·simp only [qE] at h
   by_cases e : o = o'
   ·subst e; simp [hlen, hol] at h
   ·simp [e] at h; exact hf o' c h
 refine ⟨⟨by simp [hlen], fun o' x e' hx he => ?_, fun o1 o2 b c c' q1 q2 => ?_, fun o1 b c q => ?_, g.bnd, g.size⟩, m⟩
 ·simp only [qE] at hx he
  by_cases e : o = o'
  ·subst e
   simp [hlen, hol] at hx he
   subst hx; subst he
   exact ⟨rfl, rfl⟩
  ·simp [e] at hx he
   exact (g.ok o' x e' hx he).move m fun _ _ _ => rfl
 ·simp only [qE] at q1 q2
  by_cases e : o = o1
  ·subst e; simp [hlen, hol] at q1
  ·by_cases e2 : o = o2
   ·subst e2; simp [hlen, hol] at q2
   ·simp [e] at q1; simp [e2] at q2
    exact g.inj o1 o2 b c c' q1 q2
 ·simp only [qE] at q
  by_cases e : o = o1
  ·subst e; simp [hlen, hol] at q
  ·simp [e] at q; exact g.base o1 b c q
theorem ACall.fill {P : Prg} {f : FuncId} {avs : List AV} {r : AV} {ob : List Ob} {o : Nat} (ho : ob[o]? = some ph2) (h : ACall P f avs ob (fun r' ob' => r' = r ∧ ob' = ob)) : ACall P f avs ob (fun r' ob' => r' = r ∧ ob' = ob.set o ph3) := by
 obtain ⟨hE, h⟩ := h
 refine ⟨hE, fun B w be C vs g hG hr => (h B w be C vs g hG hr).mono ?_⟩
 rintro e w' ⟨v, r', ob', be', rfl, hb, hh, hm, hv, rfl, rfl⟩
 obtain ⟨g1, m1⟩ := hh.fill ho
 exact ⟨v, r', _, _, rfl, hb, g1, hm.trans m1, Rep.move m1 _ _ hv, rfl, rfl⟩
theorem Qa9.own {P : Prg} {B : Nat} {Q : Exit → St → Prop} {f : FuncId} {avs : List AV} {r : AV} {ob : List Ob} (o : Nat) (he : Enters P f) (h : ∀ ob', ob'[o]? = some ph2 → ACall P f avs ob' (fun r' ob'' => r' = r ∧ ob'' = ob')) (ho : ob[o]? = some ph2)
  {xs : List It} {fr : List (Nat × AV)} {dst : Option Nat} (hK : Qb3 P B xs Q ⟨ZQ fr dst r, ob.set o ph3⟩) : Qa9 P B false 0 f avs xs Q fr ob dst := by
 refine Qa9.at (r := r) o ph3 he (fun ob' h' => ACall.fill h' (h ob' h')) ho (by decide) ?_
 simp only [app, qh (qa.1 ho).1]
 exact hK
theorem Le.padE {M : Nat} {fr : List (Nat × AV)} {ob : List Ob} : Le M ⟨fr, ob⟩ ⟨fr, ob ++ [ph2]⟩ := by
 intro Γ a w hX ⟨q1, q2, q3, be, g, hm, hfr0⟩
 obtain ⟨g1, m1⟩ := g.empty 1 0
 exact ⟨q1, q2, q3, _, g1, hm.trans m1, fun i => Rep.move m1 _ _ (hfr0 i)⟩
theorem Qwo {P : Prg} {f t0 t1 : Nat} (bd : Body P f 8 [.cell 2 t1] (XN t0 t1)) (ht : Zu P t1 = some (some 2)) (c x r : Int) (i k : Nat) (ob : List Ob) : ACall P f [.agg [.int .i64 c, .int .i64 x, .int .i64 r, .own i k]] ob (fun r' ob' => r' = shA c x ∧ ob' = ob) := by
 refine ACall.withLow bd.ent fun hl => ACall.low (Qb bd (by simp) ?_)
 simp (disch := omega) only [rq, simprocAttr, XN, qj, yc, qX, QD2, Qxw, QDX, QBJ, Q1, ht, shA, QL]
 exact ⟨ob, [_, _], rfl, qo _, hl, by simp [JG, lowL], rfl⟩
def QEC (L : List (List UInt8)) : Prop := L.length ≤ 1000000 ∧ ∀ j, (L.getD j []).length ≤ 1000000
def Qnr (P : Prg) (f : Nat) : Prop := ∀ (c x r : Int) (l : List Int) (p : List UInt8) (n : Int) (L : List (List UInt8)), QEC L → VC P f [clA c x r l, .str p, .int .i64 n, bss L] (Qi9 c x r n p L)
set_option maxHeartbeats 2000000 in
theorem QCv {P : Prg} {f fH fT fA fS fD t0 t1 t2 t3 t4 ti : Nat} (bd : Body P f 79 [.cell 8 t0, .tmp 9] (QgP fH fT fA fS fD t0 t1 t2)) (hH : Qnt P fH) (hT : QpM P fT) (hA : QpN ti P fA) (bS : Body P fS 8 [.cell 2 t3] (XN t4 t3)) (ht3 : Zu P t3 = some (some 2)) (hD : Qh9 P fD) (ht : Zu P t0 = some (some 4)) : Qnr P f := by
 intro c x r l p n L ⟨hL1, hL2⟩
 refine Qk 2 (by simp [isDL, isD, Zi, clA, Qmc]) (Qxr _ _ _ _ _ _) (Qb bd (by simp) ?_)
 have hH' := hH c x r n l
 rw [il] at hH'
 have tl := Qq .i32 l
 have z : (z3L : List AV) = ks .i32 Jf := rfl
 unfold QgP
 rw [z]
 have ol := Jt .i32 Jf
 have kl0 : (ks .i32 Jf).length = 16 := rfl
 have t0' : (ks .i32 Jf).take 16 = ks .i32 Jf := rfl
 have zl : Jf.length = 16 := rfl
 have zd : (ks .i32 Jf).drop 16 = [] := rfl
 rcases Qk3 c x r n with h | h
 ·have e9 : Qi9 c x r n p L = .tup [clA 0 0 0 [], .int .i64 8] := by rw [Qi9, qh (by omega)]
  rw [h] at hH'
  simp (disch := omega) only [rq, simprocAttr, clA, il, bss]
  refine Qa hH' ?_
  simp (disch := omega) only [rq, simprocAttr, Q1, ht, e9]
  simp [QO, Qx, frzL, Qy, isDL, isD, clA, il, ks]
 rw [h] at hH'
 have hT' := hT p
 obtain ⟨hok, hec, hn1, hn4⟩ := Qq2 h
 simp (disch := omega) only [rq, simprocAttr, clA, il, bss]
 refine Qa hH' ?_
 simp (disch := omega) only [rq, simprocAttr]
 refine Qa hT' ?_
 by_cases hp : 64 < p.length
 ·have e9 : Qi9 c x r n p L = .tup [clA 0 0 0 [], .int .i64 2] := by rw [Qi9, qf (by omega), qh hp]
  have e8 : Qep p = .tup [.agg (ks .i32 Jf), .int .i64 2] := by rw [Qep, qh hp]
  rw [e8]
  simp (disch := omega) only [rq, simprocAttr, ol, kl0, t0', zl, zd, q8, Q1, ht, e9]
  simp [QO, Qx, frzL, Qy, isDL, isD, clA, il, ks]
 have e8 : Qep p = .tup [.agg (ks .i32 (ofK (Zt 0 p) 8)), .int .i64 0] := by rw [Qep, qf hp]
 have e9 : Qi9 c x r n p L = if (Qae r n).length ≠ L.length then .tup [clA 0 0 0 [], .int .i64 12] else
   if XP (QuK c x r n (ofK (Zt 0 p) 8) L) L.length ≠ 0 then .tup [clA 0 0 0 [], .int .i64 (XP (QuK c x r n (ofK (Zt 0 p) 8) L) L.length)] else .tup [clA c x r (QpP c x r n (ofK (Zt 0 p) 8) L L.length), .int .i64 0] := by
  rw [Qi9, qf (by omega), qf hp]
 obtain ⟨T, hTe⟩ : ∃ T, ofK (Zt 0 p) 8 = T := ⟨_, rfl⟩
 have hTl : T.length = 16 := by rw [← hTe, QdA]
 have hTI : I32 T := by rw [← hTe]; exact Qsp _ _
 have oT := Jt .i32 T
 have kT : (ks .i32 T).length = 16 := by rw [Qh, hTl]
 have tT : (ks .i32 T).take 16 = ks .i32 T := qg (by omega)
 have tT2 := Qq .i32 T
 rw [hTe] at e8 e9
 have hA' := hA r n hok
 have hln : Q2 (QC r).toNat n.toNat = Qae r n := rfl
 have hl1000 : (Qae r n).length ≤ 1000 := hok.2.2.2.2
 rw [hln] at hA'
 rw [e8]
 simp (disch := omega) only [rq, simprocAttr, ol, kl0, oT, kT, zl, zd, q8]
 refine QcI.vo hA' ?_
 simp (disch := omega) only [rq, simprocAttr, shr]
 by_cases hlen : (Qae r n).length = L.length
 case neg =>
  rw [qh hlen] at e9
  simp (disch := omega) only [rq, simprocAttr, hlen, Q1, ht, e9]
  simp [QO, Qx, frzL, Qy, isDL, isD, clA, il, ks]
 rw [qf (by simpa using hlen)] at e9
 have kn : (ks .i64 (Qae r n)).length = L.length := by rw [Qh, hlen]
 have hml : (L.map bs).length = L.length := by simp
 rw [hlen] at hl1000 ⊢
 simp (disch := omega) only [rq, simprocAttr]
 refine Qg (ι := Nat) (fun k => ⟨[(51, .int .i64 k), (50, .int .i64 L.length), (49, .list L.length (L.map bs)), (13, .own 3 L.length), (11, .ref 2 1 0), (8, .ref 1 1 0), (4, .ref 0 1 0)],
   [⟨t0, 4, 1, [.int .i64 c, .int .i64 x, .int .i64 r, .own 4 (QpP c x r n T L k).length], 0⟩, ⟨t0, 4, 1, [.int .i64 0, .int .i64 0, .int .i64 0, .list 0 []], 0⟩, ⟨t1, 16, 1, ks .i32 T, 0⟩, ⟨ti, 1, L.length, ks .i64 (Qae r n), 0⟩, ⟨t2, 1, (QpP c x r n T L k).length, ks .i32 (QpP c x r n T L k), 0⟩, ph2]⟩)
  (fun k => k ≤ L.length ∧ XP (QuK c x r n T L) k = 0) (fun k => L.length - k) 0 ?_ ⟨by omega, rfl⟩ ?_
 ·refine Le.trans (Le.virtI (p := 0) (ty := t2) (sz := 1) (pre := [.int .i64 c, .int .i64 x, .int .i64 r]) (by omega) rfl rfl) (Le.trans (Le.drop 5 2 (ob' := [⟨t0, 4, 1, [.int .i64 c, .int .i64 x, .int .i64 r, .own 4 0], 0⟩, ⟨t0, 4, 1, [.int .i64 0, .int .i64 0, .int .i64 0, .list 0 []], 0⟩, ⟨t1, 16, 1, ks .i32 T, 0⟩, ⟨ti, 1, L.length, ks .i64 (Qae r n), 0⟩, ⟨t2, 1, 0, [], 0⟩])
   (fr' := [(51, .int .i64 0), (50, .int .i64 L.length), (49, .list L.length (L.map bs)), (13, .own 3 L.length), (11, .ref 2 1 0), (8, .ref 1 1 0), (4, .ref 0 1 0)]) (by omega) rfl (by simp [Am.look, Qx, frzL, Qy, frzL_T _ (Qcx L)]) ?_) Le.padE)
  intro i z hz
  match i, hz with
  | 0, hz => cases hz; exact ⟨_, rfl, by simp [Qx, frzL, Qy]⟩
  | 1, hz => cases hz; exact ⟨_, rfl, by simp [Qx, frzL, Qy]⟩
  | 2, hz => cases hz; exact ⟨_, rfl, by simp [Qx, frzL_T _ tT2]⟩
  | 3, hz => cases hz; exact ⟨_, rfl, by simp [Qx, frzL_T _ (Qq .i64 _)]⟩
  | 4, hz => cases hz; exact ⟨_, rfl, by simp [Qx, frzL]⟩
  | i + 5, hz => simp at hz
 intro k ⟨hk, hfe⟩
 have hsl := Qv0 c x r n T L k
 have ksl := Qh .i32 (QpP c x r n T L k)
 by_cases hlt : k < L.length
 ·have e1 := Qtq (L := L) (k := k) hlt
  have hk2 : (k : Int) < L.length := by omega
  have la : (ks .i64 (Qae r n)).drop k = .int .i64 ((Qae r n).getD k 0) :: (ks .i64 (Qae r n)).drop (k + 1) := by
   have h := Qca (K := .i64) (l := Qae r n) (i := k) (by omega)
   rw [← JU] at h
   exact h
  have hD' := hD c x ((Qae r n).getD k 0) T (L.getD k []) hTl hTI (hL2 k)
  obtain ⟨d1, d2⟩ := QAq c x T ((Qae r n).getD k 0) (L.getD k [])
  rw [d1, shA] at hD'
  have hsu := Qn5 c x r n T L k
  have hpo : Qus c x r n T L k = QAr c x T ((Qae r n).getD k 0) (L.getD k []) := rfl
  have heo : QuK c x r n T L k = QCq c x T ((Qae r n).getD k 0) (L.getD k []) := rfl
  rw [hpo] at hsu
  rw [← heo] at hD'
  obtain ⟨d3, d4⟩ := d2
  generalize QAr c x T ((Qae r n).getD k 0) (L.getD k []) = pt at *
  generalize QpP c x r n T L k = su at *
  have kp := Qh .i32 pt
  simp (disch := omega) only [rq, simprocAttr, e1, hml, tT, kT]
  refine Qa9.ro (fun K hK => (Qwo bS ht3 c x r 4 _ _).mono (by rintro _ _ ⟨rfl, rfl⟩; exact hK)) ?_
  simp (disch := omega) only [rq, simprocAttr, tT, kT, la, kn, shA, e1]
  refine QX hD' ?_
  by_cases he : QuK c x r n T L k = 0
  ·rw [he]
   have hfe1 : XP (QuK c x r n T L) (k + 1) = 0 := by
    show (if XP (QuK c x r n T L) k ≠ 0 then _ else _) = _
    rw [hfe, qf (by simp), he]
   have kss : ks .i32 su ++ ks .i32 pt = ks .i32 (su ++ pt) := QfT _ _ _
   simp (disch := omega) only [rq, simprocAttr, il, ksl, kp, kss]
   refine ⟨k + 1, ⟨by omega, hfe1⟩, by omega, ?_⟩
   rw [hsu]
   refine Le.trans (Le.drop 5 2 (ob' := [⟨t0, 4, 1, [.int .i64 c, .int .i64 x, .int .i64 r, .own 4 (su ++ pt).length], 0⟩, ⟨t0, 4, 1, [.int .i64 0, .int .i64 0, .int .i64 0, .list 0 []], 0⟩, ⟨t1, 16, 1, ks .i32 T, 0⟩, ⟨ti, 1, L.length, ks .i64 (Qae r n), 0⟩, ⟨t2, 1, (su ++ pt).length, ks .i32 (su ++ pt), 0⟩])
    (fr' := [(51, .int .i64 (k + 1 : Nat)), (50, .int .i64 L.length), (49, .list L.length (L.map bs)), (13, .own 3 L.length), (11, .ref 2 1 0), (8, .ref 1 1 0), (4, .ref 0 1 0)]) (by omega) rfl (by simp [Am.look, Qx, frzL, Qy, frzL_T _ (Qcx L)]) ?_) Le.padE
   intro i z hz
   match i, hz with
   | 0, hz => cases hz; exact ⟨_, rfl, by simp [Qx, frzL, Qy]⟩
   | 1, hz => cases hz; exact ⟨_, rfl, by simp [Qx, frzL, Qy]⟩
   | 2, hz => cases hz; exact ⟨_, rfl, by simp [Qx, frzL_T _ tT2]⟩
   | 3, hz => cases hz; exact ⟨_, rfl, by simp [Qx, frzL_T _ (Qq .i64 _)]⟩
   | 4, hz => cases hz; exact ⟨ks .i32 (su ++ pt), by simp, by simp [Qx, frzL_T _ (Qq .i32 _)]⟩
   | i + 5, hz => simp at hz
  ·have hfE : XP (QuK c x r n T L) L.length = QuK c x r n T L k := QxL hfe he hlt
   rw [hfE, qh he] at e9
   simp (disch := omega) only [rq, simprocAttr, Q1, ht, e9]
   simp [QO, Qx, frzL, Qy, isDL, isD, clA, il, ks]
 ·obtain rfl : k = L.length := by omega
  rw [qf (by simpa using hfe)] at e9
  have ts := Qq .i32 (QpP c x r n T L L.length)
  generalize QpP c x r n T L L.length = su at *
  simp (disch := omega) only [rq, simprocAttr, Q1, ht, e9]
  simp [QO, Qx, frzL, Qy, isDL, isD, clA, il, frzL_T _ ts]
def Qsm (P : Prg) (f : Nat) : Prop := VC P f [] (.bool true)
theorem QCt {r : Int} {n : Nat} (h1 : 1 ≤ r) (h2 : r ≤ 1048576) (h3 : 1 ≤ n) (h4 : n ≤ 4000) (h5 : (Q2 (QC r).toNat n).length ≤ 1000) : QhB r n = 0 := by
 unfold QhB
 rw [qf (by omega), qf (by omega), qf]
 have hlong : 1 ≤ QC r := Z4 r
 obtain ⟨L, hLe⟩ : ∃ L : Nat, QC r = L := ⟨(QC r).toNat, by omega⟩
 rw [hLe, qm, ZL] at h5
 have h6 : (n : Int) + (L : Int) - 1 = ((n - 1 + L : Nat) : Int) := by omega
 rw [hLe, h6, ← yC, jN _ (by omega)]
 omega
theorem QwW {c x r : Int} {l : List Int} (h : QT c x r l = 0) : ∀ j, j < (QB c r l).length → QT c x r ((QB c r l).getD j []) = 0 ∧ QB c r ((QB c r l).getD j []) = [(QB c r l).getD j []] ∧
  (((QB c r l).getD j []).length : Int) = (Q2 (QC r).toNat (l.length / c.toNat)).getD j 0 * c := by
 intro j hj
 have hall := Qb6 h
 have hmem : (QB c r l).getD j [] ∈ QB c r l := by rw [qd, qc hj]; exact ye _
 obtain ⟨q1, q2, q3⟩ := hall _ hmem
 obtain ⟨k, n, rfl, k1, k2, hlen, ⟨o1, o2, o3, o4, o5⟩, h4⟩ := ZH h
 have hpl := QaZ k r l
 rw [qm] at hpl ⊢
 rw [hlen, yE _ (by omega)] at hpl ⊢
 rw [hpl] at hj
 have hL1 : 1 ≤ (QC r).toNat := by have := Z4 r; omega
 obtain ⟨m, p1, p2, p3, p4, p5, p6, p7⟩ := Qgw (j := j) hlen (by omega) hL1 hj
 have hm1 := Qxd (n := n) (by omega) hL1 hj
 rw [p1] at hm1
 have hg : (QB k r l).getD j [] = JI ((QC r).toNat * k) l j := by
  unfold QB
  rw [qm, hlen, yE _ (by omega), qd, qH, jU hj]
  rfl
 rw [hg] at q1 q2 q3 ⊢
 have hpl2 : (JI ((QC r).toNat * k) l j).length = m * k := by rw [p6, qu, jl, hlen]; omega
 have hmL : m * k ≤ (QC r).toNat * k := by
  have : (JI ((QC r).toNat * k) l j).length ≤ (QC r).toNat * k := by unfold JI; rw [qu]; omega
  omega
 have hmL2 : m ≤ (QC r).toNat := Nat.le_of_mul_le_mul_right hmL (by omega)
 have hone : Q2 (QC r).toNat m = [(m : Int)] := by
  have e : (m - 1) / (QC r).toNat = 0 := y7 (by omega)
  unfold Q2
  rw [e]
  simp
 refine ⟨?_, ?_, ?_⟩
 ·rw [QcE, q1, hpl2]
  have e1 : ((m * k : Nat) : Int) / (k : Int) = (m : Int) := by rw [jh, jz _ (by omega)]
  rw [e1, QgB]
  have a1 : X2 k x m = 0 := by
   have h' := QcE (c := (k : Int)) (x := x) (r := r) (l := l)
   rw [h] at h'
   have hh : ZX k x r (l.length / (k : Int)) = 0 := by
    by_cases h9 : Qej k x l = 0 ∧ ZX k x r (l.length / (k : Int)) = 0
    ·exact h9.2
    ·rw [qf h9] at h'; cases h'
   rw [hlen, jh, jz _ (by omega)] at hh
   obtain ⟨_, a2, a3, a4⟩ := Qq2 hh
   unfold X2
   rw [qf (by omega), qf (by omega), qf (by omega)]
  have a2 : QhB r m = 0 := QCt o1 o2 (by omega) (by omega) (by rw [hone]; simp)
  rw [a1, a2]
  simp
 ·unfold QB
  rw [qm, hpl2, yE _ (by omega), hone]
  simp only [qJ, yg, yB, List.range_one, yq, Yp, List.cons.injEq, and_true]
  show ((JI ((QC r).toNat * k) l j).drop (0 * _)).take _ = _
  rw [Yn, yJ, qg (by rw [hpl2]; exact hmL)]
 ·rw [hpl2, p1, jh]
theorem QoM {c x r : Int} {l : List Int} {p : List UInt8} (h : QT c x r l = 0) (hp : ¬ 64 < p.length) : Qa7 c x r l p = .tup [bss (Qn c x r l (ofK (Zt 0 p) 8)), .int .i64 0] := by rw [Qa7, qf (by omega), qf hp]
theorem Xo (c x r : Int) (l T : List Int) : (Qn c x r l T).length = (QB c r l).length := by unfold Qn; simp
theorem callE.vo {P : Prg} {B k : Nat} {Q : Exit → St → Prop} {f : FuncId} {ds : List AV} {r : AV} {x : Ob} (h : VO P f ds r x) {ob : List Ob} (o : Nat) (ho : ob[o]? = some ph2) {xs : List It} {fr : List (Nat × AV)} {dst : Option Nat} (hK : Qb3 P B xs Q ⟨ZQ fr dst (shr o r), ob.set o x⟩) : Qa9 P B true k f ds xs Q fr ob dst := by
 have hl : o < ob.length := (qa.1 ho).1
 have ha : app ob (some (o, x)) = ob.set o x := by simp [app, hl]
 refine ⟨shr o r, some (o, x), ?_, by rw [ha]; exact hK⟩
 unfold QaQ
 rw [qh rfl]
 refine ⟨ACall.of_vo_at h ho ⟨rfl, by rw [ha]⟩, fun o' y e => ?_⟩
 cases e
 exact ⟨ph2, ho, by simp [ph2, ph]⟩
theorem Qmu (c x : Int) (t : List Int) (n : Int) (b : List UInt8) : QAr c x t n b = QCp c x t n b ∧ QCq c x t n b = QA7 c x t n b := by
 have h := (QBc c x n t b).1
 have h2 := (QAq c x t n b).1
 rw [h2] at h
 unfold QAr QCq
 rw [(QBc c x n t b).1]
 refine ⟨?_, rfl⟩
 simp only [avP, il, QpI]
theorem Qi1 {E : Nat → Int} : ∀ k, (∀ j, j < k → E j = 0) → XP E k = 0
 | 0, _ => rfl
 | k + 1, h => by
  show (if XP E k ≠ 0 then XP E k else E k) = 0
  rw [qf (by rw [Qi1 k fun j hj => h j (by omega)]; simp), h k (by omega)]
theorem Qlc {c x r : Int} {l : List Int} (h : QT c x r l = 0) : Qej c x l = 0 ∧ ZX c x r (l.length / c) = 0 := by
 have h' := QcE (c := c) (x := x) (r := r) (l := l)
 rw [h] at h'
 by_cases h9 : Qej c x l = 0 ∧ ZX c x r (l.length / c) = 0
 ·exact h9
 ·rw [qf h9] at h'; cases h'
theorem Ql8 {c x r : Int} {l : List Int} (h : QT c x r l = 0) : Qae r (l.length / c) = Q2 (QC r).toNat (l.length / c.toNat) := by
 obtain ⟨k, n, rfl, k1, k2, hlen, hok, h4⟩ := ZH h
 unfold Qae
 rw [qm, hlen, ← yC, qm]
theorem QDc {α : Type} (d : α) : ∀ l : List α, (List.range l.length).map (fun j => l.getD j d) = l := fun l => by
 apply yZ
 ·simp
 ·intro i h1 h2
  simp [qd, qc h2]
theorem QsR {c x r : Int} {l : List Int} (h : QT c x r l = 0) (hI : I32 l) (j : Nat) : I32 ((QB c r l).getD j []) := fun v hv => by
 rcases yM j (QB c r l).length with hj | hj
 ·refine hI v ?_
  rw [← Qb7 h]
  refine List.mem_flatten.2 ⟨_, ?_, hv⟩
  rw [qd, qc hj]
  exact ye _
 ·rw [qd, qY hj] at hv
  simp at hv
theorem QoO {c x r : Int} {l T : List Int} {j : Nat} (hj : j < (QB c r l).length) : (Qn c x r l T).getD j [] = Qhd c.toNat x T ((QB c r l).getD j []) := by
 unfold Qn
 rw [qd, qd, qH, qc hj]
 rfl
theorem QiZ {c x r : Int} {l T : List Int} (h : QT c x r l = 0) (hI : I32 l) {j : Nat} (hj : j < (QB c r l).length) :
  QA7 c x T ((Qae r (l.length / c)).getD j 0) ((Qn c x r l T).getD j []) = 0 ∧ QCp c x T ((Qae r (l.length / c)).getD j 0) ((Qn c x r l T).getD j []) = (QB c r l).getD j [] := by
 obtain ⟨p1, p2, p3⟩ := QwW h j hj
 have hmem : (QB c r l).getD j [] ∈ QB c r l := by rw [qd, qc hj]; exact ye _
 obtain ⟨q1, q2, q3⟩ := Qb6 h _ hmem
 obtain ⟨k, n, hk, k1, k2, _⟩ := ZH h
 have e : (((QB c r l).getD j []).length : Int) / c = (Qae r (l.length / c)).getD j 0 := by
  rw [p3, Ql8 h, jz _ (by omega)]
 have hd := QCn (t := T) (QsR h hI j) q1
 rw [QoO hj, ← e]
 exact hd
theorem QBS {c x r : Int} {l : List Int} {p : List UInt8} (h : QT c x r l = 0) (hI : I32 l) (hp : ¬ 64 < p.length) :
  Qi9 c x r (l.length / c) p (Qn c x r l (ofK (Zt 0 p) 8)) = .tup [clA c x r l, .int .i64 0] := by
 generalize hT : ofK (Zt 0 p) 8 = T
 have hl1 := Xo c x r l T
 have hl2 : (Qae r (l.length / c)).length = (Qn c x r l T).length := by rw [hl1, Ql8 h, QaZ]
 have he : ∀ j, j < (Qn c x r l T).length → QuK c x r (l.length / c) T (Qn c x r l T) j = 0 := fun j hj => by
  unfold QuK
  rw [(Qmu _ _ _ _ _).2]
  exact (QiZ h hI (by omega)).1
 have hs : QpP c x r (l.length / c) T (Qn c x r l T) (Qn c x r l T).length = l := by
  unfold QpP
  have e1 : (List.range (Qn c x r l T).length).map (Qus c x r (l.length / c) T (Qn c x r l T)) = QB c r l := by
   rw [hl1]
   refine Eq.trans (yp (fun j hj => ?_)) (QDc [] (QB c r l))
   unfold Qus
   rw [(Qmu _ _ _ _ _).1]
   exact (QiZ h hI (jc.1 hj)).2
  rw [e1]
  exact Qb7 h
 unfold Qi9
 rw [hT, qf (by rw [(Qlc h).2]; simp), qf hp, qf (by omega), qf (by rw [Qi1 _ he]; simp), hs]
theorem QoN {c x r : Int} {l T : List Int} (h : QT c x r l = 0) (hI : I32 l) : QEC (Qn c x r l T) := by
 have h1 := Xo c x r l T
 have h2 := Qb8 h
 refine ⟨by omega, fun j => ?_⟩
 rcases yM j (QB c r l).length with hj | hj
 ·rw [QoO hj]
  have hmem : (QB c r l).getD j [] ∈ QB c r l := by rw [qd, qc hj]; exact ye _
  have := (QxR (t := T) (QsR h hI j) (Qb6 h _ hmem).1).1
  omega
 ·rw [qd, qY (by omega)]; exact jt _
theorem Qop {c x r : Int} {l : List Int} (h : QT c x r l = 0) (hI : I32 l) : ∀ q ∈ QB c r l, I32 q := fun q hq v hv => hI v (by rw [← Qb7 h]; exact List.mem_flatten.2 ⟨q, hq, hv⟩)
def Qsg (P : Prg) (f : Nat) : Prop := ∀ p : List UInt8, VC P f [.str p] (if 64 < p.length then .tup [.int .u64 0, .int .i64 2] else .tup [.int .u64 (Zt 0 p), .int .i64 0])
theorem Qx0 {P : Prg} {f fS : Nat} (bd : Body P f 16 [.tmp 2, .tmp 3] (QbD fS)) (hS : QtA P fS) : Qsg P f := by
 intro p
 refine Qv rfl (by split <;> rfl) bd ?_
 by_cases h : 64 < p.length
 ·rw [qh h]
  simp (disch := omega) only [rq, simprocAttr, QbD]
 ·have hS' := hS p
  rw [qf (by omega)] at hS'
  rw [qf h]
  rw [bs] at hS'
  simp (disch := omega) only [rq, simprocAttr, QbD]
  refine Qa hS' ?_
  simp (disch := omega) only [rq, simprocAttr]
def QBb (p : List UInt8) : AV := if 64 < p.length then .tup [.list 0 [], .int .i64 2] else .tup [bs (leB (Zt 0 p) 8), .int .i64 0]
theorem QCa (p : List UInt8) : isD (QBb p) = true := by unfold QBb; split <;> simp [isD, isDL, QD]
def Qeo (P : Prg) (f : Nat) : Prop := ∀ p : List UInt8, VC P f [.str p] (QBb p)
theorem Qo4 {P : Prg} {f fO fB : Nat} (bd : Body P f 18 [.tmp 2, .tmp 3] (JB fO fB)) (hO : Qsg P fO) (hB : X7 P fB) : Qeo P f := by
 intro p
 refine Qk 1 rfl (QCa p) (Qb bd (by simp) ?_)
 have hO' := hO p
 by_cases h : 64 < p.length
 ·rw [qh h] at hO'
  rw [QBb, qh h]
  simp (disch := omega) only [rq, simprocAttr, JB]
  refine Qa hO' ?_
  simp (disch := omega) only [rq, simprocAttr]
  simp [QO, Qx, frzL, Qy]
 ·rw [qf h] at hO'
  have hB' := hB (Zt 0 p) 8 (by omega) (by omega) (QlZ (by decide))
  have tb := QF (leB (Zt 0 p) 8)
  rw [QBb, qf h]
  simp only [bs] at hB' ⊢
  simp (disch := omega) only [rq, simprocAttr, JB]
  iterate 2 (refine Qa (by assumption) ?_; simp (disch := omega) only [rq, simprocAttr])
  simp [QO, Qx, frzL, Qy, frzL_T _ tb]
def QsF : Int → List Int → Prop
 | _, [] => True
 | m, n :: l => 5 ≤ n ∧ n ≤ m ∧ QsF (m - n) l
instance decSk : ∀ (m : Int) (l : List Int), Decidable (QsF m l)
 | _, [] => isTrue trivial
 | m, n :: l => by
  unfold QsF
  have := decSk (m - n) l
  exact inferInstance
def skN (l : List Int) : Int := if l.length = 0 ∨ 1000 < l.length then 8 else if QsF 100000 l then 0 else 8
def skL (m : Int) (l : List Int) : Nat → Int
 | 0 => m
 | k + 1 => skL m l k - l.getD k 0
theorem QsE (l : List Int) : ∀ (m : Int) , QsF m l ↔ ∀ k, k < l.length → 5 ≤ l.getD k 0 ∧ l.getD k 0 ≤ skL m l k := by
 induction l with
 | nil => intro m; simp [QsF]
 | cons n l ih =>
  intro m
  have e : ∀ k, skL m (n :: l) (k + 1) = skL (m - n) l k := fun k => by
   induction k with
   | zero => simp [skL]
   | succ k ih2 =>
    show skL m (n :: l) (k + 1) - (n :: l).getD (k + 1) 0 = skL (m - n) l k - l.getD k 0
    rw [ih2]; rfl
  rw [QsF, ih]
  constructor
  ·rintro ⟨h1, h2, h3⟩ k hk
   match k with
   | 0 => exact ⟨h1, h2⟩
   | k + 1 =>
    rw [e]
    exact h3 k (by simpa using hk)
  ·intro h
   refine ⟨(h 0 (by simp)).1, (h 0 (by simp)).2, fun k hk => ?_⟩
   have := h (k + 1) (by simpa using hk)
   rw [e] at this
   exact this
def Qgc (P : Prg) (f : Nat) : Prop := ∀ l : List Int, l.length ≤ 1000000 → (∀ v ∈ l, -9223372036854775808 ≤ v ∧ v ≤ 9223372036854775807) → VC P f [Qfq l] (.int .i64 (skN l))
theorem Qqu {P : Prg} {f : Nat} (bd : Body P f 31 [.tmp 2] X4) : Qgc P f := by
 intro l hl hv
 refine Qv (by simp [isDL, Qcy]) rfl bd ?_
 by_cases h1 : l.length = 0 ∨ 1000 < l.length
 ·have e8 : skN l = 8 := by rw [skN, qh h1]
  rw [e8]
  rcases h1 with h1 | h1
  ·simp (disch := omega) only [rq, simprocAttr, X4, Qfq]
  ·by_cases h0 : l.length = 0
   ·omega
   ·simp (disch := omega) only [rq, simprocAttr, X4, Qfq]
 have e8 : skN l = if QsF 100000 l then 0 else 8 := by rw [skN, qf h1]
 rw [e8]
 clear e8
 have hiff := QsE l 100000
 have kl : (ks .i64 l).length = l.length := Qh _ _
 have h0 : ¬ l.length = 0 := by omega
 simp (disch := omega) only [rq, simprocAttr, X4, Qfq]
 refine Qg (ι := Nat) (fun k => ⟨[(16, .int .i64 k), (15, .int .i64 l.length), (14, .list l.length (ks .i64 l)), (3, .int .i64 (skL 100000 l k))], []⟩) (fun k => k ≤ l.length ∧ (∀ j, j < k → 5 ≤ l.getD j 0 ∧ l.getD j 0 ≤ skL 100000 l j) ∧ 0 ≤ skL 100000 l k ∧ skL 100000 l k ≤ 100000) (fun k => l.length - k) 0 (Qm (by simp [Am.look, skL])) ⟨by omega, by omega, by simp [skL], by simp [skL]⟩ ?_
 rintro k ⟨hk, ha, hb, hc⟩
 by_cases hlt : k < l.length
 ·have e1 : (ks .i64 l).drop k = .int .i64 (l.getD k 0) :: (ks .i64 l).drop (k + 1) := by
   have h := Qca (K := .i64) (l := l) (i := k) hlt
   rw [← JU] at h
   exact h
  have hr := hv (l.getD k 0) (by rw [qd, qc hlt]; exact ye _)
  have hs : skL 100000 l (k + 1) = skL 100000 l k - l.getD k 0 := rfl
  by_cases g1 : l.getD k 0 < 5
  ·have hn : ¬ QsF 100000 l := fun h => by have := (hiff.1 h k hlt).1; omega
   rw [qf hn]
   generalize l.getD k 0 = v at *
   simp (disch := omega) only [rq, simprocAttr, e1, kl]
  ·by_cases g2 : skL 100000 l k < l.getD k 0
   ·have hn : ¬ QsF 100000 l := fun h => by have := (hiff.1 h k hlt).2; omega
    rw [qf hn]
    generalize l.getD k 0 = v at *
    simp (disch := omega) only [rq, simprocAttr, e1, kl]
   ·have ha' : ∀ j, j < k + 1 → 5 ≤ l.getD j 0 ∧ l.getD j 0 ≤ skL 100000 l j := fun j hj => by
     by_cases e : j = k
     ·subst e; omega
     ·exact ha j (by omega)
    generalize l.getD k 0 = v at *
    generalize skL 100000 l k = m at *
    simp (disch := omega) only [rq, simprocAttr, e1, kl]
    refine ⟨k + 1, ⟨by omega, ha', by omega, by omega⟩, by omega, ?_⟩
    simp only [hs]
    exact Ql
 ·have ek : k = l.length := by omega
  subst ek
  rw [qh (hiff.2 ha)]
  simp (disch := omega) only [rq, simprocAttr]
def XE (l : List Int) : List UInt8 := (l.map fun n => leB n.toNat 4).flatten
theorem Qn4 (l : List Int) (k : Nat) (h : k < l.length) : XE (l.take (k + 1)) = XE (l.take k) ++ leB (l.getD k 0).toNat 4 := by
 unfold XE
 rw [qq h, yr, yj]
 simp [qd, qc h]
theorem QfH (l : List Int) : (XE l).length = 4 * l.length := by
 unfold XE
 induction l with
 | nil => rfl
 | cons a l ih => simp only [yq, yN, qe, Qc, ih, qJ]; omega
def skA (l : List Int) : AV := if skN l = 0 then .tup [bs (Q9 (XE l)), .int .i64 0] else .tup [.list 0 [], .int .i64 (skN l)]
theorem QB3 (l : List Int) : isD (skA l) = true := by unfold skA; split <;> simp [isD, isDL, QD]
theorem QiF (l : List Int) : skN l = 8 ∨ skN l = 0 ∧ 1 ≤ l.length ∧ l.length ≤ 1000 ∧ ∀ k, k < l.length → 5 ≤ l.getD k 0 ∧ l.getD k 0 ≤ 100000 := by
 by_cases h : l.length = 0 ∨ 1000 < l.length
 ·exact .inl (by rw [skN, qh h])
 ·by_cases h2 : QsF 100000 l
  ·refine .inr ⟨by rw [skN, qf h, qh h2], by omega, by omega, fun k hk => ?_⟩
   have h3 := (QsE l 100000).1 h2
   have hm : ∀ k, k ≤ l.length → skL 100000 l k ≤ 100000 := fun k => by
    induction k with
    | zero => simp [skL]
    | succ k ih =>
     intro hk
     have := ih (by omega)
     have := (h3 k (by omega)).1
     simp only [skL]
     omega
   have := h3 k hk
   have := hm k (by omega)
   omega
  ·exact .inl (by rw [skN, qf h, qf h2])
def Qjx (P : Prg) (f : Nat) : Prop := ∀ l : List Int, l.length ≤ 1000000 → (∀ v ∈ l, -9223372036854775808 ≤ v ∧ v ≤ 9223372036854775807) → VC P f [Qfq l] (skA l)
theorem Qqt {P : Prg} {f fC fP fS fB t0 tb : Nat} (bd : Body P f 38 [.tmp 2, .tmp 3] (J4 fC fP fS t0)) (hC : Qgc P fC) (bP : Body P fP 13 [] (Jb fB tb)) (hB : X7 P fB) (hS : Qhj P fS) : Qjx P f := by
 intro l hl hv
 refine Qk 1 (by simp [isDL, Qcy]) (QB3 l) (ACall.of_cut 3 bd (by simp) ?_)
 have hC' := hC l hl hv
 rw [Qfq] at hC' ⊢
 rcases QiF l with h | ⟨h, n1, n2, hr⟩
 ·rw [h] at hC'
  rw [skA, qf (by omega), h]
  simp (disch := omega) only [rq, simprocAttr, J4, QeR]
  refine Qa hC' ?_
  simp (disch := omega) only [rq, simprocAttr, QeR]
  simp [QO, Qx, frzL, Qy]
 rw [h] at hC'
 rw [skA, qh h]
 have kl : (ks .i64 l).length = l.length := Qh _ _
 have tl := Qq .i64 l
 have tB := fun m => QF (XE (l.take m))
 have hpl : ∀ m, (XE (l.take m)).length ≤ 4000 := fun m => by rw [QfH, qu]; omega
 simp (disch := omega) only [rq, simprocAttr, J4, QeR]
 refine Qa hC' ?_
 simp (disch := omega) only [rq, simprocAttr, QeR]
 refine ⟨_, Le.virtF 0 tb 1 (by decide) rfl rfl, ?_⟩
 simp (disch := omega) only [rq, simprocAttr, QeR]
 refine Qg (ι := Nat) (fun k => ⟨[(19, .int .i64 k), (18, .int .i64 l.length), (17, .list l.length (ks .i64 l)), (6, .fn (.func fP) [] [.ref 0 1 0]), (5, .ref 0 1 0)], [⟨t0, 1, 1, [.own 1 (XE (l.take k)).length], 0⟩, ⟨tb, 1, (XE (l.take k)).length, u8 (XE (l.take k)), 0⟩]⟩) (fun k => k ≤ l.length) (fun k => l.length - k) 0 (Qm (by simp [Am.look, XE, u8])) (by omega) ?_
 intro k hk
 have hpk := hpl k
 by_cases hlt : k < l.length
 ·have e1 : (ks .i64 l).drop k = .int .i64 (l.getD k 0) :: (ks .i64 l).drop (k + 1) := by
   have h := Qca (K := .i64) (l := l) (i := k) hlt
   rw [← JU] at h
   exact h
  have hs := Qn4 l k hlt
  have hrk := hr k hlt
  generalize hz : l.getD k 0 = z at *
  obtain ⟨z, rfl⟩ : ∃ m : Nat, z = m := ⟨z.toNat, by omega⟩
  rw [qm] at hs
  have hB' := hB z 4 (by omega) (by omega) (by simp; omega)
  rw [bs, Qc] at hB'
  have hul : (u8 (leB z 4)).length = 4 := by rw [Qr, Qc]
  have hcat : u8 (XE (l.take k)) ++ u8 (leB z 4) = u8 (XE (l.take (k + 1))) := by rw [hs]; simp [u8]
  have hlen : (XE (l.take k)).length + 4 = (XE (l.take (k + 1))).length := by rw [hs, qe, Qc]
  generalize hB1 : XE (l.take (k + 1)) = B1 at *
  generalize XE (l.take k) = B0 at *
  simp (disch := omega) only [rq, simprocAttr, QeR, kl, e1]
  refine Qb bP (by simp) ?_
  simp (disch := omega) only [rq, simprocAttr, Jb]
  refine Qa hB' ?_
  simp (disch := omega) only [rq, simprocAttr, hul, hcat, hlen]
  refine ⟨k + 1, by omega, by omega, ?_⟩
  simp only [hB1]
  exact Ql
 ·have ek : k = l.length := by omega
  subst ek
  rw [qD] at hpk ⊢
  have tB := QF (XE l)
  have hS' := hS (XE l)
  rw [qf (by omega)] at hS'
  have hsm : Qbm (XE l) < 4294967296 := by unfold Qbm; omega
  rw [← Qbm, bs] at hS'
  have hB' := hB (Qbm (XE l)) 4 (by omega) (by omega) (by simpa using hsm)
  rw [bs, Qc] at hB'
  have hul : (u8 (leB (Qbm (XE l)) 4)).length = 4 := by rw [Qr, Qc]
  have hcat : u8 (XE l) ++ u8 (leB (Qbm (XE l)) 4) = u8 (Q9 (XE l)) := by simp [u8, Q9]
  have hlen : (XE l).length + 4 = (Q9 (XE l)).length := by rw [Q9, qe, Qc]
  have tS := QF (Q9 (XE l))
  rw [bs]
  generalize Q9 (XE l) = B1 at *
  generalize Qbm (XE l) = sm at *
  generalize XE l = B0 at *
  simp (disch := omega) only [rq, simprocAttr, QeR, kl]
  refine Q6 1 [1] hS' (by simp [QO, Qx, frzL, Qy, frzL_T _ tB]) ?_
  simp (disch := omega) only [rq, simprocAttr, QeR, QA]
  refine Qb bP (by simp) ?_
  simp (disch := omega) only [rq, simprocAttr, Jb]
  refine Qa hB' ?_
  simp (disch := omega) only [rq, simprocAttr, hul, hcat, hlen, QeR]
  simp [QO, Qx, frzL, Qy, frzL_T _ tS]
def hdA (f c b r n : Int) : AV := .agg [.int .i64 f, .int .i64 c, .int .i64 b, .int .i64 r, .int .i64 n]
def shP (f c b r n : Int) : Prop := (b = 8 ∨ b = 16 ∨ b = 24) ∧ (f = 1 ∨ f = 2) ∧ 1 ≤ c ∧ c ≤ 6 ∧ 1 ≤ r ∧ r ≤ 1048576 ∧ 1 ≤ n
instance decShP (f c b r n : Int) : Decidable (shP f c b r n) := by unfold shP; exact inferInstance
def Qh4 (P : Prg) (g : Nat) : Prop := ∀ f c b r n : Int, VC P g [hdA f c b r n] (.bool (decide (shP f c b r n)))
theorem Qmd {P : Prg} {g t0 : Nat} (bd : Body P g 44 [.tmp 2] (QR t0)) : Qh4 P g := by
 intro f c b r n
 refine Qv rfl rfl bd ?_
 by_cases hb : b = 8 ∨ b = 16 ∨ b = 24
 case neg =>
  have hn : decide (shP f c b r n) = false := decide_eq_false fun h => hb h.1
  rw [hn]
  simp (disch := omega) only [rq, simprocAttr, QR, hdA]
 by_cases hf : f = 1 ∨ f = 2
 case neg =>
  have hn : decide (shP f c b r n) = false := decide_eq_false fun h => hf h.2.1
  rw [hn]
  rcases hb with rfl | rfl | rfl <;> simp (disch := omega) only [rq, simprocAttr, QR, hdA]
 by_cases hc1 : 1 ≤ c
 case neg =>
  have hn : decide (shP f c b r n) = false := decide_eq_false fun h => hc1 h.2.2.1
  rw [hn]
  rcases hb with rfl | rfl | rfl <;> rcases hf with rfl | rfl <;> simp (disch := omega) only [rq, simprocAttr, QR, hdA]
 by_cases hc2 : c ≤ 6
 case neg =>
  have hn : decide (shP f c b r n) = false := decide_eq_false fun h => hc2 h.2.2.2.1
  rw [hn]
  rcases hb with rfl | rfl | rfl <;> rcases hf with rfl | rfl <;> simp (disch := omega) only [rq, simprocAttr, QR, hdA]
 by_cases hr1 : 1 ≤ r
 case neg =>
  have hn : decide (shP f c b r n) = false := decide_eq_false fun h => hr1 h.2.2.2.2.1
  rw [hn]
  rcases hb with rfl | rfl | rfl <;> rcases hf with rfl | rfl <;> simp (disch := omega) only [rq, simprocAttr, QR, hdA]
 by_cases hr2 : r ≤ 1048576
 case neg =>
  have hn : decide (shP f c b r n) = false := decide_eq_false fun h => hr2 h.2.2.2.2.2.1
  rw [hn]
  rcases hb with rfl | rfl | rfl <;> rcases hf with rfl | rfl <;> simp (disch := omega) only [rq, simprocAttr, QR, hdA]
 by_cases hn1 : 1 ≤ n
 case neg =>
  have hn : decide (shP f c b r n) = false := decide_eq_false fun h => hn1 h.2.2.2.2.2.2
  rw [hn]
  rcases hb with rfl | rfl | rfl <;> rcases hf with rfl | rfl <;> simp (disch := omega) only [rq, simprocAttr, QR, hdA]
 have hn : decide (shP f c b r n) = true := decide_eq_true ⟨hb, hf, hc1, hc2, hr1, hr2, hn1⟩
 rw [hn]
 rcases hb with rfl | rfl | rfl <;> rcases hf with rfl | rfl <;> simp (disch := omega) only [rq, simprocAttr, QR, hdA]
def QuI (c r n : Int) : Prop := n ≤ 4000 / c ∧ QhB r n = 0
instance decFitP (c r n : Int) : Decidable (QuI c r n) := by unfold QuI; exact inferInstance
theorem Qx4 {r n : Int} (h : QhB r n = 0) : ∃ k : Int, Qi8 r n = .tup [.int .i64 k, .int .i64 0] ∧ 0 ≤ k ∧ k ≤ 1000 := by
 unfold QhB at h
 unfold Qi8
 split at h
 ·cases h
 rename_i a1
 split at h
 ·cases h
 rename_i a2
 split at h
 ·cases h
 rename_i a3
 rw [qf a1, qf a2, qf a3]
 have := Z4 r
 exact ⟨_, rfl, jM (by omega) (by omega), by omega⟩
def QtE (P : Prg) (g : Nat) : Prop := ∀ f c b r n : Int, 1 ≤ c → c ≤ 6 → VC P g [hdA f c b r n] (.bool (decide (QuI c r n)))
theorem QqZ {P : Prg} {g fC t0 : Nat} (bd : Body P g 25 [.tmp 2] (X5 fC t0)) (hC : Qah P fC) : QtE P g := by
 intro f c b r n c1 c2
 refine Qv rfl rfl bd ?_
 have hC' := hC r n
 have q0 : ¬ c = 0 := by omega
 have q1 : (4000 : Int).tdiv c = 4000 / c := qK (by omega)
 have q2 : 0 ≤ 4000 / c := jM (by omega) (by omega)
 have q3 : 4000 / c ≤ 4000 := js _ (by omega)
 by_cases h1 : n ≤ 4000 / c
 case neg =>
  have hn : decide (QuI c r n) = false := decide_eq_false fun h => h1 h.1
  rw [hn]
  generalize hQ : 4000 / c = Q at *
  have hw : IntKind.i64.wrap Q = Q := wrap_i64 (by omega) (by omega)
  simp (disch := omega) only [rq, simprocAttr, X5, hdA, q1, hQ, hw]
 by_cases h2 : QhB r n = 0
 ·have hn : decide (QuI c r n) = true := decide_eq_true ⟨h1, h2⟩
  rw [hn]
  obtain ⟨k, e, k1, k2⟩ := Qx4 h2
  rw [e] at hC'
  generalize hQ : 4000 / c = Q at *
  have hw : IntKind.i64.wrap Q = Q := wrap_i64 (by omega) (by omega)
  simp (disch := omega) only [rq, simprocAttr, X5, hdA, q1, hQ, hw]
  refine Qa hC' ?_
  simp (disch := omega) only [rq, simprocAttr]
 ·have hn : decide (QuI c r n) = false := decide_eq_false fun h => h2 h.2
  rw [hn]
  obtain ⟨k, e⟩ := Qmx r n
  rw [e] at hC'
  generalize hQ : 4000 / c = Q at *
  have hw : IntKind.i64.wrap Q = Q := wrap_i64 (by omega) (by omega)
  generalize QhB r n = E at *
  simp (disch := omega) only [rq, simprocAttr, X5, hdA, q1, hQ, hw]
  refine Qa hC' ?_
  simp (disch := omega) only [rq, simprocAttr]
def hdN (f c b r n : Int) : Int := if shP f c b r n ∧ QuI c r n then 0 else 8
def Qgh (P : Prg) (g : Nat) : Prop := ∀ f c b r n : Int, VC P g [hdA f c b r n] (.int .i64 (hdN f c b r n))
theorem QoI {P : Prg} {g fS fF t0 : Nat} (bd : Body P g 11 [.tmp 2] (Xs fS fF t0)) (hS : Qh4 P fS) (hF : QtE P fF) : Qgh P g := by
 intro f c b r n
 refine Qv rfl rfl bd ?_
 have hS' := hS f c b r n
 by_cases h1 : shP f c b r n
 case neg =>
  have e : hdN f c b r n = 8 := by rw [hdN, qf fun h => h1 h.1]
  rw [decide_eq_false h1] at hS'
  rw [e]
  rw [hdA] at hS' ⊢
  simp (disch := omega) only [rq, simprocAttr, Xs]
  refine Qa hS' ?_
  simp (disch := omega) only [rq, simprocAttr]
 have hF' := hF f c b r n h1.2.2.1 h1.2.2.2.1
 rw [decide_eq_true h1] at hS'
 by_cases h2 : QuI c r n
 ·have e : hdN f c b r n = 0 := by rw [hdN, qh ⟨h1, h2⟩]
  rw [decide_eq_true h2] at hF'
  rw [e]
  rw [hdA] at hS' hF' ⊢
  simp (disch := omega) only [rq, simprocAttr, Xs]
  iterate 2 (refine Qa (by assumption) ?_; simp (disch := omega) only [rq, simprocAttr])
 ·have e : hdN f c b r n = 8 := by rw [hdN, qf fun h => h2 h.2]
  rw [decide_eq_false h2] at hF'
  rw [e]
  rw [hdA] at hS' hF' ⊢
  simp (disch := omega) only [rq, simprocAttr, Xs]
  iterate 2 (refine Qa (by assumption) ?_; simp (disch := omega) only [rq, simprocAttr])
def mkA (c x r : Int) (l : List Int) (p : List UInt8) : AV := if QT c x r l ≠ 0 then .tup [hdA 0 0 0 0 0, .int .i64 8] else if 64 < p.length then .tup [hdA 0 0 0 0 0, .int .i64 2] else .tup [hdA (if p = [] then 1 else 2) c x r (l.length / c), .int .i64 0]
theorem QB5 (c x r : Int) (l : List Int) (p : List UInt8) : isD (mkA c x r l p) = true := by
 unfold mkA
 repeat' split
 all_goals rfl
def Qnl (P : Prg) (g : Nat) : Prop := ∀ (c x r : Int) (l : List Int) (p : List UInt8), I32 l → l.length ≤ 1000000 → VC P g [clA c x r l, .str p] (mkA c x r l p)
theorem Qq1 {P : Prg} {g fC t0 t1 : Nat} (bd : Body P g 35 [.cell 4 t1, .tmp 5] (Z9 fC t0 t1)) (hC : Z1 P fC) (ht : Zu P t1 = some (some 5)) : Qnl P g := by
 intro c x r l p hI hl
 refine Qv (by simp [isDL, isD, Zi, clA]) (QB5 _ _ _ _ _) bd ?_
 have hC' := hC c x r l hI hl
 rw [il] at hC'
 rcases QcF c x r l with h | h
 case inr =>
  rw [h] at hC'
  rw [mkA, qh (by omega)]
  simp (disch := omega) only [rq, simprocAttr, Z9, clA, il]
  refine Qa hC' ?_
  simp (disch := omega) only [rq, simprocAttr, Q1, ht, QL, hdA]
 rw [h] at hC'
 rw [mkA, qf (by omega)]
 by_cases hp : 64 < p.length
 ·rw [qh hp]
  simp (disch := omega) only [rq, simprocAttr, Z9, clA, il]
  refine Qa hC' ?_
  simp (disch := omega) only [rq, simprocAttr, Q1, ht, QL, hdA]
 rw [qf hp]
 obtain ⟨k, n, rfl, k1, k2, hlen, hok, h4⟩ := ZH h
 have hk0 : (l.length : Int) / (k : Int) = n := by rw [hlen, jh, jz _ (by omega)]
 have hk3 : ((l.length : Int)).tdiv (k : Int) = n := by rw [qK (by omega), hk0]
 have hq0 : (k : Int) ≠ 0 := by omega
 have hn4 : n ≤ 4000 := by have := hok.2.2.2.1; omega
 rw [hk0]
 by_cases hn : p = []
 ·subst hn
  simp (disch := omega) only [rq, simprocAttr, Z9, clA, il]
  refine Qa hC' ?_
  simp (disch := omega) only [rq, simprocAttr, Q1, ht, QL, hdA, QhP, hk0, hk3]
 ·have hs : QhP .neq p [] = some (.bool true) := by simp [QhP, hn]
  have h2 : (if p = [] then (1 : Int) else 2) = 2 := qf hn
  rw [h2]
  simp (disch := omega) only [rq, simprocAttr, Z9, clA, il]
  refine Qa hC' ?_
  simp (disch := omega) only [rq, simprocAttr, Q1, ht, QL, hdA, hs, hk0, hk3]
def QCM : List AV := [.int .i64 2, .int .i64 2, .int .i64 2, .int .i64 4, .int .i64 4]
def hdP (f c b r n : Nat) : Nat → List UInt8
 | 0 => [84, 84, 65, 49]
 | 1 => [84, 84, 65, 49] ++ leB f 2
 | 2 => [84, 84, 65, 49] ++ leB f 2 ++ leB c 2
 | 3 => [84, 84, 65, 49] ++ leB f 2 ++ leB c 2 ++ leB b 2
 | 4 => [84, 84, 65, 49] ++ leB f 2 ++ leB c 2 ++ leB b 2 ++ leB r 4
 | _ => [84, 84, 65, 49] ++ leB f 2 ++ leB c 2 ++ leB b 2 ++ leB r 4 ++ leB n 4
def hdB (f c b r n : Nat) : List UInt8 := Q9 (hdP f c b r n 5)
theorem Qxt {f c b r n : Int} (h : hdN f c b r n = 0) : ∃ f' c' b' r' n' : Nat, f = f' ∧ c = c' ∧ b = b' ∧ r = r' ∧ n = n' ∧ f' ≤ 2 ∧ c' ≤ 6 ∧ b' ≤ 24 ∧ r' ≤ 1048576 ∧ n' ≤ 4000 := by
 unfold hdN at h
 split at h
 case isFalse => cases h
 rename_i h1
 obtain ⟨⟨a1, a2, a3, a4, a5, a6, a7⟩, b1, b2⟩ := h1
 have q3 : 4000 / c ≤ 4000 := js _ (by omega)
 exact ⟨f.toNat, c.toNat, b.toNat, r.toNat, n.toNat, by omega, by omega, by omega, by omega, by omega, by omega, by omega, by omega, by omega, by omega⟩
def hwA (f c b r n : Int) : AV := if hdN f c b r n = 0 then .tup [bs (hdB f.toNat c.toNat b.toNat r.toNat n.toNat), .int .i64 0] else .tup [.list 0 [], .int .i64 8]
theorem QB6 (f c b r n : Int) : isD (hwA f c b r n) = true := by unfold hwA; split <;> simp [isD, isDL, QD]
theorem QoJ (f c b r n : Int) : hdN f c b r n = 0 ∨ hdN f c b r n = 8 := by unfold hdN; split <;> simp
def QjG (P : Prg) (g : Nat) : Prop := ∀ f c b r n : Int, VC P g [hdA f c b r n] (hwA f c b r n)
set_option maxHeartbeats 2000000 in
theorem QoH {P : Prg} {g fC fB fS t0 t1 g0 : Nat} (bd : Body P g 63 [.tmp 2, .tmp 3] (JA fC fB fS t0 t1 g0)) (hC : Qgh P fC) (hB : X7 P fB) (hS : Qhj P fS) (h0 : P.G.lookup g0 = some QCM) : QjG P g := by
 intro f c b r n
 refine Qk 1 rfl (QB6 _ _ _ _ _) (Qb bd (by simp) ?_)
 have hC' := hC f c b r n
 have g0' : QpS P.G g0 = .cell QCM := by simp [QpS, h0]
 rcases QoJ f c b r n with h | h
 case inr =>
  rw [h] at hC'
  rw [hwA, qf (by omega)]
  rw [hdA] at hC' ⊢
  simp (disch := omega) only [rq, simprocAttr, JA]
  refine Qa hC' ?_
  simp (disch := omega) only [rq, simprocAttr]
  simp [QO, Qx, frzL, Qy]
 rw [h] at hC'
 rw [hwA, qh h]
 obtain ⟨f, c, b, r, n, rfl, rfl, rfl, rfl, rfl, a1, a2, a3, a4, a5⟩ := Qxt h
 simp only [qm]
 rw [hdA] at hC' ⊢
 have B1 := hB f 2 (by omega) (by omega) (by simp; omega)
 have B2 := hB c 2 (by omega) (by omega) (by simp; omega)
 have B3 := hB b 2 (by omega) (by omega) (by simp; omega)
 have B4 := hB r 4 (by omega) (by omega) (by simp; omega)
 have B5 := hB n 4 (by omega) (by omega) (by simp; omega)
 rw [bs, Qc] at B1 B2 B3 B4 B5
 have u2 : ∀ m, (u8 (leB m 2)).length = 2 := fun m => by rw [Qr, Qc]
 have u4 : ∀ m, (u8 (leB m 4)).length = 4 := fun m => by rw [Qr, Qc]
 have c0 : u8 (hdP f c b r n 0) ++ u8 (leB f 2) = u8 (hdP f c b r n 1) := by simp [hdP, u8]
 have c1 : u8 (hdP f c b r n 1) ++ u8 (leB c 2) = u8 (hdP f c b r n 2) := by simp [hdP, u8]
 have c2 : u8 (hdP f c b r n 2) ++ u8 (leB b 2) = u8 (hdP f c b r n 3) := by simp [hdP, u8]
 have c3 : u8 (hdP f c b r n 3) ++ u8 (leB r 4) = u8 (hdP f c b r n 4) := by simp [hdP, u8]
 have c4 : u8 (hdP f c b r n 4) ++ u8 (leB n 4) = u8 (hdP f c b r n 5) := by simp [hdP, u8]
 have l0 : (hdP f c b r n 0).length = 4 := rfl
 have l1 : (hdP f c b r n 1).length = 6 := by simp [hdP, Qc]
 have l2 : (hdP f c b r n 2).length = 8 := by simp [hdP, Qc]
 have l3 : (hdP f c b r n 3).length = 10 := by simp [hdP, Qc]
 have l4 : (hdP f c b r n 4).length = 14 := by simp [hdP, Qc]
 have l5 : (hdP f c b r n 5).length = 18 := by simp [hdP, Qc]
 have e0 : u8 (hdP f c b r n 0) = [.int .u8 84, .int .u8 84, .int .u8 65, .int .u8 49] := rfl
 have hcat : u8 (hdP f c b r n 5) ++ u8 (leB (Qbm (hdP f c b r n 5)) 4) = u8 (hdB f c b r n) := by simp [u8, hdB, Q9]
 have hlen : (hdB f c b r n).length = 22 := by rw [hdB, Q9, qe, Qc, l5]
 have hS' := hS (hdP f c b r n 5)
 rw [qf (by omega), ← Qbm, bs, l5] at hS'
 have hsm : Qbm (hdP f c b r n 5) < 4294967296 := by unfold Qbm; omega
 have B6 := hB (Qbm (hdP f c b r n 5)) 4 (by omega) (by omega) (by simpa using hsm)
 rw [bs, Qc] at B6
 have t5 := QF (hdP f c b r n 5)
 have tb := QF (hdB f c b r n)
 rw [bs, hlen]
 obtain ⟨H, hH⟩ : ∃ H, H = hdP f c b r n := ⟨_, rfl⟩
 rw [← hH] at c0 c1 c2 c3 c4 l0 l1 l2 l3 l4 l5 e0 hcat hS' hsm B6 t5
 generalize Qbm (H 5) = sm at *
 generalize hdB f c b r n = D at *
 have g0'' : QpS P.G g0 = .cell [.int .i64 2, .int .i64 2, .int .i64 2, .int .i64 4, .int .i64 4] := g0'
 simp (disch := omega) only [rq, simprocAttr, JA]
 refine Qa hC' ?_
 simp (disch := omega) only [rq, simprocAttr]
 refine Qg (ι := Nat) (fun j => ⟨[(32, .int .i64 j), (31, .agg [.int .i64 f, .int .i64 c, .int .i64 b, .int .i64 r, .int .i64 n]), (5, .own 1 (H j).length)], [⟨t0, 5, 1, [.int .i64 f, .int .i64 c, .int .i64 b, .int .i64 r, .int .i64 n], 0⟩, ⟨t1, 1, (H j).length, u8 (H j), 1⟩]⟩) (fun j => j ≤ 5) (fun j => 5 - j) 0 ?_ (by omega) ?_
 ·simp only [e0, l0]
  exact Ql
 intro j hj
 have hj5 : j = 0 ∨ j = 1 ∨ j = 2 ∨ j = 3 ∨ j = 4 ∨ j = 5 := by omega
 rcases hj5 with rfl | rfl | rfl | rfl | rfl | rfl
 ·simp (disch := omega) only [rq, simprocAttr, g0'', l0]
  refine Qa B1 ?_
  simp (disch := omega) only [rq, simprocAttr, u2, c0]
  exact ⟨1, by omega, by omega, by rw [l1]; exact Ql⟩
 ·simp (disch := omega) only [rq, simprocAttr, g0'', l1]
  refine Qa B2 ?_
  simp (disch := omega) only [rq, simprocAttr, u2, c1]
  exact ⟨2, by omega, by omega, by rw [l2]; exact Ql⟩
 ·simp (disch := omega) only [rq, simprocAttr, g0'', l2]
  refine Qa B3 ?_
  simp (disch := omega) only [rq, simprocAttr, u2, c2]
  exact ⟨3, by omega, by omega, by rw [l3]; exact Ql⟩
 ·simp (disch := omega) only [rq, simprocAttr, g0'', l3]
  refine Qa B4 ?_
  simp (disch := omega) only [rq, simprocAttr, u4, c3]
  exact ⟨4, by omega, by omega, by rw [l4]; exact Ql⟩
 ·simp (disch := omega) only [rq, simprocAttr, g0'', l4]
  refine Qa B5 ?_
  simp (disch := omega) only [rq, simprocAttr, u4, c4]
  exact ⟨5, by omega, by omega, by rw [l5]; exact Ql⟩
 ·simp (disch := omega) only [rq, simprocAttr, l5]
  refine QgG 1 hS' rfl (by simp [QO, Qx, frzL, Qy, frzL_T _ t5]) ?_
  simp (disch := omega) only [rq, simprocAttr]
  refine Qa B6 ?_
  simp (disch := omega) only [rq, simprocAttr, u4, hcat]
  simp [QO, Qx, frzL, Qy, frzL_T _ tb]
end Go.Am
