/- What the functions that the law reaches return, for every program that has their code; the conditions stand in each statement. -/
import Derived.Test.YtghngklehkkecaaGreatDoorTopFileL3
set_option linter.unusedSectionVars false
set_option linter.unusedSimpArgs false
set_option linter.unusedVariables false
namespace Go.Am
open Go.RowKit
def Xl (L : List (List UInt8)) : List Int := L.map fun b => (b.length : Int)
theorem QaC (L : List (List UInt8)) : (Xl L).length = L.length := by simp [Xl]
theorem QqS {L : List (List UInt8)} {k : Nat} (h : k < L.length) : (Xl L).getD k 0 = (L.getD k []).length := by
 simp [Xl, qd, qc h]
def QyF (P : Prg) (f : Nat) : Prop := ∀ b : List UInt8, VC P f [bs b] (.int .i64 b.length)
theorem Qmm {P : Prg} {f : Nat} (bd : Body P f 5 [.tmp 2] Qas) : QyF P f := by
 intro b
 refine Qv (by simp [isDL, QD]) rfl bd ?_
 simp (disch := omega) only [rq, simprocAttr, Qas, bs]
def QyI (g : Nat) (P : Prg) (f : Nat) : Prop := ∀ L : List (List UInt8), L.length ≤ 1000000 → (∀ j, (L.getD j []).length ≤ 1000000) → VC P f [bss L, .fn (.func g) [] []] (Qfq (Xl L))
theorem Qre {P : Prg} {f g t0 : Nat} (bd : Body P f 26 [.tmp 4] (Z0 t0)) (hg : QyF P g) : QyI g P f := by
 intro L hL hL2
 refine Qk 1 (by simp [isDL, isD, Qmc]) (Qcy _) (Qb bd (by simp) ?_)
 have hmb : (L.map bs).length = L.length := by simp
 have hz : Qf [.int .i64 0] L.length = ks .i64 ((Xl L).take 0 ++ List.replicate (L.length - 0) 0) := by rw [QsL]; simp
 have tl := Qq .i64 (Xl L)
 have hll := QaC L
 rw [Qfq, hll, bss]
 simp (disch := omega) only [rq, simprocAttr, Z0, hz]
 refine Qg (ι := Nat) (fun k => ⟨[(13, .int .i64 k), (12, .int .i64 L.length), (11, .list L.length (L.map bs)), (5, .own 0 L.length), (1, .fn (.func g) [] [])], [⟨t0, 1, L.length, ks .i64 ((Xl L).take k ++ List.replicate (L.length - k) 0), 0⟩]⟩) (fun k => k ≤ L.length) (fun k => L.length - k) 0 (Ql) (by omega) ?_
 intro k hk
 have hkl : (ks .i64 ((Xl L).take k ++ List.replicate (L.length - k) 0)).length = L.length := by rw [Qh, qe, qu, hll, yn]; omega
 by_cases hlt : k < L.length
 ·have e1 := Qtq (L := L) (k := k) hlt
  have hg' := hg (L.getD k [])
  have hst : (ks .i64 ((Xl L).take k ++ List.replicate (L.length - k) 0)).take k ++ .int .i64 ((L.getD k []).length : Int) :: (ks .i64 ((Xl L).take k ++ List.replicate (L.length - k) 0)).drop (k + 1) = ks .i64 ((Xl L).take (k + 1) ++ List.replicate (L.length - (k + 1)) 0) := by
   have hq : (Xl L)[k]? = some ((L.getD k []).length : Int) := by simp [Xl, qd, qc hlt]
   have htk : (Xl L).take (k + 1) = (Xl L).take k ++ [((L.getD k []).length : Int)] := by rw [List.take_add_one, hq]; rfl
   have hl1 : ((Xl L).take k).length = k := by rw [qu, hll]; omega
   rw [QqU, JU, htk, yu (by omega), qg (by omega), jA, ya (by omega), hl1, List.drop_replicate, qX]
   simp only [ks, yr, yq, Yp, qj, yc, qX]
   rw [show L.length - k - (k + 1 - k) = L.length - (k + 1) by omega]
  have hst2 : (ks .i64 ((Xl L).take k ++ List.replicate (L.length - k) 0)).take k ++ [.int .i64 ((L.getD k []).length : Int)] ++ (ks .i64 ((Xl L).take k ++ List.replicate (L.length - k) 0)).drop (k + 1) = ks .i64 ((Xl L).take (k + 1) ++ List.replicate (L.length - (k + 1)) 0) := by rw [← hst]; simp
  rw [bs] at e1 hg'
  have hl2 := hL2 k
  generalize L.getD k [] = b at *
  simp (disch := omega) only [rq, simprocAttr, e1, hmb, hkl]
  refine Qa hg' ?_
  simp (disch := omega) only [rq, simprocAttr, hkl, hst, hst2]
  exact ⟨k + 1, by omega, by omega, Ql⟩
 ·have ek : k = L.length := by omega
  subst ek
  have e0 : (Xl L).take L.length ++ List.replicate (L.length - L.length) (0 : Int) = Xl L := by rw [← hll, qD]; simp
  rw [e0]
  simp (disch := omega) only [rq, simprocAttr]
  simp [QO, Qx, frzL, Qy, frzL_T _ tl]
def Qsd (P : Prg) (f : Nat) : Prop := ∀ L : List (List UInt8), L.length ≤ 1000000 → L.flatten.length ≤ 1000000 → VC P f [bss L] (bs L.flatten)
theorem Qrd {P : Prg} {f t0 : Nat} (bd : Body P f 17 [.tmp 2] (QbT t0)) : Qsd P f := by
 intro L hL hF
 refine Qk 1 (by simp [isDL, Qmc]) (QD _) (ACall.of_cut 2 bd (by simp) ?_)
 have hmb : (L.map bs).length = L.length := by simp
 rw [bs, bss]
 simp (disch := omega) only [rq, simprocAttr, QbT, QeR]
 refine ⟨_, XU 3 t0 1 (by decide) rfl, ?_⟩
 simp (disch := omega) only [rq, simprocAttr, QeR]
 refine Qg (ι := Nat) (fun k => ⟨[(8, .int .i64 k), (7, .int .i64 L.length), (6, .list L.length (L.map bs)), (3, .own 0 (L.take k).flatten.length)], [⟨t0, 1, (L.take k).flatten.length, u8 (L.take k).flatten, 0⟩]⟩) (fun k => k ≤ L.length) (fun k => L.length - k) 0 (Qm (by simp [Am.look, u8])) (by omega) ?_
 intro k hk
 have hle : (L.take k).flatten.length ≤ L.flatten.length := by
  conv => rhs; rw [← qN k L, yj, qe]
  omega
 by_cases hlt : k < L.length
 ·have e1 := Qtq (L := L) (k := k) hlt
  have hs : (L.take (k + 1)).flatten = (L.take k).flatten ++ L.getD k [] := by
   rw [qq hlt, yj]
   simp [qd, qc hlt]
  have hle2 : (L.take (k + 1)).flatten.length ≤ L.flatten.length := by
   conv => rhs; rw [← qN (k + 1) L, yj, qe]
   omega
  rw [hs, qe] at hle2
  have hcat : u8 (L.take k).flatten ++ u8 (L.getD k []) = u8 (L.take (k + 1)).flatten := by rw [hs]; simp [u8]
  have hlen : (L.take k).flatten.length + (L.getD k []).length = (L.take (k + 1)).flatten.length := by rw [hs, qe]
  have hbl : (u8 (L.getD k [])).length = (L.getD k []).length := Qr _
  rw [bs] at e1
  generalize hY : (L.take (k + 1)).flatten = Y at *
  generalize L.getD k [] = b at *
  generalize (L.take k).flatten = X at *
  simp (disch := omega) only [rq, simprocAttr, QeR, e1, hmb, hbl, hcat, hlen]
  refine ⟨k + 1, by omega, by omega, ?_⟩
  simp only [hY]
  exact Ql
 ·have ek : k = L.length := by omega
  subst ek
  have tF := QF L.flatten
  rw [qD]
  simp (disch := omega) only [rq, simprocAttr, QeR]
  simp [QO, Qx, frzL, Qy, frzL_T _ tF]
theorem QsD : ∀ {l : List Int} {m : Int}, QsF m l → l.sum ≤ m ∨ l = []
 | [], _, _ => .inr rfl
 | n :: l, m, h => by
  obtain ⟨h1, h2, h3⟩ := h
  rcases QsD h3 with h4 | h4
  ·left; rw [List.sum_cons]; omega
  ·left; subst h4; simp; omega
theorem QlU : ∀ L : List (List UInt8), (Xl L).sum = (L.flatten.length : Int)
 | [] => rfl
 | b :: L => by
  have h := QlU L
  simp only [Xl, yq, List.sum_cons, yN, qe] at h ⊢
  omega
def Qee (p : List UInt8) : Int := if p = [] then 1 else 2
theorem Qmf {c x r : Int} {l : List Int} (p : List UInt8) (h : QT c x r l = 0) : hdN (Qee p) c x r (l.length / c) = 0 := by
 obtain ⟨h1, h2⟩ := Qlc h
 obtain ⟨⟨o1, o2, o3, o4, o5⟩, he, hn1, hn2⟩ := Qq2 h2
 have hce : QhB r (l.length / c) = 0 := by
  rw [QgB] at h2
  by_cases h9 : X2 c x (l.length / c) = 0 ∧ QhB r (l.length / c) = 0
  ·exact h9.2
  ·rw [qf h9] at h2; cases h2
 have hc : Z5 x ≠ 0 ∧ 1 ≤ c ∧ c ≤ 6 := by
  rcases Zd c x with q | ⟨q, a, b, d⟩
  ·omega
  ·exact ⟨by omega, by omega, by omega⟩
 have hx := (Qa5 x).1 hc.1
 rw [hdN, qh ⟨⟨hx, by unfold Qee; split <;> simp, hc.2.1, hc.2.2, o1, o2, hn1⟩, hn2, hce⟩]
def Qqj (p : List UInt8) : List UInt8 := if p = [] then [] else leB (Zt 0 p) 8
def QcB (c x r : Int) (l : List Int) (p : List UInt8) : List UInt8 :=
 hdB (Qee p).toNat c.toNat x.toNat r.toNat (l.length / c.toNat) ++ (Qqj p ++ (Q9 (XE (Xl (Qn c x r l (ofK (Zt 0 p) 8)))) ++ (Qn c x r l (ofK (Zt 0 p) 8)).flatten))
def Qhx (c x r : Int) (l : List Int) (p : List UInt8) : AV :=
 if QT c x r l ≠ 0 then .tup [.list 0 [], .int .i64 8] else if 64 < p.length then .tup [.list 0 [], .int .i64 2] else if skN (Xl (Qn c x r l (ofK (Zt 0 p) 8))) ≠ 0 then .tup [.list 0 [], .int .i64 8] else .tup [bs (QcB c x r l p), .int .i64 0]
theorem Qta (c x r : Int) (l : List Int) (p : List UInt8) : isD (Qhx c x r l p) = true := by
 unfold Qhx
 repeat' split
 all_goals simp [isD, isDL, QD]
def Qnp (P : Prg) (f : Nat) : Prop := ∀ (c x r : Int) (l : List Int) (p : List UInt8), I32 l → l.length ≤ 1000000 → VC P f [clA c x r l, .str p] (Qhx c x r l p)
set_option maxHeartbeats 2000000 in
theorem Qrf {P : Prg} {f fM fF fW fD fE fg fS fJ t0 t1 t2 : Nat} (bd : Body P f 62 [.tmp 4, .tmp 5] (Zq fM fF fW fD fE fg fS fJ t0 t1 t2)) (hM : Qnl P fM) (hF : Qh7 P fF) (hW : QjG P fW) (hD : Qeo P fD) (hE : QyI fg P fE) (hS : Qjx P fS) (hJ : Qsd P fJ) : Qnp P f := by
 intro c x r l p hI hl
 refine Qk 1 (by simp [isDL, isD, Zi, clA]) (Qta _ _ _ _ _) (Qb bd (by simp) ?_)
 have hM' := hM c x r l p hI hl
 have tl := Qq .i32 l
 rcases QcF c x r l with h | h
 case inr =>
  rw [mkA, qh (by omega), hdA] at hM'
  rw [Qhx, qh (by omega)]
  rw [clA, il] at hM' ⊢
  simp (disch := omega) only [rq, simprocAttr, Zq]
  refine Qa hM' ?_
  simp (disch := omega) only [rq, simprocAttr]
  simp [QO, Qx, frzL, Qy]
 rw [mkA, qf (by omega)] at hM'
 rw [Qhx, qf (by omega)]
 by_cases hp : 64 < p.length
 ·rw [qh hp, hdA] at hM'
  rw [qh hp]
  rw [clA, il] at hM' ⊢
  simp (disch := omega) only [rq, simprocAttr, Zq]
  refine Qa hM' ?_
  simp (disch := omega) only [rq, simprocAttr]
  simp [QO, Qx, frzL, Qy]
 rw [qf hp, ← Qee] at hM'
 rw [qf hp]
 have hF' := hF c x r l p hI hl
 rw [QoM h hp] at hF'
 have hW' := hW (Qee p) c x r (l.length / c)
 rw [hwA, qh (Qmf p h)] at hW'
 have hD' := hD p
 rw [QBb, qf hp] at hD'
 have hfr := QoN (T := ofK (Zt 0 p) 8) h hI
 have hfl := Xo c x r l (ofK (Zt 0 p) 8)
 have hple := Qb8 h
 obtain ⟨k, n, rfl, k1, k2, hlen, hok, h4⟩ := ZH h
 have hk0 : (l.length : Int) / (k : Int) = n := by rw [hlen, jh, jz _ (by omega)]
 have hk1 : l.length / k = n := by rw [hlen, yE _ (by omega)]
 simp only [QcB, qm, hk0, hk1] at hM' hW' ⊢
 have hE' := hE (Qn k x r l (ofK (Zt 0 p) 8)) hfr.1 hfr.2
 have hv : ∀ v ∈ Xl (Qn k x r l (ofK (Zt 0 p) 8)), -9223372036854775808 ≤ v ∧ v ≤ 9223372036854775807 := fun v hv => by
  obtain ⟨b, hb, rfl⟩ := qU.1 hv
  obtain ⟨i, hi, rfl⟩ := jv.1 hb
  have := hfr.2 i
  rw [qd, qc hi] at this
  simp only [y5] at this
  omega
 have hS' := hS (Xl (Qn k x r l (ofK (Zt 0 p) 8))) (by rw [QaC]; omega) hv
 have hff := QlU (Qn k x r l (ofK (Zt 0 p) 8))
 have hll := QaC (Qn k x r l (ofK (Zt 0 p) 8))
 have htl := QfH (Xl (Qn k x r l (ofK (Zt 0 p) 8)))
 have hJ0 := fun A B C hx hy => hJ (A :: B :: C :: Qn k x r l (ofK (Zt 0 p) 8)) hx hy
 generalize Qn k x r l (ofK (Zt 0 p) 8) = FF at *
 generalize hHd : hdB (Qee p).toNat k x.toNat r.toNat n = HD at *
 have hHl : HD.length = 22 := by
  rw [← hHd, hdB, Q9, qe, Qc]
  simp [hdP, Qc]
 rw [Qfq, hll] at hE' hS'
 have hmf : (FF.map bs).length = FF.length := by simp
 have tF := Qcx FF
 have kn : (ks .i64 (Xl FF)).length = FF.length := by rw [Qh, hll]
 rw [bss] at hF' hE'
 simp only [clA, il, hdA] at hM' hF' hW' ⊢
 rcases QiF (Xl FF) with hs | ⟨hs, s1, s2, s3⟩
 ·rw [skA, qf (by omega), hs] at hS'
  rw [qh (by omega)]
  by_cases hn : p = []
  ·have hf : Qee p = 1 := by rw [Qee, qh hn]
   rw [hf] at hM' hW'
   simp (disch := omega) only [rq, simprocAttr, Zq]
   iterate 5 (refine Qa (by assumption) ?_; simp (disch := omega) only [rq, simprocAttr])
   simp [QO, Qx, frzL, Qy]
  ·have hf : Qee p = 2 := by rw [Qee, qf hn]
   rw [hf] at hM' hW'
   simp (disch := omega) only [rq, simprocAttr, Zq]
   iterate 6 (refine Qa (by assumption) ?_; simp (disch := omega) only [rq, simprocAttr])
   simp [QO, Qx, frzL, Qy]
 ·rw [skA, qh hs] at hS'
  rw [qf (by omega)]
  have hsum : FF.flatten.length ≤ 100000 := by
   have hok2 : QsF 100000 (Xl FF) := by
    unfold skN at hs
    split at hs
    ·cases hs
    split at hs
    ·assumption
    ·cases hs
   rcases QsD hok2 with q | q
   ·rw [hff] at q; omega
   ·rw [q] at s1; simp at s1
  have hTb : (Q9 (XE (Xl FF))).length ≤ 5000 := by rw [Q9, qe, Qc, htl]; omega
  have tH := QF HD
  have tT := QF (Q9 (XE (Xl FF)))
  generalize Q9 (XE (Xl FF)) = TB at *
  by_cases hn : p = []
  ·have hf : Qee p = 1 := by rw [Qee, qh hn]
   have hsb : Qqj p = [] := by rw [Qqj, qh hn]
   rw [hf] at hM' hW'
   rw [hsb, qX]
   have hJ' := hJ0 HD [] TB (by simp only [qJ]; omega) (by simp only [yN, qe, yg]; omega)
   simp only [yN, qX] at hJ'
   have tX := QF (HD ++ (TB ++ FF.flatten))
   generalize HD ++ (TB ++ FF.flatten) = XX at *
   simp only [bss, bs, yq, qJ, Qg7, yg] at hJ' hW' hS' ⊢
   simp (disch := omega) only [rq, simprocAttr, Zq]
   iterate 4 (refine Qa (by assumption) ?_; simp (disch := omega) only [rq, simprocAttr])
   refine Qa hS' ?_
   simp (disch := omega) only [rq, simprocAttr, hmf]
   refine Q6 1 [2] hJ' (by simp [QO, Qx, frzL, Qy, frzL_T _ tH, frzL_T _ tT, frzL_T _ tF]; omega) ?_
   simp (disch := omega) only [rq, simprocAttr]
   simp [QO, Qx, frzL, Qy, frzL_T _ tX]
  ·have hf : Qee p = 2 := by rw [Qee, qf hn]
   have hsb : Qqj p = leB (Zt 0 p) 8 := by rw [Qqj, qf hn]
   rw [hf] at hM' hW'
   rw [hsb]
   have hJ' := hJ0 HD (leB (Zt 0 p) 8) TB (by simp only [qJ]; omega) (by simp only [yN, qe, Qc]; omega)
   simp only [yN] at hJ'
   have tX := QF (HD ++ (leB (Zt 0 p) 8 ++ (TB ++ FF.flatten)))
   have tS := QF (leB (Zt 0 p) 8)
   have l8 : (leB (Zt 0 p) 8).length = 8 := Qc _ _
   generalize HD ++ (leB (Zt 0 p) 8 ++ (TB ++ FF.flatten)) = XX at *
   generalize leB (Zt 0 p) 8 = SB at *
   simp only [bss, bs, yq, qJ] at hJ' hW' hS' hD' ⊢
   simp (disch := omega) only [rq, simprocAttr, Zq]
   iterate 5 (refine Qa (by assumption) ?_; simp (disch := omega) only [rq, simprocAttr])
   refine Qa hS' ?_
   simp (disch := omega) only [rq, simprocAttr, hmf]
   refine Q6 1 [2] hJ' (by simp [QO, Qx, frzL, Qy, frzL_T _ tH, frzL_T _ tT, frzL_T _ tF, frzL_T _ tS]; omega) ?_
   simp (disch := omega) only [rq, simprocAttr]
   simp [QO, Qx, frzL, Qy, frzL_T _ tX]
def QC1 (c x r : Int) (l : List Int) (p : List UInt8) : AV := match Qhx c x r l p with
 | .tup [.list n _, e] => .tup [.int .i64 n, e]
 | v => v
theorem Qwj (c x r : Int) (l : List Int) (p : List UInt8) : ∃ (b : List UInt8) (e : Int), Qhx c x r l p = .tup [bs b, .int .i64 e] ∧ QC1 c x r l p = .tup [.int .i64 b.length, .int .i64 e] := by
 unfold QC1 Qhx
 split
 ·exact ⟨[], 8, rfl, rfl⟩
 split
 ·exact ⟨[], 2, rfl, rfl⟩
 split
 ·exact ⟨[], 8, rfl, rfl⟩
 ·exact ⟨_, 0, rfl, rfl⟩
theorem QCi {c x : Int} {t l : List Int} (hL : I32 l) (h : Qej c x l = 0) : (Qhd c.toNat x t l).length ≤ 11 * l.length + 5 := by
 obtain ⟨k, m, rfl, hkM, hx, e1, e2, e3, e4, e5, e6⟩ := Qm4 hL h
 have hvl := QhM k x t l
 obtain ⟨_, q2, _⟩ := XF (c := k) (Qlu k x t l) (Qvp k x t l).length
 rw [qm, Qhd, Qdx, QfV]
 unfold nB
 omega
theorem Qwi : ∀ (l : List Int) (m : Int), (∀ v ∈ l, 5 ≤ v) → l.sum ≤ m → QsF m l
 | [], _, _, _ => trivial
 | n :: l, m, h, hs => by
  have h1 := h n jW
  rw [List.sum_cons] at hs
  have hn : 0 ≤ l.sum := by
   have : ∀ l : List Int, (∀ v ∈ l, 5 ≤ v) → 0 ≤ l.sum := fun l => by
    induction l with
    | nil => intro _; simp
    | cons a l ih =>
     intro h
     have := h a jW
     have := ih fun v hv => h v (jj _ hv)
     rw [List.sum_cons]; omega
   exact this l fun v hv => h v (jj _ hv)
  exact ⟨h1, by omega, Qwi l (m - n) (fun v hv => h v (jj _ hv)) (by omega)⟩
theorem QxI {c x : Int} {T : List Int} : ∀ S : List (List Int), (∀ q ∈ S, I32 q ∧ Qej c x q = 0) → ((S.map (Qhd c.toNat x T)).flatten.length ≤ 11 * S.flatten.length + 5 * S.length)
 | [], _ => by simp
 | q :: S, h => by
  have h1 := QxI (T := T) S fun p hp => h p (jj _ hp)
  obtain ⟨h2, h3⟩ := h q jW
  have h4 := QCi (t := T) h2 h3
  rw [yq, yN, yN, qe, qe, qJ]
  omega
theorem Qqr {c x r : Int} {l T : List Int} (h : QT c x r l = 0) (hI : I32 l) : skN (Xl (Qn c x r l T)) = 0 ∧ (Qn c x r l T).flatten.length ≤ 49000 := by
 have hple := Qb8 h
 have hfl := Xo c x r l T
 have hpl := QaZ c r l
 have hf := QxI (T := T) (QB c r l) fun q hq => ⟨Qop h hI q hq, (Qb6 h q hq).1⟩
 rw [Qb7 h] at hf
 have h4 : l.length ≤ 4000 := by obtain ⟨_, _, _, _, _, _, _, h4⟩ := ZH h; exact h4
 have hfr : (Qn c x r l T).flatten.length ≤ 49000 := by
  show ((QB c r l).map (Qhd c.toNat x T)).flatten.length ≤ 49000
  omega
 have hll := QaC (Qn c x r l T)
 have h1 : 1 ≤ (Qn c x r l T).length := by rw [hfl, hpl, ZL]; exact Nat.le_add_left 1 _
 refine ⟨?_, hfr⟩
 rw [skN, qf (by omega), qh]
 refine Qwi _ _ (fun v hv => ?_) (by rw [QlU]; omega)
 obtain ⟨b, hb, rfl⟩ := qU.1 hv
 obtain ⟨q, hq, rfl⟩ := qU.1 (show b ∈ (QB c r l).map (Qhd c.toNat x T) from hb)
 have := (QxR (t := T) (Qop h hI q hq) (Qb6 h q hq).1).2
 omega
def QiM (b p : List UInt8) : AV := if 64 < p.length ∨ b.length ≠ 8 then .tup [.bool false, .int .i64 2] else .tup [.bool (b == leB (Zt 0 p) 8), .int .i64 0]
theorem Qxo (b p : List UInt8) : isD (QiM b p) = true := by unfold QiM; split <;> rfl
def Qia (P : Prg) (f : Nat) : Prop := ∀ b p : List UInt8, b.length ≤ 1000000 → VC P f [bs b, .str p] (QiM b p)
theorem Qo3 {P : Prg} {f fB fE : Nat} (bd : Body P f 25 [.tmp 4, .tmp 5] (Xt fB fE)) (hB : Qeo P fB) (hE : Qga P fE) : Qia P f := by
 intro b p hb
 refine Qv (by simp [isDL, QD, isD]) (Qxo b p) bd ?_
 have hB' := hB p
 have hE' := hE b (leB (Zt 0 p) 8)
 rw [bs, bs, Qc] at hE'
 rw [bs]
 by_cases h : 64 < p.length
 ·rw [QBb, qh h] at hB'
  rw [QiM, qh (.inl h)]
  simp (disch := omega) only [rq, simprocAttr, Xt]
  refine Qa hB' ?_
  simp (disch := omega) only [rq, simprocAttr]
 ·rw [QBb, qf h, bs, Qc] at hB'
  by_cases h8 : b.length = 8
  ·rw [QiM, qf (by omega)]
   rw [h8] at hE' ⊢
   simp (disch := omega) only [rq, simprocAttr, Xt]
   iterate 2 (refine Qa (by assumption) ?_; simp (disch := omega) only [rq, simprocAttr])
  ·rw [QiM, qh (.inr h8)]
   simp (disch := omega) only [rq, simprocAttr, Xt]
   refine Qa hB' ?_
   simp (disch := omega) only [rq, simprocAttr]
def QCe (f c b r n : Int) : AV := if hdN f c b r n = 0 then .tup [Qfq (Q2 (QC r).toNat n.toNat), .int .i64 0] else .tup [.list 0 [], .int .i64 8]
theorem QB8 (f c b r n : Int) : isD (QCe f c b r n) = true := by unfold QCe; split <;> simp [isD, isDL, Qcy]
theorem QDm {f c b r n : Int} (h : hdN f c b r n = 0) : ∃ m : Nat, n = m ∧ okA r m := by
 unfold hdN at h
 split at h
 case isFalse => cases h
 rename_i h1
 obtain ⟨⟨a1, a2, a3, a4, a5, a6, a7⟩, b1, b2⟩ := h1
 have q3 : 4000 / c ≤ 4000 := js _ (by omega)
 obtain ⟨m, rfl⟩ : ∃ m : Nat, n = m := ⟨n.toNat, by omega⟩
 refine ⟨m, rfl, by omega, by omega, by omega, by omega, ?_⟩
 unfold QhB at b2
 rw [qf (by omega), qf (by omega)] at b2
 split at b2
 ·cases b2
 rename_i b3
 have hlong : 1 ≤ QC r := Z4 r
 obtain ⟨L, hLe⟩ : ∃ L : Nat, QC r = L := ⟨(QC r).toNat, by omega⟩
 rw [hLe, qm, qm, ZL]
 rw [hLe] at b3
 have h1 : (m : Int) + (L : Int) - 1 = ((m - 1 + L : Nat) : Int) := by omega
 rw [h1, ← yC, jN _ (by omega)] at b3
 omega
def QaT (P : Prg) (g : Nat) : Prop := ∀ f c b r n : Int, VC P g [hdA f c b r n] (QCe f c b r n)
theorem Qme {P : Prg} {g fC fL t0 ti : Nat} (bd : Body P g 17 [.tmp 2, .tmp 3] (Jc fC fL t0)) (hC : Qgh P fC) (hL : QpN ti P fL) : QaT P g := by
 intro f c b r n
 refine Qk 1 rfl (QB8 _ _ _ _ _) (Qb bd (by simp) ?_)
 have hC' := hC f c b r n
 rw [hdA] at hC' ⊢
 rcases QoJ f c b r n with h | h
 ·rw [h] at hC'
  rw [QCe, qh h]
  obtain ⟨m, rfl, hok⟩ := QDm h
  have hL' := hL r m hok
  have tl := Qq .i64 (Q2 (QC r).toNat m)
  rw [qm] at hL' ⊢
  rw [Qfq]
  generalize Q2 (QC r).toNat m = LL at *
  simp (disch := omega) only [rq, simprocAttr, Jc]
  refine Qa hC' ?_
  simp (disch := omega) only [rq, simprocAttr]
  refine QcI.vo hL' ?_
  simp (disch := omega) only [rq, simprocAttr, shr]
  simp [QO, Qx, frzL, Qy, frzL_T _ tl]
 ·rw [h] at hC'
  rw [QCe, qf (by omega)]
  simp (disch := omega) only [rq, simprocAttr, Jc]
  refine Qa hC' ?_
  simp (disch := omega) only [rq, simprocAttr]
  simp [QO, Qx, frzL, Qy]
theorem QBs {l : List Int} {i : Nat} (h : i < l.length) (R : List UInt8) : ((XE l ++ R).drop (4 * i)).take 4 = leB (l.getD i 0).toNat 4 := by
 have e1 : XE l = XE (l.take i) ++ (leB (l.getD i 0).toNat 4 ++ XE (l.drop (i + 1))) := by
  have h1 := Qn4 l i h
  have h2 : XE l = XE (l.take (i + 1)) ++ XE (l.drop (i + 1)) := by
   conv => lhs; rw [← qN (i + 1) l]
   simp only [XE, yr, yj]
  rw [h2, h1, qj]
 have hl : (XE (l.take i)).length = 4 * i := by rw [QfH, qu]; omega
 rw [e1, qj, qj, y6 (by omega), ya (by omega), qX, yu (by rw [Qc]; omega), qg (by rw [Qc]; omega)]
def Qc5 (P : Prg) (f : Nat) : Prop := ∀ (l : List Int) (R : List UInt8), skN l = 0 → R.length ≤ 1000000 → VC P f [bs (Q9 (XE l) ++ R), .int .i64 l.length] (.tup [Qfq l, .int .i64 0])
set_option maxHeartbeats 1000000 in
theorem Quc {P : Prg} {f fA fS fC t0 : Nat} (bd : Body P f 69 [.tmp 4, .tmp 5] (QcU fA fS fC t0)) (hA : Qfo P fA) (hS : Qhj P fS) (hC : Qgc P fC) : Qc5 P f := by
 intro l R h hR
 refine Qk 1 (by simp [isDL, QD, isD]) (by simp [isD, isDL, Qcy]) (Qb bd (by simp) ?_)
 rcases QiF l with h8 | ⟨_, n1, n2, hr⟩
 ·omega
 have htl := QfH l
 have hsl : (Q9 (XE l)).length = 4 * l.length + 4 := by rw [Q9, qe, Qc, htl]
 have hv : ∀ v ∈ l, -9223372036854775808 ≤ v ∧ v ≤ 9223372036854775807 := fun v hv => by
  obtain ⟨i, hi, rfl⟩ := jv.1 hv
  have := hr i hi
  rw [qd, qc hi] at this
  simp only [y5] at this
  omega
 have hC' := hC l (by omega) hv
 rw [h, Qfq] at hC'
 have hsm : Qbm (XE l) < 4294967296 := by unfold Qbm; omega
 have hS' := hS (XE l)
 rw [qf (by omega), ← Qbm, bs, htl] at hS'
 have hat := fun i (hi : i < l.length) => QBs (l := l) hi (leB (Qbm (XE l)) 4 ++ R)
 have hlast : ((Q9 (XE l) ++ R).drop (4 * l.length)).take 4 = leB (Qbm (XE l)) 4 := by
  rw [Q9, qj, ← htl, Ym, yu (by rw [Qc]; omega), qg (by rw [Qc]; omega)]
 have hfirst : (u8 (Q9 (XE l) ++ R)).take (4 * l.length) = u8 (XE l) := by rw [Qcq, Q9, qj, ← htl, List.take_left]
 have hbl : (Q9 (XE l) ++ R).length = 4 * l.length + 4 + R.length := by rw [qe, hsl]
 have hA0 := hA (Q9 (XE l) ++ R) (4 * l.length) 4 (by omega) (by omega) (by omega) (by omega)
 rw [qh (by omega), hlast, QdE 4 _ (by simpa using hsm), bs] at hA0
 have hA1 := fun i (hi : i < l.length) => hA (Q9 (XE l) ++ R) (4 * i) 4 (by omega) (by omega) (by omega) (by omega)
 have hat' := fun i (hi : i < l.length) => (by have := hat i hi; rw [← qj] at this; exact this : ((Q9 (XE l) ++ R).drop (4 * i)).take 4 = leB (l.getD i 0).toNat 4)
 have hub : (u8 (Q9 (XE l) ++ R)).length = 4 * l.length + 4 + R.length := by rw [Qr, hbl]
 generalize Qbm (XE l) = sm at *
 rw [bs]
 generalize hBB : Q9 (XE l) ++ R = B at *
 have hz : Qf [.int .i64 0] l.length = ks .i64 (l.take 0 ++ List.replicate (l.length - 0) 0) := by rw [QsL]; simp
 have tl := Qq .i64 l
 rw [hbl] at hA0 ⊢
 have s0 : 4 * l.length - 0 = 4 * l.length := rfl
 have n0 : ¬ (l.length : Int) < 1 := by omega
 have c4 : (4 : Int) * (l.length : Int) = ((4 * l.length : Nat) : Int) := by simp
 simp (disch := omega) only [rq, simprocAttr, QcU, c4]
 refine Qa hA0 ?_
 simp (disch := omega) only [rq, simprocAttr, c4, hfirst, hbl, s0]
 refine Qa hS' ?_
 simp (disch := omega) only [rq, simprocAttr, hz]
 refine Qg (ι := Nat) (fun k => ⟨[(49, .int .i64 k), (48, .int .i64 l.length), (10, .own 0 l.length), (0, .list (4 * l.length + 4 + R.length) (u8 B))], [⟨t0, 1, l.length, ks .i64 (l.take k ++ List.replicate (l.length - k) 0), 0⟩]⟩) (fun k => k ≤ l.length) (fun k => l.length - k) 0 (Ql) (by omega) ?_
 intro k hk
 have hkl : (ks .i64 (l.take k ++ List.replicate (l.length - k) 0)).length = l.length := by rw [Qh, qe, qu, yn]; omega
 by_cases hlt : k < l.length
 ·have hrk := hr k hlt
  have hA2 := hA1 k hlt
  have hzn : (l.getD k 0).toNat < 256 ^ 4 := by omega
  rw [qh (by omega), hat' k hlt, QdE 4 _ hzn, bs, hbl, Int.toNat_of_nonneg (by omega)] at hA2
  have hst : (ks .i64 (l.take k ++ List.replicate (l.length - k) 0)).take k ++ .int .i64 (l.getD k 0) :: (ks .i64 (l.take k ++ List.replicate (l.length - k) 0)).drop (k + 1) = ks .i64 (l.take (k + 1) ++ List.replicate (l.length - (k + 1)) 0) := by
   have hl1 : (l.take k).length = k := by rw [qu]; omega
   have htk : l.take (k + 1) = l.take k ++ [l.getD k 0] := by
    rw [qq hlt]
    simp [qd, qc hlt]
   rw [QqU, JU, htk, yu (by omega), qg (by omega), jA, ya (by omega), hl1, List.drop_replicate, qX]
   simp only [ks, yr, yq, Yp, qj, yc, qX]
   rw [show l.length - k - (k + 1 - k) = l.length - (k + 1) by omega]
  have hst2 : (ks .i64 (l.take k ++ List.replicate (l.length - k) 0)).take k ++ [.int .i64 (l.getD k 0)] ++ (ks .i64 (l.take k ++ List.replicate (l.length - k) 0)).drop (k + 1) = ks .i64 (l.take (k + 1) ++ List.replicate (l.length - (k + 1)) 0) := by rw [← hst]; simp
  have c4k : (4 : Int) * (k : Int) = ((4 * k : Nat) : Int) := by simp
  generalize hzz : l.getD k 0 = z at *
  simp (disch := omega) only [rq, simprocAttr, c4k, hkl]
  refine Qa hA2 ?_
  simp (disch := omega) only [rq, simprocAttr, hkl, hst, hst2]
  exact ⟨k + 1, by omega, by omega, Ql⟩
 ·have ek : k = l.length := by omega
  subst ek
  have e0 : l.take l.length ++ List.replicate (l.length - l.length) (0 : Int) = l := by simp
  rw [e0]
  simp (disch := omega) only [rq, simprocAttr]
  refine Q6 1 [0] hC' (by simp [QO, Qx, frzL, Qy, frzL_T _ tl]) ?_
  simp (disch := omega) only [rq, simprocAttr, QA]
  simp [QO, Qx, frzL, Qy, frzL_T _ tl, Qfq]
def rdF (b : List UInt8) (o k : Nat) : Nat := leN ((b.drop o).take k)
def Qs3 : List UInt8 := [84, 84, 65, 49]
def hrN (b : List UInt8) : Int :=
 if b.take 4 ≠ Qs3.take b.length then 12
 else if b.length < 22 then 24
 else if Qbm (b.take 18) ≠ rdF b 18 4 then 22
 else if ¬ shP (rdF b 4 2) (rdF b 6 2) (rdF b 8 2) (rdF b 10 4) (rdF b 14 4) then 12
 else if ¬ QuI (rdF b 6 2) (rdF b 10 4) (rdF b 14 4) then 4 else 0
def hrA (b : List UInt8) : AV := if hrN b = 0 then .tup [hdA (rdF b 4 2) (rdF b 6 2) (rdF b 8 2) (rdF b 10 4) (rdF b 14 4), .int .i64 0] else .tup [hdA 0 0 0 0 0, .int .i64 (hrN b)]
theorem QB7 (b : List UInt8) : isD (hrA b) = true := by unfold hrA; split <;> rfl
theorem QkQ (b : List UInt8) (o k : Nat) : rdF b o k < 2 ^ (8 * k) := by
 have h1 := QdD ((b.drop o).take k)
 have h2 : 2 ^ (8 * ((b.drop o).take k).length) ≤ 2 ^ (8 * k) := qr (by omega) (by rw [qu]; omega)
 rw [rdF]; omega
theorem QkR {A B C : List UInt8} {o k n : Nat} (h : A.length = o) (hn : n < 256 ^ k) (e : B = leB n k) : rdF (A ++ (B ++ C)) o k = n := by
 subst h e
 rw [rdF, Ym, yu (by rw [Qc]; omega), qg (by rw [Qc]; omega), QdE _ _ hn]
theorem QCd {f c b r n : Int} (h : hdN f c b r n = 0) (R : List UInt8) : hrA (hdB f.toNat c.toNat b.toNat r.toNat n.toNat ++ R) = .tup [hdA f c b r n, .int .i64 0] := by
 have hh : shP f c b r n ∧ QuI c r n := by
  unfold hdN at h
  split at h
  ·assumption
  ·cases h
 obtain ⟨f, c, b, r, n, rfl, rfl, rfl, rfl, rfl, a1, a2, a3, a4, a5⟩ := Qxt h
 simp only [qm]
 have l5 : (hdP f c b r n 5).length = 18 := by simp [hdP, Qc]
 have hsm : Qbm (hdP f c b r n 5) < 4294967296 := by unfold Qbm; omega
 have e0 : hdB f c b r n ++ R = [84, 84, 65, 49] ++ (leB f 2 ++ (leB c 2 ++ (leB b 2 ++ (leB r 4 ++ (leB n 4 ++ (leB (Qbm (hdP f c b r n 5)) 4 ++ R)))))) := by
  simp only [hdB, Q9, hdP, qj]
 have lX : (hdB f c b r n ++ R).length = 22 + R.length := by rw [hdB, Q9, qe, qe, Qc, l5]
 have e1 : rdF (hdB f c b r n ++ R) 4 2 = f := by
  rw [e0]
  exact QkR rfl (by omega) rfl
 have e2 : rdF (hdB f c b r n ++ R) 6 2 = c := by
  rw [e0, ← qj]
  exact QkR (by simp [Qc]) (by omega) rfl
 have e3 : rdF (hdB f c b r n ++ R) 8 2 = b := by
  rw [e0, ← qj, ← qj]
  exact QkR (by simp [Qc]) (by omega) rfl
 have e4 : rdF (hdB f c b r n ++ R) 10 4 = r := by
  rw [e0, ← qj, ← qj, ← qj]
  exact QkR (by simp [Qc]) (by omega) rfl
 have e5 : rdF (hdB f c b r n ++ R) 14 4 = n := by
  rw [e0, ← qj, ← qj, ← qj, ← qj]
  exact QkR (by simp [Qc]) (by omega) rfl
 have e6 : rdF (hdB f c b r n ++ R) 18 4 = Qbm (hdP f c b r n 5) := by
  rw [hdB, Q9, qj]
  exact QkR l5 (by simpa using hsm) rfl
 have e7 : (hdB f c b r n ++ R).take 18 = hdP f c b r n 5 := by
  rw [hdB, Q9, qj, ← l5, List.take_left]
 have e8 : (hdB f c b r n ++ R).take 4 = Qs3.take (hdB f c b r n ++ R).length := by
  rw [lX, qg (l := Qs3) (by simp [Qs3]; omega), e0]
  rfl
 have h0 : hrN (hdB f c b r n ++ R) = 0 := by
  unfold hrN
  rw [qf (by rw [e8]; simp), qf (by omega), qf (by rw [e6, e7]; simp), e1, e2, e3, e4, e5, qf (fun q => q hh.1), qf (fun q => q hh.2)]
 rw [hrA, qh h0, e1, e2, e3, e4, e5]
def Qt3 (c x r : Int) (l : List Int) (p : List UInt8) : List UInt8 := Qqj p ++ (Q9 (XE (Xl (Qn c x r l (ofK (Zt 0 p) 8)))) ++ (Qn c x r l (ofK (Zt 0 p) 8)).flatten)
theorem QoV {c x r : Int} {l : List Int} (p : List UInt8) (h : QT c x r l = 0) : QcB c x r l p = hdB (Qee p).toNat c.toNat x.toNat r.toNat (((l.length : Int) / c).toNat) ++ Qt3 c x r l p ∧ hrA (QcB c x r l p) = .tup [hdA (Qee p) c x r (l.length / c), .int .i64 0] := by
 have hd := Qmf p h
 obtain ⟨k, n, rfl, _⟩ := ZH h
 have e1 : (((l.length : Int) / (k : Int)).toNat) = l.length / (k : Int).toNat := by
  rw [qm, ← yC, qm]
 have e2 : QcB k x r l p = hdB (Qee p).toNat (k : Int).toNat x.toNat r.toNat (((l.length : Int) / (k : Int)).toNat) ++ Qt3 k x r l p := by rw [e1]; rfl
 exact ⟨e2, by rw [e2]; exact QCd hd _⟩
theorem Qq3 (f c b r n : Nat) : (hdB f c b r n).length = 22 := by
 rw [hdB, Q9, qe, Qc]
 simp [hdP, Qc]
theorem QfK (l : List Int) : (Q9 (XE l)).length = 4 * l.length + 4 := by rw [Q9, qe, Qc, QfH]
theorem QAk {c x r : Int} {l : List Int} {p : List UInt8} (h : QT c x r l = 0) (hI : I32 l) : (QcB c x r l p).length = 22 + (Qqj p).length + (4 * (Qn c x r l (ofK (Zt 0 p) 8)).length + 4) + (Qn c x r l (ofK (Zt 0 p) 8)).flatten.length ∧ (QcB c x r l p).length ≤ 60000 := by
 have h1 := (QoV p h).1
 have h2 := Qb8 h
 have h3 := Xo c x r l (ofK (Zt 0 p) 8)
 have h4 := (Qqr (T := ofK (Zt 0 p) 8) h hI).2
 have h5 : (Qqj p).length ≤ 8 := by unfold Qqj; split <;> simp [Qc]
 have h6 := QfK (Xl (Qn c x r l (ofK (Zt 0 p) 8)))
 rw [QaC] at h6
 rw [h1, Qt3, qe, qe, qe, Qq3, h6]
 omega
theorem Qq6 : ∀ (F : List (List UInt8)) (i : Nat), i < F.length → (F.flatten.drop ((F.take i).flatten.length)).take (F.getD i []).length = F.getD i []
 | [], i, h => by simp at h
 | b :: F, 0, _ => by simp
 | b :: F, i + 1, h => by
  have := Qq6 F i (by simpa using h)
  simp only [y8, yN, qe, List.getD_cons_succ]
  rw [← yl, Ym]
  exact this
theorem Qi0 (F : List (List UInt8)) (i : Nat) (h : i < F.length) : (F.take (i + 1)).flatten.length = (F.take i).flatten.length + (F.getD i []).length := by
 rw [qq h, yj, qe]
 simp [qd, qc h, -List.length_flatten]
theorem Qef (F : List (List UInt8)) (i : Nat) : (F.take i).flatten.length ≤ F.flatten.length := by
 conv => rhs; rw [← qN i F, yj, qe]
 omega
def Qll (P : Prg) (f : Nat) : Prop := ∀ s t : List UInt8, s.length ≤ 1000000 → t.length ≤ 1000000 → VC P f [.str s, .str t] (.bool (s.take t.length == t))
theorem Qoa {P : Prg} {f : Nat} (bd : Body P f 18 [.tmp 4] QP) : Qll P f := by
 intro s t hs ht
 refine Qv rfl rfl bd ?_
 by_cases h : t.length ≤ s.length
 ·have hs1 : QhP .eql (s.take t.length) t = some (.bool (s.take t.length == t)) := rfl
  simp (disch := omega) only [rq, simprocAttr, QP, hs1]
 ·have : (s.take t.length == t) = false := beq_eq_false_iff_ne.2 fun e => by
   have := congrArg List.length e
   rw [qu] at this
   omega
  rw [this]
  simp (disch := omega) only [rq, simprocAttr, QP]
theorem Qgn {P : Prg} {f fS : Nat} (bd : Body P f 8 [.tmp 4] (XR fS)) (hS : Qll P fS) : Qll P f := by
 intro s t hs ht
 refine Qv rfl rfl bd ?_
 have hS' := hS s t hs ht
 simp (disch := omega) only [rq, simprocAttr, XR]
 refine Qa hS' ?_
 simp (disch := omega) only [rq, simprocAttr]
def hrC (a b c d e : Nat) : Nat → List AV
 | 0 => [.int .i64 0, .int .i64 0, .int .i64 0, .int .i64 0, .int .i64 0]
 | 1 => [.int .i64 a, .int .i64 0, .int .i64 0, .int .i64 0, .int .i64 0]
 | 2 => [.int .i64 a, .int .i64 b, .int .i64 0, .int .i64 0, .int .i64 0]
 | 3 => [.int .i64 a, .int .i64 b, .int .i64 c, .int .i64 0, .int .i64 0]
 | 4 => [.int .i64 a, .int .i64 b, .int .i64 c, .int .i64 d, .int .i64 0]
 | _ => [.int .i64 a, .int .i64 b, .int .i64 c, .int .i64 d, .int .i64 e]
def hrT : Nat → Nat
 | 0 => 4
 | 1 => 6
 | 2 => 8
 | 3 => 10
 | 4 => 14
 | _ => 18
def Qen (P : Prg) (g : Nat) : Prop := ∀ b : List UInt8, b.length ≤ 1000000 → VC P g [bs b] (hrA b)
set_option maxHeartbeats 2000000 in
theorem Qq0 {P : Prg} {g fP fA fS fH fF t0 t1 g0 : Nat} (bd : Body P g 86 [.cell 2 t0, .tmp 3] (Z8 fP fA fS fH fF t0 t1 g0)) (hP : Qll P fP) (hA : Qfo P fA) (hS : Qhj P fS) (hH : Qh4 P fH) (hF : QtE P fF) (ht : Zu P t0 = some (some 5)) (h0 : P.G.lookup g0 = some QCM) : Qen P g := by
 intro b hb
 refine Qv (by simp [isDL, QD]) (QB7 b) bd ?_
 have hP' := hP Qs3 (b.take 4) (by simp [Qs3]) (by rw [qu]; omega)
 have hpre : (Qs3.take (b.take 4).length == b.take 4) = decide (b.take 4 = Qs3.take b.length) := by
  rw [qu]
  have : Qs3.take (min 4 b.length) = Qs3.take b.length := by
   rcases Nat.le_total 4 b.length with h | h
   ·rw [qL h, qg (by simp [Qs3]), qg (by simp [Qs3]; omega)]
   ·rw [j7 h]
  rw [this, Ye, beq_iff_eq, qx]
  exact ⟨fun h => h.symm, fun h => h.symm⟩
 rw [hpre] at hP'
 have hP0 : VC P fP [.str [84, 84, 65, 49], .str (b.take 4)] (.bool (decide (b.take 4 = Qs3.take b.length))) := hP'
 clear hP'
 have hmin : min 4 b.length = (b.take 4).length := by rw [qu]
 have hu4 : (u8 b).take (min 4 b.length) = u8 (b.take 4) := by
  rcases Nat.le_total 4 b.length with h | h
  ·rw [qL h, Qcq]
  ·rw [j7 h, Qcq, qg (l := b) (by omega), qg (l := b) (by omega)]
 have hd4 := QaE (b.take 4)
 have hmi : (if (b.length : Int) < 4 then (b.length : Int) else 4) = ((min 4 b.length : Nat) : Int) := by split <;> omega
 have hm1 : min 4 b.length ≤ b.length := Nat.min_le_right _ _
 clear hmin
 obtain ⟨mm, hm4⟩ : ∃ m, min 4 b.length = m := ⟨_, rfl⟩
 rw [hm4] at hmi hu4 hm1
 have hm2 : min mm b.length = mm := qL hm1
 by_cases c1 : b.take 4 = Qs3.take b.length
 case neg =>
  have e : hrN b = 12 := by rw [hrN, qh c1]
  rw [decide_eq_false c1] at hP0
  rw [hrA, qf (by omega), e]
  rw [bs]
  simp (disch := omega) only [rq, simprocAttr, Z8, hmi, hu4, hd4, jm, hm2, hm4]
  refine Qa hP0 ?_
  simp (disch := omega) only [rq, simprocAttr, Q1, ht, QL, hdA]
 rw [decide_eq_true c1] at hP0
 by_cases c2 : b.length < 22
 ·have e : hrN b = 24 := by rw [hrN, qf (by simpa using c1), qh c2]
  rw [hrA, qf (by omega), e]
  rw [bs]
  simp (disch := omega) only [rq, simprocAttr, Z8, hmi, hu4, hd4, jm, hm2, hm4]
  refine Qa hP0 ?_
  simp (disch := omega) only [rq, simprocAttr, Q1, ht, QL, hdA]
 obtain rfl : mm = 4 := by omega
 have hA' := fun (a w : Nat) (h1 : 1 ≤ w) (h2 : w ≤ 8) (h3 : a + w ≤ 22) => by
  have := hA b a w (by omega) h1 h2 (by omega)
  rw [qh (by omega), bs, ← rdF] at this
  exact this
 have A18 := hA' 18 4 (by omega) (by omega) (by omega)
 have A0 := hA' 4 2 (by omega) (by omega) (by omega)
 have A1 := hA' 6 2 (by omega) (by omega) (by omega)
 have A2 := hA' 8 2 (by omega) (by omega) (by omega)
 have A3 := hA' 10 4 (by omega) (by omega) (by omega)
 have A4 := hA' 14 4 (by omega) (by omega) (by omega)
 have r18 := QkQ b 18 4
 have r0 := QkQ b 4 2
 have r1 := QkQ b 6 2
 have r2 := QkQ b 8 2
 have r3 := QkQ b 10 4
 have r4 := QkQ b 14 4
 have hl18 : (b.take 18).length = 18 := by rw [qu]; omega
 have hS' := hS (b.take 18)
 rw [qf (by omega), ← Qbm, bs, hl18] at hS'
 have hsm : Qbm (b.take 18) < 4294967296 := by unfold Qbm; omega
 have hu18 : (u8 b).take 18 = u8 (b.take 18) := Qcq _ _
 have hH' := hH (rdF b 4 2) (rdF b 6 2) (rdF b 8 2) (rdF b 10 4) (rdF b 14 4)
 have hF' := hF (rdF b 4 2) (rdF b 6 2) (rdF b 8 2) (rdF b 10 4) (rdF b 14 4)
 have g0' : QpS P.G g0 = .cell [.int .i64 2, .int .i64 2, .int .i64 2, .int .i64 4, .int .i64 4] := by simp [QpS, h0, QCM]
 by_cases c3 : Qbm (b.take 18) = rdF b 18 4
 case neg =>
  have e : hrN b = 22 := by rw [hrN, qf (by simpa using c1), qf c2, qh c3]
  rw [hrA, qf (by omega), e]
  generalize rdF b 18 4 = R18 at *
  generalize Qbm (b.take 18) = SM at *
  have c3' : ¬ (SM : Int) = (R18 : Int) := by omega
  rw [bs]
  simp (disch := omega) only [rq, simprocAttr, Z8, hmi, hu4, hd4, jm, hm2, hm4]
  refine Qa hP0 ?_
  simp (disch := omega) only [rq, simprocAttr]
  refine Qa A18 ?_
  simp (disch := omega) only [rq, simprocAttr, hu18]
  refine Qa hS' ?_
  simp (disch := omega) only [rq, simprocAttr, Q1, ht, QL, hdA]
 have hN : hrN b = if ¬ shP (rdF b 4 2) (rdF b 6 2) (rdF b 8 2) (rdF b 10 4) (rdF b 14 4) then 12
   else if ¬ QuI (rdF b 6 2) (rdF b 10 4) (rdF b 14 4) then 4 else 0 := by rw [hrN, qf (by simpa using c1), qf c2, qf (by simpa using c3)]
 rw [hrA, hN]
 rw [← c3] at A18
 clear hN hA'
 generalize rdF b 4 2 = v0 at *
 generalize rdF b 6 2 = v1 at *
 generalize rdF b 8 2 = v2 at *
 generalize rdF b 10 4 = v3 at *
 generalize rdF b 14 4 = v4 at *
 generalize Qbm (b.take 18) = SM at *
 rw [bs]
 rw [hdA] at hH' hF'
 generalize hE : (if ¬ shP v0 v1 v2 v3 v4 then (12 : Int) else if ¬ QuI v1 v3 v4 then 4 else 0) = E
 simp (disch := omega) only [rq, simprocAttr, Z8, hmi, hu4, hd4, jm, hm2, hm4]
 refine Qa hP0 ?_
 simp (disch := omega) only [rq, simprocAttr]
 refine Qa A18 ?_
 simp (disch := omega) only [rq, simprocAttr, hu18]
 refine Qa hS' ?_
 simp (disch := omega) only [rq, simprocAttr, g0']
 refine Qg (ι := Nat) (fun j => ⟨[(45, .int .i64 j), (44, .agg [.int .i64 2, .int .i64 2, .int .i64 2, .int .i64 4, .int .i64 4]), (9, .int .i64 (hrT j)), (8, .ref 1 1 0), (2, .ref 0 1 0), (0, .list b.length (u8 b))], [⟨t0, 5, 1, [.int .i64 0, .int .i64 0, .int .i64 0, .int .i64 0, .int .i64 0], 0⟩, ⟨t1, 5, 1, hrC v0 v1 v2 v3 v4 j, 0⟩]⟩) (fun j => j ≤ 5) (fun j => 5 - j) 0 (Qm (by simp [Am.look, hrT, hrC])) (by omega) ?_
 intro j hj
 have hj5 : j = 0 ∨ j = 1 ∨ j = 2 ∨ j = 3 ∨ j = 4 ∨ j = 5 := by omega
 rcases hj5 with rfl | rfl | rfl | rfl | rfl | rfl
 ·simp (disch := omega) only [rq, simprocAttr, hrT, hrC]
  refine Qa A0 ?_
  simp (disch := omega) only [rq, simprocAttr]
  exact ⟨1, by omega, by omega, Qm (by simp [Am.look, hrT])⟩
 ·simp (disch := omega) only [rq, simprocAttr, hrT, hrC]
  refine Qa A1 ?_
  simp (disch := omega) only [rq, simprocAttr]
  exact ⟨2, by omega, by omega, Qm (by simp [Am.look, hrT])⟩
 ·simp (disch := omega) only [rq, simprocAttr, hrT, hrC]
  refine Qa A2 ?_
  simp (disch := omega) only [rq, simprocAttr]
  exact ⟨3, by omega, by omega, Qm (by simp [Am.look, hrT])⟩
 ·simp (disch := omega) only [rq, simprocAttr, hrT, hrC]
  refine Qa A3 ?_
  simp (disch := omega) only [rq, simprocAttr]
  exact ⟨4, by omega, by omega, Qm (by simp [Am.look, hrT])⟩
 ·simp (disch := omega) only [rq, simprocAttr, hrT, hrC]
  refine Qa A4 ?_
  simp (disch := omega) only [rq, simprocAttr]
  exact ⟨5, by omega, by omega, Qm (by simp [Am.look, hrT])⟩
 ·by_cases d1 : shP v0 v1 v2 v3 v4
  case neg =>
   rw [qh d1] at hE
   subst hE
   rw [qf (by omega)]
   rw [decide_eq_false d1] at hH'
   simp (disch := omega) only [rq, simprocAttr, hrT, hrC]
   refine Qa hH' ?_
   simp (disch := omega) only [rq, simprocAttr, Q1, ht, QL, hdA]
  rw [qf (fun q => q d1)] at hE
  rw [decide_eq_true d1] at hH'
  have hF2 := hF' d1.2.2.1 d1.2.2.2.1
  by_cases d2 : QuI v1 v3 v4
  ·rw [qf (fun q => q d2)] at hE
   subst hE
   rw [qh rfl]
   rw [decide_eq_true d2] at hF2
   simp (disch := omega) only [rq, simprocAttr, hrT, hrC]
   refine Qa hH' ?_
   simp (disch := omega) only [rq, simprocAttr]
   refine Qa hF2 ?_
   simp (disch := omega) only [rq, simprocAttr, Q1, ht, QL, hdA]
  ·rw [qh d2] at hE
   subst hE
   rw [qf (by omega)]
   rw [decide_eq_false d2] at hF2
   simp (disch := omega) only [rq, simprocAttr, hrT, hrC]
   refine Qa hH' ?_
   simp (disch := omega) only [rq, simprocAttr]
   refine Qa hF2 ?_
   simp (disch := omega) only [rq, simprocAttr, Q1, ht, QL, hdA]
theorem QzT {l : List Int} (h : (decide (300 < l.length) && decide (l.length ≤ 4000) || decide (4010 < l.length)) = false) : l.length ≤ 4010 := by
 simp only [Bool.or_eq_false_iff, decide_eq_false_iff_not] at h
 omega
def ewA (b p : List UInt8) : AV := match Qhv b with
 | .inl e => .tup [.list 0 [], .int .i64 e]
 | .inr (c, x, r, l) => Qhx c x r l p
theorem QB9 (b p : List UInt8) : isD (ewA b p) = true := by
 unfold ewA
 split
 ·simp [isD, isDL]
 ·exact Qta _ _ _ _ _
def QtF (P : Prg) (f : Nat) : Prop := ∀ b p : List UInt8, b.length < 140737488355328 → VC P f [bs b, .str p] (ewA b p)
theorem QuL {P : Prg} {f fR fF t0 : Nat} (bd : Body P f 21 [.tmp 4, .tmp 5] (QaI fR fF t0)) (hR : Qjw P fR) (hF : Qnp P fF) : QtF P f := by
 intro b p hb
 refine Qk 1 (by simp [isDL, QD, isD]) (QB9 b p) (Qb bd (by simp) ?_)
 have hR' := hR b hb
 unfold ewA
 cases h : Qhv b with
 | inl e =>
  rw [h, bs] at hR'
  have he := QwI h
  simp only
  rw [bs]
  simp (disch := omega) only [rq, simprocAttr, QaI]
  refine Qa hR' ?_
  simp (disch := omega) only [rq, simprocAttr, JM, clA, il, ks]
  simp [QO, Qx, frzL, Qy]
 | inr q =>
  obtain ⟨c, x, r, l⟩ := q
  rw [h, bs] at hR'
  obtain ⟨h0, hI, h4⟩ := Qzy h
  have hF' := hF c x r l p hI (by omega)
  obtain ⟨o, y, e1, _⟩ := Qwj c x r l p
  simp only
  rw [e1] at hF' ⊢
  simp only [clA, il, bs] at hF' ⊢
  simp (disch := omega) only [rq, simprocAttr, QaI]
  refine Qa hR' ?_
  simp (disch := omega) only [rq, simprocAttr, JM, clA, il]
  refine Qa hF' ?_
  simp (disch := omega) only [rq, simprocAttr]
  simp [QO, Qx, frzL, Qy, frzL_T _ (QF _)]
def QtC (P : Prg) (f : Nat) : Prop := ∀ s t : List UInt8, s.length ≤ 1000000 → t.length ≤ 1000000 → VC P f [bs s, bs t] (.bool (s.take t.length == t))
theorem Qjf {P : Prg} {f fE : Nat} (bd : Body P f 18 [.tmp 4] (Xf fE)) (hE : Qga P fE) : QtC P f := by
 intro s t hs ht
 refine Qv (by simp [isDL, QD]) rfl bd ?_
 by_cases h : t.length ≤ s.length
 ·have hE' := hE (s.take t.length) t
  have hl : (s.take t.length).length = t.length := by rw [qu]; omega
  have hu : (u8 s).take t.length = u8 (s.take t.length) := Qcq _ _
  rw [bs, bs, hl] at hE'
  simp only [bs]
  simp (disch := omega) only [rq, simprocAttr, Xf, hu, jm]
  refine Qa hE' ?_
  simp (disch := omega) only [rq, simprocAttr]
 ·have : (s.take t.length == t) = false := beq_eq_false_iff_ne.2 fun e => by
   have := congrArg List.length e
   rw [qu] at this
   omega
  rw [this]
  simp only [bs]
  simp (disch := omega) only [rq, simprocAttr, Xf]
def QAG (b : List UInt8) : Prop := b.length ≤ 1000000 ∧ (b.take 3 == [73, 68, 51]) = false ∧ (b.take 8 == [65, 80, 69, 84, 65, 71, 69, 88]) = false
def QbZ (P : Prg) (f : Nat) : Prop := ∀ b, QAG b → VC P f [bs b] (.tup [.int .i64 0, .int .i64 6])
theorem QoF {P : Prg} {f fH fV fS fE t0 : Nat} (bd : Body P f 78 [.tmp 2, .tmp 3] (Qbg fH fV fS fE t0)) (hH : QtC P fH) : QbZ P f := by
 intro b ⟨h1, h2, h3⟩
 refine Qv (by simp [isDL, QD]) rfl bd ?_
 have hH' := hH b [73, 68, 51] h1 (by simp)
 rw [show ([73, 68, 51] : List UInt8).length = 3 from rfl, h2] at hH'
 have hH2 : VC P fH [.list b.length (u8 b), .list 3 [.int .u8 73, .int .u8 68, .int .u8 51]] (.bool false) := hH'
 simp only [bs]
 simp (disch := omega) only [rq, simprocAttr, Qbg]
 refine Q6 1 [0] hH2 (by simp [QO, Qx, frzL, Qy, isDL, isD, frzL_T _ (QF b)]) ?_
 simp (disch := omega) only [rq, simprocAttr, QA]
theorem Qyy {P : Prg} {f fH fT fN fE t0 t1 : Nat} (bd : Body P f 43 [.tmp 2, .tmp 3] (QdV fH fT fN fE t0 t1)) (hH : QtC P fH) : QbZ P f := by
 intro b ⟨h1, h2, h3⟩
 refine Qv (by simp [isDL, QD]) rfl bd ?_
 have hH' := hH b [65, 80, 69, 84, 65, 71, 69, 88] h1 (by simp)
 rw [show ([65, 80, 69, 84, 65, 71, 69, 88] : List UInt8).length = 8 from rfl, h3] at hH'
 have hH2 : VC P fH [.list b.length (u8 b), .list 8 [.int .u8 65, .int .u8 80, .int .u8 69, .int .u8 84, .int .u8 65, .int .u8 71, .int .u8 69, .int .u8 88]] (.bool false) := hH'
 simp only [bs]
 simp (disch := omega) only [rq, simprocAttr, QdV]
 refine Q6 1 [0] hH2 (by simp [QO, Qx, frzL, Qy, isDL, isD, frzL_T _ (QF b)]) ?_
 simp (disch := omega) only [rq, simprocAttr, QA]
theorem Qt5 {P : Prg} {f fI fA : Nat} (bd : Body P f 19 [.tmp 2, .tmp 3] (QcT fI fA)) (hI : QbZ P fI) (hA : QbZ P fA) : QbZ P f := by
 intro b h
 refine Qv (by simp [isDL, QD]) rfl bd ?_
 have hI' := hI b h
 have hA' := hA b h
 rw [bs] at hI' hA' ⊢
 simp (disch := omega) only [rq, simprocAttr, QcT]
 iterate 2 (refine Qa (by assumption) ?_; simp (disch := omega) only [rq, simprocAttr])
def Qr6 (g : Nat) (P : Prg) (f : Nat) : Prop := ∀ b : List UInt8, VC P f [bs b] (.fn (.func g) [] [.cell [bs b]])
theorem Qt4 {P : Prg} {f g t0 : Nat} (bd : Body P f 4 [.tmp 2] (QcS g t0)) : Qr6 g P f := by
 intro b
 refine Qk 1 (by simp [isDL, QD]) (by simp [isD, isDL, QD]) (Qb bd (by simp) ?_)
 have tb := QF b
 simp (disch := omega) only [rq, simprocAttr, QcS, bs]
 simp [QO, Qx, frzL, Qy, frzL_T _ tb]
theorem Qqk {P : Prg} {f fS : Nat} (bd : Body P f 35 [] (Jw fS)) (hS : QbZ P fS) {b : List UInt8} (h : QAG b) : ACall P f [.any, .cell [bs b]] [] (fun _ _ => True) := by
 refine Qb bd (by simp) ?_
 have hS' := hS b h
 rw [bs] at hS' ⊢
 simp (disch := omega) only [rq, simprocAttr, Jw]
 refine Qg (ι := Unit) (fun _ => ⟨[(3, .int .i64 0), (1, .cell [.list b.length (u8 b)])], []⟩) (fun _ => True) (fun _ => 0) () (Ql) trivial ?_
 intro _ _
 have hub : (u8 b).take b.length = u8 b := qg (by rw [Qr]; omega)
 simp (disch := omega) only [rq, simprocAttr, yJ, jm, Int.sub_zero, hub]
 refine Qa hS' ?_
 simp (disch := omega) only [rq, simprocAttr]
def Qbj (fT t0 t1 : Nat) : RC0 := ⟨[.reg [zs 2 (.alloc t0 [.int .i64 0]), zs 3 (.alloc t1 [.int .i64 0])], .reg [zs 4 (.alloc t0 [.int .i64 0]), zu (.store 1 (.tmp 4) (.const (.int .i64 0)))]], 8, .reg [zm 7 0, zq 8 fT [(.tmp 7)]], .seq (.reg [zl 17 4, zw 1 2 17, zu (.store 1 (.tmp 3) (.const (.int .i64 0)))]) (.ret)⟩
def Qgi (P : Prg) (f : Nat) : Prop := ∀ b, QAG b → VC P f [bs b] (.tup [.int .i64 0, .int .i64 0])
theorem Qql {P : Prg} {f fT g fS t0 t1 : Nat} (bd : QAJ P f 18 [.cell 2 t0, .cell 3 t1] (Qbj fT t0 t1)) (hT : Qr6 g P fT) (bG : Body P g 35 [] (Jw fS)) (hS : QbZ P fS) (h0 : Zu P t0 = some none) (h1 : Zu P t1 = some none) : Qgi P f := by
 intro b h
 refine Qc4 (by simp [isDL, QD]) rfl (ACall.of_rangeN bd (by simp) ?_)
 have hT' := hT b
 have hI := Qqk bG hS h
 have hc : isDL [bs b] = true := by simp [isDL, QD]
 rw [bs] at hT' hI hc ⊢
 simp (disch := omega) only [rq, simprocAttr, Qbj, QyY, QBl, Quz, QB1, QoA, QDj]
 refine Qa hT' ?_
 simp (disch := omega) only [rq, simprocAttr, QoA]
 refine ⟨g, _, fun j => j.elim0, rfl, bG.ent, hc, Qxk hc hI, ?_⟩
 simp (disch := omega) only [rq, simprocAttr, Q1, h0, h1, QL]
def QjK (P : Prg) (f : Nat) : Prop := VC P f [.list 0 []] (.tup [.int .i64 0, .int .i64 0])
theorem Qn6 {P : Prg} {f fB t0 : Nat} (bd : Body P f 27 [.tmp 2, .tmp 3] (Qbe fB t0)) : QjK P f := by
 refine Qv rfl rfl bd ?_
 simp (disch := omega) only [rq, simprocAttr, Qbe]
 refine Qg (ι := Unit) (fun _ => ⟨[(5, .int .i64 0), (1, .ref 0 1 0)], [⟨t0, 1, 1, [.list 0 []], 0⟩]⟩) (fun _ => True) (fun _ => 0) () (Ql) trivial ?_
 intro _ _
 simp (disch := omega) only [rq, simprocAttr]
structure QyP (c x r : Int) (l : List Int) (p B : List UInt8) (FF : List (List UInt8)) (NL : List Int) (n d : Nat) : Prop where
 d0 : p = [] → d = 0
 d8 : p ≠ [] → d = 8 ∧ (B.drop 22).take 8 = leB (Zt 0 p) 8
 len : B.length = 22 + d + (4 * FF.length + 4) + FF.flatten.length
 le : B.length ≤ 60000
 tag : QAG B
 hd : hrA B = .tup [hdA (Qee p) c x r n, .int .i64 0]
 fr : QCe (Qee p) c x r n = .tup [Qfq NL, .int .i64 0]
 nl : NL.length = FF.length
 tab : B.drop (22 + d) = Q9 (XE (Xl FF)) ++ FF.flatten
 rest : ∀ q, B.drop (22 + d + (4 * FF.length + 4) + q) = FF.flatten.drop q
 sk : skN (Xl FF) = 0
 f1 : 1 ≤ FF.length
 f2 : FF.length ≤ 1000
theorem Qk7 {c x r : Int} {l : List Int} (p : List UInt8) (h : QT c x r l = 0) (hI : I32 l) : QyP c x r l p (QcB c x r l p) (Qn c x r l (ofK (Zt 0 p) 8)) (Q2 (QC r).toNat (l.length / c.toNat)) (l.length / c.toNat) (Qqj p).length := by
 obtain ⟨hfh, hfA⟩ := QoV p h
 obtain ⟨hfl, hf6⟩ := QAk (p := p) h hI
 have hFl := Xo c x r l (ofK (Zt 0 p) 8)
 have hpl := QaZ c r l
 obtain ⟨k, n, rfl, hk1, hk2, hln, hok, hl4⟩ := ZH h
 have hdN := Qmf p h
 have hq : (l.length : Int) / (k : Int) = ((l.length / k : Nat) : Int) := by simp
 rw [hq] at hfA hdN
 simp only [qm] at hpl ⊢
 have h22 : (QcB k x r l p).drop 22 = Qt3 k x r l p := by
  rw [hfh, y6 (by rw [Qq3]; omega), yf (by rw [Qq3]; omega), qX]
 have hdr : ∀ q, (QcB k x r l p).drop (22 + (Qqj p).length + q) = (Q9 (XE (Xl (Qn k x r l (ofK (Zt 0 p) 8)))) ++ (Qn k x r l (ofK (Zt 0 p) 8)).flatten).drop q := fun q => by
  rw [yy, ← yl, h22, Qt3, ← yl, Ym]
 have hd0 := hdr 0
 rw [yi, yJ] at hd0
 have hll := QaC (Qn k x r l (ofK (Zt 0 p) 8))
 have hst := QfK (Xl (Qn k x r l (ofK (Zt 0 p) 8)))
 rw [hll] at hst
 refine ⟨fun e => by rw [e]; rfl, fun hp0 => ?_, hfl, hf6, ?_, hfA, ?_, ?_, hd0, fun q => ?_, (Qqr (T := ofK (Zt 0 p) 8) h hI).1, ?_, ?_⟩
 ·have e1 : Qqj p = leB (Zt 0 p) 8 := by rw [Qqj, qf hp0]
  rw [h22, Qt3, e1, yu (by rw [Qc]; omega), qg (by rw [Qc]; omega)]
  exact ⟨Qc _ _, rfl⟩
 ·have hc : ∃ R, QcB k x r l p = 84 :: R := ⟨_, rfl⟩
  obtain ⟨R, hR⟩ := hc
  refine ⟨by omega, ?_, ?_⟩ <;> rw [hR] <;> simp
 ·rw [QCe, qh hdN, qm]
 ·rw [hFl, hpl]
 ·rw [yy, hdr, ← hst, ← yl, Ym]
 ·rw [hFl, hpl, ZL]; exact Nat.le_add_left 1 _
 ·rw [hFl]; exact Qb8 h
def hdC (p : List UInt8) (c x r : Int) (n d : Nat) (F : AV) (y z : Nat) : List AV := [.int .i64 (Qee p), .int .i64 c, .int .i64 x, .int .i64 r, .int .i64 n, .int .i64 0, .int .i64 22, .int .i64 ((22 + d : Nat) : Int), .int .i64 y, .int .i64 z, F]
section
variable {P : Prg} {c x r : Int} {l NL : List Int} {p B : List UInt8} {FF : List (List UInt8)} {n d : Nat}
theorem Qij {f fF fR fM t0 : Nat} (bd : Body P f 62 [.cell 2 t0, .tmp 3] (X3 fF fR fM t0)) (ht : Zu P t0 = some (some 11)) (hF : Qgi P fF) (hR : Qen P fR) (hM : QaT P fM) (h : QyP c x r l p B FF NL n d) : VC P f [bs B] (.tup [.agg (hdC p c x r n d (.list FF.length (ks .i64 NL)) 0 0), .int .i64 0]) := by
 refine Qv (by simp [isDL, QD]) (by simp [isD, isDL, hdC, Zc]) bd ?_
 have hle := h.le
 have hF' := hF B h.tag
 have hR' := hR B (by omega)
 have hM' := hM (Qee p) c x r n
 rw [h.hd, hdA] at hR'
 rw [h.fr, hdA, Qfq, h.nl] at hM'
 have hub : (u8 B).take B.length = u8 B := qg (by rw [Qr]; omega)
 have hp : (p = [] ∧ Qee p = 1 ∧ d = 0) ∨ (p ≠ [] ∧ Qee p = 2 ∧ d = 8) := by
  by_cases e : p = []
  ·exact .inl ⟨e, by rw [Qee, qh e], h.d0 e⟩
  ·exact .inr ⟨e, by rw [Qee, qf e], (h.d8 e).1⟩
 rw [bs] at hF' hR' ⊢
 simp only [hdC]
 rcases hp with ⟨_, e1, e2⟩ | ⟨_, e1, e2⟩
 all_goals
  rw [e1] at hR' hM' ⊢
  rw [e2]
  simp (disch := omega) only [rq, simprocAttr, X3]
  refine Qa hF' ?_
  simp (disch := omega) only [rq, simprocAttr, yJ, jm, Int.sub_zero, hub]
  refine Qa hR' ?_
  simp (disch := omega) only [rq, simprocAttr]
  refine Qa hM' ?_
  simp (disch := omega) only [rq, simprocAttr, Q1, ht, QL]
theorem QtO {f fD : Nat} (bd : Body P f 51 [.tmp 6] (ZI fD)) (hD : Qia P fD) (h : QyP c x r l p B FF NL n d) (hp : ¬ 64 < p.length) {y : Ob} {tH : Nat} {K : AV → List Ob → Prop} (hK : K (.int .i64 0) [y, ⟨tH, 11, 1, hdC p c x r n d (.list FF.length (ks .i64 NL)) 0 0, 0⟩]) : ACall P f [.ref 1 1 0, bs B, .str p] [y, ⟨tH, 11, 1, hdC p c x r n d (.list FF.length (ks .i64 NL)) 0 0, 0⟩] K := by
 refine Qb bd (by simp) ?_
 have hle := h.le
 have hub := Qr B
 have hlen := h.len
 by_cases e : p = []
 ·have e1 : Qee p = 1 := by rw [Qee, qh e]
  have e3 : (p == []) = true := by rw [e]; rfl
  simp only [hdC, bs, e1] at hK ⊢
  simp (disch := omega) only [rq, simprocAttr, ZI, QhP, e3]
  exact hK
 ·have e1 : Qee p = 2 := by rw [Qee, qf e]
  have e3 : (p == []) = false := beq_eq_false_iff_ne.2 e
  obtain ⟨e8, e4⟩ := h.d8 e
  have hD' := hD (leB (Zt 0 p) 8) p (by rw [Qc]; omega)
  have hbeq : (leB (Zt 0 p) 8 == leB (Zt 0 p) 8) = true := by simp
  rw [QiM, qf (by rw [Qc]; omega), hbeq, bs, Qc] at hD'
  have hs : ((u8 B).drop 22).take 8 = u8 (leB (Zt 0 p) 8) := by rw [Qds, Qcq, e4]
  subst e8
  simp only [hdC, bs, e1] at hK ⊢
  simp (disch := omega) only [rq, simprocAttr, ZI, QhP, e3, hs]
  refine QX hD' ?_
  simp (disch := omega) only [rq, simprocAttr]
  exact hK
theorem Qii {f fS : Nat} (bd : Body P f 78 [.tmp 4, .tmp 5] (Q7 fS)) (hS : Qc5 P fS) (h : QyP c x r l p B FF NL n d) {y : Ob} {tH : Nat} {K : AV → List Ob → Prop} (hK : K (.tup [.list FF.length (ks .i64 (Xl FF)), .int .i64 0]) [y, ⟨tH, 11, 1, hdC p c x r n d (.list FF.length (ks .i64 NL)) (22 + d + (4 * FF.length + 4)) B.length, 0⟩]) : ACall P f [.ref 1 1 0, bs B] [y, ⟨tH, 11, 1, hdC p c x r n d (.list FF.length (ks .i64 NL)) 0 0, 0⟩] K := by
 refine Qb bd (by simp) ?_
 have hle := h.le
 have hlen := h.len
 have hf2 := h.f2
 have hll := QaC FF
 have hS' := hS (Xl FF) FF.flatten h.sk (by omega)
 have hst := QfK (Xl FF)
 rw [hll] at hst
 have hX : (Q9 (XE (Xl FF)) ++ FF.flatten).length = B.length - (22 + d) := by rw [qe, hst]; omega
 rw [Qfq, hll, bs, hX] at hS'
 have hs : ((u8 B).drop (22 + d)).take (B.length - (22 + d)) = u8 (Q9 (XE (Xl FF)) ++ FF.flatten) := by
  rw [Qds, h.tab]
  exact qg (by rw [Qr, hX]; omega)
 have kk := Qh .i64 (Xl FF)
 rw [hll] at kk
 have kn := Qh .i64 NL
 rw [h.nl] at kn
 have hd8 : d ≤ 8 := by
  by_cases e : p = []
  ·have := h.d0 e; omega
  ·have := (h.d8 e).1; omega
 obtain ⟨D, hDd⟩ : ∃ D, D = 22 + d := ⟨_, rfl⟩
 rw [← hDd] at hs hX hS' hlen hK
 obtain ⟨A, hA⟩ : ∃ A, A = D + (4 * FF.length + 4) := ⟨_, rfl⟩
 rw [← hA] at hK hlen
 have hdD : ∀ (F : AV) (y z : Nat), hdC p c x r n d F y z = [.int .i64 (Qee p), .int .i64 c, .int .i64 x, .int .i64 r, .int .i64 n, .int .i64 0, .int .i64 22, .int .i64 (D : Int), .int .i64 y, .int .i64 z, F] := fun F y z => by rw [hdC, ← hDd]
 rw [hdD] at hK ⊢
 rw [bs]
 simp (disch := omega) only [rq, simprocAttr, Q7, hs]
 refine QX hS' ?_
 have hAi : (D : Int) + 4 * (FF.length : Int) + 4 = (A : Int) := by omega
 simp (disch := omega) only [rq, simprocAttr, hAi]
 refine Qg (ι := Nat) (fun k => ⟨[(62, .int .i64 k), (61, .int .i64 FF.length), (60, .list FF.length (ks .i64 (Xl FF))), (0, .ref 1 1 0), (6, .list FF.length (ks .i64 (Xl FF)))], [y, ⟨tH, 11, 1, [.int .i64 (Qee p), .int .i64 c, .int .i64 x, .int .i64 r, .int .i64 n, .int .i64 0, .int .i64 22, .int .i64 (D : Int), .int .i64 (A : Int), .int .i64 ((A + (FF.take k).flatten.length : Nat) : Int), .list FF.length (ks .i64 NL)], 0⟩]⟩) (fun k => k ≤ FF.length) (fun k => FF.length - k) 0 ?_ (by omega) ?_
 ·simp only [yW, Yt, yg, yi]
  exact Ql
 intro k hk
 have hfl2 := Qef FF k
 by_cases hlt : k < FF.length
 ·have e2 := Qca (K := .i64) (l := Xl FF) (i := k) (by omega)
  rw [QqS hlt] at e2
  have hs1 := Qi0 FF k hlt
  have hfl3 := Qef FF (k + 1)
  simp (disch := omega) only [rq, simprocAttr, e2]
  refine ⟨k + 1, by omega, by omega, ?_⟩
  rw [hs1]
  simp only [yY, Int.add_assoc]
  exact Ql
 ·obtain rfl : k = FF.length := by omega
  rw [qD]
  rw [hlen] at hK
  simp (disch := omega) only [rq, simprocAttr]
  exact hK
theorem QpZ {f fS fT g : Nat} {t0 t1 : Nat} (bd : Body P f 35 [.cell 2 t0, .tmp 3] (J3 fS fT t0 t1)) (ht : Zu P t0 = some (some 5)) (hS : VC P fS [bs B] (.tup [.agg (hdC p c x r n d (.list FF.length (ks .i64 NL)) 0 0), .int .i64 0])) (bT : Body P fT 78 [.tmp 4, .tmp 5] (Q7 g)) (hR : Qc5 P g) (h : QyP c x r l p B FF NL n d) : VC P f [bs B] (.tup [.agg [.int .i64 0, .int .i64 22, .int .i64 ((22 + d : Nat) : Int), .int .i64 ((22 + d + (4 * FF.length + 4) : Nat) : Int), .int .i64 B.length], .int .i64 0]) := by
 refine Qv (by simp [isDL, QD]) (by simp [isD, isDL]) bd ?_
 have tb := fun {y : Ob} {tH : Nat} {K : AV → List Ob → Prop} => Qii (y := y) (tH := tH) (K := K) bT hR h
 have hle := h.le
 rw [bs] at hS tb ⊢
 simp only [hdC] at hS tb
 simp (disch := omega) only [rq, simprocAttr, J3]
 refine Qa hS ?_
 simp (disch := omega) only [rq, simprocAttr]
 refine tb ?_
 simp (disch := omega) only [rq, simprocAttr, Q1, ht, QL]
end
theorem QAp {c x r : Int} {l : List Int} {T : List Int} (h : QT c x r l = 0) (hI : I32 l) {j : Nat} (hj : j < (QB c r l).length) : Qvu c x T ((Q2 (QC r).toNat (l.length / c.toNat)).getD j 0) ((Qn c x r l T).getD j []) = .tup [il ((QB c r l).getD j []), .int .i64 0] := by
 obtain ⟨h1, h2⟩ := QiZ (T := T) h hI hj
 rw [Ql8 h] at h1 h2
 rw [(QAq _ _ _ _ _).1, (Qmu _ _ _ _ _).1, (Qmu _ _ _ _ _).2, h1, h2]
def Qng (P : Prg) (f : Nat) : Prop := ∀ (c x r : Int) (l : List Int) (p : List UInt8), QT c x r l = 0 → I32 l → ¬ 64 < p.length → VC P f [bs (QcB c x r l p), .str p] (.tup [clA c x r l, .int .i64 0])
set_option maxHeartbeats 4000000 in
theorem QtP {P : Prg} {f fS fP fT fs fD fB sF sR sM t0 t1 t2 t3 t4 u0 gD gS : Nat} (bd : Body P f 130 [.cell 4 t0, .tmp 5] (QcO fS fP fT fs fD fB t0 t1 t2 t3 t4)) (ht : Zu P t0 = some (some 4)) (bS : Body P fS 62 [.cell 2 u0, .tmp 3] (X3 sF sR sM u0)) (hu : Zu P u0 = some (some 11)) (hF : Qgi P sF) (hR : Qen P sR) (hM : QaT P sM) (bP : Body P fP 51 [.tmp 6] (ZI gD)) (hGD : Qia P gD) (bT : Body P fT 78 [.tmp 4, .tmp 5] (Q7 gS)) (hGS : Qc5 P gS) (hs : QpM P fs) (hD : Qh9 P fD) (hB : QjK P fB) : Qng P f := by
 intro c x r l p h hI hp
 have hX := Qk7 p h hI
 have hdec := fun {j : Nat} (hj : j < (QB c r l).length) => QAp (T := ofK (Zt 0 p) 8) h hI hj
 have hPP := Qb7 h
 have hPl : (QB c r l).length = (Qn c x r l (ofK (Zt 0 p) 8)).length := (Xo c x r l (ofK (Zt 0 p) 8)).symm
 have hl4 : l.length ≤ 4000 := by obtain ⟨_, _, _, _, _, _, _, q⟩ := ZH h; exact q
 have hTl : (ofK (Zt 0 p) 8).length = 16 := QdA _ _
 have hTI := Qsp (Zt 0 p) 8
 have hs' := hs p
 rw [Qep, qf hp] at hs'
 generalize QcB c x r l p = B at *
 generalize Qn c x r l (ofK (Zt 0 p) 8) = FF at *
 generalize Q2 (QC r).toNat (l.length / c.toNat) = NL at *
 generalize l.length / c.toNat = n at *
 generalize (Qqj p).length = d at *
 generalize QB c r l = PP at *
 have hS' := Qij bS hu hF hR hM hX
 have pass := fun {y : Ob} {tH : Nat} {K : AV → List Ob → Prop} => QtO (y := y) (tH := tH) (K := K) bP hGD hX hp
 have tb := fun {y : Ob} {tH : Nat} {K : AV → List Ob → Prop} => Qii (y := y) (tH := tH) (K := K) bT hGS hX
 have hle := hX.le
 have hlen := hX.len
 have hf2 := hX.f2
 have hrest := hX.rest
 have hll := QaC FF
 have hnl := hX.nl
 have oT := Jt .i32 (ofK (Zt 0 p) 8)
 have kT : (ks .i32 (ofK (Zt 0 p) 8)).length = 16 := by rw [Qh, hTl]
 have tT : (ks .i32 (ofK (Zt 0 p) 8)).take 16 = ks .i32 (ofK (Zt 0 p) 8) := qg (by omega)
 have hub : (u8 B).take B.length = u8 B := qg (by rw [Qr]; omega)
 refine Qk 2 (by simp [isDL, isD, QD]) (by simp [isD, isDL, clA, Zi]) (Qb bd (by simp) ?_)
 have tl := Qq .i32 l
 have tTT := Qq .i32 (ofK (Zt 0 p) 8)
 have hB' : VC P fB [.list 0 []] (.tup [.int .i64 0, .int .i64 0]) := hB
 generalize hTQ : ofK (Zt 0 p) 8 = T at *
 have z16 : (z3L : List AV) = ks .i32 Jf := rfl
 have ol := Jt .i32 Jf
 have kl0 : (ks .i32 Jf).length = 16 := rfl
 have zd : (ks .i32 Jf).drop 16 = [] := rfl
 obtain ⟨A, hA⟩ : ∃ A, A = 22 + d + (4 * FF.length + 4) := ⟨_, rfl⟩
 rw [← hA] at hlen hrest tb
 rw [bs] at hS' pass tb ⊢
 simp only [hdC] at hS' pass tb
 unfold QcO
 rw [z16]
 simp (disch := omega) only [rq, simprocAttr]
 refine Qa hS' ?_
 simp (disch := omega) only [rq, simprocAttr]
 refine pass ?_
 simp (disch := omega) only [rq, simprocAttr]
 refine tb ?_
 simp (disch := omega) only [rq, simprocAttr, ol, kl0, oT, kT, zd, q8, tT]
 refine Qa hs' ?_
 simp (disch := omega) only [rq, simprocAttr, ol, kl0, oT, kT, zd, q8, tT]
 have pstep : ∀ k, k < PP.length → (PP.take (k + 1)).flatten = (PP.take k).flatten ++ PP.getD k [] := fun k hk => by
  rw [qq hk, yj]
  simp [qd, qc hk]
 have ple : ∀ k, (PP.take k).flatten.length ≤ l.length := fun k => by
  have := congrArg List.flatten (qN k PP)
  rw [yj, hPP] at this
  rw [← this, qe]; omega
 refine Qg (ι := Nat) (fun k => ⟨[(77, .int .i64 k), (76, .int .i64 FF.length), (75, .list FF.length (ks .i64 (Xl FF))), (14, .int .i64 ((A + (FF.take k).flatten.length : Nat) : Int)), (12, .ref 4 1 0), (11, .ref 3 1 0), (10, .ref 2 1 0), (6, .ref 1 1 0), (4, .ref 0 1 0), (5, .int .i64 0), (0, .list B.length (u8 B))],
  [⟨t0, 4, 1, [.int .i64 0, .int .i64 0, .int .i64 0, .emp true], 0⟩, ⟨t1, 11, 1, [.int .i64 (Qee p), .int .i64 c, .int .i64 x, .int .i64 r, .int .i64 n, .int .i64 0, .int .i64 22, .int .i64 (22 + (d : Int)), .int .i64 A, .int .i64 B.length, .list FF.length (ks .i64 NL)], 0⟩, ⟨t0, 4, 1, [.int .i64 c, .int .i64 x, .int .i64 r, .own 5 (PP.take k).flatten.length], 0⟩, ⟨t2, 2, 1, [.int .i64 c, .int .i64 x], 0⟩, ⟨t3, 16, 1, ks .i32 T, 0⟩, ⟨t4, 1, (PP.take k).flatten.length, ks .i32 (PP.take k).flatten, 0⟩]⟩) (fun k => k ≤ FF.length) (fun k => FF.length - k) 0 (Le.trans (Le.virtC 2 3 t4 1 (by decide) rfl rfl) ?_) (by omega) ?_
 ·simp only [yW, Yt, yg, yi, Qxj]
  exact Ql
 intro k hk
 have hfl2 := Qef FF k
 have hpk := ple k
 have kP := Qh .i32 (PP.take k).flatten
 by_cases hlt : k < FF.length
 ·have e2 := Qca (K := .i64) (l := Xl FF) (i := k) (by omega)
  rw [QqS hlt] at e2
  have e3 := Qca (K := .i64) (l := NL) (i := k) (by have := hX.nl; omega)
  have hs1 := Qi0 FF k hlt
  have hfl3 := Qef FF (k + 1)
  have hat : ((u8 B).drop (A + (FF.take k).flatten.length)).take (FF.getD k []).length = u8 (FF.getD k []) := by
   rw [Qds, Qcq, hrest, Qq6 FF k hlt]
  have hdk := hdec (j := k) (by omega)
  have hp1 := pstep k (by omega)
  have hp2 := ple (k + 1)
  have hp3 : (PP.take (k + 1)).flatten.length = (PP.take k).flatten.length + (PP.getD k []).length := by rw [hp1, qe]
  have hcat : ks .i32 (PP.take k).flatten ++ ks .i32 (PP.getD k []) = ks .i32 (PP.take (k + 1)).flatten := by rw [hp1, QfT]
  have hD' := hD c x (NL.getD k 0) T (FF.getD k []) hTl hTI (by omega)
  rw [hdk, shA, bs, il] at hD'
  have kp := Qh .i32 (PP.getD k [])
  generalize FF.getD k [] = F1 at *
  generalize PP.getD k [] = P1 at *
  generalize NL.getD k 0 = N1 at *
  generalize (FF.take k).flatten.length = s at *
  simp (disch := omega) only [rq, simprocAttr, e2, e3, tT, kT, hat, yA]
  refine QX hD' ?_
  simp (disch := omega) only [rq, simprocAttr, kP, kp, hcat]
  refine ⟨k + 1, by omega, by omega, ?_⟩
  rw [hs1, hp3]
  simp only [yY, Int.add_assoc]
  exact Ql
 ·obtain rfl : k = FF.length := by omega
  rw [qD, qg (show PP.length ≤ FF.length by omega), hPP] at *
  have hAB : A + FF.flatten.length = B.length := by omega
  rw [hAB]
  have hdb : (u8 B).drop B.length = [] := yf (by rw [Qr]; omega)
  simp (disch := omega) only [rq, simprocAttr, hdb, Yr]
  refine Qa hB' ?_
  simp (disch := omega) only [rq, simprocAttr, Q1, ht, QL]
  simp [QO, Qx, frzL, Qy, isDL, isD, clA, il, frzL_T _ tl]
theorem Qo9 {x : Int} {l : List Int} (h : QE x l = 0) : Z5 x ≠ 0 ∧ l.length ≤ 4000 ∧ ∀ y ∈ l, -Z5 x ≤ y ∧ y < Z5 x := by
 unfold QE at h
 split at h
 ·cases h
 rename_i a1
 split at h
 ·cases h
 rename_i a2
 split at h
 ·rename_i a3
  refine ⟨a1, by omega, fun y hy => ?_⟩
  have := qR.1 a3 y hy
  simp only [inR, qn, qx] at this
  omega
 ·cases h
theorem QxP {c x r : Int} {l : List Int} (p : List UInt8) (h : QT c x r l = 0) : ewA (Qls c x r l) p = Qhx c x r l p := by
 obtain ⟨c', x', r', e1, e2, e3, e4⟩ := QiP h
 rw [ewA, e4, e1, e2, e3]
def Qty (P : Prg) (f : Nat) : Prop := ∀ (c x r : Int) (l : List Int) (p : List UInt8), QT c x r l = 0 → I32 l → ¬ 64 < p.length → VC P f [bs (QcB c x r l p), .str p] (.tup [bs (Qls c x r l), .int .i64 0])
theorem QvG {P : Prg} {f fC fW t0 : Nat} (bd : Body P f 21 [.tmp 4, .tmp 5] (QdO fC fW t0)) (hC : Qng P fC) (hW : Qci P fW) : Qty P f := by
 intro c x r l p h hI hp
 refine Qv (by simp [isDL, isD, QD]) (by simp [isD, isDL, QD]) bd ?_
 have hC' := hC c x r l p h hI hp
 have hl4 : l.length ≤ 4000 := by obtain ⟨_, _, _, _, _, _, _, q⟩ := ZH h; exact q
 have hW' := hW c x r l hI (by omega)
 rw [QAK, qf (by omega)] at hW'
 simp only [bs, clA, il] at hC' hW' ⊢
 simp (disch := omega) only [rq, simprocAttr, QdO]
 iterate 2 (refine Qa (by assumption) ?_; simp (disch := omega) only [rq, simprocAttr])
theorem Qoe {x : Int} {l : List Int} (h : QE x l = 0) : J1 x (QbJ x l) = .tup [il l, .int .i64 0] := by
 obtain ⟨h1, h2, _⟩ := Qo9 h
 have hb := Qn8 h
 have hl := congrArg List.length hb
 rw [Jj] at hl
 have hx := (Qa5 x).1 h1
 have hlen : (QbJ x l).length % (x / 8).toNat = 0 := by rw [Xi]; exact Nat.mul_mod_left _ _
 rw [J1, qf h1, qf (by omega), qf (by omega), hb]
def QgT (P : Prg) (f : Nat) : Prop := ∀ (c x r : Int) (l : List Int), QT c x r l = 0 → VC P f [clA c x r l, bs (Qls c x r l)] (.bool true)
theorem Qn1 {P : Prg} {f fR fF fS fW fE t0 t1 : Nat} (bd : Body P f 95 [.tmp 4] (Xc fR fF fS fW fE t0 t1)) (hR : QtB P fR) (hF : Qnj P fF) (hS : Qgd P fS) (hW : Qne P fW) (hE : Qge P fE) : QgT P f := by
 intro c x r l h
 refine Qv (by simp [isDL, QgA, QD]) rfl bd ?_
 have hlen := Qst h
 have hl4 : l.length ≤ 4000 := by obtain ⟨_, _, _, _, _, _, _, q⟩ := ZH h; exact q
 obtain ⟨hso, hck, _, _⟩ := Qe8 h
 obtain ⟨w1, w2⟩ := Qlr h
 have hR1 := hR (Qls c x r l) (by omega)
 have hw0 := QfM w2 [] (Qjb w2).1
 rw [q8, qh rfl] at hw0
 rw [show JH (Qls c x r l) = _ from hw0] at hR1
 have hsb := Xi x l
 have hxd : (x / 8).toNat ≤ 3 := by rcases Zj x with ⟨q, _⟩ | ⟨q, _⟩ | ⟨q, _⟩ | ⟨_, _, _, q⟩
                                    ·omega
                                    ·omega
                                    ·omega
                                    ·exact absurd q (Qo9 hck).1
 have hsl : (QbJ x l).length ≤ 12000 := by
  rw [hsb]
  have := yX hl4 hxd
  omega
 have hfl : (Qer c x r).length ≤ 40 := by rw [Qer, QdH]; split <;> omega
 have hF1 := hF (Qer c x r) (by omega)
 rw [QiQ hso] at hF1
 have hS1 := hS x (QbJ x l) (by omega)
 rw [Qoe hck] at hS1
 have hW1 := hW QaU (Qnv c x r l) (by decide) w1
 rw [Qig, qh w2] at hW1
 have hE1 := hE c x r c x r l l (by omega) (by omega)
 have hd1 : decide (c = c ∧ x = x ∧ r = r ∧ l = l) = true := by simp
 rw [hd1] at hE1
 obtain ⟨cn, xn, rn, a1, a2, a3, _⟩ := QiP h
 have e0 : (([87, 65, 86, 69] : List UInt8) == [87, 65, 86, 69]) = true := rfl
 have hWB : Jp QaU (Qnv c x r l) = Qls c x r l := rfl
 rw [hWB] at hW1
 subst a1 a2 a3
 simp only [qm, Qb5, Qdf] at hF1
 generalize Qls cn xn rn l = W at *
 have d1 := QaE W
 have e1 : (W == W) = true := by simp
 simp only [Qj4, Qnv, ckL, QaU, qJ, yg, bs, clA, il] at hR1 hF1 hS1 hW1 hE1 ⊢
 generalize Qer cn xn rn = FW at *
 generalize QbJ xn l = SB at *
 simp (disch := omega) only [rq, simprocAttr, Xc]
 refine Qa hR1 ?_
 simp (disch := omega) only [rq, simprocAttr, QhP, e0]
 refine Qa hF1 ?_
 simp (disch := omega) only [rq, simprocAttr]
 refine QX hS1 ?_
 simp (disch := omega) only [rq, simprocAttr]
 refine Qa hW1 ?_
 simp (disch := omega) only [rq, simprocAttr]
 refine Qa hE1 ?_
 simp (disch := omega) only [rq, simprocAttr, QhP, d1, e1]
theorem Qrb {c x r : Int} {l : List Int} {p : List UInt8} (h : QT c x r l = 0) (hI : I32 l) (hp : ¬ 64 < p.length) : Qhx c x r l p = .tup [bs (QcB c x r l p), .int .i64 0] := by
 have hsk := (Qqr (T := ofK (Zt 0 p) 8) h hI).1
 rw [Qhx, qf (by omega), qf hp, qf (by omega)]
theorem QD4 : QT 1 8 9 [1, -2, 3] = 0 := by decide +kernel
theorem QAl : (Qls 1 8 9 [1, -2, 3]).length = 48 := by decide +kernel
theorem Qqg {P : Prg} {f fW fE fV t0 : Nat} (bd : Body P f 45 [.tmp 0] (Xv fW fE fV t0)) (hW : Qci P fW) (hE : QtF P fE) (hV : Qty P fV) : Qsm P f := by
 refine Qv rfl rfl bd ?_
 have hI : I32 [1, -2, 3] := by intro v hv; simp at hv; omega
 have hlen := QAl
 have hW' := hW 1 8 9 [1, -2, 3] hI (by simp)
 rw [QAK, qf (by rw [QD4]; simp)] at hW'
 have hE' := hE (Qls 1 8 9 [1, -2, 3]) [] (by omega)
 rw [QxP [] QD4, Qrb QD4 hI (by simp)] at hE'
 have hV' := hV 1 8 9 [1, -2, 3] [] QD4 hI (by simp)
 simp only [bs, hlen] at hW' hE' hV'
 generalize Qls 1 8 9 [1, -2, 3] = W at *
 generalize QcB 1 8 9 [1, -2, 3] [] = B at *
 have d1 := QaE W
 have e1 : (W == W) = true := by simp
 have hW2 : VC P fW [.agg [.int .i64 1, .int .i64 8, .int .i64 9, .list 3 [.int .i32 1, .int .i32 (-2), .int .i32 3]]] (.tup [.list 48 (u8 W), .int .i64 0]) := hW'
 simp (disch := omega) only [rq, simprocAttr, Xv]
 refine Q6 1 [0] hW2 (by simp [QO, Qx, frzL, Qy, isDL, isD]) ?_
 simp (disch := omega) only [rq, simprocAttr, QA]
 refine Qa hE' ?_
 simp (disch := omega) only [rq, simprocAttr]
 refine Qa hV' ?_
 simp (disch := omega) only [rq, simprocAttr, QhP, d1, e1, hlen]
def Qr9 (P : Prg) (f : Nat) : Prop := ∀ l : List Int, l.length ≤ 1000000 → VC P f [Qfq l, Qfq l] (.bool true)
theorem Qj3 {P : Prg} {f : Nat} (bd : Body P f 26 [.tmp 4] ZP) : Qr9 P f := by
 intro l hl
 refine Qv (by simp [isDL, Qcy]) rfl bd ?_
 rw [Qfq]
 simp (disch := omega) only [rq, simprocAttr, ZP]
 refine Qg (ι := Nat) (fun k => ⟨[(5, .int .i64 k), (0, .list l.length (ks .i64 l)), (1, .list l.length (ks .i64 l))], []⟩) (fun k => k ≤ l.length) (fun k => l.length - k) 0 (Ql) (by omega) ?_
 intro k hk
 by_cases hlt : k < l.length
 ·have e1 := Qca (K := .i64) (l := l) (i := k) hlt
  simp (disch := omega) only [rq, simprocAttr, e1]
  exact ⟨k + 1, by omega, by omega, Ql⟩
 ·simp (disch := omega) only [rq, simprocAttr]
def QjC (P : Prg) (f : Nat) : Prop := ∀ (c x r : Int) (l : List Int) (p : List UInt8), QT c x r l = 0 → I32 l → ¬ 64 < p.length → VC P f [clA c x r l, .str p, bs (QcB c x r l p)] (.bool true)
set_option maxHeartbeats 4000000 in
theorem Qqf {P : Prg} {f fP fF fH fS fN fO fI fE t0 t1 t2 t3 t4 pS pT pF pR pM pG u0 u1 : Nat} (bd : Body P f 214 [.tmp 6] (Xu fP fF fH fS fN fO fI fE t0 t1 t2 t3 t4)) (bP : Body P fP 35 [.cell 2 u0, .tmp 3] (J3 pS pT u0 u1)) (hu : Zu P u0 = some (some 5)) (bS : Body P pS 62 [.cell 2 u1, .tmp 3] (X3 pF pR pM u1)) (hu1 : Zu P u1 = some (some 11)) (h0 : Qgi P pF) (h1 : Qen P pR) (h2 : QaT P pM) (bT : Body P pT 78 [.tmp 4, .tmp 5] (Q7 pG)) (h3 : Qc5 P pG) (hF : Qh7 P fF) (hH : Qen P fH) (hS : Qc5 P fS) (hN : QaT P fN) (hO : Qnr P fO) (hI2 : Qr9 P fI) (hE : Qge P fE) : QjC P f := by
 intro c x r l p h hI hp
 have hX := Qk7 p h hI
 have hP' := QpZ bP hu (Qij bS hu1 h0 h1 h2 hX) bT h3 hX
 have hl4 : l.length ≤ 4000 := by obtain ⟨_, _, _, _, _, _, _, q⟩ := ZH h; exact q
 have hF' := hF c x r l p hI (by omega)
 rw [QoM h hp] at hF'
 have hO' := hO c x r [] p (l.length / c) (Qn c x r l (ofK (Zt 0 p) 8)) (QoN h hI)
 rw [QBS h hI hp] at hO'
 have hE' := hE c x r c x r l l (by omega) (by omega)
 have hd1 : decide (c = c ∧ x = x ∧ r = r ∧ l = l) = true := by simp
 rw [hd1] at hE'
 have hq : (l.length : Int) / c = ((l.length / c.toNat : Nat) : Int) := by
  obtain ⟨k, n, rfl, _⟩ := ZH h
  simp
 rw [hq] at hO'
 generalize QcB c x r l p = B at *
 generalize Qn c x r l (ofK (Zt 0 p) 8) = FF at *
 generalize Q2 (QC r).toNat (l.length / c.toNat) = NL at *
 generalize l.length / c.toNat = n at *
 generalize (Qqj p).length = d at *
 have hle := hX.le
 have hlen := hX.len
 have hf2 := hX.f2
 have hrest := hX.rest
 have hll := QaC FF
 have hnl := hX.nl
 have hH' := hH B (by omega)
 rw [hX.hd, hdA] at hH'
 have hN' := hN (Qee p) c x r n
 rw [hX.fr, hdA, Qfq, hnl] at hN'
 have hS' := hS (Xl FF) FF.flatten hX.sk (by omega)
 have hst := QfK (Xl FF)
 rw [hll] at hst
 have hXl : (Q9 (XE (Xl FF)) ++ FF.flatten).length = B.length - (22 + d) := by rw [qe, hst]; omega
 rw [Qfq, hll, bs, hXl] at hS'
 have hs : ((u8 B).drop (22 + d)).take (B.length - (22 + d)) = u8 (Q9 (XE (Xl FF)) ++ FF.flatten) := by
  rw [Qds, hX.tab]
  exact qg (by rw [Qr, hXl]; omega)
 have hO2 : VC P fO [.agg [.int .i64 c, .int .i64 x, .int .i64 r, .list 0 []], .str p, .int .i64 n, .list FF.length (FF.map bs)] (.tup [clA c x r l, .int .i64 0]) := hO'
 have hI' := hI2 (Xl FF) (by omega)
 rw [Qfq, hll] at hI'
 have tF := Qcx FF
 have tL := Qq .i64 (Xl FF)
 obtain ⟨D, hDd⟩ : ∃ D, D = 22 + d := ⟨_, rfl⟩
 rw [← hDd] at hs hlen hrest hP' hS'
 obtain ⟨A, hA⟩ : ∃ A, A = D + (4 * FF.length + 4) := ⟨_, rfl⟩
 rw [← hA] at hlen hrest hP'
 have hD22 : 22 ≤ D := by omega
 have hmb : (FF.map bs).length = FF.length := by simp
 refine Qv (by simp [isDL, QgA, QD, isD]) rfl bd ?_
 simp only [bs, clA, il, bss] at hP' hF' hO2 hE' hH' ⊢
 simp (disch := omega) only [rq, simprocAttr, Xu]
 iterate 2 (refine Qa (by assumption) ?_; simp (disch := omega) only [rq, simprocAttr])
 refine Qa hH' ?_
 simp (disch := omega) only [rq, simprocAttr, hs]
 iterate 2 (refine Qa (by assumption) ?_; simp (disch := omega) only [rq, simprocAttr])
 refine Qg (ι := Nat) (fun k => ⟨[(20, .int .i64 k), (19, .own 4 k), (18, .own 3 k), (17, .int .i64 ((A + (FF.take k).flatten.length : Nat) : Int)), (13, .list FF.length (ks .i64 (Xl FF))), (9, .list FF.length (FF.map bs)), (11, .ref 2 1 0), (7, .ref 1 1 0), (3, .ref 0 1 0), (2, .list B.length (u8 B)), (1, .str p)],
  [⟨t0, 4, 1, [.int .i64 c, .int .i64 x, .int .i64 r, .list l.length (ks .i32 l)], 0⟩, ⟨t1, 5, 1, [.int .i64 0, .int .i64 22, .int .i64 D, .int .i64 A, .int .i64 B.length], 0⟩, ⟨t2, 5, 1, [.int .i64 (Qee p), .int .i64 c, .int .i64 x, .int .i64 r, .int .i64 n], 0⟩, ⟨t3, 1, k, (FF.take k).map bs, 0⟩, ⟨t4, 1, k, ks .i64 ((Xl FF).take k), 0⟩]⟩) (fun k => k ≤ FF.length) (fun k => FF.length - k) 0 (Le.trans (XU 18 t3 1 (by decide) rfl) (Le.trans (XU 19 t4 1 (by decide) rfl) ?_)) (by omega) ?_
 ·simp only [yW, Yt, yg, yi, Qxj, Yp]
  exact Ql
 intro k hk
 have hfl2 := Qef FF k
 have hkl : ((Xl FF).take k).length = k := by rw [qu]; omega
 have kkl : (ks .i64 ((Xl FF).take k)).length = k := by rw [Qh, hkl]
 have kpl : ((FF.take k).map bs).length = k := by rw [je, qu]; omega
 by_cases hlt : k < FF.length
 ·have e1 := Qtq (L := FF) (k := k) hlt
  have e2 := Qca (K := .i64) (l := Xl FF) (i := k) (by omega)
  rw [QqS hlt] at e2
  have hs1 := Qi0 FF k hlt
  have hfl3 := Qef FF (k + 1)
  have hat : ((u8 B).drop (A + (FF.take k).flatten.length)).take (FF.getD k []).length = u8 (FF.getD k []) := by
   rw [Qds, Qcq, hrest, Qq6 FF k hlt]
  have hst1 : (FF.take k).map bs ++ [bs (FF.getD k [])] = (FF.take (k + 1)).map bs := by
   have hg : FF.getD k [] = FF[k] := by simp [qd, qc hlt]
   rw [hg, qq hlt, yr]; rfl
  have hDk : isDL ((FF.map bs).take (k + 1)) = true := by rw [← jx]; exact Qeb _
  have hst2 : ks .i64 ((Xl FF).take k) ++ [.int .i64 ((FF.getD k []).length : Int)] = ks .i64 ((Xl FF).take (k + 1)) := by
   have hq : (Xl FF)[k]? = some ((FF.getD k []).length : Int) := by simp [Xl, qd, qc hlt]
   have htk : (Xl FF).take (k + 1) = (Xl FF).take k ++ [((FF.getD k []).length : Int)] := by rw [List.take_add_one, hq]; rfl
   rw [htk]; simp [ks]
  have hgt : ((FF.take (k + 1)).map bs).drop k = [bs (FF.getD k [])] := by
   rw [← hst1, y6 (by omega), yf (by omega), qX]
  have d1 := QaE (FF.getD k [])
  have s1 : QhP .neq (FF.getD k []) (FF.getD k []) = some (.bool false) := by simp [QhP]
  rw [bs] at e1 hst1 hgt
  generalize FF.getD k [] = F1 at *
  generalize (FF.take k).flatten.length = s at *
  simp (disch := omega) only [rq, simprocAttr, e1, e2, hat, hmb, kkl, kpl, yA, hst1, hst2, hgt, d1, s1]
  refine ⟨k + 1, by omega, by omega, ?_⟩
  rw [hs1]
  simp only [yY, Int.add_assoc]
  exact QyM [0, 1, 2, 3, 4] (by decide) (by simp) (by simp [Am.look, rnV, rnL, pk, rnL_D _ _ (QdG _), rnL_D _ _ (Qeb _), rnL_D _ _ (Zc _ _), rnL_D _ _ hDk, List.idxOf_cons]) (by simp [pkO, rnV, rnL, pk, rnL_D _ _ (QdG _), rnL_D _ _ (Zc _ _), rnL_D _ _ (Qeb _), rnL_D _ _ hDk, List.idxOf_cons])
 ·obtain rfl : k = FF.length := by omega
  rw [qD, qg (show (Xl FF).length ≤ FF.length by omega)]
  have hAB : A + FF.flatten.length = B.length := by omega
  rw [hAB]
  simp (disch := omega) only [rq, simprocAttr]
  refine Q6 1 [3] hO2 (by simp [QO, Qx, frzL, Qy, frzL_T _ tF]) ?_
  simp (disch := omega) only [rq, simprocAttr, QA]
  refine Q6 1 [4] hI' (by simp [QO, Qx, frzL, Qy, frzL_T _ tL]) ?_
  simp (disch := omega) only [rq, simprocAttr, QA]
  refine Qa hE' ?_
  simp (disch := omega) only [rq, simprocAttr]
def Qhi (P : Prg) (f : Nat) : Prop := ∀ (c x r : Int) (l : List Int) (p : List UInt8), I32 l → VC P f [clA c x r l, .str p] (.bool true)
set_option maxHeartbeats 4000000 in
theorem Qqh {P : Prg} {f fA fL fC fW fE fF fV fD fS fH fP t0 : Nat} (bd : Body P f 113 [.tmp 4] (QY fA fL fC fW fE fF fV fD fS fH fP t0)) (hA : Qsm P fA) (hL : QjF P fL) (hC : Z1 P fC) (hW : Qci P fW) (hE : QtF P fE) (hF : Qnp P fF) (hV : Qty P fV) (hD : Qng P fD) (hS : Qge P fS) (hH : QgT P fH) (hP : QjC P fP) : Qhi P f := by
 intro c x r l p hI
 refine Qv (by simp [isDL, isD, Zi, clA]) rfl bd ?_
 have hA' : VC P fA [] (.bool true) := hA
 have hL' := hL c x r l
 rw [clA, il] at hL'
 cases hg : (decide (300 < l.length) && decide (l.length ≤ 4000) || decide (4010 < l.length)) with
 | true =>
  rw [hg] at hL'
  simp (disch := omega) only [rq, simprocAttr, QY, clA, il]
  iterate 2 (refine Qa (by assumption) ?_; simp (disch := omega) only [rq, simprocAttr])
 | false =>
 rw [hg] at hL'
 have h4 := QzT hg
 have hC' := hC c x r l hI (by omega)
 rw [il] at hC'
 rcases QcF c x r l with h | h
 case inr =>
  rw [h] at hC'
  simp (disch := omega) only [rq, simprocAttr, QY, clA, il]
  iterate 3 (refine Qa (by assumption) ?_; simp (disch := omega) only [rq, simprocAttr])
 rw [h] at hC'
 by_cases hp : 64 < p.length
 ·simp (disch := omega) only [rq, simprocAttr, QY, clA, il]
  iterate 3 (refine Qa (by assumption) ?_; simp (disch := omega) only [rq, simprocAttr])
 have hwl := Qst h
 have hW' := hW c x r l hI (by omega)
 rw [QAK, qf (by omega)] at hW'
 have hE' := hE (Qls c x r l) p (by omega)
 rw [QxP p h, Qrb h hI hp] at hE'
 have hF' := hF c x r l p hI (by omega)
 rw [Qrb h hI hp] at hF'
 have hV' := hV c x r l p h hI hp
 have hD' := hD c x r l p h hI hp
 have hS' := hS c x r c x r l l (by omega) (by omega)
 rw [show decide (c = c ∧ x = x ∧ r = r ∧ l = l) = true by simp] at hS'
 have hH' := hH c x r l h
 have hP' := hP c x r l p h hI hp
 generalize Qls c x r l = W at *
 generalize QcB c x r l p = B at *
 have d1 := QaE W
 have d2 := QaE B
 have s1 : QhP .neq W W = some (.bool false) := by simp [QhP]
 have s2 : QhP .neq B B = some (.bool false) := by simp [QhP]
 simp only [bs, clA, il] at hW' hE' hF' hV' hD' hS' hH' hP' ⊢
 simp (disch := omega) only [rq, simprocAttr, QY]
 iterate 7 (refine Qa (by assumption) ?_; simp (disch := omega) only [rq, simprocAttr])
 refine Qa hD' ?_
 simp (disch := omega) only [rq, simprocAttr, d1, d2, s1, s2]
 iterate 3 (refine Qa (by assumption) ?_; simp (disch := omega) only [rq, simprocAttr])
def QEs : Sh := .tuple [.int .i64, .int .i64, .int .i64, .slice (.int .i32)]
theorem QxK {cs0 : List AV} (h : Qc7 QEs cs0) : ∃ (c x r : Int) (l : List Int), cs0 = [.int .i64 c, .int .i64 x, .int .i64 r, il l] ∧ I32 l := by
 simp only [QEs, Qc7, FitsL] at h
 obtain ⟨_, _, rfl, ⟨c, rfl, _⟩, _, _, rfl, ⟨x, rfl, _⟩, _, _, rfl, ⟨r, rfl, _⟩, _, _, rfl, ⟨L, rfl, _, h2⟩, rfl⟩ := h
 obtain ⟨l, _, e2, hi⟩ := QoR (L := L) (fun c hc => by simp only [Qc7]; exact h2 c hc)
 exact ⟨c, x, r, l, by simp [e2], hi⟩
end Go.Am
