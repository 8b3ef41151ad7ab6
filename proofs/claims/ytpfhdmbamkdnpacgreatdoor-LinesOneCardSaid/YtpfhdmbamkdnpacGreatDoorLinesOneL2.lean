/- What the functions that the law reaches return, for every program that has their code; the conditions stand in each statement. -/
import Derived.Lib.ItoaLen
import Derived.Test.YtpfhdmbamkdnpacGreatDoorLinesOneL1
set_option linter.unusedSectionVars false
set_option linter.unusedSimpArgs false
set_option linter.unusedVariables false
namespace Go.Am
open Go.RowKit
theorem Qic {P : Prg} {f fF fC fS t0 t1 : Nat} (bd : Body P f 84 [.tmp 2] (Qk fF fC fS t0 t1)) (hF : Jg P fF) (hC : Jf P fC) (hS : QbW P fS) : Jv P f := by
 intro x ⟨b1, b2, b3, b4⟩
 refine ZR (by simp [isDL, Qcs]) rfl bd ?_
 have hF' := hF x.f x.c x.b x.r x.n
 have hC' := hC x.l b1 b2
 have no : ∀ p : Prop, ¬ p → (Qew x → p) → rpN x = 8 := fun p hp h => qz fun hx => hp (h hx)
 rw [hdA] at hF'
 rw [QL] at hC'
 by_cases h1 : hdN x.f x.c x.b x.r x.n = 0
 case neg =>
  rw [no _ h1 fun h => h.1]
  have h8 : hdN x.f x.c x.b x.r x.n = 8 := by unfold hdN at h1 ⊢; split <;> simp_all
  rw [h8] at hF'
  simp (maxSteps := 4000000) (disch := omega) only [rq, simprocAttr, Qk, Rp.av, QL]
  refine QR hF' ?_
  simp (maxSteps := 4000000) (disch := omega) only [rq, simprocAttr]
 have s8 := Qjm h1
 obtain ⟨⟨s1, s2, s3, s4, s5, s6, s7⟩, _⟩ := QeH h1
 obtain ⟨m, hm⟩ : ∃ m : Nat, x.n = m := ⟨x.n.toNat, by omega⟩
 have hS' := hS x.r m ⟨s5, s6, by omega, by omega⟩
 have rok : Qew x ↔ (skN x.l = 0 ∧ (QJ (Qw x.r).toNat m).length = x.l.length ∧ 22 ≤ x.m ∧ x.m ≤ 100000 ∧ 0 ≤ x.e ∧ x.e ≤ 99 ∧ 0 ≤ x.p ∧ x.p ≤ 6 ∧ 0 ≤ x.q ∧ x.q < x.l.length ∧ 0 ≤ x.g ∧ x.g ≤ 12000) := by
  unfold Qew
  rw [hm, qt]
  rw [hm] at h1
  exact ⟨fun h => h.2, fun h => ⟨h1, h⟩⟩
 have hcl := (Qjt (r := x.r) (m := m) s5 s6 (by omega) (by omega)).1 (by rw [← hm]; exact (QeH h1).2.2)
 rw [h1, hm] at hF'
 rw [QL] at hS'
 generalize QJ (Qw x.r).toNat m = Ls at *
 have hav : x.av = .agg [.int .i64 x.f, .int .i64 x.c, .int .i64 x.b, .int .i64 x.r, .int .i64 m, .int .i64 x.m, .list x.l.length (ks .i64 x.l), .int .i64 x.e, .int .u8 x.p, .int .i64 x.q, .int .i64 x.g] := by rw [← hm]; rfl
 rw [hav]
 by_cases h4 : 22 ≤ x.m
 case neg =>
  rw [no _ h4 fun h => (rok.1 h).2.2.1]
  simp (maxSteps := 4000000) (disch := omega) only [rq, simprocAttr, Qk]
  refine QR hF' ?_
  simp (maxSteps := 4000000) (disch := omega) only [rq, simprocAttr]
 by_cases h5 : x.m ≤ 100000
 case neg =>
  rw [no _ h5 fun h => (rok.1 h).2.2.2.1]
  simp (maxSteps := 4000000) (disch := omega) only [rq, simprocAttr, Qk]
  refine QR hF' ?_
  simp (maxSteps := 4000000) (disch := omega) only [rq, simprocAttr]
 by_cases h2 : skN x.l = 0
 case neg =>
  rw [no _ h2 fun h => h.2.1]
  have h8 : skN x.l = 8 := by
   have h : skN x.l = 0 ∨ skN x.l = 8 := by
    unfold skN
    repeat' split
    all_goals simp
   exact h.resolve_left h2
  rw [h8] at hC'
  simp (maxSteps := 4000000) (disch := omega) only [rq, simprocAttr, Qk]
  refine QR hF' ?_
  simp (maxSteps := 4000000) (disch := omega) only [rq, simprocAttr]
  refine QR hC' ?_
  simp (maxSteps := 4000000) (disch := omega) only [rq, simprocAttr]
 have hll := (Qfc h2).2.1
 rw [h2] at hC'
 by_cases h3 : Ls.length = x.l.length
 case neg =>
  rw [no _ h3 fun h => (rok.1 h).2.1]
  rcases Nat.lt_or_gt_of_ne h3 with h | h
  ·simp (maxSteps := 4000000) (disch := omega) only [rq, simprocAttr, Qk]
   refine QR hF' ?_
   simp (maxSteps := 4000000) (disch := omega) only [rq, simprocAttr]
   refine QR hC' ?_
   simp (maxSteps := 4000000) (disch := omega) only [rq, simprocAttr]
   refine QR hS' ?_
   simp (maxSteps := 4000000) (disch := omega) only [rq, simprocAttr]
  ·simp (maxSteps := 4000000) (disch := omega) only [rq, simprocAttr, Qk]
   refine QR hF' ?_
   simp (maxSteps := 4000000) (disch := omega) only [rq, simprocAttr]
   refine QR hC' ?_
   simp (maxSteps := 4000000) (disch := omega) only [rq, simprocAttr]
   refine QR hS' ?_
   simp (maxSteps := 4000000) (disch := omega) only [rq, simprocAttr]
 have fin : (0 ≤ x.e ∧ x.e ≤ 99 ∧ 0 ≤ x.p ∧ x.p ≤ 6 ∧ 0 ≤ x.q ∧ x.q < x.l.length ∧ 0 ≤ x.g ∧ x.g ≤ 12000) → rpN x = 0 := fun h => qE (rok.2 ⟨h2, h3, h4, h5, h⟩)
 have bad : ¬ (0 ≤ x.e ∧ x.e ≤ 99 ∧ 0 ≤ x.p ∧ x.p ≤ 6 ∧ 0 ≤ x.q ∧ x.q < x.l.length ∧ 0 ≤ x.g ∧ x.g ≤ 12000) → rpN x = 8 := fun h => qz fun hx => h (rok.1 hx).2.2.2.2
 simp (maxSteps := 4000000) (disch := omega) only [rq, simprocAttr, Qk]
 refine QR hF' ?_
 simp (maxSteps := 4000000) (disch := omega) only [rq, simprocAttr]
 refine QR hC' ?_
 simp (maxSteps := 4000000) (disch := omega) only [rq, simprocAttr]
 refine QR hS' ?_
 by_cases h6 : 0 ≤ x.e
 case neg =>
  rw [bad fun h => h6 h.1]
  simp (maxSteps := 4000000) (disch := omega) only [rq, simprocAttr]
 by_cases h7 : x.e ≤ 99
 case neg =>
  rw [bad fun h => h7 h.2.1]
  simp (maxSteps := 4000000) (disch := omega) only [rq, simprocAttr]
 by_cases h8 : x.p ≤ 6
 case neg =>
  rw [bad fun h => h8 h.2.2.2.1]
  simp (maxSteps := 4000000) (disch := omega) only [rq, simprocAttr]
 by_cases h9 : 0 ≤ x.q
 case neg =>
  rw [bad fun h => h9 h.2.2.2.2.1]
  simp (maxSteps := 4000000) (disch := omega) only [rq, simprocAttr]
 by_cases h10 : x.q < x.l.length
 case neg =>
  rw [bad fun h => h10 h.2.2.2.2.2.1]
  simp (maxSteps := 4000000) (disch := omega) only [rq, simprocAttr]
 by_cases h11 : 0 ≤ x.g
 case neg =>
  rw [bad fun h => h11 h.2.2.2.2.2.2.1]
  simp (maxSteps := 4000000) (disch := omega) only [rq, simprocAttr]
 by_cases h12 : x.g ≤ 12000
 case neg =>
  rw [bad fun h => h12 h.2.2.2.2.2.2.2]
  simp (maxSteps := 4000000) (disch := omega) only [rq, simprocAttr]
 rw [fin ⟨h6, h7, b3, h8, h9, h10, h11, h12⟩]
 simp (maxSteps := 4000000) (disch := omega) only [rq, simprocAttr]
theorem QaY {α : Type} (f : α → AV) : ∀ l : List α, (l.map fun x => [f x]).flatten = l.map f
 | [] => rfl
 | x :: l => by simp [QaY f l]
theorem Qpz {L : List (List AV)} (h : ∀ c ∈ L, QcZ (.int .u8) c) : ∃ l : List UInt8, L.length = l.length ∧ AV.list L.length L.flatten = bs l := by
 obtain ⟨l, rfl, _⟩ := Qca (f := fun b : UInt8 => [AV.int .u8 b.toNat]) (q := fun _ => True) h (fun c hc => by
  simp only [QcZ] at hc
  obtain ⟨n, rfl, h1, h2⟩ := hc
  simp only [IntKind.min, IntKind.max, IntKind.signed, IntKind.bits] at h1 h2
  refine ⟨UInt8.ofNat n.toNat, ?_, trivial⟩
  simp at h1 h2
  simp; omega)
 exact ⟨l, by simp, by simp [bs, u8, QaY]⟩
theorem QlB {K : IntKind} {L : List (List AV)} (h : ∀ c ∈ L, QcZ (.int K) c) : ∃ l : List Int, L.length = l.length ∧ AV.list L.length L.flatten = .list l.length (ks K l) ∧ ∀ x ∈ l, K.min ≤ x ∧ x ≤ K.max := by
 obtain ⟨l, rfl, h2⟩ := Qca (f := fun n : Int => [AV.int K n]) (q := fun x => K.min ≤ x ∧ x ≤ K.max) h (fun c hc => by
  simp only [QcZ] at hc
  obtain ⟨n, rfl, h1, h2⟩ := hc
  exact ⟨n, rfl, h1, h2⟩)
 exact ⟨l, by simp, by simp [ks, QaY], h2⟩
def QoV (P : Program) (t : TypeId) : Bool := match P.underlying t with | some (.struct _) => true | _ => false
def QoW (P : Program) (t : TypeId) : Bool := match P.underlying t with | some (.array _ _) => true | _ => false
def Qqa (P : Program) (t : TypeId) : Bool := match P.underlying t with | some (.slice _) => true | _ => false
theorem Qjj {P : Program} {t : TypeId} (h : QoV P t = true) : ∃ fs, P.underlying t = some (.struct fs) := by
 unfold QoV at h; split at h
 ·exact ⟨_, by assumption⟩
 ·cases h
theorem Qpx {P : Program} {t : TypeId} (h : QoW P t = true) : ∃ n e, P.underlying t = some (.array n e) := by
 unfold QoW at h; split at h
 ·exact ⟨_, _, by assumption⟩
 ·cases h
theorem QpT {P : Program} {t : TypeId} (h : Qqa P t = true) : ∃ e, P.underlying t = some (.slice e) := by
 unfold Qqa at h; split at h
 ·exact ⟨_, by assumption⟩
 ·cases h
theorem QlP : ∀ (k u : Nat), u < 10 ^ (k + 1) → (Lib.decDigits u).length ≤ k + 1
 | 0, u, h => by
  rw [Lib.decDigits, dif_pos (by simpa using h)]
  simp
 | k + 1, u, h => by
  rw [Lib.decDigits]
  split
  ·simp
  ·have h2 : u / 10 < 10 ^ (k + 1) := by
    rw [Nat.pow_succ] at h
    omega
   have := QlP k (u / 10) h2
   simp only [qm, qn, qJ]
   omega
theorem QmP {v : Int} (h0 : 0 ≤ v) (h : v < 1000000) : (Lib.itoa v).length ≤ 6 := by
 unfold Lib.itoa
 rw [qz (by omega)]
 exact QlP 5 _ (by omega)
theorem Qfr {c : UInt8} {k : Nat} : ∀ {L : List (List UInt8)}, (∀ p ∈ L, p.length ≤ k) → (Ze c L).length ≤ L.length * (k + 1)
 | [], _ => by simp [Ze]
 | [p], h => by
  have := h p (by simp)
  simp only [Ze, qn, qJ]
  omega
 | p :: q :: r, h => by
  have h1 := h p (by simp)
  have h2 := Qfr (c := c) (L := q :: r) fun x hx => h x (qN _ hx)
  simp only [Ze, qm, qn] at h2 ⊢
  have e : (r.length + 1 + 1) * (k + 1) = (r.length + 1) * (k + 1) + (k + 1) := Nat.succ_mul _ _
  omega
theorem QnA {x : Rp} (h : Qew x) : (txt x).length ≤ 12000 := by
 obtain ⟨h1, h2, h3, h4, h5, h6, h7, h8, h9, h10, h11, h12, h13⟩ := h
 obtain ⟨k1, k2, k3⟩ := Qfc h2
 obtain ⟨⟨s1, s2, s3, s4, s5, s6, s7⟩, _⟩ := QeH h1
 have s8 := Qjm h1
 have i21 : ∀ v : Int, -9223372036854775808 ≤ v → v ≤ 9223372036854775807 → (Lib.itoa v).length ≤ 21 := fun v a b => Lib.itoa_length_le v a b
 have a1 : (ln1 x).length ≤ 220 := by
  unfold ln1
  refine qH (Qfr (k := 21) ?_) (by simp)
  intro p hp
  simp only [qo, qQ, or_false] at hp
  rcases hp with rfl | rfl | rfl | rfl | rfl | rfl | rfl | rfl | rfl | rfl
  ·decide
  ·exact i21 _ (by omega) (by omega)
  ·decide
  ·exact i21 _ (by omega) (by omega)
  ·decide
  ·exact i21 _ (by omega) (by omega)
  ·decide
  ·exact i21 _ (by omega) (by omega)
  ·decide
  ·exact i21 _ (by omega) (by omega)
 have a2 : (Ze 32 (x.l.map Lib.itoa)).length ≤ 7000 := by
  refine qH (Qfr (k := 6) ?_) ?_
  ·intro p hp
   obtain ⟨v, hv, rfl⟩ := qV.1 hp
   have := k3 v hv
   exact QmP (by omega) (by omega)
  ·rw [yO]
   omega
 have a3 : (ln2 x).length ≤ 7100 := by
  have b1 := i21 x.m (by omega) (by omega)
  have b2 : wF2.length = 6 := rfl
  unfold ln2
  simp only [Ze, qm, qn, qJ, b2]
  omega
 have a4 : (ln3 x).length ≤ 100 := by
  have b1 := i21 x.e (by omega) (by omega)
  have b2 := i21 x.p (by omega) (by omega)
  have b3 := i21 x.q (by omega) (by omega)
  have b4 := i21 x.g (by omega) (by omega)
  unfold ln3
  simp only [Ze, qm, qn, qJ]
  omega
 unfold txt
 simp only [Ze, qm, qn, qJ]
 omega
theorem QgK (c : UInt8) : ∀ s, (pcs c s).length = s.count c + 1
 | [] => rfl
 | b :: l => by
  have ih := QgK c l
  unfold pcs
  split
  ·rename_i e
   subst e
   simp [ih]
  ·rename_i e
   have ec : (b :: l).count c = l.count c := by simp [List.count_cons, e]
   rw [ec, ← ih]
   split
   ·rename_i h; exact absurd h (Qez c l)
   ·rename_i h; rw [h]; rfl
theorem QoG {s : List UInt8} {x : Rp} (h : rdO s = some x) : ∃ a b d, pcs 10 s = [a, b, d, []] := by
 unfold rdO at h
 split at h
 case isFalse => cases h
 rename_i hy
 unfold rdQ at hy
 split at hy
 ·rename_i a b d h10; exact ⟨a, b, d, h10⟩
 ·cases hy
theorem QkH {x : Rp} (h : Qew x) : (txt x).count 10 = 3 ∧ 0 < (txt x).length ∧ (txt x).getLast? = some 10 := by
 obtain ⟨a, b, d, hp⟩ := QoG (Qi1 h)
 have hc := QgK 10 (txt x)
 rw [hp] at hc
 have hj := J4 10 (txt x)
 rw [hp] at hj
 refine ⟨by simpa using hc.symm, ?_, ?_⟩
 ·rw [← hj]; simp only [Ze, qm, qn]; omega
 ·rw [← hj]
  simp [Ze, List.getLast?_append, List.getLast?_cons]
set_option maxHeartbeats 1000000 in
theorem Qhg {P : Prg} {f fC fT fP fS fE fA g t0 t1 t2 t3 t4 ti : Nat} (b : Qer P f 45 [.cell 4 t1, .cell 5 t2] (Z0 fC fT fP fS fE t0 t1 t2 t3 t4)) {c x r : Int} {l : List Int} {p : List UInt8} {T : List Int} {E : List Int → List UInt8} (h : Qm9 c x r l = 0) (hC' : VC P fC [clA c x r l] (.int .i64 0)) (hTl : T.length = 16)
  (hT' : VC P fT [.str p] (.tup [.agg (ks .i32 T), .int .i64 0])) (hP : QbZ g P fP) (hI : QbY ti P g) (bG : Body P g 43 [] (Zl fA)) (hS : QbX P fS) (hE : ∀ q ∈ Xr c r l, VC P fE [shA c x, .agg (ks .i32 T), il q] (.tup [bs (E q), .int .i64 0])) (hEl : ∀ q ∈ Xr c r l, (E q).length ≤ 100000)
  (ht1 : Xp P t1 = some none) (ht2 : Xp P t2 = some none) (h0 : t0 ≠ ti) (h1 : t1 ≠ ti) (h2 : t2 ≠ ti) (h3 : t3 ≠ ti) (h4 : t4 ≠ ti) : VC P f [clA c x r l, .str p] (.tup [bss ((Xr c r l).map E), .int .i64 0]) := by
 refine QT 2 (by simp [isDL, isD, Qct, clA]) (by simp [isD, isDL, Qn3]) (ACall.of_rangeC b (by simp) ?_)
 rw [clA, il] at hC'
 have tl := QK .i32 l
 have z : (z3L : List AV) = ks .i32 Qda := rfl
 unfold Z0
 rw [z]
 have ol := Qlm .i32 Qda
 have kl0 : (ks .i32 Qda).length = 16 := rfl
 simp (maxSteps := 4000000) (disch := omega) only [rq, simprocAttr, clA, il, QeX, QhT, Qdw, Qlq, QgU, QoT]
 refine Qa hC' ?_
 simp (maxSteps := 4000000) (disch := omega) only [rq, simprocAttr, Qdw, Qlq, QeX, QhT]
 refine Qa hT' ?_
 have oT := Qlm .i32 T
 have kT : (ks .i32 T).length = 16 := by rw [QD, hTl]
 have tT : (ks .i32 T).take 16 = ks .i32 T := qU (by omega)
 have zl : Qda.length = 16 := rfl
 have zd : (ks .i32 Qda).drop 16 = [] := rfl
 obtain ⟨k, n, rfl, k1, k2, hlen, hok, h4'⟩ := Qm8 h
 have hP' := hP k x r l
 have hI' := hI k n x r l k1 k2 hlen hok
 rw [clA] at hP'
 rw [il] at hP' hI'
 have hS' := hS k x r l
 rw [shA, il] at hS'
 simp (maxSteps := 4000000) (disch := omega) only [rq, simprocAttr, Qdw, Qlq, QeX, QhT, ol, kl0, oT, kT, zl, zd, yN]
 refine Qa hP' ?_
 simp (maxSteps := 4000000) (disch := omega) only [rq, simprocAttr, QgU]
 obtain ⟨Lc, hLc⟩ : ∃ Lc, (Qw r).toNat * k = Lc := ⟨_, rfl⟩
 rw [hLc] at hI'
 have hcnt : (QJ (Qw r).toNat n).length ≤ 1000 := by have := hok.2.2.2.2; rwa [qt] at this
 obtain ⟨cnt, hcn⟩ : ∃ cnt, (QJ (Qw r).toNat n).length = cnt := ⟨_, rfl⟩
 have hpo : Xr k r l = (List.finRange cnt).map (fun j => JK Lc l j.1) := by
  unfold Xr
  rw [qt, hlen, Nat.mul_div_cancel _ (by omega), hcn, hLc]
  apply List.ext_getElem <;> simp
 rw [hcn] at hI' hcnt
 refine ⟨cnt, g, _, [ti], _, [(27, .fn (.func g) [] [.cell [.int .i64 k, .int .i64 x, .int .i64 r, .list l.length (ks .i32 l)]]), (2, .ref 0 1 0), (4, .ref 1 1 0), (5, .ref 2 1 0), (7, .ref 3 1 0), (9, .ref 4 1 0)],
  fun pre => [⟨t0, 4, 1, [.int .i64 k, .int .i64 x, .int .i64 r, .list l.length (ks .i32 l)], 0⟩, ⟨t1, 1, 1, [.list 0 []], 0⟩, ⟨t2, 1, 1, [.int .i64 0], 0⟩, ⟨t3, 16, 1, ks .i32 T, 0⟩, ⟨t1, 1, 1, [.own 5 pre.length], 0⟩, ⟨t4, 1, pre.length, pre.map (fun j => bs (E (JK Lc l j.1))), 0⟩], ?_, rfl, bG.ent, by simp [isDL, isD, XM], hI', by omega, by omega, rfl, ?_, ?_, ?_⟩
 ·refine Le.trans (Le.virtF (p := 4) (ty := t4) (sz := 1) (by omega) rfl rfl) (Le.drop 6 2 (by omega) rfl (by simp [Am.look, Zf, frzL, Q6, frzL_T _ tl]) ?_)
  intro i z hz
  match i, hz with
  | 0, hz => cases hz; exact ⟨_, rfl, by simp [Zf, frzL, Q6, frzL_T _ tl]⟩
  | 1, hz => cases hz; exact ⟨_, rfl, by simp [Zf, frzL, Q6]⟩
  | 2, hz => cases hz; exact ⟨_, rfl, by simp [Zf, frzL, Q6]⟩
  | 3, hz => cases hz; exact ⟨_, rfl, by simp [Zf, frzL_T _ (QK .i32 T)]⟩
  | 4, hz => cases hz; exact ⟨_, rfl, by simp [Zf, frzL, Q6]⟩
  | 5, hz => cases hz; exact ⟨_, rfl, by simp [Zf, frzL, Q6]⟩
  | i + 6, hz => simp at hz
 ·intro pre x hx
  simp only [qo, qQ, or_false] at hx ⊢
  rcases hx with rfl | rfl | rfl | rfl | rfl | rfl
  ·exact h0
  ·exact h1
  ·exact h2
  ·exact h3
  ·exact h1
  ·exact h4
 ·intro pre y hpl
  have hmem : JK Lc l y.1 ∈ Xr k r l := by rw [hpo]; exact qV.2 ⟨y, List.mem_finRange _, rfl⟩
  have hE' := hE _ hmem
  have w1 := hEl _ hmem
  have hpm : (pre.map (fun j => bs (E (JK Lc l j.1)))).length = pre.length := by simp
  obtain ⟨Y, hYe⟩ : ∃ Y, E (JK Lc l y.1) = Y := ⟨_, rfl⟩
  rw [hYe] at hE' w1
  obtain ⟨Z, hZ⟩ : ∃ Z, JK Lc l y.1 = Z := ⟨_, rfl⟩
  rw [hZ] at hE' hYe ⊢
  rw [shA, il, bs] at hE'
  have tZ := QK .i32 Z
  have tT2 := QK .i32 T
  rw [il]
  simp (maxSteps := 4000000) (disch := omega) only [rq, simprocAttr, tT, kT]
  refine QR hS' ?_
  simp (maxSteps := 4000000) (disch := omega) only [rq, simprocAttr, tT, kT]
  refine QR hE' ?_
  simp (maxSteps := 4000000) (disch := omega) only [rq, simprocAttr, hpm]
  refine Le.drop 6 2 (by omega) rfl (by simp) ?_
  intro i z hz
  match i, hz with
  | 0, hz => cases hz; exact ⟨_, rfl, by simp [Zf, frzL, Q6, frzL_T _ tl]⟩
  | 1, hz => cases hz; exact ⟨_, rfl, by simp [Zf, frzL, Q6]⟩
  | 2, hz => cases hz; exact ⟨_, rfl, by simp [Zf, frzL, Q6]⟩
  | 3, hz => cases hz; exact ⟨_, rfl, by simp [Zf, frzL_T _ tT2]⟩
  | 4, hz => cases hz; exact ⟨_, rfl, by simp [Zf, frzL, Q6]⟩
  | 5, hz =>
   cases hz
   have e : (pre ++ [y]).map (fun j => bs (E (JK Lc l j.1))) = pre.map (fun j => bs (E (JK Lc l j.1))) ++ [.list Y.length (u8 Y)] := by
    simp only [yt, qC, yR, hZ, hYe]
    rfl
   rw [e]
   refine ⟨_, rfl, frzL_T _ ?_⟩
   rw [← e]
   have := Qft ((pre ++ [y]).map (fun j => E (JK Lc l j.1)))
   rwa [y0] at this
  | i + 6, hz => simp at hz
 ·have hfl : (List.finRange cnt).length = cnt := by simp
  have hpi : (List.finRange cnt).map (fun j => bs (E (JK Lc l j.1))) = ((Xr k r l).map E).map bs := by
   rw [hpo, y0, y0]
   rfl
  dsimp only
  rw [hpi, hfl]
  have hpl : ((Xr k r l).map E).length = cnt := by rw [hpo]; simp
  have tp := Qft ((Xr k r l).map E)
  generalize hPP : ((Xr k r l).map E).map bs = PP at *
  simp (maxSteps := 4000000) (disch := omega) only [rq, simprocAttr, Z8, ht1, ht2]
  simp [Z6, Zf, frzL, Q6, isDL, isD, bss, hpl, hPP, frzL_T _ tp]
def QoB : List Int := [0, 1996959894, 3993919788, 2567524794, 124634137, 1886057615, 3915621685, 2657392035, 249268274, 2044508324, 3772115230, 2547177864, 162941995, 2125561021, 3887607047, 2428444049, 498536548, 1789927666, 4089016648, 2227061214, 450548861, 1843258603, 4107580753, 2211677639, 325883990, 1684777152, 4251122042, 2321926636, 335633487, 1661365465, 4195302755, 2366115317, 997073096, 1281953886, 3579855332, 2724688242, 1006888145, 1258607687, 3524101629, 2768942443, 901097722, 1119000684, 3686517206, 2898065728, 853044451, 1172266101, 3705015759, 2882616665, 651767980, 1373503546, 3369554304, 3218104598, 565507253, 1454621731, 3485111705, 3099436303, 671266974, 1594198024, 3322730930, 2970347812, 795835527, 1483230225, 3244367275, 3060149565, 1994146192, 31158534, 2563907772, 4023717930, 1907459465, 112637215, 2680153253, 3904427059, 2013776290, 251722036, 2517215374, 3775830040, 2137656763, 141376813, 2439277719, 3865271297, 1802195444, 476864866, 2238001368, 4066508878, 1812370925, 453092731, 2181625025, 4111451223, 1706088902, 314042704, 2344532202, 4240017532, 1658658271, 366619977, 2362670323, 4224994405, 1303535960, 984961486, 2747007092, 3569037538, 1256170817, 1037604311, 2765210733, 3554079995, 1131014506, 879679996, 2909243462, 3663771856, 1141124467, 855842277, 2852801631, 3708648649, 1342533948, 654459306, 3188396048, 3373015174, 1466479909, 544179635, 3110523913, 3462522015, 1591671054, 702138776, 2966460450, 3352799412, 1504918807, 783551873, 3082640443, 3233442989, 3988292384, 2596254646, 62317068, 1957810842, 3939845945, 2647816111, 81470997, 1943803523, 3814918930, 2489596804, 225274430, 2053790376, 3826175755, 2466906013, 167816743, 2097651377, 4027552580, 2265490386, 503444072, 1762050814, 4150417245, 2154129355, 426522225, 1852507879, 4275313526, 2312317920, 282753626, 1742555852, 4189708143, 2394877945, 397917763, 1622183637, 3604390888, 2714866558, 953729732, 1340076626, 3518719985, 2797360999, 1068828381, 1219638859, 3624741850, 2936675148, 906185462, 1090812512, 3747672003, 2825379669, 829329135, 1181335161, 3412177804, 3160834842, 628085408, 1382605366, 3423369109, 3138078467, 570562233, 1426400815, 3317316542, 2998733608, 733239954, 1555261956, 3268935591, 3050360625, 752459403, 1541320221, 2607071920, 3965973030, 1969922972, 40735498, 2617837225, 3943577151, 1913087877, 83908371, 2512341634, 3803740692, 2075208622, 213261112, 2463272603, 3855990285, 2094854071, 198958881, 2262029012, 4057260610, 1759359992, 534414190, 2176718541, 4139329115, 1873836001, 414664567, 2282248934, 4279200368, 1711684554, 285281116, 2405801727, 4167216745, 1634467795, 376229701, 2685067896, 3608007406, 1308918612, 956543938, 2808555105, 3495958263, 1231636301, 1047427035, 2932959818, 3654703836, 1088359270, 936918000, 2847714899, 3736837829, 1202900863, 817233897, 3183342108, 3401237130, 1404277552, 615818150, 3134207493, 3453421203, 1423857449, 601450431, 3009837614, 3294710456, 1567103746, 711928724, 3020668471, 3272380065, 1510334235, 755167117]
def QoA : List Int := [0, 4823603603198064275, 9647207206396128550, 14344283933443513269, 5274672035359026399, 847670339082705484, 14759040976900489721, 10241823793177474922, 10549344070718052798, 15030250704074698541, 1695340678165410968, 6158653484774949387, 15804726273676621153, 11071337880091427826, 6824194888265062471, 2036903512645398228, 7367177604490692079, 2651944067726553980, 16419204125234161865, 11613757334439845466, 3390681356330821936, 7926053118503640995, 12317306969549898774, 16726154088988619397, 17607865585094646865, 13162708473643690690, 8194994013375312247, 3695931686473304036, 13648389776530124942, 18417527692557321757, 4073807025290796456, 8825348881154370363, 14734355208981384158, 10271039580541631821, 5303888135453107960, 822984195088142443, 9604374506261047041, 14391664176758772114, 47380625301539367, 4780770595170139316, 6781362712661643872, 2084283301222999283, 15852106237007281990, 11028505464239851989, 1670654249350217407, 6187869865390245932, 10578560694269006745, 15005564104267687178, 12269926345859042865, 16768987096479742114, 3433514057002836759, 7878672873577829764, 16389988026750624494, 11638443477897467005, 7391863372946608072, 2622728278751721819, 4044590402276644751, 8850035479350698268, 13673076206955870889, 18388311311405091898, 8147614050581592912, 3738764100714335683, 17650697762308740726, 13115328684529279205, 15709965168302367023, 11021966344253216700, 6909860770376862729, 2095335087373712026, 10607776270906215920, 15115916238825782115, 1645968390176284886, 6063892853452478021, 5216239979862816913, 762004938812542466, 14808413130408695223, 10336584279807992612, 94761250603078734, 4872975272980325085, 9561541190340278632, 14285852213486374907, 13562725425323287744, 18359094313119879763, 4168566602445998566, 8874722219015798645, 17657238303940757535, 13257468400305012364, 8136561383943382329, 3610266854770152362, 3341308498700434814, 7831293060043656173, 12375739730780491864, 16811819059476047563, 7452841817450123681, 2710377314828461874, 16324444680414493831, 11564384134825822740, 1621282580641819377, 6093108618008534114, 10636992411005044695, 15091230119249932612, 6867028114005673518, 2142715359940571325, 15757345747155659528, 10979133309658045851, 9518708972583580495, 14333231979791697372, 142141253402664553, 4830142882085382394, 14783726745893216144, 10365800689136969987, 5245456557503443638, 737318311902463013, 8089180804553289502, 3653099890976004493, 17700070958701396536, 13210088128275084459, 4139350461810230209, 8899408340202190162, 13587411233247080167, 18329878549100632180, 16295228101163185824, 11589070762272702515, 7477528201428671366, 2681160907110034709, 12328359726370364031, 16854651450907929836, 3384140715920324441, 7783913295349006794, 17796789492404876493, 12973186262895182430, 8294265019745835499, 3597188614796881784, 13819721540753725458, 18246723593521770113, 4190670174747424052, 8707887697765516199, 7249714899603402099, 2768808468102880224, 16248400991498780757, 11785088403942012614, 3291936780352569772, 8025325358597240639, 12127785706904956042, 16915077318774037017, 10432479959725633826, 15147713122803500977, 1524009877625084932, 6329456346323069591, 15705454305770282493, 11170082187107838830, 6635271944638132443, 2226424485906433608, 189522501206157468, 4634679410803088911, 9745950545960650170, 14245012653811987241, 5445476407655580739, 676338306971005648, 14876502445374089573, 10124960353263198198, 4215391513593610003, 8678706776937023872, 13790540925671641653, 18271444552530207910, 8337133204891997132, 3549843186494580063, 17749444438031597290, 13016054137459951737, 12170653315997410989, 16867732534171963454, 3244592164593781643, 8068192726900473112, 16273122767886764658, 11755906975779290337, 7220533709540304724, 2793530071884239303, 6682616997400869628, 2183556611878603887, 15662586120087312346, 11217427617020813641, 1553190491096487459, 6304735387851432112, 10407758620342516485, 15176894045242543510, 14905683634900247362, 10100238751092381137, 5420754629656923748, 705519735670536439, 9793295161182637981, 14202145287119436046, 146654890503152315, 4682024195942093864, 3242565161283638754, 7930564333232481137, 12186217236017068228, 17000743249723264599, 7335380351123765565, 2827240748300537774, 16153640314560107547, 11735716164790313608, 13734056228011347036, 18188291445129067215, 4285430719881142650, 8757259798139230185, 17846161249714921603, 13067947420601767440, 8235833358291897765, 3511522545606540086, 5387043107155988493, 590673871457609374, 14925875833148783915, 10219719885873843128, 284282506805329106, 4684052045342640705, 9660285764170764788, 14186579979835500391, 15610694155489642931, 11120709418076880672, 6720936860919424149, 2284857304564388358, 10490913115006887276, 15233377424362361855, 1474636623804926026, 6234696958930763481, 16178361609106579004, 11706535215248140463, 7306199781952008986, 2851961734412043657, 12229085463316509411, 16953397843693241456, 3195220067441434565, 7973432182840617302, 8278700923620460418, 3464177731752866065, 17798816680404380324, 13110814815472245815, 4310152537884486493, 8728078392784608718, 13704874997943502459, 18213013024491712744, 9707630858549910483, 14143712128616820032, 241414281116563189, 4731397450835853414, 14955056402857342732, 10194998898151653791, 5362321814220069418, 619854820462849209, 1503817855483314797, 6209975379031176446, 10466191297540353867, 15262558828106308056, 6768281431840648882, 2241989909157107745, 15567826590698013588, 11168054230320002311]
def Qfb : List Int := [1, 2]
def QlH (q : List Int) : List UInt8 := if q = [1] then [4, 0, 251, 215, 181, 37] else [8, 0, 247, 152, 0, 137]
def Qfx : List UInt8 := [84, 84, 65, 49, 1, 0, 1, 0, 8, 0, 1, 0, 0, 0, 2, 0, 0, 0, 223, 215, 22, 71, 6, 0, 0, 0, 6, 0, 0, 0, 50, 137, 38, 134, 4, 0, 251, 215, 181, 37, 8, 0, 247, 152, 0, 137]
theorem Qih : Xr 1 1 Qfb = [[1], [2]] := by decide
theorem Qpa : Qm9 1 8 1 Qfb = 0 := by decide
theorem QfF {P : Prg} {f fC fT fP fS fE fA g t0 t1 t2 t3 t4 ti : Nat} (b : Qer P f 45 [.cell 4 t1, .cell 5 t2] (Z0 fC fT fP fS fE t0 t1 t2 t3 t4)) (hC : VC P fC [clA 1 8 1 Qfb] (.int .i64 0)) (hT : VC P fT [.str []] (.tup [.agg (ks .i32 Qda), .int .i64 0])) (hP : QbZ g P fP) (hI : QbY ti P g) (bG : Body P g 43 [] (Zl fA)) (hS : QbX P fS)
  (hE1 : VC P fE [shA 1 8, .agg (ks .i32 Qda), il [1]] (.tup [bs (QlH [1]), .int .i64 0])) (hE2 : VC P fE [shA 1 8, .agg (ks .i32 Qda), il [2]] (.tup [bs (QlH [2]), .int .i64 0])) (ht1 : Xp P t1 = some none) (ht2 : Xp P t2 = some none) (h0 : t0 ≠ ti) (h1 : t1 ≠ ti) (h2 : t2 ≠ ti) (h3 : t3 ≠ ti) (h4 : t4 ≠ ti) :
  VC P f [clA 1 8 1 Qfb, .str []] (.tup [bss [QlH [1], QlH [2]], .int .i64 0]) := by
 have := Qhg (E := QlH) b Qpa hC rfl hT hP hI bG hS (by rw [Qih]; exact List.forall_mem_cons.2 ⟨hE1, List.forall_mem_cons.2 ⟨hE2, fun _ h => by cases h⟩⟩) (by rw [Qih]; decide) ht1 ht2 h0 h1 h2 h3 h4
 rwa [Qih] at this
def QhR : Rp := ⟨1, 1, 8, 1, 2, 34, [6, 6], 0, 0, 0, 2⟩
def Qj3 : List UInt8 := [102, 111, 114, 109, 97, 116, 32, 49, 32, 99, 104, 97, 110, 110, 101, 108, 115, 32, 49, 32, 98, 105, 116, 115, 32, 56, 32, 114, 97, 116, 101, 32, 49, 32, 99, 111, 117, 110, 116, 32, 50, 10, 102, 114, 97, 109, 101, 115, 32, 51, 52, 58, 32, 54, 32, 54, 10, 102, 111, 117, 110, 100, 32, 48, 32, 48, 32, 48, 32, 50, 10]
theorem Qp8 : Qew QhR := by decide +kernel
theorem Qoz : txt QhR = Qj3 := by decide +kernel
theorem QqA : rpB QhR := by
 refine ⟨by decide, ?_, by decide, by decide⟩
 intro v hv
 simp only [QhR, qo, qQ, or_false] at hv
 omega
theorem QnC {P : Prg} {f : Nat} (h : Qgb P f) : VC P f [QhR.av] (.tup [.str Qj3, .int .i64 0]) := by
 have := h QhR QqA
 rwa [QhY, qE Qp8, Qoz] at this
theorem QnQ {P : Prg} {f : Nat} (h : QiW P f) : VC P f [.str Qj3] (.tup [QhR.av, .int .i64 0]) := (h Qj3 (by decide)).1 QhR Qp8 Qoz
theorem QnL {P : Prg} {f : Nat} (h : Qc7 P f) : VC P f [QhR.av, QhR.av] (.bool true) := h QhR QhR (by decide) (by decide)
theorem QmX {P : Prg} {f : Nat} (h : Qgc P f) : VC P f [bs Qfx] (.tup [.int .i64 0, .int .i64 0]) := h Qfx ⟨by decide, by decide, by decide⟩
theorem Qmt (a b : List UInt8) : Qgy .eql a b = some (.bool (decide (a = b))) := by
 by_cases h : a = b <;> simp [Qgy, h]
theorem Qkc {s : List UInt8} {i : Nat} (h : i < s.length) (c : UInt8) : (s.take (i + 1)).count c = (s.take i).count c + (if s[i] = c then 1 else 0) := by
 rw [qy h, List.count_append]
 simp [List.count_cons]
def QhN (P : Prg) (f : Nat) : Prop := ∀ x y : Rp, x.l.length ≤ 9223372036854775807 → (∀ v ∈ x.l, -9223372036854775808 ≤ v ∧ v ≤ 9223372036854775807) → 0 ≤ x.p → x.p ≤ 255 → y.l.length ≤ 9223372036854775807 → (∀ v ∈ y.l, -9223372036854775808 ≤ v ∧ v ≤ 9223372036854775807) → 0 ≤ y.p → y.p ≤ 255 → VC P f [x.av, y.av] (.bool true)
theorem Qec {P : Prg} {f fA fC fT fS t0 : Nat} (bd : Body P f 92 [.tmp 4] (Qo fA fC fT fS t0)) (hA : VC P fA [] (.bool true)) (hC : Jv P fC) (hT : Qgb P fT) (hS : Qc7 P fS) : QhN P f := by
 intro x y hl hv hp0 hp1 kl kv kp0 kp1
 refine ZR (by simp [isDL, isD, Qcs]) rfl bd ?_
 by_cases h1 : 1010 < x.l.length
 ·simp (maxSteps := 4000000) (disch := omega) only [rq, simprocAttr, Qo, Rp.av, QL]
  refine Qa hA ?_
  simp (maxSteps := 4000000) (disch := omega) only [rq, simprocAttr]
 by_cases h2 : 1010 < y.l.length
 ·simp (maxSteps := 4000000) (disch := omega) only [rq, simprocAttr, Qo, Rp.av, QL]
  refine Qa hA ?_
  simp (maxSteps := 4000000) (disch := omega) only [rq, simprocAttr]
 have hb : rpB x := ⟨by omega, hv, hp0, hp1⟩
 have kb : rpB y := ⟨by omega, kv, kp0, kp1⟩
 have hC1 := hC x hb
 have hC2 := hC y kb
 have hT1 := hT x hb
 have hT2 := hT y kb
 have hS1 := hS x y (by omega) (by omega)
 by_cases hx : Qew x
 case neg =>
  rw [rpN, qz hx, Rp.av, QL] at hC1
  simp (maxSteps := 4000000) (disch := omega) only [rq, simprocAttr, Qo, Rp.av, QL]
  iterate 2 (refine Qa (by assumption) ?_; simp (maxSteps := 4000000) (disch := omega) only [rq, simprocAttr])
 by_cases hy : Qew y
 case neg =>
  rw [rpN, qE hx, Rp.av, QL] at hC1
  rw [rpN, qz hy, Rp.av, QL] at hC2
  simp (maxSteps := 4000000) (disch := omega) only [rq, simprocAttr, Qo, Rp.av, QL]
  iterate 3 (refine Qa (by assumption) ?_; simp (maxSteps := 4000000) (disch := omega) only [rq, simprocAttr])
 rw [rpN, qE hx] at hC1
 rw [rpN, qE hy] at hC2
 rw [QhY, qE hx] at hT1
 rw [QhY, qE hy] at hT2
 have hlen := QnA hx
 obtain ⟨hf1, hf2, hf3⟩ := QkH hx
 have heq : (Qn0 x y && Qn7 x y) = decide (txt x = txt y) := by
  rw [Bool.eq_iff_iff, QpS, ql]
  exact ⟨fun h => by rw [h], fun h => QnB hx hy h⟩
 rw [heq] at hS1
 generalize txt x = t at *
 generalize txt y = u at *
 have hse := Qmt t u
 rw [Rp.av, Rp.av, QL, QL] at hS1
 rw [Rp.av, QL] at hC1 hC2 hT1 hT2
 simp (maxSteps := 4000000) (disch := omega) only [rq, simprocAttr, Qo, Rp.av, QL]
 iterate 5 (refine Qa (by assumption) ?_; simp (maxSteps := 4000000) (disch := omega) only [rq, simprocAttr])
 refine Zq (ι := Nat) (fun i => ⟨[(11, .int .i64 i), (10, .int .i64 ((t.take i).count 10 : Nat)), (5, .bool true), (6, .str t), (7, .int .i64 0), (8, .str u), (9, .int .i64 0), (2, .ref 0 1 0), (3, .ref 1 1 0)], _⟩) (fun i => i ≤ t.length) (fun i => t.length - i) 0 (QA) (yd _) ?_
 intro i hi
 by_cases hi2 : i < t.length
 case neg =>
  obtain rfl : i = t.length := by omega
  have hlast : t[t.length - 1]? = some 10 := by rw [← List.getLast?_eq_getElem?]; exact hf3
  have e1 : (t.length : Int) - 1 = ((t.length - 1 : Nat) : Int) := by omega
  have e0 : ((3 : Nat) : Int) = 3 := rfl
  rw [yn, hf1]
  cases hd : decide (t = u)
  ·rw [hd] at hse hS1
   simp (maxSteps := 4000000) (disch := omega) only [rq, simprocAttr, hse, e1, hlast, e0]
   refine Qa hS1 ?_
   simp (maxSteps := 4000000) (disch := omega) only [rq, simprocAttr, hse, e1, hlast, e0]
  ·rw [hd] at hse hS1
   simp (maxSteps := 4000000) (disch := omega) only [rq, simprocAttr, hse, e1, hlast, e0]
   refine Qa hS1 ?_
   simp (maxSteps := 4000000) (disch := omega) only [rq, simprocAttr, hse, e1, hlast, e0]
 have hsn := Qkc hi2 10
 have hb2 : t[i]? = some t[i] := qd hi2
 have hcl : (t.take i).count 10 ≤ i := qH List.count_le_length (by simp; omega)
 have hnat : t[i].toNat < 256 := t[i].toNat_lt
 by_cases hd : t[i] = 10
 ·rw [qE hd] at hsn
  rw [hd] at hb2
  generalize (t.take i).count 10 = q at *
  simp (maxSteps := 4000000) (disch := omega) only [rq, simprocAttr, hb2]
  refine ⟨i + 1, by omega, by omega, ?_⟩
  rw [hsn]
  exact QA
 ·rw [qz hd, yA] at hsn
  have hd2 : t[i].toNat ≠ 10 := fun h => hd (UInt8.toNat_inj.1 h)
  generalize t[i] = b at *
  generalize (t.take i).count 10 = q at *
  simp (maxSteps := 4000000) (disch := omega) only [rq, simprocAttr, hb2]
  refine ⟨i + 1, by omega, by omega, ?_⟩
  rw [hsn]
  exact QA
def Qps : Sh := .tuple [.tuple [.tuple [.int .i64, .int .i64, .int .i64, .int .i64, .int .i64], .int .i64, .slice (.int .i64)], .tuple [.int .i64, .int .u8, .int .i64, .int .i64]]
theorem QlA {cs0 : List AV} (h : QcZ Qps cs0) : ∃ x : Rp, AV.agg cs0 = x.av ∧ x.l.length ≤ 9223372036854775807 ∧ (∀ v ∈ x.l, -9223372036854775808 ≤ v ∧ v ≤ 9223372036854775807) ∧ 0 ≤ x.p ∧ x.p ≤ 255 := by
 simp only [Qps, QcZ, FitsL] at h
 obtain ⟨_, _, rfl, ⟨_, _, rfl, ⟨_, _, rfl, ⟨f, rfl, _⟩, _, _, rfl, ⟨c, rfl, _⟩, _, _, rfl, ⟨b, rfl, _⟩, _, _, rfl, ⟨r, rfl, _⟩, _, _, rfl, ⟨n, rfl, _⟩, rfl⟩, _, _, rfl, ⟨m, rfl, _⟩, _, _, rfl, ⟨L, rfl, hm, h2⟩, rfl⟩,
  _, _, rfl, ⟨_, _, rfl, ⟨e, rfl, _⟩, _, _, rfl, ⟨p, rfl, hp⟩, _, _, rfl, ⟨q, rfl, _⟩, _, _, rfl, ⟨g, rfl, _⟩, rfl⟩, rfl⟩ := h
 obtain ⟨l, h3, h4, h5⟩ := QlB (K := .i64) (L := L) (fun c hc => by simp only [QcZ]; exact h2 c hc)
 refine ⟨⟨f, c, b, r, n, m, l, e, p, q, g⟩, ?_, ?_, ?_, ?_, ?_⟩
 ·simp [Rp.av, h4, QL]
 ·show l.length ≤ _
  rw [← h3]
  unfold maxLen at hm
  omega
 ·intro v hv
  have := h5 v hv
  simpa [IntKind.min, IntKind.max, IntKind.signed, IntKind.bits] using this
 ·simpa [IntKind.min, IntKind.max, IntKind.signed, IntKind.bits] using hp.1
 ·simpa [IntKind.min, IntKind.max, IntKind.signed, IntKind.bits] using hp.2
end Go.Am
