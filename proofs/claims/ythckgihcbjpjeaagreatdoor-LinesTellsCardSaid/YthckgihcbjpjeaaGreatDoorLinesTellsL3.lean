/- What the functions that the law reaches return, for every program that has their code; the conditions stand in each statement. -/
import Derived.Lib.ItoaLen
import Derived.Test.YthckgihcbjpjeaaGreatDoorLinesTellsL2
set_option linter.unusedSectionVars false
set_option linter.unusedSimpArgs false
set_option linter.unusedVariables false
namespace Go.Am
open Go.RowKit
theorem QoI {P : Prg} {g t0 : Nat} (bd : Qf P g 51 [.tmp 2] (QB t0)) : QcY P g := by
 intro f c b r n
 refine Qn rfl rfl bd ?_
 by_cases hf : f = 1 ∨ f = 2
 case neg =>
  have hn : decide (shP f c b r n) = false := decide_eq_false fun h => hf h.2.1
  rw [hn]
  simp (disch := omega) only [rq, simprocAttr, QB, hdA]
 by_cases hc1 : 1 ≤ c
 case neg =>
  have hn : decide (shP f c b r n) = false := decide_eq_false fun h => hc1 h.2.2.1
  rw [hn]
  rcases hf with rfl | rfl <;> simp (disch := omega) only [rq, simprocAttr, QB, hdA]
 by_cases hc2 : c ≤ 6
 case neg =>
  have hn : decide (shP f c b r n) = false := decide_eq_false fun h => hc2 h.2.2.2.1
  rw [hn]
  rcases hf with rfl | rfl <;> simp (disch := omega) only [rq, simprocAttr, QB, hdA]
 by_cases hb : b = 8 ∨ b = 16 ∨ b = 24
 case neg =>
  have hn : decide (shP f c b r n) = false := decide_eq_false fun h => hb h.1
  rw [hn]
  rcases hf with rfl | rfl <;> simp (disch := omega) only [rq, simprocAttr, QB, hdA]
 by_cases hr1 : 1 ≤ r
 case neg =>
  have hn : decide (shP f c b r n) = false := decide_eq_false fun h => hr1 h.2.2.2.2.1
  rw [hn]
  rcases hb with rfl | rfl | rfl <;> rcases hf with rfl | rfl <;> simp (disch := omega) only [rq, simprocAttr, QB, hdA]
 by_cases hr2 : r ≤ 1048576
 case neg =>
  have hn : decide (shP f c b r n) = false := decide_eq_false fun h => hr2 h.2.2.2.2.2.1
  rw [hn]
  rcases hb with rfl | rfl | rfl <;> rcases hf with rfl | rfl <;> simp (disch := omega) only [rq, simprocAttr, QB, hdA]
 by_cases hn1 : 1 ≤ n
 case neg =>
  have hn : decide (shP f c b r n) = false := decide_eq_false fun h => hn1 h.2.2.2.2.2.2
  rw [hn]
  rcases hb with rfl | rfl | rfl <;> rcases hf with rfl | rfl <;> simp (disch := omega) only [rq, simprocAttr, QB, hdA]
 have hn : decide (shP f c b r n) = true := decide_eq_true ⟨hb, hf, hc1, hc2, hr1, hr2, hn1⟩
 rw [hn]
 rcases hb with rfl | rfl | rfl <;> rcases hf with rfl | rfl <;> simp (disch := omega) only [rq, simprocAttr, QB, hdA]
theorem Qzw {r : Int} {m : Nat} (h1 : 1 ≤ r) (h2 : r ≤ 1048576) (h3 : 1 ≤ m) (h4 : m ≤ 4000) : Qyj r m = 0 ↔ (QaC (ZI r).toNat m).length ≤ 1000 := by
 unfold Qyj
 rw [qa (by omega), qa (by omega)]
 have p1 := Qdq r
 obtain ⟨L, hL⟩ : ∃ L : Nat, ZI r = L := ⟨(ZI r).toNat, by omega⟩
 rw [hL, qu, Qch]
 rw [hL] at p1
 have e1 : (m : Int) + (L : Int) - 1 = ((m - 1 + L : Nat) : Int) := by omega
 rw [e1, ← jp, Nat.add_div_right _ (by omega)]
 split
 ·constructor
  ·intro h; cases h
  ·intro h; omega
 ·exact ⟨fun _ => by omega, fun _ => rfl⟩
def Qm7 (P : Prg) (g : Nat) : Prop := ∀ f c b r n : Int, shP f c b r n → VC P g [hdA f c b r n] (.bool (decide (¬ Ql7 c r n)))
theorem Qua {P : Prg} {g fS t0 : Nat} (bd : Qf P g 18 [.tmp 2] (Z9 fS t0)) (hS : QaT P fS) : Qm7 P g := by
 intro f c b r n ⟨_, _, c1, c2, r1, r2, n1⟩
 refine Qbs rfl rfl (ACall.of_cut 1 bd (by simp) ?_)
 have q0 : ¬ c = 0 := by omega
 have q1 : (4000 : Int).tdiv c = 4000 / c := qJ (by omega)
 have q2 : 0 ≤ 4000 / c := jS (by omega) (by omega)
 have q3 : 4000 / c ≤ 4000 := jK _ (by omega)
 by_cases h1 : n ≤ 4000 / c
 case neg =>
  have hn : decide (¬ Ql7 c r n) = true := decide_eq_true fun h => h1 h.1
  rw [hn]
  generalize hQ : 4000 / c = Q at *
  have hw : IntKind.i64.wrap Q = Q := ZT (by omega) (by omega)
  simp (disch := omega) only [rq, simprocAttr, Qvf, Z9, hdA]
  refine ⟨⟨[(1, .cell [.int .i64 f, .int .i64 c, .int .i64 b, .int .i64 r, .int .i64 n])], []⟩, Zt [] (by simp) (by simp [Am.look, Qz, frzL, Qv, isDL, isD]), ?_⟩
  simp (disch := omega) only [rq, simprocAttr, Qvf, q1, hQ, hw]
 obtain ⟨m, rfl⟩ : ∃ m : Nat, n = m := ⟨n.toNat, by omega⟩
 have h4 : (m : Int) ≤ 4000 := Int.le_trans h1 q3
 have m1 : 1 ≤ m := by clear h1 q1 q2 q3; omega
 have m2 : m ≤ 4000 := by clear h1 q1 q2 q3; omega
 have hS' := hS r m ⟨r1, r2, m1, m2⟩
 have hcl := Qzw (r := r) (m := m) r1 r2 m1 m2
 have hn : decide (¬ Ql7 c r m) = decide (1000 < (QaC (ZI r).toNat m).length) := by
  apply decide_eq_decide.2
  unfold Ql7
  rw [hcl]
  constructor
  ·intro h; have : ¬ (QaC (ZI r).toNat m).length ≤ 1000 := fun h' => h ⟨h1, h'⟩; omega
  ·intro h h'; omega
 rw [hn]
 rw [Xh] at hS'
 generalize QaC (ZI r).toNat m = Ls at *
 generalize hQ : 4000 / c = Q at *
 have hw : IntKind.i64.wrap Q = Q := ZT (by omega) (by omega)
 simp (disch := omega) only [rq, simprocAttr, Qvf, Z9, hdA]
 refine ⟨⟨[(1, .cell [.int .i64 f, .int .i64 c, .int .i64 b, .int .i64 r, .int .i64 m])], []⟩, Zt [] (by simp) (by simp [Am.look, Qz, frzL, Qv, isDL, isD]), ?_⟩
 by_cases h2 : 1000 < Ls.length
 ·rw [decide_eq_true h2]
  simp (disch := omega) only [rq, simprocAttr, Qvf, q1, hQ, hw]
  refine Qc hS' ?_
  simp (disch := omega) only [rq, simprocAttr]
 ·rw [decide_eq_false h2]
  simp (disch := omega) only [rq, simprocAttr, Qvf, q1, hQ, hw]
  refine Qc hS' ?_
  simp (disch := omega) only [rq, simprocAttr]
theorem QiB : ∀ {l : List Int} {m : Int}, 0 ≤ m → (Qno m l ↔ (∀ v ∈ l, 5 ≤ v) ∧ l.sum ≤ m)
 | [], m, h => by simp [Qno, h]
 | a :: l, m, h => by
  simp only [Qno, ym, forall_eq_or_imp, yB]
  constructor
  ·rintro ⟨h1, h2, h3⟩
   have := (QiB (l := l) (m := m - a) (by omega)).1 h3
   exact ⟨⟨h1, this.1⟩, by omega⟩
  ·rintro ⟨⟨h1, h2⟩, h3⟩
   have hs : 0 ≤ l.sum := by
    clear h3
    induction l with
    | nil => simp
    | cons b l ih => have := ih fun v hv => h2 v (jg _ hv); have := h2 b (by simp); simp; omega
   exact ⟨h1, by omega, (QiB (l := l) (m := m - a) (by omega)).2 ⟨h2, by omega⟩⟩
theorem Qol : ∀ (l : List Int) (a : Int), (l ++ [a]).sum = l.sum + a
 | [], a => by simp
 | b :: l, a => by rw [yk, yB, Qol l a, yB]; omega
theorem QvM : ∀ {l : List Int}, (∀ v ∈ l, 5 ≤ v ∧ v ≤ 100000) → 0 ≤ l.sum ∧ l.sum ≤ 100000 * (l.length : Int)
 | [], _ => by simp
 | a :: l, h => by
  have h1 := QvM (l := l) fun v hv => h v (jg _ hv)
  have h2 := h a (by simp)
  simp only [yB, qV]
  omega
theorem QqS {P : Prg} {f : Nat} (bd : Qf P f 39 [.tmp 2] Zq) : Qbu P f := by
 intro l hl hb
 refine Qn (by simp [isDL, XM]) rfl bd ?_
 by_cases h0 : l.length = 0 ∨ 1000 < l.length
 ·have e : skN l = 8 := qc h0
  rw [e]
  by_cases h1 : l.length < 1
  ·simp (disch := omega) only [rq, simprocAttr, Zq, Xh]
  ·simp (disch := omega) only [rq, simprocAttr, Zq, Xh]
 have hN : skN l = if Qno 100000 l then 0 else 8 := qa h0
 simp (disch := omega) only [rq, simprocAttr, Zq, Xh]
 refine Qg (ι := Nat) (fun i => ⟨[(4, .int .i64 i), (3, .int .i64 (l.take i).sum), (0, .list l.length (ks .i64 l))], []⟩) (fun i => i ≤ l.length ∧ ∀ v ∈ l.take i, 5 ≤ v ∧ v ≤ 100000) (fun i => l.length - i) 0
  (Qh) ⟨yF _, by simp⟩ ?_
 intro i ⟨hi, hv⟩
 have hsb := QvM hv
 have htl : (l.take i).length = i := by simp; omega
 rw [htl] at hsb
 by_cases hi2 : i < l.length
 ·have la : (ks .i64 l).drop i = .int .i64 l[i] :: (ks .i64 l).drop (i + 1) := by
   have h := J8 (K := .i64) (l := l) (i := i) hi2
   rw [← QaW] at h
   simpa [qe, hi2] using h
  have hs1 : (l.take (i + 1)).sum = (l.take i).sum + l[i] := by rw [qm hi2, Qol]
  have hmem : l[i] ∈ l := yb hi2
  have hv0 : ∀ u ∈ l.take (i + 1), u ∈ l.take i ∨ u = l[i] := fun u hu => by
   rw [qm hi2] at hu
   rcases qB.1 hu with hu | hu
   ·exact .inl hu
   ·exact .inr (by simpa using hu)
  generalize l[i] = v at *
  by_cases h1 : 5 ≤ v
  case neg =>
   have e : skN l = 8 := by rw [hN, qa fun h => h1 (((QiB (by omega)).1 h).1 v hmem)]
   rw [e]
   simp (disch := omega) only [rq, simprocAttr, la, Qd]
  by_cases h2 : v ≤ 100000
  case neg =>
   have e : skN l = 8 := by rw [hN, qa fun h => h2 (QyD h v hmem).2]
   rw [e]
   simp (disch := omega) only [rq, simprocAttr, la, Qd]
  have hv1 : ∀ u ∈ l.take (i + 1), 5 ≤ u ∧ u ≤ 100000 := fun u hu => by
   rcases hv0 u hu with hu | rfl
   ·exact hv u hu
   ·exact ⟨h1, h2⟩
  generalize (l.take i).sum = S at *
  simp (disch := omega) only [rq, simprocAttr, la, Qd]
  refine ⟨i + 1, ⟨by omega, hv1⟩, by omega, ?_⟩
  rw [hs1]
  exact Qh
 ·obtain rfl : i = l.length := by omega
  rw [qW] at *
  by_cases h3 : l.sum ≤ 100000
  ·have e : skN l = 0 := by rw [hN, qc ((QiB (by omega)).2 ⟨fun v h => (hv v h).1, h3⟩)]
   rw [e]
   simp (disch := omega) only [rq, simprocAttr]
  ·have e : skN l = 8 := by rw [hN, qa fun h => h3 ((QiB (by omega)).1 h).2]
   rw [e]
   simp (disch := omega) only [rq, simprocAttr]
def Qr8 (P : Prg) (f : Nat) : Prop := ∀ a b : List Int, a.length ≤ 1000000 → b.length ≤ 1000000 → VC P f [Xh a, Xh b] (.bool (decide (a = b)))
theorem QsX {l : List Int} {i : Nat} (h : i < l.length) : (ks .i64 l).drop i = .int .i64 l[i] :: (ks .i64 l).drop (i + 1) := by
 have h1 := J8 (K := .i64) (l := l) (i := i) h
 rw [← QaW] at h1
 simpa [qe, h] using h1
theorem QqR {P : Prg} {f : Nat} (bd : Qf P f 26 [.tmp 4] Zc) : Qr8 P f := by
 intro a b ha hb
 refine Qn (by simp [isDL, XM]) rfl bd ?_
 by_cases h0 : a.length = b.length
 case neg =>
  have e : decide (a = b) = false := decide_eq_false fun h => h0 (by rw [h])
  have h1 : ¬ (a.length : Int) = b.length := by omega
  rw [e]
  by_cases h2 : a.length < b.length
  ·simp (disch := omega) only [rq, simprocAttr, Zc, Xh]
  ·simp (disch := omega) only [rq, simprocAttr, Zc, Xh]
 simp (disch := omega) only [rq, simprocAttr, Zc, Xh]
 refine Qg (ι := Nat) (fun i => ⟨[(5, .int .i64 i), (0, .list a.length (ks .i64 a)), (1, .list b.length (ks .i64 b))], []⟩) (fun i => i ≤ a.length ∧ a.take i = b.take i) (fun i => a.length - i) 0
  (Qh) ⟨yF _, by simp⟩ ?_
 intro i ⟨hi, ht⟩
 by_cases hi2 : i < a.length
 ·have la := QsX hi2
  have lb := QsX (l := b) (i := i) (by omega)
  have ea : a.take (i + 1) = a.take i ++ [a[i]] := qm hi2
  have eb : b.take (i + 1) = b.take i ++ [b[i]'(by omega)] := qm (by omega)
  by_cases h1 : a[i] = b[i]'(by omega)
  ·have ht1 : a.take (i + 1) = b.take (i + 1) := by rw [ea, eb, ht, h1]
   generalize a[i] = u at *
   generalize b[i]'(by omega) = v at *
   subst h1
   simp (disch := omega) only [rq, simprocAttr, la, lb, Qd]
   exact ⟨i + 1, ⟨by omega, ht1⟩, by omega, Qh⟩
  ·have e : decide (a = b) = false := decide_eq_false fun h => h1 (by subst h; rfl)
   rw [e]
   generalize a[i] = u at *
   generalize b[i]'(by omega) = v at *
   rcases Int.lt_or_gt_of_ne h1 with h2 | h2
   ·simp (disch := omega) only [rq, simprocAttr, la, lb, Qd]
   ·simp (disch := omega) only [rq, simprocAttr, la, lb, Qd]
 ·obtain rfl : i = a.length := by omega
  rw [qW, h0, qW] at ht
  have e : decide (a = b) = true := decide_eq_true ht
  rw [e]
  simp (disch := omega) only [rq, simprocAttr]
def Qzk (x : Rp) : AV := .agg [.int .i64 x.f, .int .i64 x.c, .int .i64 x.b, .int .i64 x.r, .int .i64 x.n, .int .i64 x.m, Xh x.l]
def QCw (x y : Rp) : Bool := decide (x.f = y.f ∧ x.c = y.c ∧ x.b = y.b ∧ x.r = y.r ∧ x.n = y.n)
def QBK (x y : Rp) : Bool := QCw x y && (decide (x.m = y.m) && decide (x.l = y.l))
def QBL (x y : Rp) : Bool := decide (x.e = y.e ∧ x.p = y.p ∧ x.q = y.q ∧ x.g = y.g)
theorem QCv (x y : Rp) : (decide (x.f = y.f) && (decide (x.c = y.c) && (decide (x.b = y.b) && (decide (x.r = y.r) && decide (x.n = y.n))))) = QCw x y := by
 unfold QCw
 simp only [Bool.decide_and]
theorem QCA (x y : Rp) : (decide (x.e = y.e) && (decide (x.p = y.p) && (decide (x.q = y.q) && decide (x.g = y.g)))) = QBL x y := by
 unfold QBL
 simp only [Bool.decide_and]
def Qm1 (P : Prg) (f : Nat) : Prop := ∀ x y : Rp, x.l.length ≤ 1000000 → y.l.length ≤ 1000000 → VC P f [Qzk x, Qzk y] (.bool (QBK x y))
theorem QtZ {P : Prg} {f fI t0 : Nat} (bd : Qf P f 24 [.tmp 4] (Zh fI t0)) (hI : Qr8 P fI) : Qm1 P f := by
 intro x y hx hy
 refine Qn (by simp [isDL, Qzk, isD, XM]) rfl bd ?_
 have hI' := hI x.l y.l hx hy
 rw [Xh, Xh] at hI'
 have hb := QCv x y
 unfold QBK
 rcases h1 : QCw x y with _ | _
 ·rw [h1] at hb
  simp (disch := omega) only [rq, simprocAttr, Zh, Qzk, Xh, Qve, hb]
 ·rw [h1] at hb
  by_cases h2 : x.m = y.m
  ·rw [decide_eq_true h2]
   simp (disch := omega) only [rq, simprocAttr, Zh, Qzk, Xh, Qve, hb]
   refine Qa hI' ?_
   simp (disch := omega) only [rq, simprocAttr]
  ·rw [decide_eq_false h2]
   rcases Int.lt_or_gt_of_ne h2 with h3 | h3
   ·simp (disch := omega) only [rq, simprocAttr, Zh, Qzk, Xh, Qve, hb]
   ·simp (disch := omega) only [rq, simprocAttr, Zh, Qzk, Xh, Qve, hb]
def Qm0 (P : Prg) (f : Nat) : Prop := ∀ x y : Rp, x.l.length ≤ 1000000 → y.l.length ≤ 1000000 → VC P f [x.av, y.av] (.bool (QBK x y && QBL x y))
theorem QtW {P : Prg} {f fI t0 : Nat} (bd : Qf P f 17 [.tmp 4] (Z7 fI t0)) (hI : Qm1 P fI) : Qm0 P f := by
 intro x y hx hy
 refine Qn (by simp [isDL, Qz7]) rfl bd ?_
 have hI' := hI x y hx hy
 rw [Qzk, Qzk, Xh, Xh] at hI'
 have hb := QCA x y
 rcases h1 : QBK x y with _ | _
 ·rw [h1] at hI'
  simp (disch := omega) only [rq, simprocAttr, Z7, Rp.av, Xh]
  refine Qa hI' ?_
  simp (disch := omega) only [rq, simprocAttr]
 ·rw [h1] at hI'
  simp (disch := omega) only [rq, simprocAttr, Z7, Rp.av, Xh]
  refine Qa hI' ?_
  rcases h2 : QBL x y with _ | _
  ·rw [h2] at hb
   simp (disch := omega) only [rq, simprocAttr, Qve, hb]
  ·rw [h2] at hb
   simp (disch := omega) only [rq, simprocAttr, Qve, hb]
theorem Qe2 {α : Type} (f : α → AV) : ∀ l : List α, (l.map fun x => [f x]).flatten = l.map f
 | [] => rfl
 | x :: l => by simp [Qe2 f l]
theorem Qzn {L : List (List AV)} (h : ∀ c ∈ L, Qjv (.int .u8) c) : ∃ l : List UInt8, L.length = l.length ∧ AV.list L.length L.flatten = bs l := by
 obtain ⟨l, rfl, _⟩ := QgM (f := fun b : UInt8 => [AV.int .u8 b.toNat]) (q := fun _ => True) h (fun c hc => by
  simp only [Qjv] at hc
  obtain ⟨n, rfl, h1, h2⟩ := hc
  simp only [IntKind.min, IntKind.max, IntKind.signed, IntKind.bits] at h1 h2
  refine ⟨UInt8.ofNat n.toNat, ?_, trivial⟩
  simp at h1 h2
  simp; omega)
 exact ⟨l, by simp, by simp [bs, u8, Qe2]⟩
theorem QCz {K : IntKind} {L : List (List AV)} (h : ∀ c ∈ L, Qjv (.int K) c) : ∃ l : List Int, L.length = l.length ∧ AV.list L.length L.flatten = .list l.length (ks K l) ∧ ∀ x ∈ l, K.min ≤ x ∧ x ≤ K.max := by
 obtain ⟨l, rfl, h2⟩ := QgM (f := fun n : Int => [AV.int K n]) (q := fun x => K.min ≤ x ∧ x ≤ K.max) h (fun c hc => by
  simp only [Qjv] at hc
  obtain ⟨n, rfl, h1, h2⟩ := hc
  exact ⟨n, rfl, h1, h2⟩)
 exact ⟨l, by simp, by simp [ks, Qe2], h2⟩
def QCq (P : Program) (t : TypeId) : Bool := match P.underlying t with | some (.struct _) => true | _ => false
def QCr (P : Program) (t : TypeId) : Bool := match P.underlying t with | some (.array _ _) => true | _ => false
def QDA (P : Program) (t : TypeId) : Bool := match P.underlying t with | some (.slice _) => true | _ => false
theorem QCX {P : Program} {t : TypeId} (h : QCq P t = true) : ∃ fs, P.underlying t = some (.struct fs) := by
 unfold QCq at h; split at h
 ·exact ⟨_, by assumption⟩
 ·cases h
theorem QCY {P : Program} {t : TypeId} (h : QCr P t = true) : ∃ n e, P.underlying t = some (.array n e) := by
 unfold QCr at h; split at h
 ·exact ⟨_, _, by assumption⟩
 ·cases h
theorem QA6 {P : Program} {t : TypeId} (h : QDA P t = true) : ∃ e, P.underlying t = some (.slice e) := by
 unfold QDA at h; split at h
 ·exact ⟨_, by assumption⟩
 ·cases h
def Qp5 (l : List UInt8) : Nat := l.foldl (fun n c => 128 * n + c.toNat) 0
theorem QnB {l : List UInt8} {i : Nat} (h : i < l.length) : Qp5 (l.take (i + 1)) = 128 * Qp5 (l.take i) + l[i].toNat := by
 unfold Qp5
 rw [qm h, jX]
 rfl
theorem Qk3 : ∀ (l : List UInt8), (∀ c ∈ l, c.toNat < 128) → ∀ n, l.foldl (fun n c => 128 * n + c.toNat) n < (n + 1) * 128 ^ l.length
 | [], _, n => by simp
 | c :: l, h, n => by
  have hc := h c (by simp)
  have ih := Qk3 l (fun x hx => h x (jg _ hx)) (128 * n + c.toNat)
  refine yy ih ?_
  rw [qV, yc, qE (128 ^ l.length) 128, ← jw]
  exact qN _ (by omega)
def Qp4 (l : List UInt8) : Int × Int := if l.length ≠ 4 then (0, 2) else if ∀ c ∈ l, c.toNat < 128 then (Qp5 l, 0) else (0, 12)
def QkY (P : Prg) (f : Nat) : Prop := ∀ l : List UInt8, l.length ≤ 1000000 → VC P f [bs l] (.tup [.int .i64 (Qp4 l).1, .int .i64 (Qp4 l).2])
theorem QAI {x : Nat} (h : x < 268435456) : Qu true .i64 (x : Int) 7 = some (.int .i64 ((128 * x : Nat) : Int)) := by
 show some (AV.int .i64 (IntKind.i64.wrap ((x : Int) * 2 ^ 7))) = _
 rw [ZT (by omega) (by omega)]
 congr 2
 omega
theorem QCc {a c : Nat} (ha : a < 268435456) (hc : c < 128) : IntKind.i64.wrap (BitVec.ofInt IntKind.i64.bits ((128 * a : Nat) : Int) ||| BitVec.ofInt IntKind.i64.bits (c : Int)).toNat = ((128 * a + c : Nat) : Int) := by
 have h1 : (BitVec.ofInt IntKind.i64.bits ((128 * a : Nat) : Int)).toNat = 128 * a := by
  rw [BitVec.ofInt_natCast, yx]
  exact qv (yy (by omega : 128 * a < 2 ^ 36) (by decide))
 have h2 : (BitVec.ofInt IntKind.i64.bits (c : Int)).toNat = c := by
  rw [BitVec.ofInt_natCast, yx]
  exact qv (yy (by omega : c < 2 ^ 36) (by decide))
 rw [BitVec.toNat_or, h1, h2, Nat.or_comm, show 128 * a = a * 2 ^ 7 by omega, QoW (by omega), ZT (by omega) (by omega)]
 omega
theorem Qoi {l : List UInt8} {i : Nat} (h : i < l.length) : List.drop i (u8 l) = .int .u8 (l[i].toNat : Int) :: List.drop (i + 1) (u8 l) := by
 have hl : i < (u8 l).length := by rw [Qe]; exact h
 rw [qF hl]
 simp [u8]
theorem Ql1 {P : Prg} {f : Nat} (bd : Qf P f 25 [.tmp 2, .tmp 3] JH) : QkY P f := by
 intro l hl
 refine Qn (by simp [isDL, Qr]) rfl bd ?_
 by_cases h4 : l.length ≠ 4
 ·rw [Qp4, qc h4]
  simp (disch := omega) only [rq, simprocAttr, JH, bs]
 have h4' : l.length = 4 := by omega
 rw [Qp4, qa h4]
 simp (disch := omega) only [rq, simprocAttr, JH, bs]
 refine Qg (ι := Nat) (fun i => ⟨[(12, .int .i64 i), (4, .int .i64 ((Qp5 (l.take i) : Nat) : Int)), (10, .list l.length (u8 l)), (11, .int .i64 4), (0, .list l.length (u8 l))], []⟩) (fun i => i ≤ 4 ∧ ∀ c ∈ l.take i, c.toNat < 128) (fun i => 4 - i) 0 (Qk (by simp [Am.look, Qp5, h4'])) ⟨yF _, by simp⟩ ?_
 intro i ⟨hi, hb⟩
 have hv := Qk3 (l.take i) hb 0
 rw [yj, yS, qh, qA (by omega)] at hv
 have hv2 : (l.take i).foldl (fun n c => 128 * n + c.toNat) 0 = Qp5 (l.take i) := rfl
 rw [hv2] at hv
 have hp : 128 ^ i ≤ 128 ^ 4 := qq (by omega) hi
 have hp4 : (128 : Nat) ^ 4 = 268435456 := by decide
 by_cases hi4 : i < 4
 case neg =>
  obtain rfl : i = 4 := by omega
  have e : l.take 4 = l := qf (by omega)
  rw [e] at hb ⊢
  rw [qc hb]
  simp (disch := omega) only [rq, simprocAttr]
 have hil : i < l.length := by omega
 have hsn := QnB hil
 have hget := Qoi hil
 by_cases hc : l[i].toNat < 128
 ·have hb2 : ∀ c ∈ l.take (i + 1), c.toNat < 128 := by
   intro c hm
   rw [qm hil] at hm
   rcases qB.1 hm with hm | hm
   ·exact hb c hm
   ·rw [yd.1 hm]; exact hc
  have hs7 := QAI (x := Qp5 (l.take i)) (by omega)
  have ho7 := QCc (a := Qp5 (l.take i)) (c := l[i].toNat) (by omega) hc
  generalize l[i] = b at *
  generalize Qp5 (l.take i) = V at *
  simp (disch := omega) only [rq, simprocAttr, hget, hs7, ho7]
  refine ⟨i + 1, ⟨by omega, hb2⟩, by omega, ?_⟩
  rw [hsn]
  exact Qh
 ·have hno : ¬ ∀ c ∈ l, c.toNat < 128 := fun h => hc (h _ (yb hil))
  rw [qa hno]
  generalize l[i] = b at *
  simp (disch := omega) only [rq, simprocAttr, hget]
def Ql6 (v fl : Nat) : Bool := if fl = 0 then decide (2 ≤ v) && decide (v ≤ 4) else if fl = 16 then decide (v = 4) else false
theorem Qf9 {P : Prg} {g t0 : Nat} (bd : Qf P g 16 [.tmp 2] Q4) {v fl : Nat} {x : Ob} (hv : v < 256) (hf : fl < 256) {K : AV → List Ob → Prop} (hK : K (.bool (Ql6 v fl)) [x, ⟨t0, 1, 1, [.int .u8 v], 0⟩, ⟨t0, 1, 1, [.int .u8 fl], 0⟩]) :
  ACall P g [.ref 2 1 0, .ref 1 1 0] [x, ⟨t0, 1, 1, [.int .u8 v], 0⟩, ⟨t0, 1, 1, [.int .u8 fl], 0⟩] K := by
 refine Qb bd (by simp) ?_
 unfold Ql6 at hK
 by_cases h0 : fl = 0
 ·rw [qc h0] at hK
  subst h0
  by_cases h2 : 2 ≤ v
  ·by_cases h4 : v ≤ 4
   ·have e : (decide (2 ≤ v) && decide (v ≤ 4)) = true := by simp [h2, h4]
    rw [e] at hK
    simp (disch := omega) only [rq, simprocAttr, Q4]
    exact hK
   ·have e : (decide (2 ≤ v) && decide (v ≤ 4)) = false := by simp [h2, h4]
    rw [e] at hK
    simp (disch := omega) only [rq, simprocAttr, Q4]
    exact hK
  ·have e : (decide (2 ≤ v) && decide (v ≤ 4)) = false := by simp [h2]
   rw [e] at hK
   simp (disch := omega) only [rq, simprocAttr, Q4]
   exact hK
 ·rw [qa h0] at hK
  by_cases h16 : fl = 16
  ·rw [qc h16] at hK
   subst h16
   by_cases h4 : v = 4
   ·rw [decide_eq_true h4] at hK
    subst h4
    simp (disch := omega) only [rq, simprocAttr, Q4]
    exact hK
   ·rw [decide_eq_false h4] at hK
    simp (disch := omega) only [rq, simprocAttr, Q4]
    exact hK
  ·rw [qa h16] at hK
   simp (disch := omega) only [rq, simprocAttr, Q4]
   exact hK
def idN (b : List UInt8) : Int × Int :=
 if b.take 3 ≠ [73, 68, 51] then (0, 6)
 else if b.length < 10 then (0, 24)
 else if (Qp4 ((b.drop 6).take 4)).2 ≠ 0 ∨ (b.getD 4 0).toNat ≠ 0 ∨ Ql6 (b.getD 3 0).toNat (b.getD 5 0).toNat = false then (0, 12)
 else
  let n := (Qp4 ((b.drop 6).take 4)).1 + 10 + (if (b.getD 5 0).toNat = 16 then 10 else 0)
  if 4000 < n then (0, 4)
  else if b.length < n then (0, 24)
  else if (b.getD 5 0).toNat = 16 ∧ ¬ ((b.drop (n - 10).toNat).take 3 = [51, 68, 73] ∧ (b.drop (n - 7).toNat).take 7 = (b.drop 3).take 7) then (0, 12)
  else (n, 0)
theorem Qk2 (l : List UInt8) : 0 ≤ (Qp4 l).1 ∧ (Qp4 l).1 < 268435456 := by
 unfold Qp4
 split
 ·exact ⟨by simp, by simp⟩
 rename_i h4
 split
 ·rename_i h
  have := Qk3 l h 0
  rw [show l.length = 4 by omega] at this
  have e : l.foldl (fun n c => 128 * n + c.toNat) 0 = Qp5 l := rfl
  rw [e] at this
  simp only
  omega
 ·exact ⟨by simp, by simp⟩
def Qef (P : Prg) (f : Nat) : Prop := ∀ b : List UInt8, b.length ≤ 1000000 → VC P f [bs b] (.tup [.int .i64 (idN b).1, .int .i64 (idN b).2])
theorem QgQ {l : List UInt8} {i : Nat} (h : i < l.length) : l.getD i 0 = l[i] := by rw [qe, qg h]; rfl
theorem Ql2 {P : Prg} {f fH fV fS fE t0 : Nat} (bd : Qf P f 78 [.tmp 2, .tmp 3] (XZ fH fV fS fE t0)) (hH : QpP P fH) (hV : QkY P fV) (bS : Qf P fS 16 [.tmp 2] Q4) (hE : QbP P fE) : Qef P f := by
 intro b hb
 refine Qn (by simp [isDL, Qr]) rfl bd ?_
 have hH' := hH b [73, 68, 51] hb (by simp)
 rw [show ([73, 68, 51] : List UInt8).length = 3 from rfl] at hH'
 have tb := Q9 b
 by_cases h3 : b.take 3 ≠ [73, 68, 51]
 ·rw [idN, qc h3]
  rw [show (b.take 3 == [73, 68, 51]) = false from qT.2 h3] at hH'
  have hH2 : VC P fH [.list b.length (u8 b), .list 3 [.int .u8 73, .int .u8 68, .int .u8 51]] (.bool false) := hH'
  simp only [bs]
  simp (disch := omega) only [rq, simprocAttr, XZ]
  refine QO 1 [0] hH2 (by simp [QI, Qz, frzL, Qv, isDL, isD, frzL_T _ tb]) ?_
  simp (disch := omega) only [rq, simprocAttr, QG]
 rw [idN, qa h3]
 have h3' : b.take 3 = [73, 68, 51] := by simpa using h3
 rw [show (b.take 3 == [73, 68, 51]) = true from beq_iff_eq.2 h3'] at hH'
 have hH2 : VC P fH [.list b.length (u8 b), .list 3 [.int .u8 73, .int .u8 68, .int .u8 51]] (.bool true) := hH'
 by_cases h10 : b.length < 10
 ·rw [qc h10]
  simp only [bs]
  simp (disch := omega) only [rq, simprocAttr, XZ]
  refine QO 1 [0] hH2 (by simp [QI, Qz, frzL, Qv, isDL, isD, frzL_T _ tb]) ?_
  simp (disch := omega) only [rq, simprocAttr, QG]
 rw [qa h10, QgQ (i := 3) (by omega), QgQ (i := 4) (by omega), QgQ (i := 5) (by omega)]
 have d3 := Qoi (l := b) (i := 3) (by omega)
 have d4 := Qoi (l := b) (i := 4) (by omega)
 have d5 := Qoi (l := b) (i := 5) (by omega)
 have lt3 : b[3].toNat < 256 := b[3].toNat_lt
 have lt4 : b[4].toNat < 256 := b[4].toNat_lt
 have lt5 : b[5].toNat < 256 := b[5].toNat_lt
 generalize b[3].toNat = v at *
 generalize b[4].toNat = z at *
 generalize b[5].toNat = fl at *
 have hV' := hV ((b.drop 6).take 4) (by simp; omega)
 have hs6 : (u8 ((b.drop 6).take 4)) = List.take 4 (List.drop 6 (u8 b)) := by rw [QE, QJ]
 have hl6 : ((b.drop 6).take 4).length = 4 := by simp; omega
 rw [bs, hl6, hs6] at hV'
 simp only [bs]
 simp (disch := omega) only [rq, simprocAttr, XZ]
 refine QO 1 [0] hH2 (by simp [QI, Qz, frzL, Qv, isDL, isD, frzL_T _ tb]) ?_
 simp (disch := omega) only [rq, simprocAttr, QG, d3, d4, d5]
 refine Qa hV' ?_
 have hwb := Qk2 ((b.drop 6).take 4)
 generalize Qp4 ((b.drop 6).take 4) = w at *
 by_cases c1 : w.2 ≠ 0
 ·rw [qc (.inl c1)]
  simp (disch := omega) only [rq, simprocAttr]
 have c1' : w.2 = 0 := by omega
 by_cases c2 : z ≠ 0
 ·rw [qc (.inr (.inl c2))]
  simp (disch := omega) only [rq, simprocAttr, d4]
 have c2' : z = 0 := by omega
 subst c2'
 by_cases c3 : Ql6 v fl = false
 ·rw [qc (.inr (.inr c3))]
  simp (disch := omega) only [rq, simprocAttr, d4]
  refine Qf9 bS lt3 lt5 ?_
  rw [c3]
  simp (disch := omega) only [rq, simprocAttr]
 have hnf : ¬ (w.2 ≠ 0 ∨ 0 ≠ 0 ∨ Ql6 v fl = false) := by
  rintro (h | h | h)
  ·exact c1 h
  ·exact h rfl
  ·exact c3 h
 rw [qa hnf]
 have c3' : Ql6 v fl = true := by simpa using c3
 obtain ⟨N, hN⟩ : ∃ N : Nat, w.1 = N := ⟨w.1.toNat, by omega⟩
 rw [hN] at hwb ⊢
 simp (disch := omega) only [rq, simprocAttr, d4]
 refine Qf9 bS lt3 lt5 ?_
 rw [c3']
 by_cases h16 : fl = 16
 ·subst h16
  simp only [yf, true_and]
  by_cases k1 : (4000 : Int) < (N : Int) + 10 + 10
  ·rw [qc k1]
   simp (disch := omega) only [rq, simprocAttr, hN]
  rw [qa k1]
  by_cases k2 : (b.length : Int) < (N : Int) + 10 + 10
  ·rw [qc k2]
   simp (disch := omega) only [rq, simprocAttr, hN]
  rw [qa k2]
  have e10 : N + 10 + Int.toNat 10 - 10 = N + 10 := rfl
  have e13 : N + 10 + Int.toNat 10 - 7 = N + 13 := rfl
  rw [e10, e13]
  have q1 : N + 10 - N = 10 := by omega
  have q2 : min 10 (b.length - (N + 10)) = 10 := by omega
  have q3 : List.take 3 (List.take 10 (List.drop (N + 10) (u8 b))) = u8 ((b.drop (N + 10)).take 3) := by rw [jC, QE, QJ]; rfl
  have q4 : List.drop 3 (List.take 10 (List.drop (N + 10) (u8 b))) = u8 ((b.drop (N + 13)).take 7) := by rw [jA, jN, QE, QJ]
  have q5 : List.take 7 (List.drop 3 (u8 b)) = u8 ((b.drop 3).take 7) := by rw [QE, QJ]
  have l1 : ((b.drop (N + 10)).take 3).length = 3 := by simp; omega
  have l2 : ((b.drop (N + 13)).take 7).length = 7 := by simp; omega
  have l3 : ((b.drop 3).take 7).length = 7 := by simp; omega
  have hE' := hE ((b.drop (N + 13)).take 7) ((b.drop 3).take 7)
  rw [bs, bs, l2, l3] at hE'
  generalize (b.drop (N + 10)).take 3 = s1 at *
  generalize (b.drop (N + 13)).take 7 = s2 at *
  generalize (b.drop 3).take 7 = s3 at *
  have t1 := Q9 s1
  have q6 : List.take 7 (u8 s2) = u8 s2 := qf (by rw [Qe]; omega)
  by_cases g1 : s1 = [51, 68, 73]
  ·have hse : Qbh .neq s1 [51, 68, 73] = some (.bool false) := by simp [Qbh, g1]
   by_cases g2 : s2 = s3
   ·rw [qa (by rw [g1, g2]; simp)]
    rw [show (s2 == s3) = true from beq_iff_eq.2 g2] at hE'
    simp (disch := omega) only [rq, simprocAttr, hN, q1, q2, q3, q4, q5, Q6, hse, l1, q6]
    refine Qc hE' ?_
    simp (disch := omega) only [rq, simprocAttr, hN]
   ·rw [qc (by rw [not_and]; intro _; exact g2)]
    rw [show (s2 == s3) = false from qT.2 g2] at hE'
    simp (disch := omega) only [rq, simprocAttr, hN, q1, q2, q3, q4, q5, Q6, hse, l1, q6]
    refine Qc hE' ?_
    simp (disch := omega) only [rq, simprocAttr, hN]
  ·have hse : Qbh .neq s1 [51, 68, 73] = some (.bool true) := by simp [Qbh, g1]
   rw [qc (by rw [not_and]; intro h; exact absurd h g1)]
   simp (disch := omega) only [rq, simprocAttr, hN, q1, q2, q3, q4, q5, Q6, hse, l1]
 ·rw [qa h16]
  simp only [Yf, h16, false_and, yl]
  by_cases k1 : (4000 : Int) < (N : Int) + 10
  ·rw [qc k1]
   simp (disch := omega) only [rq, simprocAttr, hN]
  rw [qa k1]
  by_cases k2 : (b.length : Int) < (N : Int) + 10
  ·rw [qc k2]
   simp (disch := omega) only [rq, simprocAttr, hN]
  rw [qa k2]
  simp (disch := omega) only [rq, simprocAttr, hN]
def QBu : List UInt8 := [65, 80, 69, 84, 65, 71, 69, 88]
def Qnt (n c fl : Nat) : List Nat := [2000, n + 32, c, fl, 0, 0]
def Qaq (n c fl : Nat) : List UInt8 := QBu ++ ((Qnt n c fl).map fun v => leB v 4).flatten
def Qyk (n c fl k : Nat) : List UInt8 := QBu ++ (((Qnt n c fl).take k).map fun v => leB v 4).flatten
theorem QbJ (n c fl k : Nat) (h : k ≤ 6) : (Qyk n c fl k).length = 8 + 4 * k := by
 unfold Qyk
 have : ∀ L : List Nat, ((L.map fun v => leB v 4).flatten).length = 4 * L.length := fun L => by
  induction L with
  | nil => rfl
  | cons a L ih => simp only [yg, List.flatten_cons, qx, Qy, ih, qV]; omega
 rw [qx, this, qh]
 simp only [Qnt, QBu, qV, yE]
 omega
theorem QxR (n c fl k : Nat) (h : k < (Qnt n c fl).length) : Qyk n c fl (k + 1) = Qyk n c fl k ++ leB ((Qnt n c fl)[k]) 4 := by
 unfold Qyk
 rw [qm h, yp, List.flatten_append, qy]
 simp only [yg, Yd, List.flatten_cons, List.flatten_nil, qX]
def Qao (P : Prg) (f : Nat) : Prop := ∀ n c fl : Nat, n ≤ 1000000 → c ≤ 1000000 → fl < 4294967296 → VC P f [.int .i64 n, .int .i64 c, .int .u64 fl] (bs (Qaq n c fl))
theorem QBt {P : Prg} {f fB t0 t1 : Nat} (bd : Qf P f 36 [.tmp 6] (Qg9 fB t0 t1)) (hB : Qgv P fB) : Qao P f := by
 intro n c fl hn hc hf
 refine Qi 1 rfl (Qr _) (Qb bd (by simp) ?_)
 simp (disch := omega) only [rq, simprocAttr, Qg9]
 have hW : (Qnt n c fl).map (fun v => AV.int .u64 (v : Nat)) = [AV.int .u64 2000, .int .u64 (n + 32), .int .u64 c, .int .u64 fl, .int .u64 0, .int .u64 0] := by simp [Qnt]
 have e0 : Qyk n c fl 0 = QBu := by simp [Qyk]
 refine Qg (ι := Nat) (fun k => ⟨[(22, .int .i64 k), (21, .int .i64 6), (20, .own 1 6), (7, .own 0 (8 + 4 * k))], [⟨t0, 1, 8 + 4 * k, u8 (Qyk n c fl k), 1⟩, ⟨t1, 1, 6, [.int .u64 2000, .int .u64 (n + 32), .int .u64 c, .int .u64 fl, .int .u64 0, .int .u64 0], 0⟩]⟩) (fun k => k ≤ 6) (fun k => 6 - k) 0 (by rw [e0]; exact Qh) (yF _) ?_
 intro k hk
 by_cases h6 : k < 6
 ·have hkl : k < (Qnt n c fl).length := h6
  have hs := QxR n c fl k hkl
  have hlen := QbJ n c fl k (by omega)
  have hv : (Qnt n c fl)[k] < 256 ^ 4 := by
   have h4 : (256 : Nat) ^ 4 = 4294967296 := by decide
   have hm : ∀ v ∈ Qnt n c fl, v < 4294967296 := by
    intro v hv
    simp only [Qnt, ym, List.not_mem_nil, or_false] at hv
    omega
   rw [h4]
   exact hm _ (yb hkl)
  have hB' := hB (Qnt n c fl)[k] 4 (by omega) (by omega) hv
  rw [bs, Qy] at hB'
  have hd : List.drop k ((Qnt n c fl).map (fun v => AV.int .u64 (v : Nat))) = .int .u64 ((Qnt n c fl)[k] : Nat) :: List.drop (k + 1) ((Qnt n c fl).map (fun v => AV.int .u64 (v : Nat))) := by
   rw [qF (by simpa using hkl)]
   simp
  rw [hW] at hd
  generalize (Qnt n c fl)[k] = V at *
  generalize Qyk n c fl k = X at *
  simp (disch := omega) only [rq, simprocAttr, hd]
  refine Qa hB' ?_
  simp (disch := omega) only [rq, simprocAttr, Qy, hlen]
  refine ⟨k + 1, by omega, by omega, ?_⟩
  rw [hs]
  have e4 : 8 + 4 * (k + 1) = 8 + 4 * k + 4 := by omega
  rw [e4]
  exact Qh
 ·obtain rfl : k = 6 := by omega
  have e : Qyk n c fl 6 = Qaq n c fl := rfl
  rw [e]
  have hl := QbJ n c fl 6 (by omega)
  rw [e] at hl
  have tE := Q9 (Qaq n c fl)
  simp (disch := omega) only [rq, simprocAttr]
  simp [QI, Qz, frzL, Qv, isDL, isD, bs, hl, frzL_T _ tE]
def Zs (b : List UInt8) : Nat := leN ((b.drop 12).take 4)
def XU (b : List UInt8) : Nat := leN ((b.drop 16).take 4)
def QhH (b : List UInt8) : Prop := 32 ≤ Zs b ∧ Zs b ≤ 3032 ∧ XU b ≤ 1000
instance (b : List UInt8) : Decidable (QhH b) := by unfold QhH; exact inferInstance
def QvG (n c : Nat) (r : Bool) : AV := if 32 ≤ n ∧ n ≤ 3032 ∧ c ≤ 1000 then .tup [.agg [.int .i64 ((n - 32 : Nat) : Int), .int .i64 (c : Nat)], .bool r] else .tup [.agg [.int .i64 0, .int .i64 0], .bool false]
def QvH (b : List UInt8) (fl : Nat) : AV := QvG (Zs b) (XU b) (b == Qaq (Zs b - 32) (XU b) fl)
def QmU (P : Prg) (f : Nat) : Prop := ∀ (b : List UInt8) (fl : Nat), b.length = 32 → fl < 4294967296 → VC P f [bs b, .int .u64 fl] (QvH b fl)
theorem QxQ {P : Prg} {f fA fE fQ t0 : Nat} (bd : Qf P f 47 [.cell 4 t0, .tmp 5] (J3 fA fE fQ t0)) (hA : Qja P fA) (hE : Qao P fE) (hQ : QbP P fQ) (ht : ZE P t0 = some (some 2)) : QmU P f := by
 intro b fl hb hf
 refine Qi 1 (by simp [isDL, Qr, isD]) (by unfold QvH QvG; split <;> rfl) (Qb bd (by simp) ?_)
 have h1 := hA b 12 4 (by omega) (by omega) (by omega) (by omega)
 have h2 := hA b 16 4 (by omega) (by omega) (by omega) (by omega)
 rw [qc (by omega)] at h1 h2
 have e1 : leN ((b.drop 12).take 4) = Zs b := rfl
 have e2 : leN ((b.drop 16).take 4) = XU b := rfl
 rw [e1] at h1
 rw [e2] at h2
 clear e1 e2
 have hE' := fun h : QhH b => hE (Zs b - 32) (XU b) fl (by have := h.2.1; omega) (by have := h.2.2; omega) hf
 have hQ' := hQ b (Qaq (Zs b - 32) (XU b) fl)
 have hle : (Qaq (Zs b - 32) (XU b) fl).length = 32 := QbJ _ _ _ 6 (by omega)
 unfold QvH
 simp only [QhH] at hE'
 generalize Qaq (Zs b - 32) (XU b) fl = E at *
 generalize Zs b = n at h1 hE' ⊢
 generalize XU b = c at h2 hE' ⊢
 unfold QvG
 rw [bs, hb] at h1 h2 hQ' ⊢
 rw [bs, hle] at hQ'
 by_cases k1 : n < 32
 ·rw [qa (by omega)]
  simp (disch := omega) only [rq, simprocAttr, J3]
  refine Qa h1 ?_
  simp (disch := omega) only [rq, simprocAttr]
  refine Qa h2 ?_
  simp (disch := omega) only [rq, simprocAttr, QL, ht]
  simp [QI, Qz, frzL, Qv, isDL, isD]
 by_cases k2 : 3032 < n
 ·rw [qa (by omega)]
  simp (disch := omega) only [rq, simprocAttr, J3]
  refine Qa h1 ?_
  simp (disch := omega) only [rq, simprocAttr]
  refine Qa h2 ?_
  simp (disch := omega) only [rq, simprocAttr, QL, ht]
  simp [QI, Qz, frzL, Qv, isDL, isD]
 by_cases k3 : 1000 < c
 ·rw [qa (by omega)]
  simp (disch := omega) only [rq, simprocAttr, J3]
  refine Qa h1 ?_
  simp (disch := omega) only [rq, simprocAttr]
  refine Qa h2 ?_
  simp (disch := omega) only [rq, simprocAttr, QL, ht]
  simp [QI, Qz, frzL, Qv, isDL, isD]
 rw [qc (by omega)]
 have hE2 := hE' (by omega)
 rw [bs, hle] at hE2
 obtain ⟨m, rfl⟩ : ∃ m, n = m + 32 := ⟨n - 32, by omega⟩
 rw [jx] at hE2 ⊢
 have em : (m : Int) + 32 - 32 = m := by omega
 simp (disch := omega) only [rq, simprocAttr, J3]
 refine Qa h1 ?_
 simp (disch := omega) only [rq, simprocAttr]
 refine Qa h2 ?_
 simp (disch := omega) only [rq, simprocAttr, em]
 refine Qc hE2 ?_
 simp (disch := omega) only [rq, simprocAttr]
 refine Qc hQ' ?_
 simp (disch := omega) only [rq, simprocAttr, QL, ht]
 simp [QI, Qz, frzL, Qv, isDL, isD]
def apF (b : List UInt8) : Int × Int :=
 if b.take 8 ≠ [65, 80, 69, 84, 65, 71, 69, 88] then (0, 6)
 else if b.length < 32 then (0, 24)
 else if ¬ (32 ≤ Zs (b.take 32) ∧ Zs (b.take 32) ≤ 3032 ∧ XU (b.take 32) ≤ 1000) ∨ (b.take 32 == Qaq (Zs (b.take 32) - 32) (XU (b.take 32)) 2684354560) = false then (0, 12)
 else if b.length < Zs (b.take 32) + 32 then (0, 24)
 else if ((b.drop (Zs (b.take 32))).take 32 == Qaq (Zs (b.take 32) - 32) (XU (b.take 32)) 2147483648) = false then (0, 12)
 else ((Zs (b.take 32) + 32 : Nat), 0)
def Qcr (P : Prg) (f : Nat) : Prop := ∀ b : List UInt8, b.length ≤ 1000000 → VC P f [bs b] (.tup [.int .i64 (apF b).1, .int .i64 (apF b).2])
set_option maxHeartbeats 1000000 in
theorem Qu9 {P : Prg} {f fH fT fN fE t0 t1 : Nat} (bd : Qf P f 43 [.tmp 2, .tmp 3] (Xl fH fT fN fE t0 t1)) (hH : QpP P fH) (hT : QmU P fT) (hN : Qao P fN) (hE : QbP P fE) : Qcr P f := by
 intro b hb
 refine Qn (by simp [isDL, Qr]) rfl bd ?_
 have hH' := hH b [65, 80, 69, 84, 65, 71, 69, 88] hb (by simp)
 rw [show ([65, 80, 69, 84, 65, 71, 69, 88] : List UInt8).length = 8 from rfl] at hH'
 have tb := Q9 b
 by_cases h3 : b.take 8 ≠ [65, 80, 69, 84, 65, 71, 69, 88]
 ·rw [apF, qc h3]
  rw [show (b.take 8 == [65, 80, 69, 84, 65, 71, 69, 88]) = false from qT.2 h3] at hH'
  have hH2 : VC P fH [.list b.length (u8 b), .list 8 [.int .u8 65, .int .u8 80, .int .u8 69, .int .u8 84, .int .u8 65, .int .u8 71, .int .u8 69, .int .u8 88]] (.bool false) := hH'
  simp only [bs]
  simp (disch := omega) only [rq, simprocAttr, Xl]
  refine QO 1 [0] hH2 (by simp [QI, Qz, frzL, Qv, isDL, isD, frzL_T _ tb]) ?_
  simp (disch := omega) only [rq, simprocAttr, QG]
 rw [apF, qa h3]
 have h3' : b.take 8 = [65, 80, 69, 84, 65, 71, 69, 88] := by simpa using h3
 rw [show (b.take 8 == [65, 80, 69, 84, 65, 71, 69, 88]) = true from beq_iff_eq.2 h3'] at hH'
 have hH2 : VC P fH [.list b.length (u8 b), .list 8 [.int .u8 65, .int .u8 80, .int .u8 69, .int .u8 84, .int .u8 65, .int .u8 71, .int .u8 69, .int .u8 88]] (.bool true) := hH'
 by_cases h10 : b.length < 32
 ·rw [qc h10]
  simp only [bs]
  simp (disch := omega) only [rq, simprocAttr, Xl]
  refine QO 1 [0] hH2 (by simp [QI, Qz, frzL, Qv, isDL, isD, frzL_T _ tb]) ?_
  simp (disch := omega) only [rq, simprocAttr, QG]
 rw [qa h10]
 have hl32 : (b.take 32).length = 32 := by simp; omega
 have hT' := hT (b.take 32) 2684354560 hl32 (by omega)
 have hu : u8 (b.take 32) = List.take 32 (u8 b) := by rw [QJ]
 rw [bs, hl32, hu, QvH] at hT'
 have hle : ∀ n c fl, (Qaq n c fl).length = 32 := fun n c fl => QbJ n c fl 6 (by omega)
 have hN' := hN (Zs (b.take 32) - 32) (XU (b.take 32)) 2147483648
 have hE' := hE ((b.drop (Zs (b.take 32))).take 32) (Qaq (Zs (b.take 32) - 32) (XU (b.take 32)) 2147483648)
 generalize hr : (b.take 32 == Qaq (Zs (b.take 32) - 32) (XU (b.take 32)) 2684354560) = r at *
 generalize Zs (b.take 32) = n at *
 generalize XU (b.take 32) = c at *
 clear hr
 unfold QvG at hT'
 simp only [bs]
 by_cases k1 : 32 ≤ n ∧ n ≤ 3032 ∧ c ≤ 1000
 case neg =>
  rw [qa k1] at hT'
  rw [qc (.inl k1)]
  simp (disch := omega) only [rq, simprocAttr, Xl]
  refine QO 1 [0] hH2 (by simp [QI, Qz, frzL, Qv, isDL, isD, frzL_T _ tb]) ?_
  simp (disch := omega) only [rq, simprocAttr, QG]
  refine Qa hT' ?_
  simp (disch := omega) only [rq, simprocAttr]
 rw [qc k1] at hT'
 cases r with
 | false =>
  rw [qc (.inr rfl)]
  simp (disch := omega) only [rq, simprocAttr, Xl]
  refine QO 1 [0] hH2 (by simp [QI, Qz, frzL, Qv, isDL, isD, frzL_T _ tb]) ?_
  simp (disch := omega) only [rq, simprocAttr, QG]
  refine Qa hT' ?_
  simp (disch := omega) only [rq, simprocAttr]
 | true =>
  rw [qa (fun h => h.elim (fun h => h k1) (fun h => Bool.noConfusion h))]
  obtain ⟨m, rfl⟩ : ∃ m, n = m + 32 := ⟨n - 32, by omega⟩
  rw [jx] at hT' hN' hE' ⊢
  have hN2 := hN' (by omega) (by omega) (by omega)
  rw [bs, hle] at hN2
  by_cases k2 : b.length < m + 32 + 32
  ·rw [qc k2]
   simp (disch := omega) only [rq, simprocAttr, Xl]
   refine QO 1 [0] hH2 (by simp [QI, Qz, frzL, Qv, isDL, isD, frzL_T _ tb]) ?_
   simp (disch := omega) only [rq, simprocAttr, QG]
   refine Qa hT' ?_
   simp (disch := omega) only [rq, simprocAttr]
  rw [qa k2]
  have l32 : ((b.drop (m + 32)).take 32).length = 32 := by simp; omega
  rw [bs, bs, l32, hle] at hE'
  generalize Qaq m c 2147483648 = E at *
  generalize hs : (b.drop (m + 32)).take 32 = S at *
  have hS : List.take 32 (List.drop (m + 32) (u8 b)) = u8 S := by rw [QE, QJ, hs]
  have q1 : (m : Int) + 64 - 32 = ((m + 32 : Nat) : Int) := by omega
  simp (disch := omega) only [rq, simprocAttr, Xl]
  refine QO 1 [0] hH2 (by simp [QI, Qz, frzL, Qv, isDL, isD, frzL_T _ tb]) ?_
  simp (disch := omega) only [rq, simprocAttr, QG]
  refine Qa hT' ?_
  simp (disch := omega) only [rq, simprocAttr]
  refine Qc hN2 ?_
  have q2 : m + 32 - m = 32 := by omega
  simp (disch := omega) only [rq, simprocAttr, q2, hS]
  refine Qc hE' ?_
  cases hz : S == E with
  | false =>
   rw [qc rfl]
   simp (disch := omega) only [rq, simprocAttr]
  | true =>
   rw [qa (fun h => Bool.noConfusion h)]
   have q3 : (m : Int) + 64 = (m : Int) + 32 + 32 := by omega
   simp (disch := omega) only [rq, simprocAttr]
   rw [q3]
def szN (b : List UInt8) : Int × Int := if (idN b).2 ≠ 6 then idN b else apF b
def Qib (P : Prg) (f : Nat) : Prop := ∀ b : List UInt8, b.length ≤ 1000000 → VC P f [bs b] (.tup [.int .i64 (szN b).1, .int .i64 (szN b).2])
theorem Qqu {P : Prg} {f fI fA : Nat} (bd : Qf P f 19 [.tmp 2, .tmp 3] (Qa9 fI fA)) (hI : Qef P fI) (hA : Qcr P fA) : Qib P f := by
 intro b hb
 refine Qn (by simp [isDL, Qr]) rfl bd ?_
 have hI' := hI b hb
 have hA' := hA b hb
 unfold szN
 generalize idN b = x at *
 generalize apF b = y at *
 rw [bs] at hI' hA' ⊢
 by_cases h : x.2 ≠ 6
 ·rw [qc h]
  simp (disch := omega) only [rq, simprocAttr, Qa9]
  refine Qa hI' ?_
  simp (disch := omega) only [rq, simprocAttr]
 ·rw [qa h]
  have h' : x.2 = 6 := by omega
  simp (disch := omega) only [rq, simprocAttr, Qa9]
  refine Qa hI' ?_
  simp (disch := omega) only [rq, simprocAttr, h']
  refine Qa hA' ?_
  simp (disch := omega) only [rq, simprocAttr]
theorem QCs {b : List UInt8} (h : (idN b).2 = 0) : 10 ≤ (idN b).1 ∧ (idN b).1 ≤ 4000 ∧ (idN b).1 ≤ b.length := by
 unfold idN at h ⊢
 split at h
 ·cases h
 split at h
 ·cases h
 split at h
 ·cases h
 rename_i h1 h2 h3
 rw [qa h1, qa h2, qa h3]
 have hv := Qk2 ((b.drop 6).take 4)
 generalize hn : (Qp4 ((b.drop 6).take 4)).1 + 10 + (if (b.getD 5 0).toNat = 16 then (10 : Int) else 0) = n at h ⊢
 have hn2 : 10 ≤ n := by split at hn <;> omega
 dsimp only at h ⊢
 by_cases h4 : 4000 < n
 ·rw [qc h4] at h; cases h
 rw [qa h4] at h ⊢
 by_cases h5 : (b.length : Int) < n
 ·rw [qc h5] at h; cases h
 rw [qa h5] at h ⊢
 split at h
 ·cases h
 rename_i h6
 rw [qa h6]
 exact ⟨hn2, by omega, by omega⟩
theorem QBw {b : List UInt8} (h : (apF b).2 = 0) : 64 ≤ (apF b).1 ∧ (apF b).1 ≤ 3064 ∧ (apF b).1 ≤ b.length := by
 unfold apF at h ⊢
 split at h
 ·cases h
 split at h
 ·cases h
 split at h
 ·cases h
 split at h
 ·cases h
 split at h
 ·cases h
 rename_i h1 h2 h3 h4 h5
 rw [qa h1, qa h2, qa h3, qa h4, qa h5]
 have h6 : 32 ≤ Zs (b.take 32) ∧ Zs (b.take 32) ≤ 3032 ∧ XU (b.take 32) ≤ 1000 := Decidable.not_not.1 fun hh => h3 (.inl hh)
 simp only
 omega
theorem QCt (b : List UInt8) : (idN b).2 = 0 ∨ ((idN b).2 = 4 ∨ (idN b).2 = 6 ∨ (idN b).2 = 12 ∨ (idN b).2 = 24) ∧ (idN b).1 = 0 := by
 unfold idN
 dsimp only
 repeat' split
 all_goals simp
theorem QCJ (b : List UInt8) : (apF b).2 = 0 ∨ ((apF b).2 = 4 ∨ (apF b).2 = 6 ∨ (apF b).2 = 12 ∨ (apF b).2 = 24) ∧ (apF b).1 = 0 := by
 unfold apF
 repeat' split
 all_goals simp
theorem Qho (b : List UInt8) : (szN b).2 = 0 ∧ 10 ≤ (szN b).1 ∧ (szN b).1 ≤ 4000 ∧ (szN b).1 ≤ b.length ∨ ((szN b).2 = 4 ∨ (szN b).2 = 6 ∨ (szN b).2 = 12 ∨ (szN b).2 = 24) ∧ (szN b).1 = 0 := by
 unfold szN
 split
 ·rcases QCt b with h | h
  ·have := QCs h; exact .inl ⟨h, this⟩
  ·exact .inr h
 ·rcases QCJ b with h | h
  ·have := QBw h; exact .inl ⟨h, by omega, by omega, this.2.2⟩
  ·exact .inr h
def frF (b : List UInt8) : Nat → Nat → Int × Int
 | 0, a => (a, 0)
 | k + 1, a => if (szN (b.drop a)).2 = 6 then (a, 0) else if (szN (b.drop a)).2 ≠ 0 then (0, (szN (b.drop a)).2) else if 4000 < a + (szN (b.drop a)).1.toNat then (0, 4) else frF b k (a + (szN (b.drop a)).1.toNat)
def frN (b : List UInt8) : Int × Int := frF b 402 0
def tgF (b : List UInt8) : Nat → Nat → List (Int × Int)
 | 0, _ => []
 | k + 1, a => if (szN (b.drop a)).2 = 6 then [] else if (szN (b.drop a)).2 ≠ 0 then [szN (b.drop a)] else if 4000 < a + (szN (b.drop a)).1.toNat then [((szN (b.drop a)).1, 4)] else szN (b.drop a) :: tgF b k (a + (szN (b.drop a)).1.toNat)
def tgL (b : List UInt8) : List (Int × Int) := tgF b 402 0
def QBY (l : List (Int × Int)) : Int := (l.map Prod.fst).sum
theorem QvD (b : List UInt8) : ∀ k a, (tgF b k a).length ≤ k
 | 0, a => by simp [tgF]
 | k + 1, a => by
  have := QvD b k (a + (szN (b.drop a)).1.toNat)
  unfold tgF
  repeat' split
  all_goals simp
  omega
theorem QvE (b : List UInt8) : ∀ k a, ∀ x ∈ tgF b k a, 0 ≤ x.1 ∧ x.1 ≤ 4000 ∧ (x.2 = 0 ∨ x.2 = 4 ∨ x.2 = 12 ∨ x.2 = 24)
 | 0, a, x, h => by simp [tgF] at h
 | k + 1, a, x, h => by
  have hs := Qho (b.drop a)
  unfold tgF at h
  split at h
  ·simp at h
  split at h
  ·simp only [yd] at h
   subst h
   omega
  rename_i h2
  have h2 := Decidable.not_not.1 h2
  split at h
  ·simp only [yd] at h
   subst h
   have : 0 ≤ (szN (b.drop a)).1 ∧ (szN (b.drop a)).1 ≤ 4000 := by omega
   exact ⟨this.1, this.2, .inr (.inl rfl)⟩
  ·rcases ym.1 h with rfl | h
   ·exact ⟨by omega, by omega, .inl h2⟩
   ·exact QvE b k _ x h
theorem QvF (b : List UInt8) : ∀ k a, (∀ x ∈ tgF b k a, x.2 = 0) → frF b k a = (a + QBY (tgF b k a), 0)
 | 0, a, _ => by simp [tgF, frF, QBY]
 | k + 1, a, h => by
  have hs := Qho (b.drop a)
  unfold frF
  unfold tgF at h ⊢
  split at h
  ·rename_i h1
   rw [qc h1, qc h1]
   simp [QBY]
  rename_i h1
  rw [qa h1, qa h1]
  split at h
  ·rename_i h2
   exact absurd (h _ (by simp)) h2
  rename_i h2
  rw [qa h2, qa h2]
  split at h
  ·have := h _ (yd.2 rfl)
   simp at this
  rename_i h3
  rw [qa h3, qa h3, QvF b k _ fun x hx => h x (by simp [hx])]
  simp only [QBY, yg, yB]
  congr 1
  omega
theorem Qsu (b : List UInt8) : ∀ k a, ∀ x ∈ tgF b k a, x.2 ≠ 0 → frF b k a = (0, x.2)
 | 0, a, x, h, _ => by simp [tgF] at h
 | k + 1, a, x, h, hx => by
  unfold frF
  unfold tgF at h
  split at h
  ·simp at h
  rename_i h1
  rw [qa h1]
  split at h
  ·rename_i h2
   simp only [yd] at h
   subst h
   rw [qc h2]
  rename_i h2
  rw [qa h2]
  split at h
  ·rename_i h3
   simp only [yd] at h
   subst h
   rw [qc h3]
  rename_i h3
  rw [qa h3]
  rcases ym.1 h with rfl | h
  ·exact absurd hx h2
  ·exact Qsu b k _ x h hx
theorem Qw7 (b : List UInt8) : ∀ k a, a ≤ 4000 → a ≤ b.length → ((frF b k a).2 = 0 ∧ ∃ n : Nat, (frF b k a).1 = n ∧ n ≤ 4000 ∧ n ≤ b.length) ∨ (frF b k a).1 = 0 ∧ ((frF b k a).2 = 4 ∨ (frF b k a).2 = 12 ∨ (frF b k a).2 = 24)
 | 0, a, h, h2 => by exact .inl ⟨rfl, a, rfl, h, h2⟩
 | k + 1, a, h, h2 => by
  have hs := Qho (b.drop a)
  rw [ql] at hs
  unfold frF
  split
  ·exact .inl ⟨rfl, a, rfl, h, h2⟩
  split
  ·exact .inr ⟨rfl, by simp only; omega⟩
  split
  ·exact .inr ⟨rfl, .inl rfl⟩
  ·exact Qw7 b k _ (by omega) (by omega)
theorem Qe1 (b : List UInt8) : ((frN b).2 = 0 ∧ ∃ n : Nat, (frN b).1 = n ∧ n ≤ 4000 ∧ n ≤ b.length) ∨ (frN b).1 = 0 ∧ ((frN b).2 = 4 ∨ (frN b).2 = 12 ∨ (frN b).2 = 24) :=
 Qw7 b 402 0 (by omega) (by omega)
theorem QpX {P : Program} {o : Oper} {c : Call} {t s1 s2 l : Nat} {a : Act} {w : World} {u v : Value} {R : Ending → World → Prop} {next : Act → World → Prop} {Q : Exit → Act → World → Prop}
  (ho : o.op = .call c) (hcal : c.callee = .value (.tmp t)) (hargs : c.args = #[.tmp s1, .tmp s2]) (ht : a.tmps.getD t undef = .func (.yield l) #[] #[]) (hs1 : a.tmps.getD s1 undef = u) (hs2 : a.tmps.getD s2 undef = v)
  (hY : YieldAt Fence.wide 3 P l #[u, v] w R) (hR : ∀ e w', R e w' → ∃ b, e = .returned (.bool b) ∧ next (a.put o.dst (.bool b)) w') : o.wpIn Fence.wide 4 P a w next Q := by
 obtain ⟨fn, tmps, assign, body, hy, hr⟩ := hY
 unfold Oper.wpIn
 refine ⟨fun _ _ => trivial, ?_⟩
 rw [QDd]
 have he : (execOp a.eval o).run P w = .ok (.round l fn tmps assign body) w := by
  have e1 : a.eval (.tmp t) = .func (.yield l) #[] #[] := ht
  have e2 : a.eval (.tmp s1) = u := hs1
  have e3 : a.eval (.tmp s2) = v := hs2
  simp only [execOp, ho, resolve, hcal, hargs, e1, Deferred.ofValue, invoke, Sem.run_bind, Sem.run_pure, Result.andThen_ok]
  simpa [e2, e3] using hy
 rw [he]
 refine ⟨(fun h => by cases h), RoundIn.mono hr fun e w' h => ?_⟩
 obtain ⟨b, rfl, h2⟩ := hR e w' h
 exact h2
def ΓZ (W : World) (N : Nat) : Ctx := ⟨W.heap.size, ⟨W, [], [], fun _ _ => False⟩, N, []⟩
theorem QCU {N : Nat} {fr : List (Nat × AV)} {a : Act} {W : World} (hd : a.defers = []) (hz : a.tmps.size = N) (h : ∀ i, Rep ⟨W, [], [], fun _ _ => False⟩ (look fr i) (a.tmps.getD i undef)) : Sim (ΓZ W N) ⟨fr, []⟩ a W :=
 ⟨hd, hz, Below.refl _ _, [], ⟨rfl, by simp, by simp, by simp, fun _ _ h => h.elim, qj _⟩, Moves.refl _, h⟩
theorem QdY {N i : Nat} {st : St} {k : IntKind} {n : Int} {a : Act} {W W' : World} (h : Sim (ΓZ W N) st a W') (e : look st.fr i = .int k n) : a.tmps.getD i undef = .int k n := by
 obtain ⟨_, _, _, _, _, _, h⟩ := h
 have h := h i
 simp only [e, Rep] at h
 exact h
theorem Qf0 {N i : Nat} {st : St} {b : Bool} {a : Act} {W W' : World} (h : Sim (ΓZ W N) st a W') (e : look st.fr i = .bool b) : a.tmps.getD i undef = .bool b := by
 obtain ⟨_, _, _, _, _, _, h⟩ := h
 have h := h i
 simp only [e, Rep] at h
 exact h
theorem QyH {N i : Nat} {st : St} {v : Value} {a : Act} {W W' : World} (h : Sim (ΓZ W N) st a W') (e : look st.fr i = .lit v) : a.tmps.getD i undef = v := by
 obtain ⟨_, _, _, _, _, _, h⟩ := h
 have h := h i
 simp only [e, Rep] at h
 exact h
set_option maxHeartbeats 1000000 in
theorem Qqt {P : Prg} {f fS : Nat} (bd : Qf P f 35 [] (Qaa fS)) (hS : Qib P fS) (b : List UInt8) (hbl : b.length ≤ 1000000) : Qx8 P f [bs b] (cnt := (tgL b).length) (fun j => (tgL b)[j]) := by
 intro w C v1 hv1 hex hG ll J Jx W hW hJ hJx hY hJ0
 obtain ⟨cnt, hcnt⟩ : ∃ cnt, (tgL b).length = cnt := ⟨_, rfl⟩
 obtain ⟨KC, hKC⟩ : ∃ KC : World → Prop, ∀ W', KC W' = ∀ (b k : Nat) (v : Value), ¬ C b k → w.cell? ⟨b, k, none⟩ = some v → W'.cell? ⟨b, k, none⟩ = some v := ⟨_, fun _ => rfl⟩
 have hkw : KC W := by rw [hKC]; exact fun b k v _ hc => (hW.cell (p := ⟨b, k, none⟩) (World.block_lt_of_cell? w _ hc)).trans hc
 have hKs : ∀ {A B : World}, KC A → Below A.heap.size A B → KC B := fun {A B} h1 h2 => by
  rw [hKC] at h1 ⊢
  exact fun b k v hc hv => (h2.cell (p := ⟨b, k, none⟩) (World.block_lt_of_cell? A _ (h1 b k v hc hv))).trans (h1 b k v hc hv)
 have hun : ∀ {W' : World}, KC W' → ∀ (c : AV) (v : Value), isD c = true → Rep ⟨w, [], [], C⟩ c v → Rep ⟨W', [], [], fun _ _ => False⟩ c v := fun {W'} h c v hd hr =>
  Rep.data (X := ⟨w, [], [], C⟩) (Y := ⟨W', [], [], fun _ _ => False⟩) (fun b k v hc ha => ⟨by rw [hKC] at h; exact h b k v (fun h => ha (.inl h)) hc, fun h => by
   rcases h with h | ⟨o, x, c, h1, h2, _⟩
   ·exact h.elim
   ·simp at h2⟩) c v hd hr
 obtain ⟨fn, hf, hnm, hN, hrl, hc'⟩ := bd
 obtain ⟨cc, hb, hc⟩ := qn.1 hc'
 refine callsIn_of_wp hf hb trivial ?_ rfl
 rw [hN]
 unfold Qaa at hc
 obtain ⟨d0, r1, rfl, hd0, hr1⟩ := Qbo hc
 obtain ⟨c2, rfl, hc2⟩ := Qe4 hr1
 obtain ⟨c3, rfl, hc3⟩ := QuU hc2
 obtain ⟨c4, rfl, hc4⟩ := Qe4 hc3
 obtain ⟨d1, s1, rfl, hd1, hs1⟩ := Qbo hc4
 obtain ⟨d2, s2, rfl, hd2, hs2⟩ := Qbo hs1
 obtain ⟨s3, s4, rfl, hs3, hs4⟩ := Qbo hs2
 obtain ⟨s5, rfl, hs5⟩ := Qe4 hs3
 obtain ⟨d3, dA, rfl, hd3, hdA⟩ := Qbo hs5
 obtain ⟨y1, y2, rfl, hy1, hy2⟩ := QgW hdA
 obtain rfl := Qpu hy1
 obtain ⟨d4, dB, rfl, hd4, hdB⟩ := Qbo hy2
 obtain ⟨d5, y4, rfl, hd5, hy4⟩ := QgW hdB
 obtain rfl := QkT hy4
 obtain ⟨d6, dC, rfl, hd6, hdC⟩ := Qbo hs4
 obtain ⟨y5, y6, rfl, hy5, hy6⟩ := QgW hdC
 obtain rfl := Qpu hy5
 obtain rfl := QkT hy6
 obtain ⟨id6, ops6, rfl, hm6⟩ := Qpv hd6
 obtain ⟨l2, l3, hops6, hm2, hm3⟩ := QsS (q1 := [_, _, _]) hm6
 obtain ⟨oY, l1, rfl, hoY, hm1⟩ := Qy5 hm3
 obtain ⟨yv, hyv⟩ : ∃ yv, yv = (Value.func (.yield ll) #[] #[]) := ⟨_, rfl⟩
 rw [← hyv]
 let a0 : Act := { tmps := #[yv] ++ #[v1] ++ Array.replicate (35 - (#[yv] ++ #[v1]).size) undef, defers := [] }
 show Code.wpIn _ _ _ _ _ a0 _
 let SL : Act → Prop := fun a => a.defers = [] ∧ a.tmps.size = 35 ∧ a.tmps.getD 0 undef = yv ∧ a.tmps.getD 1 undef = v1
 have hSL0 : SL a0 := ⟨rfl, by simp [a0], by simp [a0], by simp [a0]⟩
 let I2 : List (Nat × Value) := [(0, yv), (1, v1)]
 have hI : ∀ {qs : List AO} {a : Act}, (Quw 0 qs && Quw 1 qs) = true → SL a → ∀ p ∈ I2, Quw p.1 qs = true ∧ a.tmps.getD p.1 undef = p.2 := fun h1 h2 p hp => by
  simp only [qo] at h1
  obtain ⟨_, _, e0, e1⟩ := h2
  simp only [I2, ym, List.not_mem_nil, or_false] at hp
  rcases hp with rfl | rfl
  ·exact ⟨h1.1, e0⟩
  ·exact ⟨h1.2, e1⟩
 let base : List (Nat × AV) := [(0, .lit yv), (1, .cell [.list b.length (u8 b)])]
 have hrep : ∀ {W' : World} {a : Act}, KC W' → SL a → ∀ i, Rep ⟨W', [], [], fun _ _ => False⟩ (look base i) (a.tmps.getD i undef) := fun {W' a} hk h => by
  obtain ⟨_, _, e0, e1⟩ := h
  exact QbE (by rw [e0]; simp only [Rep]) (QbE (by rw [e1]; exact hun hk _ _ (by simp [isD, isDL, QiQ]) hv1) Qwe)
 have hslN : ∀ {W' : World} {st : St} {a : Act} {W2 : World}, Sim (ΓZ W' 35) st a W2 → (∀ p ∈ I2, a.tmps.getD p.1 undef = p.2) → SL a := fun h1 h2 =>
  ⟨h1.1, h1.2.1, h2 (0, yv) (by simp [I2]), h2 (1, v1) (by simp [I2])⟩
 have hF : ∀ {W' : World}, KC W' → Fit P 35 (ΓZ W' 35) := fun {W'} h => ⟨rfl, fun q cs hq => hun h _ _ (by simp only [isD]; exact P.gd q cs hq) (hG q cs hq)⟩
 have bel : ∀ {W' W2 : World} {st : St} {a : Act}, Sim (ΓZ W' 35) st a W2 → Below W'.heap.size W' W2 := fun h => h.2.2.1
 have hJs : ∀ {s : List _} {W' W2 : World}, J s W' → Below W'.heap.size W' W2 → J s W2 := fun h1 h2 => hJ _ _ _ none h1 (Qhz h2) (fun r h => by cases h)
 refine wpIn_seq ?_
 refine Qd0 (Q := fun _ st' => Le 0 st' ⟨(3, .int .i64 0) :: base, []⟩) (hF hkw) hd0 I2 (hI rfl hSL0) (by simp (disch := omega) only [rq, simprocAttr, base]; exact Qh) (QCU hSL0.1 hSL0.2.1 (hrep hkw hSL0)) ?_
 intro st0 a1 W1 hle1 hs1' t1
 have hs1 := hle1 _ _ _ rfl hs1'
 have hSL1 := hslN hs1 t1
 have hk1 := hKs hkw (bel hs1)
 have hJ1 := hJs hJ0 (bel hs1)
 show (Code.block 0 (.loop _)).wpIn Fence.wide 4 _ _ a1 W1
 refine wpIn_block ?_
 refine wpIn_loop (fun a W' => ∃ (j k at' : Nat), j + k = 402 ∧ at' ≤ 4000 ∧ at' ≤ b.length ∧ 4001 ≤ at' + 10 * k ∧ j ≤ cnt ∧ tgF b k at' = (tgL b).drop j ∧ SL a ∧ a.tmps.getD 3 undef = .int .i64 at' ∧ KC W' ∧ J ((List.finRange (tgL b).length).take j) W') (fun a _ => match a.tmps.getD 3 undef with | .int _ z => 4001 - z.toNat | _ => 0) ?_ ?_
 ·exact ⟨0, 402, 0, rfl, by omega, yF _, by omega, yF _, rfl, hSL1, QdY hs1 rfl, hk1, hJ1⟩
 intro a Wj ⟨j, k', at', hjk, ha1, ha2, hak, hj, htg, sl, e3, kc, hJj⟩
 obtain ⟨k, rfl⟩ : ∃ k, k' = k + 1 := ⟨k' - 1, by omega⟩
 have fin : ∀ (k : Nat) (hk : k < cnt), (List.finRange (tgL b).length).take (k + 1) = (List.finRange (tgL b).length).take k ++ [⟨k, by rw [hcnt]; exact hk⟩] := fun k hk => by
  rw [qm (by simpa [hcnt] using hk)]
  simp
 have hse := Qho (b.drop at')
 rw [ql] at hse
 have hS' := hS (b.drop at') (by rw [ql]; omega)
 unfold tgF at htg
 have hsl : ((u8 b).drop at').take (b.length - at') = u8 (b.drop at') := by rw [QE]; exact qf (by rw [Qe, ql]; omega)
 rw [bs, ql] at hS'
 generalize hX : szN (b.drop at') = X at *
 obtain ⟨n, e⟩ := X
 simp only at hse htg hS'
 have hsj : Sim (ΓZ Wj 35) ⟨(3, .int .i64 at') :: base, []⟩ a Wj := QCU sl.1 sl.2.1 (QbE (by rw [e3]; simp only [Rep]) (hrep kc sl))
 show (Code.block 1 _).wpIn Fence.wide 4 _ _ a Wj
 refine wpIn_block (wpIn_seq ?_)
 refine Qd0 (Q := fun _ st' => Le 0 st' ⟨(4, .int .i64 n) :: (5, .int .i64 e) :: (3, .int .i64 at') :: base, []⟩) (hF kc) hd1 I2 (hI rfl sl) (by simp (disch := omega) only [rq, simprocAttr, base, hsl]; refine Qa hS' ?_; simp (disch := omega) only [rq, simprocAttr]; exact Qh) hsj ?_
 intro st1 aA WA hleA hsA' tA
 have hsA := hleA _ _ _ rfl hsA'
 have slA := hslN hsA tA
 show (Code.seq d2 _).wpIn Fence.wide 4 _ _ aA WA
 have hn0 : 0 ≤ n ∧ n ≤ 4000 := by omega
 obtain ⟨m, rfl⟩ : ∃ m : Nat, n = m := ⟨n.toNat, by omega⟩
 rw [qu] at htg
 refine wpIn_seq ?_
 refine Qd0 (Q := fun _ st' => Le 0 st' ⟨(3, .int .i64 ((at' + m : Nat) : Int)) :: (4, .int .i64 m) :: (5, .int .i64 e) :: base, []⟩) (hF kc) hd2 I2 (hI rfl slA) (by simp (disch := omega) only [rq, simprocAttr, base]; exact Qh) hsA ?_
 intro st2 aB WB hleB hsB' tB
 have hsB := hleB _ _ _ rfl hsB'
 have slB := hslN hsB tB
 show (Code.seq (.block 2 (.seq d3 _)) _).wpIn Fence.wide 4 _ _ aB WB
 refine wpIn_seq (wpIn_block (wpIn_seq ?_))
 refine Qd0 (Q := fun _ st' => Le 0 st' ⟨(16, .bool (decide (e = 6))) :: (3, .int .i64 ((at' + m : Nat) : Int)) :: (4, .int .i64 m) :: (5, .int .i64 e) :: base, []⟩) (hF kc) hd3 I2 (hI rfl slB) (by simp (disch := omega) only [rq, simprocAttr, base]; exact Qh) hsB ?_
 intro st3 aC WC hleC hsC' tC
 have hsC := hleC _ _ _ rfl hsC'
 have slC := hslN hsC tC
 show (Code.cond _ .ret _).wpIn Fence.wide 4 _ _ aC WC
 have h16 := Qf0 hsC (i := 16) rfl
 have kcC := hKs kc (bel hsC)
 have hJC := hJs hJj (bel hsC)
 by_cases h6 : e = 6
 ·rw [decide_eq_true h6] at h16
  refine wpIn_cond_true h16 (wpIn_ret ?_)
  rw [qc h6] at htg
  have hjc : j = cnt := by
   have := congrArg List.length htg
   rw [ql, hcnt] at this
   simp at this
   omega
  rw [hjc, qf (by simp; omega)] at hJC
  exact ⟨slC.1, .tuple #[], results_none (yN hrl) _ _ _, ⟨_, rfl⟩, .inl ⟨_, rfl, hJC⟩⟩
 rw [decide_eq_false h6] at h16
 rw [qa h6] at htg
 refine wpIn_cond_false h16 (wpIn_seq ?_)
 obtain ⟨e', he'⟩ : ∃ e', e' = if e = 0 ∧ 4000 < at' + m then 4 else e := ⟨_, rfl⟩
 have hjl : ∃ R, (tgL b).drop j = (((m : Int), e') : Int × Int) :: R ∧ (e' ≠ 0 → R = []) ∧ (e' = 0 → R = tgF b k (at' + m) ∧ at' + m ≤ 4000 ∧ e = 0) := by
  by_cases h0 : e = 0
  ·subst h0
   rw [qa (by omega)] at htg
   by_cases h4 : 4000 < at' + m
   ·rw [qc h4] at htg
    rw [qc ⟨rfl, h4⟩] at he'
    exact ⟨[], by rw [← htg, he'], fun _ => rfl, fun h => by omega⟩
   ·rw [qa h4] at htg
    rw [qa (by omega)] at he'
    exact ⟨_, by rw [← htg, he'], fun h => absurd he' h, fun _ => ⟨rfl, by omega, rfl⟩⟩
  ·rw [qc h0] at htg
   rw [qa (by omega)] at he'
   exact ⟨[], by rw [← htg, he'], fun _ => rfl, fun h => absurd (he'.symm.trans h) h0⟩
 obtain ⟨R, hdj, hR1, hR2⟩ := hjl
 have hjc : j < cnt := by
  have := congrArg List.length hdj
  rw [ql, hcnt] at this
  simp only [qV] at this
  omega
 have hgj : (tgL b)[j]'(by omega) = ((m : Int), e') := by
  have : (tgL b)[j]? = some ((m : Int), e') := by have h := congrArg (·[0]?) hdj; simpa using h
  exact (qd.1 this).2
 have hdj1 : (tgL b).drop (j + 1) = R := by
  have h := congrArg (List.drop 1) hdj
  rw [jN] at h
  simpa using h
 have he3 : e' = 0 ∨ e' = 4 ∨ e' = 12 ∨ e' = 24 := by rw [he']; split <;> omega
 have rest : ∀ (aD : Act) (WD : World) (stD : St), Sim (ΓZ Wj 35) stD aD WD → Le 0 stD ⟨(3, .int .i64 ((at' + m : Nat) : Int)) :: (4, .int .i64 m) :: (5, .int .i64 e') :: base, []⟩ → (∀ p ∈ I2, aD.tmps.getD p.1 undef = p.2) →
   (Code.seq (.region id6 ops6 false) (.cond (.tmp 34) .ret .skip)).wpIn Fence.wide 4 P.prog (fun ex a' w' => match ex with
    | .normal => (∃ (j k at' : Nat), j + k = 402 ∧ at' ≤ 4000 ∧ at' ≤ b.length ∧ 4001 ≤ at' + 10 * k ∧ j ≤ cnt ∧ tgF b k at' = (tgL b).drop j ∧ SL a' ∧ a'.tmps.getD 3 undef = .int .i64 at' ∧ KC w' ∧ J ((List.finRange (tgL b).length).take j) w') ∧ (match a'.tmps.getD 3 undef with | .int _ z => 4001 - z.toNat | _ => 0) < 4001 - at'
    | .ret => a'.defers = [] ∧ ((∃ xs, xs = List.finRange (tgL b).length ∧ J xs w') ∨ (∃ pre, Jx pre w'))
    | _ => False) aD WD := by
  intro aD WD stD hsD' hleD tD
  have hsD := hleD _ _ _ rfl hsD'
  have slD := hslN hsD tD
  refine wpIn_seq (wpIn_region_list ?_)
  rw [hops6]
  refine Qdg l2 _ aD WD (QW ?_ _ _ _ (Qf8 (Q := fun _ st' => Le 0 st' ⟨(26, .lit yv) :: (27, .int .i64 m) :: (28, .int .i64 e') :: (3, .int .i64 ((at' + m : Nat) : Int)) :: (5, .int .i64 e') :: base, []⟩) (hF kc) hm2 I2 (hI rfl slD) (by simp (disch := omega) only [rq, simprocAttr, base]; exact Qh) hsD))
  rintro _ a7 W7 ⟨rfl, st7, hle7, hs7', t7⟩
  have hs7 := hle7 _ _ _ rfl hs7'
  have sl7 := hslN hs7 t7
  have kc7 := hKs kc (bel hs7)
  have hJ7 := hJs hJj (bel hs7)
  show wpListIn Fence.wide 4 _ _ _ (oY :: l1) a7 W7
  have f26 := QyH hs7 (i := 26) rfl
  have f27 := QdY hs7 (i := 27) rfl
  have f28 := QdY hs7 (i := 28) rfl
  have f3 := QdY hs7 (i := 3) rfl
  have f5 := QdY hs7 (i := 5) rfl
  obtain ⟨cY, dY, _, gY⟩ := J1 hoY
  obtain ⟨cl, opY, calY, argY⟩ := Qdv cY
  have gY' : oY.guard = none := by
   rcases gY with ⟨h, _⟩ | ⟨_, _, _, _, _, h⟩
   ·exact h
   ·cases h
  have argY' : cl.args = #[.tmp 27, .tmp 28] := yN argY.symm
  have hY' := hY ((List.finRange (tgL b).length).take j) ⟨j, by omega⟩ W7 hJ7 (by simp; omega)
  simp only [Fin.getElem_fin, hgj] at hY'
  unfold wpListIn
  rw [qc (by simp [Region.wanted, gY'])]
  refine QpX opY calY argY' (f26.trans hyv) f27 f28 hY' ?_
  rw [← dY]
  have p29 : ∀ bb : Bool, (a7.put (some 29) (.bool bb)).tmps.getD 29 undef = .bool bb := fun bb => by simp [Act.put, sl7.2.1]
  have pO : ∀ (bb : Bool) (i : Nat), i ≠ 29 → (a7.put (some 29) (.bool bb)).tmps.getD i undef = a7.tmps.getD i undef := fun bb i h => Qf4 (by simpa using fun h' => h h'.symm)
  have slY : ∀ bb : Bool, SL (a7.put (some 29) (.bool bb)) := fun bb => by
   obtain ⟨g1, g2, g3, g4⟩ := sl7
   exact ⟨by rw [QkC]; exact g1, by rw [QbG]; exact g2, by rw [pO bb 0 (by omega)]; exact g3, by rw [pO bb 1 (by omega)]; exact g4⟩
  rintro ex W8 (⟨rfl, hJ8, hK8⟩ | ⟨rfl, hX8⟩)
  ·refine ⟨true, rfl, ?_⟩
   have kc8 : KC W8 := by
    rw [hKC] at kc7 ⊢
    exact fun b k v hc hv => hK8.2 b k v hc (kc7 b k v hc hv)
   have hs8 : Sim (ΓZ W8 35) ⟨(29, .bool true) :: (3, .int .i64 ((at' + m : Nat) : Int)) :: (5, .int .i64 e') :: base, []⟩ (a7.put (some 29) (.bool true)) W8 :=
    QCU (slY true).1 (slY true).2.1 (QbE (by rw [p29]; simp only [Rep]) (QbE (by rw [pO true 3 (by omega), f3]; simp only [Rep]) (QbE (by rw [pO true 5 (by omega), f5]; simp only [Rep]) (hrep kc8 (slY true)))))
   refine QW ?_ _ _ _ (Qf8 (Q := fun _ st' => Le 0 st' ⟨(34, .bool (decide (e' ≠ 0))) :: (3, .int .i64 ((at' + m : Nat) : Int)) :: base, []⟩) (hF kc8) hm1 I2 (hI rfl (slY true)) (by
    rcases he3 with h | h | h | h <;> rw [h] <;> simp (disch := omega) only [rq, simprocAttr, base, yG] <;> exact Qh) hs8)
   rintro _ a9 W9 ⟨rfl, st9, hle9, hs9', t9⟩
   have hs9 := hle9 _ _ _ rfl hs9'
   have sl9 := hslN hs9 t9
   have h34 := Qf0 hs9 (i := 34) rfl
   have f39 := QdY hs9 (i := 3) rfl
   have hJ9 := hJs hJ8 (bel hs9)
   rw [← fin j hjc] at hJ9
   show (Code.cond _ .ret .skip).wpIn Fence.wide 4 _ _ a9 W9
   by_cases h0 : e' = 0
   ·rw [decide_eq_false (by simpa using h0)] at h34
    obtain ⟨r1, r2, r3⟩ := hR2 h0
    refine wpIn_cond_false h34 (wpIn_skip ?_)
    refine ⟨⟨j + 1, k, at' + m, by omega, r2, by omega, by omega, hjc, by rw [hdj1, r1], sl9, f39, hKs kc8 (bel hs9), hJ9⟩, ?_⟩
    simp only [f39, qu]
    have hm1 : 10 ≤ m := by omega
    clear hjk hak hse he3 hdj hdj1 hgj hJ9 hJ8 hY' hX
    show 4001 - (at' + m) < 4001 - at'
    omega
   ·rw [decide_eq_true (by simpa using h0)] at h34
    refine wpIn_cond_true h34 (wpIn_ret ?_)
    have hj1 : j + 1 = cnt := by
     have := congrArg List.length hdj1
     rw [ql, hcnt, hR1 h0] at this
     simp at this
     omega
    rw [hj1, qf (by simp; omega)] at hJ9
    exact ⟨sl9.1, .inl ⟨_, rfl, hJ9⟩⟩
  ·refine ⟨false, rfl, ?_⟩
   let P0 : Prg := ⟨P.prog, [], fun _ _ h => by cases h⟩
   have hs8 : Sim (ΓZ W8 35) ⟨[(29, .bool false), (5, .int .i64 e')], []⟩ (a7.put (some 29) (.bool false)) W8 :=
    QCU (slY false).1 (slY false).2.1 (QbE (by rw [p29]; simp only [Rep]) (QbE (by rw [pO false 5 (by omega), f5]; simp only [Rep]) Qwe))
   refine QW ?_ _ _ _ (Qf8 (P := P0) (N := 35) (Γ := ΓZ W8 35) (Q := fun _ st' => Le 0 st' ⟨[(34, .bool true)], []⟩) ⟨rfl, fun _ _ h => by cases h⟩ hm1 [] (fun p hp => by cases hp)
    (by simp (disch := omega) only [rq, simprocAttr, yU]; exact Qh) hs8)
   rintro _ a9 W9 ⟨rfl, st9, hle9, hs9', t9⟩
   have hs9 := hle9 _ _ _ rfl hs9'
   have h34 := Qf0 hs9 (i := 34) rfl
   show (Code.cond _ .ret .skip).wpIn Fence.wide 4 _ _ a9 W9
   refine wpIn_cond_true h34 (wpIn_ret ?_)
   exact ⟨hs9.1, .inr ⟨_, hJx _ W8 W9 none hX8 (Qhz (bel hs9)) (fun r h => by cases h)⟩⟩
 have hm : (match a.tmps.getD 3 undef with | .int _ z => 4001 - z.toNat | _ => 0) = 4001 - at' := by simp [e3]
 refine Qd0 (Q := fun _ st' => Le 0 st' ⟨(19, .bool (decide (e = 0 ∧ 4000 < at' + m))) :: (3, .int .i64 ((at' + m : Nat) : Int)) :: (4, .int .i64 m) :: (5, .int .i64 e) :: base, []⟩) (hF kc) hd4 I2 (hI rfl slC) (by
  by_cases h0 : e = 0
  ·by_cases h4 : 4000 < at' + m
   ·rw [decide_eq_true ⟨h0, h4⟩]; subst h0; simp (disch := omega) only [rq, simprocAttr, base]; exact Qh
   ·rw [decide_eq_false (fun h => h4 h.2)]; subst h0; simp (disch := omega) only [rq, simprocAttr, base]; exact Qh
  ·rw [decide_eq_false (fun h => h0 h.1)]; simp (disch := omega) only [rq, simprocAttr, base]; exact Qh) hsC ?_
 intro st4 aD WD hleD hsD' tD
 have hsD := hleD _ _ _ rfl hsD'
 have slD := hslN hsD tD
 have h19 := Qf0 hsD (i := 19) rfl
 show (Code.cond _ d5 .skip).wpIn Fence.wide 4 _ _ aD WD
 by_cases hc4 : e = 0 ∧ 4000 < at' + m
 ·rw [decide_eq_true hc4] at h19
  rw [qc hc4] at he'
  refine wpIn_cond_true h19 ?_
  refine Qd0 (Q := fun _ st' => Le 0 st' ⟨(3, .int .i64 ((at' + m : Nat) : Int)) :: (4, .int .i64 m) :: (5, .int .i64 e') :: base, []⟩) (hF kc) hd5 I2 (hI rfl slD) (by rw [he']; simp (disch := omega) only [rq, simprocAttr, base]; exact Qh) hsD ?_
  intro st5 aE WE hleE hsE tE
  refine wpIn_mono (rest aE WE st5 hsE hleE tE) ?_
  rintro ex a' w' h
  cases ex with
  | normal => exact ⟨h.1, by rw [hm]; exact h.2⟩
  | ret => exact ⟨h.1, .tuple #[], results_none (yN hrl) _ _ _, ⟨_, rfl⟩, h.2.imp id fun ⟨pre, h⟩ => ⟨pre, trivial, h⟩⟩
  | exit id => exact h.elim
  | goto l => exact h.elim
  | panic ch => exact h.elim
  | outgrown => exact h.elim
 ·rw [decide_eq_false hc4] at h19
  rw [qa hc4] at he'
  refine wpIn_cond_false h19 (wpIn_skip ?_)
  refine wpIn_mono (rest aD WD _ hsD (by rw [he']; exact Qk (by simp [Am.look, base])) tD) ?_
  rintro ex a' w' h
  cases ex with
  | normal => exact ⟨h.1, by rw [hm]; exact h.2⟩
  | ret => exact ⟨h.1, .tuple #[], results_none (yN hrl) _ _ _, ⟨_, rfl⟩, h.2.imp id fun ⟨pre, h⟩ => ⟨pre, trivial, h⟩⟩
  | exit id => exact h.elim
  | goto l => exact h.elim
  | panic ch => exact h.elim
  | outgrown => exact h.elim
def Je (fT t0 t1 : Nat) : RC2 := ⟨[.reg [zs 2 (.alloc t0 [.int .i64 0]), zs 3 (.alloc t1 [.int .i64 0])], .reg [zs 4 (.alloc t0 [.int .i64 0]), zu (.store 1 (.tmp 4) (.const (.int .i64 0)))]], 8, 9, 10, 5, 6, .reg [zm 7 0, zq 8 fT [(.tmp 7)]], .block 1 (.seq (.seq (.reg [zm 11 6, ⟨some 12, none, .op (.bin .neq (.tmp 11) (.const (.int .i64 0)))⟩]) (.cond (.tmp 12) (.seq (.reg [zm 13 6, ⟨none, none, .op (.store 1 (.tmp 2) (.const (.int .i64 0)))⟩, ⟨none, none, .op (.store 1 (.tmp 3) (.tmp 13))⟩]) (.ret)) (.skip))) (.reg [⟨some 14, none, .op (.load none (.tmp 4))⟩, zm 15 5, ⟨some 16, none, .op (.bin .add (.tmp 14) (.tmp 15))⟩, ⟨none, none, .op (.store 1 (.tmp 4) (.tmp 16))⟩])), .seq (.reg [zl 17 4, zw 1 2 17, zu (.store 1 (.tmp 3) (.const (.int .i64 0)))]) (.ret)⟩
def QaL (P : Prg) (f : Nat) : Prop := ∀ b : List UInt8, b.length ≤ 1000000 → VC P f [bs b] (.tup [.int .i64 (frN b).1, .int .i64 (frN b).2])
theorem Qom {P : Prg} {f fT g fS t0 t1 : Nat} (bd : QBI P f 18 [.cell 2 t0, .cell 3 t1] (Je fT t0 t1)) (hT : Qr4 g P fT) (bG : Qf P g 35 [] (Qaa fS)) (hS : Qib P fS) (h0 : ZE P t0 = some none) (h1 : ZE P t1 = some none) : QaL P f := by
 intro b hb
 refine Qbs (by simp [isDL, Qr]) rfl (ACall.of_rangeV bd (by simp) ?_)
 have hT' := hT b
 have hI := Qqt bG hS b hb
 have hc : isDL [bs b] = true := by simp [isDL, Qr]
 have hB : ∀ j : Fin (tgL b).length, 0 ≤ (tgL b)[j].1 ∧ (tgL b)[j].1 ≤ 4000 := fun j => by
  have := QvE b 402 0 _ (yb j.2)
  exact ⟨this.1, this.2.1⟩
 have hL : (tgL b).length ≤ 402 := QvD b 402 0
 have hA : (∀ j : Fin (tgL b).length, (tgL b)[j].2 = 0) → frN b = (((List.finRange (tgL b).length).map fun j => (tgL b)[j].1).sum, 0) := fun h => by
  have h2 := QvF b 402 0 fun x hx => by
   obtain ⟨i, hi, rfl⟩ := j6.1 hx
   exact h ⟨i, hi⟩
  rw [frN, h2]
  have e : (List.finRange (tgL b).length).map (fun j => (tgL b)[j].1) = (tgL b).map Prod.fst := by
   apply yL <;> simp
  rw [e]
  simp [QBY, tgL]
 have hE : ∀ j : Fin (tgL b).length, (tgL b)[j].2 ≠ 0 → frN b = (0, (tgL b)[j].2) := fun j h => Qsu b 402 0 _ (yb j.2) h
 generalize frN b = F at *
 have hsum : ∀ pre : List (Fin (tgL b).length), 0 ≤ (pre.map fun j => (tgL b)[j].1).sum ∧ (pre.map fun j => (tgL b)[j].1).sum ≤ 4000 * pre.length := by
  intro pre
  induction pre with
  | nil => simp
  | cons x pre ih =>
   have := hB x
   simp only [yg, yB, qV]
   omega
 rw [bs] at hT' hI hc ⊢
 simp (disch := omega) only [rq, simprocAttr, Je, Qyn, QAs, QuA, QA4, Qo5, QCp]
 refine Qa hT' ?_
 simp (disch := omega) only [rq, simprocAttr, Qo5]
 refine ⟨(tgL b).length, g, _, fun j => (tgL b)[j], [(8, .fn (.func g) [] [.cell [.list b.length (u8 b)]]), (2, .ref 0 1 0), (3, .ref 1 1 0), (4, .ref 2 1 0)], fun pre => ∀ x ∈ pre, (tgL b)[x].2 = 0,
  fun pre => [⟨t0, 1, 1, [.int .i64 0], 0⟩, ⟨t1, 1, 1, [.int .i64 0], 0⟩, ⟨t0, 1, 1, [.int .i64 (pre.map fun j => (tgL b)[j].1).sum], 0⟩], by simp, Qh, rfl, bG.ent, hc, hI, ?_, ?_⟩
 ·intro pre x hG hl
  have hs := hsum pre
  have hx := hB x
  have e1 : ((pre ++ [x]).map fun j => (tgL b)[j].1).sum = (pre.map fun j => (tgL b)[j].1).sum + (tgL b)[x].1 := by simp
  have hE' := hE x
  have hG' : (tgL b)[x].2 = 0 → ∀ y ∈ pre ++ [x], (tgL b)[y].2 = 0 := fun h y hy => by
   rcases qB.1 hy with h1 | h1
   ·exact hG y h1
   ·obtain rfl := yd.1 h1; exact h
  dsimp only [Je]
  generalize hS0 : (pre.map fun j => (tgL b)[j].1).sum = s at *
  generalize hy : (tgL b)[x] = y at *
  by_cases hz : y.2 = 0
  ·simp (disch := omega) only [rq, simprocAttr, hz]
   refine ⟨hG' hz, ?_⟩
   rw [e1]
   exact Qh
  ·simp (disch := omega) only [rq, simprocAttr, hz]
   refine ⟨_, Qh, ?_⟩
   rw [hE' hz]
   simp (disch := omega) only [rq, simprocAttr, Qmb, QL, h0, h1, Qm]
 ·intro hG
  rw [hA fun j => hG j (by simp)]
  have hs := hsum (List.finRange (tgL b).length)
  rw [List.length_finRange] at hs
  dsimp only [Je]
  generalize ((List.finRange (tgL b).length).map fun j => (tgL b)[j].1).sum = s at *
  simp (disch := omega) only [rq, simprocAttr, QL, h0, h1, Qm]
def QBM (b T : List UInt8) : Int × Int :=
 if b.length < 32 ∨ T.take 8 ≠ [65, 80, 69, 84, 65, 71, 69, 88] then (0, 6)
 else if ¬ (32 ≤ Zs T ∧ Zs T ≤ 3032 ∧ XU T ≤ 1000) then (0, 12)
 else if T == Qaq (Zs T - 32) (XU T) 0 then (if b.length - 32 < Zs T - 32 then (0, 24) else ((Zs T : Int), 0))
 else if (T == Qaq (Zs T - 32) (XU T) 2147483648) = false then (0, 12)
 else if b.length < Zs T + 32 then (0, 24)
 else if ((b.drop (b.length - (Zs T + 32))).take 32 == Qaq (Zs T - 32) (XU T) 2684354560) = false then (0, 12)
 else ((Zs T : Int) + 32, 0)
def apB (b : List UInt8) : Int × Int := QBM b (b.drop (b.length - 32))
def QcZ (P : Prg) (f : Nat) : Prop := ∀ b : List UInt8, b.length ≤ 1000000 → VC P f [bs b] (.tup [.int .i64 (apB b).1, .int .i64 (apB b).2])
theorem QAl (b : List UInt8) : (apB b).2 = 0 ∧ 32 ≤ (apB b).1 ∧ (apB b).1 ≤ b.length ∨ (apB b).2 ≠ 0 ∧ (apB b).1 = 0 := by
 unfold apB QBM
 generalize b.drop (b.length - 32) = T
 split
 ·exact .inr ⟨by simp, rfl⟩
 split
 ·exact .inr ⟨by simp, rfl⟩
 rename_i h1 h2
 have h3 := Decidable.not_not.1 h2
 have h3' := h3.1
 split
 ·split
  ·exact .inr ⟨by simp, rfl⟩
  ·refine .inl ⟨rfl, ?_⟩
   simp only
   omega
 split
 ·exact .inr ⟨by simp, rfl⟩
 split
 ·exact .inr ⟨by simp, rfl⟩
 split
 ·exact .inr ⟨by simp, rfl⟩
 ·refine .inl ⟨rfl, ?_⟩
  simp only
  omega
set_option maxHeartbeats 2000000 in
theorem QzJ {P : Prg} {f fH fT fN fE t0 t1 : Nat} (bd : Qf P f 74 [.tmp 2, .tmp 3] (Z3 fH fT fN fE t0 t1)) (hH : QpP P fH) (hT : QmU P fT) (hN : Qao P fN) (hE : QbP P fE) : QcZ P f := by
 intro b hb
 refine Qn (by simp [isDL, Qr]) rfl bd ?_
 have tb := Q9 b
 have hlu := Qe b
 by_cases h0 : b.length < 32
 ·rw [apB, QBM, qc (.inl h0)]
  simp only [bs]
  simp (disch := omega) only [rq, simprocAttr, Z3]
 obtain ⟨m, hm⟩ : ∃ m, b.length = m + 32 := ⟨b.length - 32, by omega⟩
 rw [apB, show b.length - 32 = m by omega]
 have hTl : (b.drop m).length = 32 := by rw [ql]; omega
 have hsl : ((u8 b).drop m).take 32 = u8 (b.drop m) := by rw [QE]; exact qf (by rw [Qe]; omega)
 generalize hTT : b.drop m = T at *
 have hH' := hH T [65, 80, 69, 84, 65, 71, 69, 88] (by omega) (by simp)
 rw [show ([65, 80, 69, 84, 65, 71, 69, 88] : List UInt8).length = 8 from rfl, bs, hTl] at hH'
 have tT := Q9 T
 have q0 : ((m + 32 : Nat) : Int) - 32 = (m : Int) := by omega
 have q1 : m + 32 - m = 32 := by omega
 unfold QBM
 by_cases h3 : T.take 8 ≠ [65, 80, 69, 84, 65, 71, 69, 88]
 ·rw [qc (.inr h3)]
  rw [show (T.take 8 == [65, 80, 69, 84, 65, 71, 69, 88]) = false from qT.2 h3] at hH'
  have hH2 : VC P fH [.list 32 (u8 T), .list 8 [.int .u8 65, .int .u8 80, .int .u8 69, .int .u8 84, .int .u8 65, .int .u8 71, .int .u8 69, .int .u8 88]] (.bool false) := hH'
  simp only [bs, hm]
  simp (disch := omega) only [rq, simprocAttr, Z3, q0, q1, hsl, hm]
  refine QO 1 [0] hH2 (by simp [QI, Qz, frzL, Qv, isDL, isD, frzL_T _ tT]) ?_
  simp (disch := omega) only [rq, simprocAttr, QG]
 rw [qa (fun h => h.elim h0 h3)]
 have h3' : T.take 8 = [65, 80, 69, 84, 65, 71, 69, 88] := by simpa using h3
 rw [show (T.take 8 == [65, 80, 69, 84, 65, 71, 69, 88]) = true from beq_iff_eq.2 h3'] at hH'
 have hH2 : VC P fH [.list 32 (u8 T), .list 8 [.int .u8 65, .int .u8 80, .int .u8 69, .int .u8 84, .int .u8 65, .int .u8 71, .int .u8 69, .int .u8 88]] (.bool true) := hH'
 have hT0 := hT T 0 hTl (by omega)
 have hT1 := hT T 2147483648 hTl (by omega)
 rw [bs, hTl, QvH] at hT0 hT1
 have hle : ∀ n c fl, (Qaq n c fl).length = 32 := fun n c fl => QbJ n c fl 6 (by omega)
 have hN' := hN (Zs T - 32) (XU T) 2684354560
 have hE' := hE ((b.drop (m + 32 - (Zs T + 32))).take 32) (Qaq (Zs T - 32) (XU T) 2684354560)
 generalize hr0 : (T == Qaq (Zs T - 32) (XU T) 0) = r0 at *
 generalize hr1 : (T == Qaq (Zs T - 32) (XU T) 2147483648) = r1 at *
 generalize Zs T = n at *
 generalize XU T = c at *
 clear hr0 hr1
 unfold QvG at hT0 hT1
 simp only [bs, hm]
 by_cases k1 : 32 ≤ n ∧ n ≤ 3032 ∧ c ≤ 1000
 case neg =>
  rw [qa k1] at hT0 hT1
  rw [qc k1]
  simp (disch := omega) only [rq, simprocAttr, Z3, q0, q1, hsl, hm]
  refine QO 1 [0] hH2 (by simp [QI, Qz, frzL, Qv, isDL, isD, frzL_T _ tT]) ?_
  simp (disch := omega) only [rq, simprocAttr, QG, q1, hsl, hm]
  refine Qa hT0 ?_
  simp (disch := omega) only [rq, simprocAttr, q1, hsl, hm]
  refine Qa hT1 ?_
  simp (disch := omega) only [rq, simprocAttr]
 rw [qc k1] at hT0 hT1
 rw [qa (fun h => h k1)]
 obtain ⟨i, rfl⟩ : ∃ i, n = i + 32 := ⟨n - 32, by omega⟩
 simp only [jx] at hT0 hT1 hN' hE' ⊢
 cases r0 with
 | true =>
  rw [qc rfl]
  by_cases k2 : m < i
  ·rw [qc k2]
   simp (disch := omega) only [rq, simprocAttr, Z3, q0, q1, hsl, hm]
   refine QO 1 [0] hH2 (by simp [QI, Qz, frzL, Qv, isDL, isD, frzL_T _ tT]) ?_
   simp (disch := omega) only [rq, simprocAttr, QG, q1, hsl, hm]
   refine Qa hT0 ?_
   simp (disch := omega) only [rq, simprocAttr]
  ·rw [qa k2]
   simp (disch := omega) only [rq, simprocAttr, Z3, q0, q1, hsl, hm]
   refine QO 1 [0] hH2 (by simp [QI, Qz, frzL, Qv, isDL, isD, frzL_T _ tT]) ?_
   simp (disch := omega) only [rq, simprocAttr, QG, q1, hsl, hm]
   refine Qa hT0 ?_
   simp (disch := omega) only [rq, simprocAttr]
 | false =>
  rw [qa jQ]
  cases r1 with
  | false =>
   rw [qc rfl]
   simp (disch := omega) only [rq, simprocAttr, Z3, q0, q1, hsl, hm]
   refine QO 1 [0] hH2 (by simp [QI, Qz, frzL, Qv, isDL, isD, frzL_T _ tT]) ?_
   simp (disch := omega) only [rq, simprocAttr, QG, q1, hsl, hm]
   refine Qa hT0 ?_
   simp (disch := omega) only [rq, simprocAttr, q1, hsl, hm]
   refine Qa hT1 ?_
   simp (disch := omega) only [rq, simprocAttr]
  | true =>
   rw [qa (fun h => Bool.noConfusion h)]
   have hN2 := hN' (by omega) (by omega) (by omega)
   rw [bs, hle] at hN2
   by_cases k2 : m + 32 < i + 32 + 32
   ·rw [qc k2]
    simp (disch := omega) only [rq, simprocAttr, Z3, q0, q1, hsl, hm]
    refine QO 1 [0] hH2 (by simp [QI, Qz, frzL, Qv, isDL, isD, frzL_T _ tT]) ?_
    simp (disch := omega) only [rq, simprocAttr, QG, q1, hsl, hm]
    refine Qa hT0 ?_
    simp (disch := omega) only [rq, simprocAttr, q1, hsl, hm]
    refine Qa hT1 ?_
    simp (disch := omega) only [rq, simprocAttr]
   rw [qa k2]
   obtain ⟨k, rfl⟩ : ∃ k, m = k + i + 32 := ⟨m - i - 32, by omega⟩
   rw [show k + i + 32 + 32 - (i + 32 + 32) = k by omega] at hE' ⊢
   have l32 : ((b.drop k).take 32).length = 32 := by simp; omega
   rw [bs, bs, l32, hle] at hE'
   generalize Qaq i c 2684354560 = E at *
   generalize hs : (b.drop k).take 32 = S at *
   have hS : List.take 32 (List.drop k (u8 b)) = u8 S := by rw [QE, QJ, hs]
   have q2 : ((k + i + 32 + 32 : Nat) : Int) - ((i : Int) + 64) = (k : Int) := by omega
   have q3 : k + 32 - k = 32 := by omega
   have q5 : k + i - i = k := by omega
   simp (disch := omega) only [rq, simprocAttr, Z3, q0, q1, hsl, hm]
   refine QO 1 [0] hH2 (by simp [QI, Qz, frzL, Qv, isDL, isD, frzL_T _ tT]) ?_
   simp (disch := omega) only [rq, simprocAttr, QG, q1, hsl, hm]
   refine Qa hT0 ?_
   simp (disch := omega) only [rq, simprocAttr, q1, hsl, hm]
   refine Qa hT1 ?_
   simp (disch := omega) only [rq, simprocAttr, q2, hm]
   refine Qc hN2 ?_
   simp (disch := omega) only [rq, simprocAttr, q2, q5, q3, hS, hm]
   refine Qc hE' ?_
   cases hz : S == E with
   | false =>
    rw [qc rfl]
    simp (disch := omega) only [rq, simprocAttr]
   | true =>
    rw [qa (fun h => Bool.noConfusion h)]
    have q4 : (i : Int) + 64 = (i : Int) + 32 + 32 := by omega
    simp (disch := omega) only [rq, simprocAttr]
    rw [q4]
def bhF : Nat → List UInt8 → Nat → Int × Int
 | 0, _, c => (c, 0)
 | k + 1, b, c => if b = [] then ((c : Int), 0) else if (apB b).1 = 0 then (0, 38) else bhF k (b.take (b.length - (apB b).1.toNat)) (c + 1)
def bhN (b : List UInt8) : Int × Int := if 4000 < b.length then (0, 38) else bhF b.length b 0
def Qcq (P : Prg) (f : Nat) : Prop := ∀ b : List UInt8, b.length ≤ 1000000 → VC P f [bs b] (.tup [.int .i64 (bhN b).1, .int .i64 (bhN b).2])
theorem Qlz {P : Prg} {g fB : Nat} (bd : Qf P g 10 [.tmp 1] (Ji fB)) (hB : QcZ P fB) {b : List UInt8} (hb : b.length ≤ 1000000) {t0 : Nat} {K : AV → List Ob → Prop} (hK : K (.int .i64 (apB b).1) [⟨t0, 1, 1, [bs b], 0⟩]) : ACall P g [.ref 0 1 0] [⟨t0, 1, 1, [bs b], 0⟩] K := by
 refine Qb bd (by simp) ?_
 have hB' := hB b hb
 rw [bs] at hB' hK ⊢
 simp (disch := omega) only [rq, simprocAttr, Ji]
 refine Qa hB' ?_
 simp (disch := omega) only [rq, simprocAttr]
 exact hK
set_option maxHeartbeats 1000000 in
theorem Qly {P : Prg} {f g fB t0 : Nat} (bd : Qf P f 27 [.tmp 2, .tmp 3] (Qab g t0)) (bG : Qf P g 10 [.tmp 1] (Ji fB)) (hB : QcZ P fB) : Qcq P f := by
 intro b hb
 refine Qn (by simp [isDL, Qr]) rfl bd ?_
 unfold bhN
 have hlu := Qe b
 by_cases h4 : 4000 < b.length
 ·rw [qc h4, bs]
  simp (disch := omega) only [rq, simprocAttr, Qab]
 rw [qa h4]
 generalize hR : bhF b.length b 0 = R
 rw [bs]
 simp (disch := omega) only [rq, simprocAttr, Qab]
 refine Qg (ι := Nat × List UInt8) (fun i => ⟨[(5, .int .i64 i.1), (1, .ref 0 1 0), (4, .fn (.func g) [] [.ref 0 1 0])], [⟨t0, 1, 1, [.list i.2.length (u8 i.2)], 0⟩]⟩) (fun i => i.1 + i.2.length ≤ 4000 ∧ ∃ k, i.2.length ≤ k ∧ bhF k i.2 i.1 = R) (fun i => i.2.length) (0, b) (Qh) ⟨by simp only; omega, _, qj _, hR⟩ ?_
 rintro ⟨c, d⟩ ⟨hcd, k, hk, hr⟩
 simp only at hcd hk hr ⊢
 have hdu := Qe d
 by_cases hd : d = []
 ·subst hd
  have hr' : R = ((c : Int), 0) := by
   rw [← hr]
   cases k with
   | zero => rfl
   | succ k => rw [bhF, qc rfl]
  rw [hr']
  simp (disch := omega) only [rq, simprocAttr, yE]
 ·have hl : 1 ≤ d.length := by cases d with
   | nil => exact absurd rfl hd
   | cons a l => simp
  obtain ⟨k, rfl⟩ : ∃ k', k = k' + 1 := ⟨k - 1, by omega⟩
  rw [bhF, qa hd] at hr
  have hok := QAl d
  have cl := fun {K : AV → List Ob → Prop} => Qlz (b := d) (t0 := t0) (K := K) bG hB (by omega)
  rw [bs] at cl
  by_cases hz : (apB d).1 = 0
  ·rw [qc hz] at hr
   rw [← hr]
   rw [hz] at cl
   simp (disch := omega) only [rq, simprocAttr]
   refine cl ?_
   simp (disch := omega) only [rq, simprocAttr]
  ·rw [qa hz] at hr
   generalize (apB d).1 = n at *
   obtain ⟨n, rfl⟩ : ∃ m : Nat, n = m := ⟨n.toNat, by omega⟩
   have hn : 32 ≤ n ∧ n ≤ d.length := by omega
   rw [qu] at hr
   have ht : (u8 d).take (d.length - n) = u8 (d.take (d.length - n)) := QJ _ _
   have htl : (d.take (d.length - n)).length = d.length - n := by rw [qh]; omega
   simp (disch := omega) only [rq, simprocAttr]
   refine cl ?_
   have e1 : (d.length : Int) - (n : Int) = ((d.length - n : Nat) : Int) := by omega
   simp (disch := omega) only [rq, simprocAttr, e1, ht, yn]
   refine ⟨(c + 1, d.take (d.length - n)), ⟨by simp only [htl]; omega, k, by simp only [htl]; omega, hr⟩, by simp only [htl]; omega, ?_⟩
   simp only [htl]
   exact Qh
def QhI (b : List UInt8) (n : Nat) : List Nat := (List.range n).map fun i => rdF b (4 * i) 4
def skR (b : List UInt8) (n : Nat) : Int := if b.length < 4 * n + 4 then 24 else if Qc1 (b.take (4 * n)) ≠ rdF b (4 * n) 4 then 22 else if skN (iL (QhI b n)) ≠ 0 then 12 else 0
def QvZ (b : List UInt8) (n : Nat) : AV := if skR b n = 0 then .tup [Xh (iL (QhI b n)), .int .i64 0] else .tup [.list 0 [], .int .i64 (skR b n)]
theorem Qo8 {l : List Nat} {k : Nat} : (iL l).getD k 0 = ((l.getD k 0 : Nat) : Int) := by
 simp only [iL, qe, qK]
 cases l[k]? <;> simp
theorem Z5 (b : List UInt8) (n : Nat) : (QhI b n).length = n := by simp [QhI]
theorem QvL {b : List UInt8} {n k : Nat} (h : k < n) : (QhI b n).getD k 0 = rdF b (4 * k) 4 := by
 simp [QhI, qe, h]
theorem QlY (b : List UInt8) (n : Nat) : isD (QvZ b n) = true := by unfold QvZ; split <;> simp [isD, isDL, XM]
theorem QiA (b : List UInt8) (n : Nat) : skR b n = 24 ∨ skR b n = 22 ∨ skR b n = 12 ∨ skR b n = 0 ∧ 4 * n + 4 ≤ b.length ∧ skN (iL (QhI b n)) = 0 := by
 unfold skR
 split
 ·exact .inl rfl
 split
 ·exact .inr (.inl rfl)
 split
 ·exact .inr (.inr (.inl rfl))
 ·rename_i h1 h2 h3
  exact .inr (.inr (.inr ⟨rfl, by omega, Decidable.not_not.1 h3⟩))
def Qan (P : Prg) (f : Nat) : Prop := ∀ (b : List UInt8) (n : Nat), b.length ≤ 1000000 → 1 ≤ n → n ≤ 1000 → VC P f [bs b, .int .i64 n] (QvZ b n)
set_option maxHeartbeats 1000000 in
theorem QqE {P : Prg} {f fA fS fC t0 : Nat} (bd : Qf P f 69 [.tmp 4, .tmp 5] (Qad fA fS fC t0)) (hA : Qja P fA) (hS : QpR P fS) (hC : Qbu P fC) : Qan P f := by
 intro b n hb n1 n2
 refine Qi 1 (by simp [isDL, Qr, isD]) (QlY b n) (Qb bd (by simp) ?_)
 have c4 : (4 : Int) * (n : Int) = ((4 * n : Nat) : Int) := by simp
 have hlu := Qe b
 unfold QvZ skR
 by_cases h1 : b.length < 4 * n + 4
 ·rw [qc h1, qa (by omega), bs]
  simp (disch := omega) only [rq, simprocAttr, Qad, c4]
  simp [QI, Qz, frzL, Qv]
 rw [qa h1]
 have hA0 := hA b (4 * n) 4 (by omega) (by omega) (by omega) (by omega)
 rw [qc (by omega)] at hA0
 have e0 : leN ((b.drop (4 * n)).take 4) = rdF b (4 * n) 4 := rfl
 rw [e0] at hA0
 have hl4 : (b.take (4 * n)).length = 4 * n := by rw [qh]; omega
 have hS' := hS (b.take (4 * n))
 rw [qa (by omega), ← Qc1, bs, hl4] at hS'
 have hsm : Qc1 (b.take (4 * n)) < 4294967296 := by unfold Qc1; omega
 have hrd := Qat b (4 * n) 4
 have hfirst : (u8 b).take (4 * n) = u8 (b.take (4 * n)) := QJ _ _
 have hA1 := fun i (hi : i < n) => hA b (4 * i) 4 (by omega) (by omega) (by omega) (by omega)
 have hv : ∀ v ∈ iL (QhI b n), -9223372036854775808 ≤ v ∧ v ≤ 9223372036854775807 := fun v hv => by
  simp only [iL, QhI, Yr, qY] at hv
  obtain ⟨i, _, rfl⟩ := hv
  have := Qat b (4 * i) 4
  simp only [Function.comp]
  omega
 have hC' := hC (iL (QhI b n)) (by rw [Ze, Z5]; omega) hv
 rw [Xh, Ze, Z5] at hC'
 have n0 : ¬ (n : Int) < 1 := by omega
 have s0 : 4 * n - 0 = 4 * n := rfl
 have hat := fun i (hi : i < n) => QvL (b := b) hi
 have htn := Z5 b n
 rw [bs] at hA0 ⊢
 generalize Qc1 (b.take (4 * n)) = sm at *
 generalize rdF b (4 * n) 4 = sr at *
 by_cases h2 : sm ≠ sr
 ·rw [qc h2, qa (by omega)]
  simp (disch := omega) only [rq, simprocAttr, Qad, c4]
  refine Qa hA0 ?_
  simp (disch := omega) only [rq, simprocAttr, c4, hfirst, s0]
  refine Qa hS' ?_
  simp (disch := omega) only [rq, simprocAttr]
  simp [QI, Qz, frzL, Qv]
 have h2' : sm = sr := Decidable.not_not.1 h2
 subst h2'
 rw [qa h2]
 have hz : Qs [.int .i64 0] n = ks .i64 (iL (QhI b n |>.take 0) ++ List.replicate (n - 0) 0) := by rw [QkA]; simp [iL]
 have tl := Qq .i64 (iL (QhI b n))
 simp (disch := omega) only [rq, simprocAttr, Qad, c4]
 refine Qa hA0 ?_
 simp (disch := omega) only [rq, simprocAttr, c4, hfirst, s0]
 refine Qa hS' ?_
 simp (disch := omega) only [rq, simprocAttr, hz]
 generalize QhI b n = L at *
 refine Qg (ι := Nat) (fun k => ⟨[(49, .int .i64 k), (48, .int .i64 n), (10, .own 0 n), (0, .list b.length (u8 b))], [⟨t0, 1, n, ks .i64 (iL (L.take k) ++ List.replicate (n - k) 0), 0⟩]⟩) (fun k => k ≤ n) (fun k => n - k) 0 (Qh) (by omega) ?_
 intro k hk
 have hkl : (ks .i64 (iL (L.take k) ++ List.replicate (n - k) 0)).length = n := by rw [Qd, qx, Ze, qh, yT]; omega
 by_cases hlt : k < n
 ·have hA2 := hA1 k hlt
  rw [qc (by omega), show leN ((b.drop (4 * k)).take 4) = rdF b (4 * k) 4 from rfl, ← hat k hlt, bs] at hA2
  have hzb := Qat b (4 * k) 4
  rw [← hat k hlt] at hzb
  have hst : (ks .i64 (iL (L.take k) ++ List.replicate (n - k) 0)).take k ++ .int .i64 ((L.getD k 0 : Nat) : Int) :: (ks .i64 (iL (L.take k) ++ List.replicate (n - k) 0)).drop (k + 1) = ks .i64 (iL (L.take (k + 1)) ++ List.replicate (n - (k + 1)) 0) := by
   have hl1 : (iL (L.take k)).length = k := by rw [Ze, qh]; omega
   have htk : iL (L.take (k + 1)) = iL (L.take k) ++ [((L.getD k 0 : Nat) : Int)] := by
    rw [qm (by omega)]
    simp only [iL, yp, yg, Yd, qe, qg (show k < L.length by omega), yD]
   rw [QwW, QaW, htk, List.take_append_of_le_length (by omega), qf (by omega), j7, qP (by omega), hl1, List.drop_replicate, yR]
   simp only [ks, yp, yg, Yd, qy, yk, yR]
   rw [show n - k - (k + 1 - k) = n - (k + 1) by omega]
  have hst2 : (ks .i64 (iL (L.take k) ++ List.replicate (n - k) 0)).take k ++ [.int .i64 ((L.getD k 0 : Nat) : Int)] ++ (ks .i64 (iL (L.take k) ++ List.replicate (n - k) 0)).drop (k + 1) = ks .i64 (iL (L.take (k + 1)) ++ List.replicate (n - (k + 1)) 0) := by rw [← hst]; simp
  have c4k : (4 : Int) * (k : Int) = ((4 * k : Nat) : Int) := by simp
  generalize hzz : L.getD k 0 = z at *
  simp (disch := omega) only [rq, simprocAttr, c4k, hkl]
  refine Qa hA2 ?_
  simp (disch := omega) only [rq, simprocAttr, hkl, hst, hst2]
  exact ⟨k + 1, by omega, by omega, Qh⟩
 ·have ek : k = n := by omega
  subst ek
  have e0 : iL (L.take k) ++ List.replicate (k - k) (0 : Int) = iL L := by rw [qf (by omega)]; simp
  rw [e0]
  by_cases h3 : skN (iL L) = 0
  ·rw [h3] at hC' ⊢
   simp only [ne_eq, not_true_eq_false, yl, yf, Xh, Ze, htn]
   simp (disch := omega) only [rq, simprocAttr]
   refine QO 1 [0] hC' (by simp [QI, Qz, frzL, Qv, frzL_T _ tl]) ?_
   simp (disch := omega) only [rq, simprocAttr, QG]
   simp [QI, Qz, frzL, Qv, frzL_T _ tl]
  ·rw [qc h3, qa (by omega)]
   simp (disch := omega) only [rq, simprocAttr]
   refine QO 1 [0] hC' (by simp [QI, Qz, frzL, Qv, frzL_T _ tl]) ?_
   simp (disch := omega) only [rq, simprocAttr, QG]
   simp [QI, Qz, frzL, Qv]
theorem Qos : ∀ (l : List Nat) (m : Int), Qno m (iL l) → 0 ≤ m → ((l.sum : Nat) : Int) ≤ m
 | [], m, _, h => by simpa using h
 | n :: l, m, h, _ => by
  simp only [iL, yg, Qno] at h
  have := Qos l (m - n) h.2.2 (by omega)
  rw [yB]
  omega
theorem Qsx {l : List Nat} (h : skN (iL l) = 0) : l.sum ≤ 100000 ∧ 1 ≤ l.length ∧ l.length ≤ 1000 := by
 unfold skN at h
 split at h
 ·cases h
 split at h
 ·rename_i h1 h2
  have := Qos l 100000 h2 (by omega)
  rw [Ze] at h1
  omega
 ·cases h
theorem QhV (l : List Nat) (k : Nat) : (l.take (k + 1)).sum = (l.take k).sum + l.getD k 0 := by
 by_cases h : k < l.length
 ·rw [qm h]
  simp only [jk, yB, jU, qe, qg h, yD, yP]
 ·rw [qf (by omega), qf (by omega)]
  simp [qe, yi (show l.length ≤ k by omega)]
theorem Qay (l : List Nat) (k : Nat) : (l.take k).sum ≤ l.sum := by
 conv => rhs; rw [← yz k l, jk]
 omega
def Qh2 (l : List Nat) : List Nat := (List.range (l.length + 1)).map fun k => (l.take k).sum
theorem Qh1 (l : List Nat) : (Qh2 l).length = l.length + 1 := by simp [Qh2]
theorem QwG {l : List Nat} {k : Nat} (h : k ≤ l.length) : (Qh2 l).getD k 0 = (l.take k).sum := by
 simp [Qh2, qe, show k < l.length + 1 by omega]
theorem QwF {l : List Nat} {k : Nat} (h : k < l.length) : (Qh2 l).take (k + 2) = (Qh2 l).take (k + 1) ++ [(l.take (k + 1)).sum] := by
 rw [qm (by rw [Qh1]; omega)]
 simp [Qh2]
theorem QwR : ∀ {l : List Nat} {n : Nat}, n ∈ l → n ≤ l.sum
 | m :: l, n, h => by
  rw [yB]
  rcases ym.1 h with rfl | h
  ·omega
  ·have := QwR h; omega
theorem QtQ {P : Prg} {g : Nat} (bd : Qf P g 8 [.tmp 3] XP) {n s : Int} {t0 : Nat} (hn : 0 ≤ n ∧ n ≤ 1000000) (hs : 0 ≤ s ∧ s ≤ 1000000) {y : Ob} {K : AV → List Ob → Prop} (hK : K (.int .i64 (s + n)) [⟨t0, 1, 1, [.int .i64 (s + n)], 0⟩, y]) : ACall P g [.int .i64 n, .ref 0 1 0] [⟨t0, 1, 1, [.int .i64 s], 0⟩, y] K := by
 refine Qb bd (by simp) ?_
 simp (disch := omega) only [rq, simprocAttr, XP]
 exact hK
def Qr7 (P : Prg) (f : Nat) : Prop := ∀ l : List Nat, skN (iL l) = 0 → VC P f [Xh (iL l)] (.tup [Xh (iL (Qh2 l)), .int .i64 0])
set_option maxHeartbeats 1000000 in
theorem QlE {P : Prg} {f fC g t0 : Nat} (bd : Qf P f 31 [.tmp 2, .tmp 3] (QaY fC g t0)) (hC : Qbu P fC) (bG : Qf P g 8 [.tmp 3] XP) : Qr7 P f := by
 intro l h
 obtain ⟨hs, h1, h2⟩ := Qsx h
 refine Qi 1 (by simp [isDL, XM]) (by simp [isD, isDL, XM]) (Qb bd (by simp) ?_)
 have hv : ∀ v ∈ iL l, -9223372036854775808 ≤ v ∧ v ≤ 9223372036854775807 := fun v hv => by
  simp only [iL, qY] at hv
  obtain ⟨i, hi, rfl⟩ := hv
  have := QwR hi
  omega
 have hC' := hC (iL l) (by rw [Ze]; omega) hv
 rw [h, Xh, Ze] at hC'
 have hol := Qh1 l
 rw [Xh, Ze, Xh, Ze, hol]
 have tl := Qq .i64 (iL (Qh2 l))
 simp (disch := omega) only [rq, simprocAttr, QaY]
 refine Qa hC' ?_
 simp (disch := omega) only [rq, simprocAttr]
 refine Qg (ι := Nat) (fun k => ⟨[(19, .int .i64 k), (18, .int .i64 l.length), (17, .list l.length (ks .i64 (iL l))), (7, .own 1 (k + 1)), (6, .fn (.func g) [] [.ref 0 1 0])], [⟨t0, 1, 1, [.int .i64 ((l.take k).sum : Nat)], 0⟩, ⟨t0, 1, k + 1, ks .i64 (iL ((Qh2 l).take (k + 1))), 0⟩]⟩) (fun k => k ≤ l.length) (fun k => l.length - k) 0 ?_ (by omega) ?_
 ·have e0 : (Qh2 l).take (0 + 1) = [0] := by simp [Qh2, List.range_succ_eq_map]
  rw [e0]
  exact Qh
 intro k hk
 have hsk := Qay l k
 have hkl : (ks .i64 (iL ((Qh2 l).take (k + 1)))).length = k + 1 := by rw [Qd, Ze, qh, hol]; omega
 by_cases hlt : k < l.length
 ·have e2 := J8 (K := .i64) (l := iL l) (i := k) (by rw [Ze]; exact hlt)
  rw [Qo8] at e2
  have hs1 := QhV l k
  have hsk1 := Qay l (k + 1)
  have cl := fun {y : Ob} {K : AV → List Ob → Prop} => QtQ (n := (l.getD k 0 : Nat)) (s := ((l.take k).sum : Nat)) (t0 := t0) (y := y) (K := K) bG (by omega) (by omega)
  have e3 : (((l.take k).sum : Nat) : Int) + ((l.getD k 0 : Nat) : Int) = (((l.take (k + 1)).sum : Nat) : Int) := by omega
  rw [e3] at cl
  have e4 : ks .i64 (iL ((Qh2 l).take (k + 1))) ++ [.int .i64 ((l.take (k + 1)).sum : Nat)] = ks .i64 (iL ((Qh2 l).take (k + 1 + 1))) := by
   rw [show k + 1 + 1 = k + 2 from rfl, QwF hlt]
   simp only [iL, yp, ks, yg, Yd]
  generalize hS1 : (l.take (k + 1)).sum = s1 at *
  generalize (l.take k).sum = s0 at *
  generalize l.getD k 0 = z at *
  simp (disch := omega) only [rq, simprocAttr, e2, Ze]
  refine cl ?_
  simp (disch := omega) only [rq, simprocAttr, hkl, e4]
  refine ⟨k + 1, by omega, by omega, ?_⟩
  rw [hS1]
  refine Le.drop 2 2 (by omega) rfl (by simp [Am.look, Qz, frzL, Qv, frzL_T _ (Qq .i64 (iL l))]) ?_
  intro i z hz
  match i, hz with
  | 0, hz => cases hz; exact ⟨_, rfl, by simp [Qz, frzL, Qv]⟩
  | 1, hz => cases hz; exact ⟨_, rfl, by simp [Qz, frzL, Qv, frzL_T _ (Qq _ _)]⟩
  | i + 2, hz => simp at hz
 ·obtain rfl : k = l.length := by omega
  have e5 : (Qh2 l).take (l.length + 1) = Qh2 l := qf (by omega)
  rw [e5] at *
  simp (disch := omega) only [rq, simprocAttr]
  simp [QI, Qz, frzL, Qv, frzL_T _ tl]
def oA (b : List UInt8) : Nat := (frN b).1.toNat
def oH (b : List UInt8) : List UInt8 := b.drop (oA b)
def oF (b : List UInt8) : Int := rdF (oH b) 4 2
def oC (b : List UInt8) : Int := rdF (oH b) 6 2
def oX (b : List UInt8) : Int := rdF (oH b) 8 2
def oR (b : List UInt8) : Int := rdF (oH b) 10 4
def oN (b : List UInt8) : Int := rdF (oH b) 14 4
def oL (b : List UInt8) : List Int := QaC (ZI (oR b)).toNat (oN b).toNat
def oD (p : List UInt8) : Nat := if p = [] then 0 else 8
def oT (b p : List UInt8) : List UInt8 := b.drop (oA b + 22 + oD p)
def oS (b p : List UInt8) : List Nat := QhI (oT b p) (oL b).length
def oM (b p : List UInt8) : Nat := oA b + 22 + oD p + (4 * (oL b).length + 4)
def oE1 (b : List UInt8) : Int := if 100000 < b.length then 4 else if (frN b).2 ≠ 0 then (frN b).2 else hrN (oH b)
def oE2 (b p : List UInt8) : Int := if (p = [] ∧ oF b ≠ 1) ∨ (p ≠ [] ∧ oF b = 1) then 26 else if p = [] then 0 else if b.length < oA b + 30 then 24 else if (b.drop (oA b + 22)).take 8 ≠ leB (XT 0 p) 8 then 26 else 0
def opN (b p : List UInt8) : Int := if 64 < p.length then 2 else if oE1 b ≠ 0 then oE1 b else if oE2 b p ≠ 0 then oE2 b p else skR (oT b p) (oL b).length
def ixA (b p : List UInt8) : AV := .agg [.int .i64 (oF b), .int .i64 (oC b), .int .i64 (oX b), .int .i64 (oR b), .int .i64 (oN b), .int .i64 (oM b p), Xh (iL (oS b p))]
def ix0 : AV := .agg [.int .i64 0, .int .i64 0, .int .i64 0, .int .i64 0, .int .i64 0, .int .i64 0, .list 0 []]
def QpU (b p : List UInt8) : AV := if opN b p = 0 then .tup [ixA b p, .int .i64 0] else .tup [ix0, .int .i64 (opN b p)]
theorem Qs1 (b p : List UInt8) : isD (QpU b p) = true := by unfold QpU; split <;> simp [isD, isDL, ixA, ix0, XM]
theorem QCu {B : List UInt8} (h : hrN B = 0) : 22 ≤ B.length ∧ hdN (rdF B 4 2) (rdF B 6 2) (rdF B 8 2) (rdF B 10 4) (rdF B 14 4) = 0 := by
 unfold hrN at h
 split at h
 ·cases h
 split at h
 ·cases h
 split at h
 ·cases h
 split at h
 ·cases h
 split at h
 ·cases h
 rename_i h1 h2 h3 h4 h5
 exact ⟨by omega, qc ⟨Decidable.not_not.1 h4, Decidable.not_not.1 h5⟩⟩
structure FOk (b : List UInt8) : Prop where
 le : b.length ≤ 100000
 fr : (frN b).2 = 0
 fa : (frN b).1 = oA b
 hr : hrN (oH b) = 0
 hd : hdN (oF b) (oC b) (oX b) (oR b) (oN b) = 0
 a4 : oA b ≤ 4000
 len : oA b + 22 ≤ b.length
 l1 : 1 ≤ (oL b).length
 l2 : (oL b).length ≤ 1000
 f12 : oF b = 1 ∨ oF b = 2
theorem Qga {b : List UInt8} (h : oE1 b = 0) : FOk b := by
 unfold oE1 at h
 split at h
 ·cases h
 split at h
 ·rename_i h2; exact absurd h h2
 rename_i h1 h2
 have h3 := Decidable.not_not.1 h2
 have hb := Qe1 b
 obtain ⟨k1, k2⟩ := QCu h
 have e : (frN b).1 = oA b ∧ oA b ≤ 4000 ∧ oA b ≤ b.length := by
  rcases hb with ⟨_, n, hn, h4, h5⟩ | ⟨_, h5⟩
  ·rw [oA, hn, qu]; exact ⟨rfl, h4, h5⟩
  ·omega
 obtain ⟨m, hm, hok⟩ := Qhv k2
 have hn : oN b = m := hm
 rw [oH, ql] at k1
 have hl : (oL b).length ≤ 1000 := by
  have := hok.2.2.2.2
  rw [oL, hn]
  exact this
 refine ⟨by omega, h3, e.1, h, k2, e.2.1, by omega, by rw [oL, Qch]; exact Nat.le_add_left 1 _, hl, ?_⟩
 have h6 : shP (oF b) (oC b) (oX b) (oR b) (oN b) := by
  have : hdN (oF b) (oC b) (oX b) (oR b) (oN b) = 0 := k2
  unfold hdN at this
  split at this
  ·rename_i h; exact h.1
  ·cases this
 exact h6.2.1
theorem QsO (p : List UInt8) : p = [] ∧ oD p = 0 ∨ p ≠ [] ∧ oD p = 8 := by
 by_cases h : p = []
 ·exact .inl ⟨h, by rw [oD, qc h]⟩
 ·exact .inr ⟨h, by rw [oD, qa h]⟩
theorem QzY {b p : List UInt8} (h : oE2 b p = 0) : (p = [] ∧ oF b = 1) ∨ (p ≠ [] ∧ oF b ≠ 1 ∧ oA b + 30 ≤ b.length ∧ (b.drop (oA b + 22)).take 8 = leB (XT 0 p) 8) := by
 unfold oE2 at h
 split at h
 ·cases h
 rename_i h1
 split at h
 ·rename_i h2
  refine .inl ⟨h2, Decidable.not_not.1 fun h3 => h1 (.inl ⟨h2, h3⟩)⟩
 rename_i h2
 split at h
 ·cases h
 split at h
 ·cases h
 rename_i h3 h4
 exact .inr ⟨h2, fun h5 => h1 (.inr ⟨h2, h5⟩), by omega, Decidable.not_not.1 h4⟩
theorem Qc2 {b p : List UInt8} (h : opN b p = 0) : ¬ 64 < p.length ∧ FOk b ∧ oE2 b p = 0 ∧ skR (oT b p) (oL b).length = 0 := by
 unfold opN at h
 split at h
 ·cases h
 split at h
 ·rename_i h1; exact absurd h h1
 split at h
 ·rename_i h1; exact absurd h h1
 rename_i h1 h2 h3
 exact ⟨h1, Qga (Decidable.not_not.1 h2), Decidable.not_not.1 h3, h⟩
theorem QwK (b p : List UInt8) : oE2 b p = 0 ∨ oE2 b p = 24 ∨ oE2 b p = 26 := by
 unfold oE2
 repeat' split
 all_goals omega
theorem QeX {b p : List UInt8} (h : opN b p = 0) : oM b p ≤ b.length ∧ skN (iL (oS b p)) = 0 ∧ (oS b p).length = (oL b).length := by
 obtain ⟨_, hf, h2, h3⟩ := Qc2 h
 have hs := QiA (oT b p) (oL b).length
 have hl := hf.len
 rcases hs with h4 | h4 | h4 | ⟨_, h5, h6⟩
 ·omega
 ·omega
 ·omega
 ·have hd := QzY h2
  rw [oT, ql] at h5
  have e := QsO p
  refine ⟨?_, h6, Z5 _ _⟩
  unfold oM
  rcases hd with ⟨g1, _⟩ | ⟨g1, _, g3, _⟩ <;> rcases e with ⟨e1, e2⟩ | ⟨e1, e2⟩
  ·omega
  ·exact absurd g1 e1
  ·exact absurd e1 g1
  ·omega
def Qbf (P : Prg) (f : Nat) : Prop := ∀ b p : List UInt8, b.length ≤ 1000000 → VC P f [bs b, .str p] (QpU b p)
set_option maxHeartbeats 4000000 in
theorem QqD {P : Prg} {f fF fR fD fM fS t0 t1 : Nat} (bd : Qf P f 108 [.cell 4 t0, .tmp 5] (QQ fF fR fD fM fS t0 t1)) (ht : ZE P t0 = some (some 7)) (hF : QaL P fF) (hR : QaK P fR) (hD : Qgy P fD) (hM : Qbj P fM) (hS : Qan P fS) : Qbf P f := by
 intro b p hb
 refine Qi 1 (by simp [isDL, Qr, isD]) (Qs1 b p) (Qb bd (by simp) ?_)
 have hlu := Qe b
 have err : ∀ e : Int, opN b p = e → e ≠ 0 → QpU b p = .tup [ix0, .int .i64 e] := fun e h h0 => by rw [QpU, h, qa h0]
 by_cases h1 : 64 < p.length
 ·rw [err 2 (by rw [opN, qc h1]) (by omega), ix0, bs]
  simp (disch := omega) only [rq, simprocAttr, QQ, QL, ht, Qm]
  simp [QI, Qz, frzL, Qv]
 by_cases h2 : 100000 < b.length
 ·have e1 : oE1 b = 4 := by rw [oE1, qc h2]
  rw [err 4 (by rw [opN, qa h1, e1, qc (by omega)]) (by omega), ix0, bs]
  simp (disch := omega) only [rq, simprocAttr, QQ, QL, ht, Qm]
  simp [QI, Qz, frzL, Qv]
 have hF' := hF b hb
 rw [bs] at hF'
 by_cases h3 : (frN b).2 ≠ 0
 ·have e1 : oE1 b = (frN b).2 := by rw [oE1, qa h2, qc h3]
  rw [err (frN b).2 (by rw [opN, qa h1, e1, qc h3]) h3, ix0, bs]
  generalize (frN b).2 = e at *
  generalize (frN b).1 = m at *
  simp (disch := omega) only [rq, simprocAttr, QQ, QL, ht, Qm]
  refine Qa hF' ?_
  simp (disch := omega) only [rq, simprocAttr, QL, ht, Qm]
  simp [QI, Qz, frzL, Qv]
 have h3' : (frN b).2 = 0 := Decidable.not_not.1 h3
 have e1 : oE1 b = hrN (oH b) := by rw [oE1, qa h2, qa h3]
 have ha : (frN b).1 = oA b ∧ oA b ≤ 4000 ∧ oA b ≤ b.length := by
  rcases Qe1 b with ⟨_, n, hn, h4, h5⟩ | ⟨_, h5⟩
  ·rw [oA, hn, qu]; exact ⟨rfl, h4, h5⟩
  ·omega
 rw [h3', ha.1] at hF'
 have hHl : (oH b).length = b.length - oA b := by rw [oH, ql]
 have hR' := hR (oH b) (by omega)
 have hsH : ((u8 b).drop (oA b)).take (b.length - oA b) = u8 (oH b) := by
  rw [QE]; exact qf (by rw [Qe, ql]; exact qj _)
 rw [bs, hHl] at hR'
 rw [hrA] at hR'
 by_cases h4 : hrN (oH b) ≠ 0
 ·rw [err (hrN (oH b)) (by rw [opN, qa h1, e1, qc h4]) h4, ix0, bs]
  rw [qa h4, hdA] at hR'
  generalize hrN (oH b) = e at *
  generalize oA b = a at *
  simp (disch := omega) only [rq, simprocAttr, QQ, QL, ht, Qm]
  refine Qa hF' ?_
  simp (disch := omega) only [rq, simprocAttr, hsH]
  refine Qa hR' ?_
  simp (disch := omega) only [rq, simprocAttr, QL, ht, Qm]
  simp [QI, Qz, frzL, Qv]
 have h4' : hrN (oH b) = 0 := Decidable.not_not.1 h4
 rw [qc h4', hdA] at hR'
 have hf := Qga (b := b) (by rw [e1]; exact h4')
 have hM' := hM (oF b) (oC b) (oX b) (oR b) (oN b)
 rw [Qzl, qc hf.hd, hdA, ← oL, Xh] at hM'
 have hR2 : VC P fR [.list (b.length - oA b) (u8 (oH b))] (.tup [.agg [.int .i64 (oF b), .int .i64 (oC b), .int .i64 (oX b), .int .i64 (oR b), .int .i64 (oN b)], .int .i64 0]) := hR'
 clear hR'
 have o2 : oE2 b p ≠ 0 → opN b p = oE2 b p := fun h => by rw [opN, qa h1, e1, qa h4, qc h]
 have o3 : oE2 b p = 0 → opN b p = skR (oT b p) (oL b).length := fun h => by rw [opN, qa h1, e1, qa h4, qa (by omega)]
 have hl := hf.len
 have hl1 := hf.l1
 have hl2 := hf.l2
 have h12 := hf.f12
 have hs8 : 100000 ≥ b.length := hf.le
 have hTl : (oT b p).length = b.length - (oA b + 22 + oD p) := by rw [oT, ql]
 have hsT : ((u8 b).drop (oA b + 22 + oD p)).take (b.length - (oA b + 22 + oD p)) = u8 (oT b p) := by
  rw [QE]; exact qf (by rw [Qe, ql]; exact qj _)
 have hS2 := hS (oT b p) (oL b).length (by omega) hl1 hl2
 rw [bs, hTl, QvZ] at hS2
 have hD' := hD ((b.drop (oA b + 22)).take 8) p (by simp; omega)
 have hs22 : ((u8 b).drop (oA b + 22)).take 8 = u8 ((b.drop (oA b + 22)).take 8) := by rw [QE, QJ]
 have hkL : (ks .i64 (oL b)).length = (oL b).length := Qd _ _
 have hzS : (iL (oS b p)).length = (oL b).length := by rw [Ze]; exact Z5 _ _
 have eS : QhI (oT b p) (oL b).length = oS b p := rfl
 rw [eS, Xh, hzS] at hS2
 have eM : oM b p = oA b + 22 + oD p + (4 * (oL b).length + 4) := rfl
 have tS := Qq .i64 (iL (oS b p))
 have hokA : opN b p = 0 → QpU b p = .tup [.agg [.int .i64 (oF b), .int .i64 (oC b), .int .i64 (oX b), .int .i64 (oR b), .int .i64 (oN b), .int .i64 ((oA b + 22 + oD p + (4 * (oL b).length + 4) : Nat) : Int), .list (oL b).length (ks .i64 (iL (oS b p)))], .int .i64 0] := fun h => by rw [QpU, qc h, ixA, Xh, hzS, eM]
 by_cases hp : p = []
 ·have e3 : (p == []) = true := by rw [hp]; rfl
  have eD : oD p = 0 := by rw [oD, qc hp]
  rw [eD, yP] at hS2 hsT hokA
  by_cases h5 : oF b = 1
  ·have e2 : oE2 b p = 0 := by rw [oE2, qa (fun h => h.elim (fun h => h.2 h5) (fun h => h.1 hp)), qc hp]
   have o4 := o3 e2
   by_cases h6 : skR (oT b p) (oL b).length = 0
   ·rw [qc h6] at hS2
    rw [hokA (by rw [o4, h6]), bs]
    clear hokA o2 o3 o4 err hD' hF hR hD hM hS eM eS h6 hzS
    rw [h5] at hR2 hM' ⊢
    generalize oA b = a at *
    generalize oS b p = S at *
    generalize skR (oT b p) (oL b).length = sk at *
    generalize oH b = H at *
    generalize oT b p = T at *
    generalize (oL b).length = n at *
    generalize oL b = L at *
    simp (disch := omega) only [rq, simprocAttr, QQ, QL, ht, Qm, Qbh, e3]
    refine Qa hF' ?_
    simp (disch := omega) only [rq, simprocAttr, hsH]
    refine Qa hR2 ?_
    simp (disch := omega) only [rq, simprocAttr, Qbh, e3]
    refine Qa hM' ?_
    simp (disch := omega) only [rq, simprocAttr, hsT]
    refine Qa hS2 ?_
    simp (disch := omega) only [rq, simprocAttr, QL, ht, Qm]
    simp [QI, Qz, frzL, Qv, frzL_T _ tS]
    omega
   ·rw [qa h6] at hS2
    rw [err _ o4 h6, ix0, bs]
    clear hokA o2 o3 o4 err hD' hF hR hD hM hS eM eS hzS
    rw [h5] at hR2 hM'
    generalize oA b = a at *
    generalize oS b p = S at *
    generalize skR (oT b p) (oL b).length = sk at *
    generalize oH b = H at *
    generalize oT b p = T at *
    generalize (oL b).length = n at *
    generalize oL b = L at *
    simp (disch := omega) only [rq, simprocAttr, QQ, QL, ht, Qm, Qbh, e3]
    refine Qa hF' ?_
    simp (disch := omega) only [rq, simprocAttr, hsH]
    refine Qa hR2 ?_
    simp (disch := omega) only [rq, simprocAttr, Qbh, e3]
    refine Qa hM' ?_
    simp (disch := omega) only [rq, simprocAttr, hsT]
    refine Qa hS2 ?_
    simp (disch := omega) only [rq, simprocAttr, QL, ht, Qm]
    simp [QI, Qz, frzL, Qv, frzL_T _ tS]
  ·have e2 : oE2 b p = 26 := by rw [oE2, qc (.inl ⟨hp, h5⟩)]
   rw [err _ (o2 (by omega)) (by omega), e2, ix0, bs]
   have h5' : oF b = 2 := by omega
   clear hokA o2 o3 err hD' hF hR hD hM hS eM eS hzS
   rw [h5'] at hR2 hM'
   generalize oA b = a at *
   generalize oS b p = S at *
   generalize skR (oT b p) (oL b).length = sk at *
   generalize oH b = H at *
   generalize oT b p = T at *
   generalize (oL b).length = n at *
   generalize oL b = L at *
   simp (disch := omega) only [rq, simprocAttr, QQ, QL, ht, Qm, Qbh, e3]
   refine Qa hF' ?_
   simp (disch := omega) only [rq, simprocAttr, hsH]
   refine Qa hR2 ?_
   simp (disch := omega) only [rq, simprocAttr, Qbh, e3, QL, ht, Qm]
   simp [QI, Qz, frzL, Qv]
 ·have e3 : (p == []) = false := qT.2 hp
  have eD : oD p = 8 := by rw [oD, qa hp]
  rw [eD, js (oA b) 22 8] at hS2 hsT hokA
  simp only [Nat.reduceAdd] at hS2 hsT hokA
  by_cases h5 : oF b = 1
  ·have e2 : oE2 b p = 26 := by rw [oE2, qc (.inr ⟨hp, h5⟩)]
   rw [err _ (o2 (by omega)) (by omega), e2, ix0, bs]
   clear hokA o2 o3 err hD' hF hR hD hM hS eM eS hzS
   rw [h5] at hR2 hM'
   generalize oA b = a at *
   generalize oS b p = S at *
   generalize skR (oT b p) (oL b).length = sk at *
   generalize oH b = H at *
   generalize oT b p = T at *
   generalize (oL b).length = n at *
   generalize oL b = L at *
   simp (disch := omega) only [rq, simprocAttr, QQ, QL, ht, Qm, Qbh, e3]
   refine Qa hF' ?_
   simp (disch := omega) only [rq, simprocAttr, hsH]
   refine Qa hR2 ?_
   simp (disch := omega) only [rq, simprocAttr, Qbh, e3, QL, ht, Qm]
   simp [QI, Qz, frzL, Qv]
  have h5' : oF b = 2 := by omega
  have e0 : ¬ ((p = [] ∧ oF b ≠ 1) ∨ (p ≠ [] ∧ oF b = 1)) := fun h => h.elim (fun h => hp h.1) (fun h => h5 h.2)
  by_cases h7 : b.length < oA b + 30
  ·have e2 : oE2 b p = 24 := by rw [oE2, qa e0, qa hp, qc h7]
   rw [err _ (o2 (by omega)) (by omega), e2, ix0, bs]
   clear hokA o2 o3 err hD' hF hR hD hM hS eM eS hzS e0
   rw [h5'] at hR2 hM'
   generalize oA b = a at *
   generalize oS b p = S at *
   generalize skR (oT b p) (oL b).length = sk at *
   generalize oH b = H at *
   generalize oT b p = T at *
   generalize (oL b).length = n at *
   generalize oL b = L at *
   simp (disch := omega) only [rq, simprocAttr, QQ, QL, ht, Qm, Qbh, e3]
   refine Qa hF' ?_
   simp (disch := omega) only [rq, simprocAttr, hsH]
   refine Qa hR2 ?_
   simp (disch := omega) only [rq, simprocAttr, Qbh, e3, QL, ht, Qm]
   simp [QI, Qz, frzL, Qv]
  have h8l : ((b.drop (oA b + 22)).take 8).length = 8 := by rw [qh, ql]; omega
  rw [Qhr, qa (by omega), bs, h8l] at hD'
  have eX : (b.drop (oA b + 22)).take 8 ≠ leB (XT 0 p) 8 ↔ ((b.drop (oA b + 22)).take 8 == leB (XT 0 p) 8) = false := by simp
  have hX2 : oE2 b p = if ((b.drop (oA b + 22)).take 8 == leB (XT 0 p) 8) = false then 26 else 0 := by
   rw [oE2, qa e0, qa hp, qa h7]
   by_cases hh : (b.drop (oA b + 22)).take 8 = leB (XT 0 p) 8
   ·rw [qa (by simpa using hh), qa (by simpa using hh)]
   ·rw [qc hh, qc (by simpa using hh)]
  clear eX e0
  generalize ((b.drop (oA b + 22)).take 8 == leB (XT 0 p) 8) = r at *
  generalize (b.drop (oA b + 22)).take 8 = D8 at *
  have q8 : oA b + 22 + 8 - (oA b + 22) = 8 := by omega
  have q30 : (oA b : Int) + 22 + 8 = ((oA b + 30 : Nat) : Int) := by omega
  cases r with
  | false =>
   rw [qc rfl] at hX2
   rw [err _ (o2 (by omega)) (by omega), hX2, ix0, bs]
   have hD2 := hD'
   clear hokA o2 o3 err hD' hF hR hD hM hS eM eS hzS
   rw [h5'] at hR2 hM'
   generalize oA b = a at *
   generalize oS b p = S at *
   generalize skR (oT b p) (oL b).length = sk at *
   generalize oH b = H at *
   generalize oT b p = T at *
   generalize (oL b).length = n at *
   generalize oL b = L at *
   simp (disch := omega) only [rq, simprocAttr, QQ, QL, ht, Qm, Qbh, e3]
   refine Qa hF' ?_
   simp (disch := omega) only [rq, simprocAttr, hsH]
   refine Qa hR2 ?_
   simp (disch := omega) only [rq, simprocAttr, Qbh, e3, q8, hs22]
   refine Qa hD2 ?_
   simp (disch := omega) only [rq, simprocAttr, QL, ht, Qm]
   simp [QI, Qz, frzL, Qv]
  | true =>
   rw [qa (fun h => Bool.noConfusion h)] at hX2
   have o4 := o3 hX2
   have hD2 := hD'
   by_cases h6 : skR (oT b p) (oL b).length = 0
   ·rw [qc h6] at hS2
    rw [hokA (by rw [o4, h6]), bs]
    clear hokA o2 o3 o4 err hD' hF hR hD hM hS eM eS h6 hzS
    rw [h5'] at hR2 hM' ⊢
    generalize oA b = a at *
    generalize oS b p = S at *
    generalize skR (oT b p) (oL b).length = sk at *
    generalize oH b = H at *
    generalize oT b p = T at *
    generalize (oL b).length = n at *
    generalize oL b = L at *
    simp (disch := omega) only [rq, simprocAttr, QQ, QL, ht, Qm, Qbh, e3]
    refine Qa hF' ?_
    simp (disch := omega) only [rq, simprocAttr, hsH]
    refine Qa hR2 ?_
    simp (disch := omega) only [rq, simprocAttr, Qbh, e3, q8, hs22]
    refine Qa hD2 ?_
    simp (disch := omega) only [rq, simprocAttr]
    refine Qa hM' ?_
    simp (disch := omega) only [rq, simprocAttr, hsT]
    refine Qa hS2 ?_
    simp (disch := omega) only [rq, simprocAttr, QL, ht, Qm]
    simp [QI, Qz, frzL, Qv, frzL_T _ tS]
    omega
   ·rw [qa h6] at hS2
    rw [err _ o4 h6, ix0, bs]
    clear hokA o2 o3 o4 err hD' hF hR hD hM hS eM eS hzS
    rw [h5'] at hR2 hM'
    generalize oA b = a at *
    generalize oS b p = S at *
    generalize skR (oT b p) (oL b).length = sk at *
    generalize oH b = H at *
    generalize oT b p = T at *
    generalize (oL b).length = n at *
    generalize oL b = L at *
    simp (disch := omega) only [rq, simprocAttr, QQ, QL, ht, Qm, Qbh, e3]
    refine Qa hF' ?_
    simp (disch := omega) only [rq, simprocAttr, hsH]
    refine Qa hR2 ?_
    simp (disch := omega) only [rq, simprocAttr, Qbh, e3, q8, hs22]
    refine Qa hD2 ?_
    simp (disch := omega) only [rq, simprocAttr]
    refine Qa hM' ?_
    simp (disch := omega) only [rq, simprocAttr, hsT]
    refine Qa hS2 ?_
    simp (disch := omega) only [rq, simprocAttr, QL, ht, Qm]
    simp [QI, Qz, frzL, Qv, frzL_T _ tS]
def QrG (g : Nat → Int) : Nat → Nat
 | 0 => 0
 | m + 1 => if QrG g m < m then QrG g m else if g m ≠ 0 then m else m + 1
theorem Qmp (g : Nat → Int) : ∀ m, QrG g m ≤ m
 | 0 => qj _
 | m + 1 => by
  have := Qmp g m
  unfold QrG
  split
  ·omega
  split <;> omega
theorem QrF (g : Nat → Int) : ∀ m, (∀ j, j < QrG g m → g j = 0) ∧ (QrG g m < m → g (QrG g m) ≠ 0)
 | 0 => ⟨fun j h => absurd h (by simp [QrG]), fun h => absurd h (by simp [QrG])⟩
 | m + 1 => by
  obtain ⟨h1, h2⟩ := QrF g m
  have hl := Qmp g m
  unfold QrG
  split
  ·rename_i h
   exact ⟨h1, fun _ => h2 h⟩
  rename_i h
  have e : QrG g m = m := by omega
  rw [e] at h1
  split
  ·rename_i h3
   exact ⟨h1, fun _ => h3⟩
  ·rename_i h3
   refine ⟨fun j hj => ?_, fun h => absurd h (by omega)⟩
   by_cases hm : j < m
   ·exact h1 j hm
   ·rw [show j = m by omega]; exact Decidable.not_not.1 h3
theorem Qmq {g : Nat → Int} {m k : Nat} (hk : k ≤ m) (h1 : ∀ j, j < k → g j = 0) (h2 : k < m → g k ≠ 0) : QrG g m = k := by
 have hl := Qmp g m
 obtain ⟨h3, h4⟩ := QrF g m
 by_cases hlt : QrG g m < k
 ·exact absurd (h1 _ hlt) (h4 (by omega))
 by_cases hgt : k < QrG g m
 ·exact absurd (h3 _ hgt) (h2 (by omega))
 omega
def oW (b p : List UInt8) (k : Nat) : Nat := oM b p + ((oS b p).take k).sum
def ofB (b p : List UInt8) (k : Nat) : List UInt8 := (b.drop (oW b p k)).take ((oS b p).getD k 0)
def tpT (p : List UInt8) : List Int := ofK (XT 0 p) 8
def ofE (b p : List UInt8) (k : Nat) : Int := if b.length < oW b p (k + 1) then 24 else QAe (oC b) (oX b) (tpT p) ((oL b).getD k 0) (ofB b p k)
def ofP (b p : List UInt8) (k : Nat) : List Int := Qzr (oC b) (oX b) (tpT p) ((oL b).getD k 0) (ofB b p k)
def smF (b p : List UInt8) : Nat → List Int
 | 0 => []
 | k + 1 => smF b p k ++ ofP b p k
theorem QiK (b p : List UInt8) (k : Nat) : (ofP b p k).length ≤ 4000 := (Qxk _ _ _ _ _).2.1
theorem Qqz (b p : List UInt8) : ∀ k, (smF b p k).length ≤ 4000 * k
 | 0 => by simp [smF]
 | k + 1 => by
  have h1 := Qqz b p k
  have h2 := QiK b p k
  rw [smF, qx]
  omega
def oB (b p : List UInt8) : Nat := QrG (ofE b p) (oL b).length
def clN (b p : List UInt8) : Int := if opN b p ≠ 0 then opN b p else if oB b p < (oL b).length then ofE b p (oB b p) else if (bhN (b.drop (oW b p (oL b).length))).2 ≠ 0 then 38 else 0
def QuP (b p : List UInt8) : AV := if clN b p = 0 then .tup [clA (oC b) (oX b) (oR b) (smF b p (oL b).length), .int .i64 0] else .tup [clA 0 0 0 [], .int .i64 (clN b p)]
theorem Qs5 (b p : List UInt8) : isD (QuP b p) = true := by unfold QuP; split <;> simp [isD, isDL, clA, QaQ]
theorem QiL (b p : List UInt8) (k : Nat) : oW b p (k + 1) = oW b p k + (oS b p).getD k 0 := by
 rw [oW, oW, QhV]; omega
theorem Qo0 {b p : List UInt8} (h : opN b p = 0) (k : Nat) : oW b p k ≤ 200000 ∧ (oS b p).getD k 0 ≤ 100000 := by
 obtain ⟨h1, h2, h3⟩ := QeX h
 obtain ⟨_, hf, _⟩ := Qc2 h
 have h4 := (Qsx h2).1
 have h5 := Qay (oS b p) k
 have h6 := QhV (oS b p) k
 have h7 := Qay (oS b p) (k + 1)
 have h8 := hf.le
 rw [oW]
 omega
theorem QCf {b p : List UInt8} (h : opN b p = 0) : ∀ {k}, (∀ j, j < k → ofE b p j = 0) → oW b p k ≤ b.length
 | 0, _ => by rw [oW, yV]; exact (QeX h).1
 | k + 1, hk => by
  have := hk k (by omega)
  unfold ofE at this
  split at this
  ·cases this
  ·omega
theorem Qvz (p : List UInt8) : (tpT p).length = 16 ∧ I32 (tpT p) := ⟨Qbl _ _, Qso _ _⟩
def hdG (b : List UInt8) (y z : Nat) : List AV := [.int .i64 (oF b), .int .i64 (oC b), .int .i64 (oX b), .int .i64 (oR b), .int .i64 (oN b), .int .i64 (oA b), .int .i64 ((oA b + 22 : Nat) : Int), .int .i64 ((oA b + 22 + (if oF b = 2 then 8 else 0) : Nat) : Int), .int .i64 y, .int .i64 z, .list (oL b).length (ks .i64 (oL b))]
def hd0 : List AV := [.int .i64 0, .int .i64 0, .int .i64 0, .int .i64 0, .int .i64 0, .int .i64 0, .int .i64 0, .int .i64 0, .int .i64 0, .int .i64 0, .list 0 []]
def QAt (b : List UInt8) : AV := if oE1 b = 0 then .tup [.agg (hdG b 0 0), .int .i64 0] else .tup [.agg hd0, .int .i64 (oE1 b)]
theorem Qzf (b : List UInt8) : isD (QAt b) = true := by unfold QAt; split <;> simp [isD, isDL, hdG, hd0, ZA]
def QmS (P : Prg) (f : Nat) : Prop := ∀ b : List UInt8, b.length ≤ 1000000 → VC P f [bs b] (QAt b)
set_option maxHeartbeats 2000000 in
theorem Qnz {P : Prg} {f fF fR fM t0 : Nat} (bd : Qf P f 62 [.cell 2 t0, .tmp 3] (Z2 fF fR fM t0)) (ht : ZE P t0 = some (some 11)) (hF : QaL P fF) (hR : QaK P fR) (hM : Qbj P fM) : QmS P f := by
 intro b hb
 refine Qi 1 (by simp [isDL, Qr]) (Qzf b) (Qb bd (by simp) ?_)
 have hlu := Qe b
 have err : ∀ e : Int, oE1 b = e → e ≠ 0 → QAt b = .tup [.agg hd0, .int .i64 e] := fun e h h0 => by rw [QAt, h, qa h0]
 by_cases h2 : 100000 < b.length
 ·rw [err 4 (by rw [oE1, qc h2]) (by omega), hd0, bs]
  simp (disch := omega) only [rq, simprocAttr, Z2, QL, ht, Qm]
  simp [QI, Qz, frzL, Qv]
 have hF' := hF b hb
 rw [bs] at hF'
 by_cases h3 : (frN b).2 ≠ 0
 ·rw [err (frN b).2 (by rw [oE1, qa h2, qc h3]) h3, hd0, bs]
  generalize (frN b).2 = e at *
  generalize (frN b).1 = m at *
  simp (disch := omega) only [rq, simprocAttr, Z2, QL, ht, Qm]
  refine Qa hF' ?_
  simp (disch := omega) only [rq, simprocAttr, QL, ht, Qm]
  simp [QI, Qz, frzL, Qv]
 have h3' : (frN b).2 = 0 := Decidable.not_not.1 h3
 have e1 : oE1 b = hrN (oH b) := by rw [oE1, qa h2, qa h3]
 have ha : (frN b).1 = oA b ∧ oA b ≤ 4000 ∧ oA b ≤ b.length := by
  rcases Qe1 b with ⟨_, n, hn, h4, h5⟩ | ⟨_, h5⟩
  ·rw [oA, hn, qu]; exact ⟨rfl, h4, h5⟩
  ·omega
 rw [h3', ha.1] at hF'
 have hHl : (oH b).length = b.length - oA b := by rw [oH, ql]
 have hR' := hR (oH b) (by omega)
 have hsH : ((u8 b).drop (oA b)).take (b.length - oA b) = u8 (oH b) := by
  rw [QE]; exact qf (by rw [Qe, ql]; exact qj _)
 rw [bs, hHl] at hR'
 rw [hrA] at hR'
 by_cases h4 : hrN (oH b) ≠ 0
 ·rw [err _ e1 h4, hd0, bs]
  rw [qa h4, hdA] at hR'
  generalize hrN (oH b) = e at *
  generalize oA b = a at *
  simp (disch := omega) only [rq, simprocAttr, Z2, QL, ht, Qm]
  refine Qa hF' ?_
  simp (disch := omega) only [rq, simprocAttr, hsH]
  refine Qa hR' ?_
  simp (disch := omega) only [rq, simprocAttr, QL, ht, Qm]
  simp [QI, Qz, frzL, Qv]
 have h4' : hrN (oH b) = 0 := Decidable.not_not.1 h4
 rw [qc h4', hdA] at hR'
 have hf := Qga (b := b) (by rw [e1]; exact h4')
 have hM' := hM (oF b) (oC b) (oX b) (oR b) (oN b)
 rw [Qzl, qc hf.hd, hdA, ← oL, Xh] at hM'
 have hR2 : VC P fR [.list (b.length - oA b) (u8 (oH b))] (.tup [.agg [.int .i64 (oF b), .int .i64 (oC b), .int .i64 (oX b), .int .i64 (oR b), .int .i64 (oN b)], .int .i64 0]) := hR'
 have h12 := hf.f12
 have tl := Qq .i64 (oL b)
 rw [QAt, qc (by rw [e1]; exact h4'), hdG, bs]
 clear hR' err e1 hF hR hM
 generalize oA b = a at *
 generalize (oL b).length = n at *
 generalize oL b = L at *
 generalize oH b = H at *
 rcases h12 with h5 | h5
 ·rw [h5] at hR2 hM' ⊢
  simp (disch := omega) only [rq, simprocAttr, Z2]
  refine Qa hF' ?_
  simp (disch := omega) only [rq, simprocAttr, hsH]
  refine Qa hR2 ?_
  simp (disch := omega) only [rq, simprocAttr]
  refine Qa hM' ?_
  simp (disch := omega) only [rq, simprocAttr, QL, ht, Qm]
  simp [QI, Qz, frzL, Qv, frzL_T _ tl]
 ·rw [h5] at hR2 hM' ⊢
  simp (disch := omega) only [rq, simprocAttr, Z2]
  refine Qa hF' ?_
  simp (disch := omega) only [rq, simprocAttr, hsH]
  refine Qa hR2 ?_
  simp (disch := omega) only [rq, simprocAttr]
  refine Qa hM' ?_
  simp (disch := omega) only [rq, simprocAttr, QL, ht, Qm]
  simp [QI, Qz, frzL, Qv, frzL_T _ tl]
section
variable {P : Prg} {b p : List UInt8}
set_option maxHeartbeats 1000000 in
theorem Qp2 {f fD : Nat} (bd : Qf P f 51 [.tmp 6] (QY fD)) (hD : Qgy P fD) (hf : FOk b) (hp : ¬ 64 < p.length) {y : Ob} {tH : Nat} {K : AV → List Ob → Prop} (hK : K (.int .i64 (oE2 b p)) [y, ⟨tH, 11, 1, hdG b 0 0, 0⟩]) : ACall P f [.ref 1 1 0, bs b, .str p] [y, ⟨tH, 11, 1, hdG b 0 0, 0⟩] K := by
 refine Qb bd (by simp) ?_
 have hle := hf.le
 have hub := Qe b
 have h12 := hf.f12
 have hl := hf.len
 have hD' := hD ((b.drop (oA b + 22)).take 8) p (by simp; omega)
 have hs22 : ((u8 b).drop (oA b + 22)).take 8 = u8 ((b.drop (oA b + 22)).take 8) := by rw [QE, QJ]
 simp only [hdG] at hK ⊢
 by_cases e : p = []
 ·have e3 : (p == []) = true := by rw [e]; rfl
  by_cases h5 : oF b = 1
  ·have e2 : oE2 b p = 0 := by rw [oE2, qa (fun h => h.elim (fun h => h.2 h5) (fun h => h.1 e)), qc e]
   rw [e2] at hK
   rw [h5] at hK ⊢
   generalize oA b = a at *
   rw [bs]
   simp (disch := omega) only [rq, simprocAttr, QY, Qbh, e3]
   simpa using hK
  ·have e2 : oE2 b p = 26 := by rw [oE2, qc (.inl ⟨e, h5⟩)]
   have h5' : oF b = 2 := by omega
   rw [e2] at hK
   rw [h5'] at hK ⊢
   generalize oA b = a at *
   rw [bs]
   simp (disch := omega) only [rq, simprocAttr, QY, Qbh, e3]
   simpa using hK
 have e3 : (p == []) = false := qT.2 e
 by_cases h5 : oF b = 1
 ·have e2 : oE2 b p = 26 := by rw [oE2, qc (.inr ⟨e, h5⟩)]
  rw [e2] at hK
  rw [h5] at hK ⊢
  generalize oA b = a at *
  rw [bs]
  simp (disch := omega) only [rq, simprocAttr, QY, Qbh, e3]
  simpa using hK
 have h5' : oF b = 2 := by omega
 have e0 : ¬ ((p = [] ∧ oF b ≠ 1) ∨ (p ≠ [] ∧ oF b = 1)) := fun h => h.elim (fun h => e h.1) (fun h => h5 h.2)
 have q0 : (if (2 : Int) = 2 then 8 else 0) = 8 := qc rfl
 by_cases h7 : b.length < oA b + 30
 ·have e2 : oE2 b p = 24 := by rw [oE2, qa e0, qa e, qc h7]
  rw [e2] at hK
  rw [h5'] at hK ⊢
  clear e0
  generalize oA b = a at *
  rw [bs]
  simp (disch := omega) only [rq, simprocAttr, QY, Qbh, e3]
  simpa using hK
 have h8l : ((b.drop (oA b + 22)).take 8).length = 8 := by rw [qh, ql]; omega
 rw [Qhr, qa (by omega), bs, h8l] at hD'
 have hX2 : oE2 b p = if ((b.drop (oA b + 22)).take 8 == leB (XT 0 p) 8) = false then 26 else 0 := by
  rw [oE2, qa e0, qa e, qa h7]
  by_cases hh : (b.drop (oA b + 22)).take 8 = leB (XT 0 p) 8
  ·rw [qa (by simpa using hh), qa (by simpa using hh)]
  ·rw [qc hh, qc (by simpa using hh)]
 rw [hX2] at hK
 clear e0 hX2
 rw [h5'] at hK ⊢
 generalize ((b.drop (oA b + 22)).take 8 == leB (XT 0 p) 8) = r at *
 generalize (b.drop (oA b + 22)).take 8 = D8 at *
 have q8 : oA b + 22 + 8 - (oA b + 22) = 8 := by omega
 generalize oA b = a at *
 rw [bs]
 cases r with
 | false =>
  rw [qc rfl] at hK
  simp (disch := omega) only [rq, simprocAttr, QY, Qbh, e3, q8, hs22]
  refine Qc hD' ?_
  simp (disch := omega) only [rq, simprocAttr]
  simpa using hK
 | true =>
  rw [qa (fun h => Bool.noConfusion h)] at hK
  simp (disch := omega) only [rq, simprocAttr, QY, Qbh, e3, q8, hs22]
  refine Qc hD' ?_
  simp (disch := omega) only [rq, simprocAttr]
  simpa using hK
end
section
variable {P : Prg} {b p : List UInt8}
theorem QzX (hf : FOk b) (h : oE2 b p = 0) : (if oF b = 2 then 8 else 0) = oD p ∧ oA b + 22 + oD p ≤ b.length := by
 have h12 := hf.f12
 have hl := hf.len
 rcases QzY h with ⟨h1, h2⟩ | ⟨h1, h2, h3, _⟩
 ·rw [oD, qc h1, qa (by omega)]; omega
 ·rw [oD, qa h1, qc (by omega)]; omega
set_option maxHeartbeats 1000000 in
theorem Qny {f fS : Nat} (bd : Qf P f 78 [.tmp 4, .tmp 5] (ZJ fS)) (hS : Qan P fS) (hf : FOk b) (h2 : oE2 b p = 0) {y : Ob} {tH : Nat} {K : AV → List Ob → Prop}
  (hK : if skR (oT b p) (oL b).length = 0 then K (.tup [.list (oL b).length (ks .i64 (iL (oS b p))), .int .i64 0]) [y, ⟨tH, 11, 1, hdG b (oM b p) (oW b p (oL b).length), 0⟩] else K (.tup [.emp true, .int .i64 (skR (oT b p) (oL b).length)]) [y, ⟨tH, 11, 1, hdG b 0 0, 0⟩]) :
  ACall P f [.ref 1 1 0, bs b] [y, ⟨tH, 11, 1, hdG b 0 0, 0⟩] K := by
 refine Qb bd (by simp) ?_
 have hle := hf.le
 have hub := Qe b
 obtain ⟨hd, hdl⟩ := QzX hf h2
 have hl1 := hf.l1
 have hl2 := hf.l2
 have hTl : (oT b p).length = b.length - (oA b + 22 + oD p) := by rw [oT, ql]
 have hsT : ((u8 b).drop (oA b + 22 + oD p)).take (b.length - (oA b + 22 + oD p)) = u8 (oT b p) := by
  rw [QE]; exact qf (by rw [Qe, ql]; exact qj _)
 have hS2 := hS (oT b p) (oL b).length (by omega) hl1 hl2
 have hzL : (oS b p).length = (oL b).length := Z5 _ _
 have hzS : (iL (oS b p)).length = (oL b).length := by rw [Ze]; exact hzL
 have hkS : (ks .i64 (iL (oS b p))).length = (oL b).length := by rw [Qd, hzS]
 have hkL : (ks .i64 (oL b)).length = (oL b).length := Qd _ _
 have eS : QhI (oT b p) (oL b).length = oS b p := rfl
 rw [bs, hTl, QvZ, eS, Xh, hzS] at hS2
 obtain ⟨D, hD⟩ : ∃ D, D = oA b + 22 + oD p := ⟨_, rfl⟩
 rw [← hD] at hsT hS2 hdl
 have hM : oM b p = D + (4 * (oL b).length + 4) := by rw [oM, ← hD]
 have hdD : ∀ y z : Nat, hdG b y z = [.int .i64 (oF b), .int .i64 (oC b), .int .i64 (oX b), .int .i64 (oR b), .int .i64 (oN b), .int .i64 (oA b), .int .i64 ((oA b + 22 : Nat) : Int), .int .i64 D, .int .i64 y, .int .i64 z, .list (oL b).length (ks .i64 (oL b))] := fun y z => by rw [hdG, hd, ← hD]
 have hWs : ∀ k, oW b p k = oM b p + ((oS b p).take k).sum := fun _ => rfl
 have hts := QhV (oS b p)
 have hsm : skR (oT b p) (oL b).length = 0 → (oS b p).sum ≤ 100000 := fun h => by
  rcases QiA (oT b p) (oL b).length with h1 | h1 | h1 | ⟨_, _, h1⟩
  ·omega
  ·omega
  ·omega
  ·exact (Qsx h1).1
 have htl := Qay (oS b p)
 rw [hdD, hdD] at hK
 rw [hdD]
 by_cases h6 : skR (oT b p) (oL b).length = 0
 case neg =>
  rw [qa h6] at hK hS2
  clear hsm hdD hS eS
  generalize skR (oT b p) (oL b).length = e at *
  generalize oA b = a at *
  generalize (oL b).length = n at *
  rw [bs]
  simp (disch := omega) only [rq, simprocAttr, ZJ, hsT]
  refine Qc hS2 ?_
  simp (disch := omega) only [rq, simprocAttr]
  simpa using hK
 rw [qc h6] at hK hS2
 have hsm := hsm h6
 have hat : ∀ i, i < (oL b).length → (ks .i64 (iL (oS b p))).drop i = .int .i64 ((oS b p).getD i 0 : Nat) :: ks .i64 ((iL (oS b p)).drop (i + 1)) := fun i hi => by
  have := J8 (K := .i64) (l := iL (oS b p)) (i := i) (by omega)
  rw [Qo8] at this
  exact this
 rw [hWs, hM] at hK
 clear hS eS h6 hWs hM hdD
 generalize oA b = a at *
 generalize oS b p = S at *
 generalize (oL b).length = n at *
 have ht0 : (S.take n) = S := qf (by omega)
 obtain ⟨A, hA⟩ : ∃ A, A = D + (4 * n + 4) := ⟨_, rfl⟩
 rw [← hA] at hK
 have hAi : (D : Int) + 4 * (n : Int) + 4 = (A : Int) := by omega
 rw [bs]
 simp (disch := omega) only [rq, simprocAttr, ZJ, hsT]
 refine Qc hS2 ?_
 simp (disch := omega) only [rq, simprocAttr, hAi]
 refine Qg (ι := Nat) (fun k => ⟨[(62, .int .i64 k), (61, .int .i64 n), (60, .list n (ks .i64 (iL S))), (0, .ref 1 1 0), (6, .list n (ks .i64 (iL S)))], [y, ⟨tH, 11, 1, [.int .i64 (oF b), .int .i64 (oC b), .int .i64 (oX b), .int .i64 (oR b), .int .i64 (oN b), .int .i64 a, .int .i64 ((a + 22 : Nat) : Int), .int .i64 (D : Int), .int .i64 (A : Int), .int .i64 ((A + (S.take k).sum : Nat) : Int), .list n (ks .i64 (oL b))], 0⟩]⟩) (fun k => k ≤ n) (fun k => n - k) 0 ?_ (by omega) ?_
 ·simp only [yV, jU, yP]
  exact Qh
 intro k hk
 have hfl2 := htl k
 by_cases hlt : k < n
 ·have e2 := hat k hlt
  have hs1 := hts k
  have hfl3 := htl (k + 1)
  generalize S.getD k 0 = z at *
  generalize (S.take k).sum = s at *
  simp (disch := omega) only [rq, simprocAttr, e2]
  refine ⟨k + 1, by omega, by omega, ?_⟩
  rw [hs1]
  simp only [yI, Int.add_assoc]
  exact Qh
 ·obtain rfl : k = n := by omega
  simp (disch := omega) only [rq, simprocAttr]
  simpa using hK
end
theorem QeM {b p : List UInt8} (h : opN b p ≠ 0) : clN b p = opN b p := qc h
theorem Qxs {b p : List UInt8} (h : opN b p = 0) {k : Nat} (hk : k < (oL b).length) (h1 : ∀ j, j < k → ofE b p j = 0) (h2 : ofE b p k ≠ 0) : clN b p = ofE b p k := by
 have e : oB b p = k := Qmq (by omega) h1 fun _ => h2
 rw [clN, qa (by omega), e, qc hk]
theorem Qxt {b p : List UInt8} (h : opN b p = 0) (h1 : ∀ j, j < (oL b).length → ofE b p j = 0) : clN b p = if (bhN (b.drop (oW b p (oL b).length))).2 ≠ 0 then 38 else 0 := by
 have e : oB b p = (oL b).length := Qmq (qj _) h1 fun h => absurd h (by omega)
 rw [clN, qa (by omega), e, qa (by omega)]
def Qeb (P : Prg) (f : Nat) : Prop := ∀ b p : List UInt8, b.length ≤ 1000000 → VC P f [bs b, .str p] (QuP b p)
set_option maxHeartbeats 4000000 in
theorem Qp3 {P : Prg} {f fS fP fT fs fD fB gD gS t0 t1 t2 t3 t4 : Nat} (bd : Qf P f 130 [.cell 4 t0, .tmp 5] (QcK fS fP fT fs fD fB t0 t1 t2 t3 t4)) (ht : ZE P t0 = some (some 4)) (hS : QmS P fS) (bP : Qf P fP 51 [.tmp 6] (QY gD)) (hGD : Qgy P gD) (bT : Qf P fT 78 [.tmp 4, .tmp 5] (ZJ gS)) (hGS : Qan P gS) (hs : QhA P fs) (hD : QbR P fD) (hB : Qcq P fB) : Qeb P f := by
 intro b p hb
 refine Qi 2 (by simp [isDL, isD, Qr]) (Qs5 b p) (Qb bd (by simp) ?_)
 have hlu := Qe b
 have err : ∀ e : Int, clN b p = e → e ≠ 0 → QuP b p = .tup [.agg [.int .i64 0, .int .i64 0, .int .i64 0, .list 0 []], .int .i64 e] := fun e h h0 => by rw [QuP, h, qa h0]; rfl
 have z16 : (z3L : List AV) = ks .i32 Jk := rfl
 unfold QcK
 rw [z16]
 by_cases h1 : 64 < p.length
 ·have e0 : opN b p = 2 := by rw [opN, qc h1]
  rw [err 2 (by rw [QeM (by omega), e0]) (by omega), bs]
  clear err hS bP hGD bT hGS hs hD hB
  simp (disch := omega) only [rq, simprocAttr, QL, ht, Qm]
  simp [QI, Qz, frzL, Qv]
 have hS' := hS b hb
 rw [QAt] at hS'
 by_cases h2 : oE1 b ≠ 0
 ·rw [qa h2, hd0] at hS'
  have e0 : opN b p = oE1 b := by rw [opN, qa h1, qc h2]
  rw [err (oE1 b) (by rw [QeM (by omega), e0]) h2, bs]
  rw [bs] at hS'
  clear err hS bP hGD bT hGS hs hD hB e0
  generalize oE1 b = e at *
  simp (disch := omega) only [rq, simprocAttr]
  refine Qa hS' ?_
  simp (disch := omega) only [rq, simprocAttr, QL, ht, Qm]
  simp [QI, Qz, frzL, Qv]
 have h2' : oE1 b = 0 := Decidable.not_not.1 h2
 rw [qc h2'] at hS'
 have hf := Qga h2'
 have hle := hf.le
 have pass := fun {y : Ob} {tH : Nat} {K : AV → List Ob → Prop} => Qp2 (y := y) (tH := tH) (K := K) bP hGD hf h1
 obtain ⟨D2, hD2⟩ : ∃ D2 : Nat, D2 = oA b + 22 + (if oF b = 2 then 8 else 0) := ⟨_, rfl⟩
 have hdD : ∀ y z : Nat, hdG b y z = [.int .i64 (oF b), .int .i64 (oC b), .int .i64 (oX b), .int .i64 (oR b), .int .i64 (oN b), .int .i64 (oA b), .int .i64 ((oA b + 22 : Nat) : Int), .int .i64 D2, .int .i64 y, .int .i64 z, .list (oL b).length (ks .i64 (oL b))] := fun y z => by rw [hdG, ← hD2]
 by_cases h3 : oE2 b p ≠ 0
 ·have e0 : opN b p = oE2 b p := by rw [opN, qa h1, qa h2, qc h3]
  rw [err (oE2 b p) (by rw [QeM (by omega), e0]) h3]
  simp only [hdD] at pass hS'
  rw [bs] at hS' pass ⊢
  clear err hS bP hGD bT hGS hs hD hB e0 hD2 hdD
  generalize oE2 b p = e at *
  generalize oA b = a at *
  simp (disch := omega) only [rq, simprocAttr]
  refine Qa hS' ?_
  simp (disch := omega) only [rq, simprocAttr]
  refine pass ?_
  simp (disch := omega) only [rq, simprocAttr, QL, ht, Qm]
  simp [QI, Qz, frzL, Qv]
 have h3' : oE2 b p = 0 := Decidable.not_not.1 h3
 rw [h3'] at pass
 have tb := fun {y : Ob} {tH : Nat} {K : AV → List Ob → Prop} => Qny (y := y) (tH := tH) (K := K) bT hGS hf h3'
 have hop : opN b p = skR (oT b p) (oL b).length := by rw [opN, qa h1, qa h2, qa h3]
 by_cases h4 : skR (oT b p) (oL b).length ≠ 0
 ·rw [err _ (by rw [QeM (by omega), hop]) h4]
  simp only [qa h4] at tb
  simp only [hdD] at pass hS' tb
  rw [bs] at hS' pass tb ⊢
  clear err hS bP hGD bT hGS hs hD hB hop hD2 hdD
  generalize skR (oT b p) (oL b).length = e at *
  generalize oA b = a at *
  simp (disch := omega) only [rq, simprocAttr]
  refine Qa hS' ?_
  simp (disch := omega) only [rq, simprocAttr]
  refine pass ?_
  simp (disch := omega) only [rq, simprocAttr]
  refine tb ?_
  simp (disch := omega) only [rq, simprocAttr, QL, ht, Qm]
  simp [QI, Qz, frzL, Qv]
 have h4' := Decidable.not_not.1 h4
 simp only [qc h4'] at tb
 rw [h4'] at hop
 have hs' := hs p
 rw [QeS, qa h1] at hs'
 have hTl : (ofK (XT 0 p) 8).length = 16 := Qbl _ _
 have hTI := Qso (XT 0 p) 8
 have eT : ofK (XT 0 p) 8 = tpT p := rfl
 rw [eT] at hs' hTl hTI
 have oT := Z4 .i32 (tpT p)
 have kT : (ks .i32 (tpT p)).length = 16 := by rw [Qd, hTl]
 have tT : (ks .i32 (tpT p)).take 16 = ks .i32 (tpT p) := qf (by omega)
 have tTT := Qq .i32 (tpT p)
 have ol := Z4 .i32 Jk
 have kl0 : (ks .i32 Jk).length = 16 := rfl
 have zd : (ks .i32 Jk).drop 16 = [] := rfl
 have hl1 := hf.l1
 have hl2 := hf.l2
 have hzL : (oS b p).length = (oL b).length := Z5 _ _
 have hzS : (iL (oS b p)).length = (oL b).length := by rw [Ze]; exact hzL
 have hW := Qo0 hop
 have hWs := QiL b p
 have hin := fun {k : Nat} => QCf (k := k) hop
 have hbad := fun {k : Nat} (hk : k < (oL b).length) h1 h2 => err (ofE b p k) (Qxs (k := k) hop hk h1 h2) h2
 have hall := fun h1 => Qxt hop h1
 have hok : clN b p = 0 → QuP b p = .tup [.agg [.int .i64 (oC b), .int .i64 (oX b), .int .i64 (oR b), .list (smF b p (oL b).length).length (ks .i32 (smF b p (oL b).length))], .int .i64 0] := fun h => by rw [QuP, qc h]; rfl
 have hsl := Qqz b p
 have hkn := hf.hd
 simp only [hdD] at pass hS' tb
 rw [bs] at hS' pass tb ⊢
 have hM0 : oW b p 0 = oM b p := by rw [oW, yV]; simp
 clear hS bP hGD bT hGS hs hop hD2 hdD h2 h3 h4 eT hkn
 simp (disch := omega) only [rq, simprocAttr]
 refine Qa hS' ?_
 simp (disch := omega) only [rq, simprocAttr]
 refine pass ?_
 simp (disch := omega) only [rq, simprocAttr]
 refine tb ?_
 simp (disch := omega) only [rq, simprocAttr, ol, kl0, oT, kT, zd, qX, tT]
 refine Qa hs' ?_
 simp (disch := omega) only [rq, simprocAttr, ol, kl0, oT, kT, zd, qX, tT]
 refine Qg (ι := Nat) (fun k => ⟨[(77, .int .i64 k), (76, .int .i64 (oL b).length), (75, .list (oL b).length (ks .i64 (iL (oS b p)))), (14, .int .i64 (oW b p k)), (12, .ref 4 1 0), (11, .ref 3 1 0), (10, .ref 2 1 0), (6, .ref 1 1 0), (4, .ref 0 1 0), (5, .int .i64 0), (0, .list b.length (u8 b))],
  [⟨t0, 4, 1, [.int .i64 0, .int .i64 0, .int .i64 0, .emp true], 0⟩, ⟨t1, 11, 1, [.int .i64 (oF b), .int .i64 (oC b), .int .i64 (oX b), .int .i64 (oR b), .int .i64 (oN b), .int .i64 (oA b), .int .i64 ((oA b : Int) + 22), .int .i64 D2, .int .i64 (oM b p), .int .i64 (oW b p (oL b).length), .list (oL b).length (ks .i64 (oL b))], 0⟩, ⟨t0, 4, 1, [.int .i64 (oC b), .int .i64 (oX b), .int .i64 (oR b), .own 5 (smF b p k).length], 0⟩, ⟨t2, 2, 1, [.int .i64 (oC b), .int .i64 (oX b)], 0⟩, ⟨t3, 16, 1, ks .i32 (tpT p), 0⟩, ⟨t4, 1, (smF b p k).length, ks .i32 (smF b p k), 0⟩]⟩) (fun k => k ≤ (oL b).length ∧ ∀ j, j < k → ofE b p j = 0) (fun k => (oL b).length - k) 0 (Le.trans (Le.virtC 2 3 t4 1 (by decide) rfl rfl) ?_) ⟨by omega, fun j hj => absurd hj (by omega)⟩ ?_
 ·rw [hM0]
  simp only [smF, yE, QwY]
  exact Qh
 rintro k ⟨hk, hz⟩
 have hWk := hW k
 have hink := hin hz
 have hslk := hsl k
 have kP := Qd .i32 (smF b p k)
 by_cases hlt : k < (oL b).length
 ·have e2 := J8 (K := .i64) (l := iL (oS b p)) (i := k) (by omega)
  rw [Qo8] at e2
  have e3 := J8 (K := .i64) (l := oL b) (i := k) hlt
  have hWsk := hWs k
  by_cases hsh : b.length < oW b p (k + 1)
  ·have e5 : ofE b p k = 24 := by rw [ofE, qc hsh]
   have hE := hbad hlt hz (by omega)
   rw [e5] at hE
   rw [hE]
   rw [hWsk] at hsh
   clear err hbad hall hok hin hsl hWs hW hD hB hE
   generalize oW b p k = s at *
   generalize (oS b p).getD k 0 = z at *
   simp (disch := omega) only [rq, simprocAttr, e2, QL, ht, Qm]
   simp [QI, Qz, frzL, Qv]
  have hbl : (ofB b p k).length = (oS b p).getD k 0 := by rw [ofB, qh, ql]; omega
  have hat : ((u8 b).drop (oW b p k)).take ((oS b p).getD k 0) = u8 (ofB b p k) := by rw [QE, QJ]; rfl
  have hD' := hD (oC b) (oX b) ((oL b).getD k 0) (tpT p) (ofB b p k) hTl hTI (by omega)
  rw [(Qxk _ _ _ _ _).1, shA, bs, il, hbl] at hD'
  have e6 : Qzr (oC b) (oX b) (tpT p) ((oL b).getD k 0) (ofB b p k) = ofP b p k := rfl
  have e7 : ofE b p k = QAe (oC b) (oX b) (tpT p) ((oL b).getD k 0) (ofB b p k) := by rw [ofE, qa hsh]
  rw [e6, ← e7] at hD'
  have kp := Qd .i32 (ofP b p k)
  have hpl := QiK b p k
  have hcat : ks .i32 (smF b p k) ++ ks .i32 (ofP b p k) = ks .i32 (smF b p (k + 1)) := by rw [smF, Qci]
  have hcl : (smF b p (k + 1)).length = (smF b p k).length + (ofP b p k).length := by rw [smF, qx]
  have hsk1 := hsl (k + 1)
  rw [hWsk] at hsh
  by_cases h8 : ofE b p k ≠ 0
  ·rw [hbad hlt hz h8]
   clear err hbad hall hok hin hsl hWs hW hD hB e6 e7 hcat
   generalize ofE b p k = e at *
   generalize ofP b p k = P1 at *
   generalize ofB b p k = B1 at *
   generalize (oL b).getD k 0 = N1 at *
   generalize oW b p k = s at *
   generalize (oS b p).getD k 0 = z at *
   simp (disch := omega) only [rq, simprocAttr, e2, e3, tT, kT, hat, yh]
   refine Qc hD' ?_
   simp (disch := omega) only [rq, simprocAttr, QL, ht, Qm]
   simp [QI, Qz, frzL, Qv]
  have h8' : ofE b p k = 0 := Decidable.not_not.1 h8
  rw [h8'] at hD'
  clear err hbad hall hok hin hsl hWs hW hD hB e6 e7
  generalize ofP b p k = P1 at *
  generalize ofB b p k = B1 at *
  generalize (oL b).getD k 0 = N1 at *
  generalize hsg : oW b p k = s at *
  generalize (oS b p).getD k 0 = z at *
  simp (disch := omega) only [rq, simprocAttr, e2, e3, tT, kT, hat, yh]
  refine Qc hD' ?_
  simp (disch := omega) only [rq, simprocAttr, kP, kp, hcat]
  refine ⟨k + 1, ⟨by omega, fun j hj => ?_⟩, by omega, ?_⟩
  ·by_cases hjk : j < k
   ·exact hz j hjk
   ·rw [show j = k by omega]; exact h8'
  rw [hWsk, hcl]
  simp only [yI]
  exact Qh
 ·obtain rfl : k = (oL b).length := by omega
  have hB' := hB (b.drop (oW b p (oL b).length)) (by rw [ql]; omega)
  have hbl : (b.drop (oW b p (oL b).length)).length = b.length - oW b p (oL b).length := ql
  have hat : ((u8 b).drop (oW b p (oL b).length)).take (b.length - oW b p (oL b).length) = u8 (b.drop (oW b p (oL b).length)) := by
   rw [QE]; exact qf (by rw [Qe, hbl]; exact qj _)
  rw [bs, hbl] at hB'
  have hcl := hall hz
  have tl := Qq .i32 (smF b p (oL b).length)
  by_cases h9 : (bhN (b.drop (oW b p (oL b).length))).2 ≠ 0
  ·rw [qc h9] at hcl
   rw [err 38 hcl (by omega)]
   clear err hbad hall hok hin hsl hWs hW hD hB hcl
   generalize (bhN (b.drop (oW b p (oL b).length))).2 = e at *
   generalize (bhN (b.drop (oW b p (oL b).length))).1 = c at *
   generalize oW b p (oL b).length = s at *
   simp (disch := omega) only [rq, simprocAttr, hat]
   refine Qa hB' ?_
   simp (disch := omega) only [rq, simprocAttr, QL, ht, Qm]
   simp [QI, Qz, frzL, Qv]
  ·rw [qa h9] at hcl
   rw [hok hcl]
   rw [Decidable.not_not.1 h9] at hB'
   clear err hbad hall hok hin hsl hWs hW hD hB hcl h9
   generalize (bhN (b.drop (oW b p (oL b).length))).1 = c at *
   generalize oW b p (oL b).length = s at *
   simp (disch := omega) only [rq, simprocAttr, hat]
   refine Qa hB' ?_
   simp (disch := omega) only [rq, simprocAttr, QL, ht, Qm]
   simp [QI, Qz, frzL, Qv, isDL, isD, frzL_T _ tl]
def Qco (P : Prg) (f : Nat) : Prop := ∀ b p : List UInt8, b.length ≤ 1000000 → VC P f [bs b, .str p] (.int .i64 (clN b p))
theorem QnA {P : Prg} {f fC t0 : Nat} (bd : Qf P f 14 [.tmp 4] (QaI fC t0)) (hC : Qeb P fC) : Qco P f := by
 intro b p hb
 refine Qn (by simp [isDL, isD, Qr]) rfl bd ?_
 have hC' := hC b p hb
 have hlu := Qe b
 rw [QuP] at hC'
 rw [bs] at hC' ⊢
 by_cases h : clN b p = 0
 ·rw [qc h, clA, il] at hC'
  rw [h]
  simp (disch := omega) only [rq, simprocAttr, QaI]
  refine Qa hC' ?_
  simp (disch := omega) only [rq, simprocAttr]
 ·rw [qa h, clA, il] at hC'
  generalize clN b p = e at *
  simp (disch := omega) only [rq, simprocAttr, QaI]
  refine Qa hC' ?_
  simp (disch := omega) only [rq, simprocAttr]
def Qxz (b p : List UInt8) : List AV := [.cell [.int .i64 (oF b), .int .i64 (oC b), .int .i64 (oX b), .int .i64 (oR b), .int .i64 (oN b), .int .i64 (oM b p), .list (oL b).length (ks .i64 (iL (oS b p)))], .cell [.list ((oL b).length + 1) (ks .i64 (iL (Qh2 (oS b p))))], .cell [bs b], .cell [.int .i64 (oC b), .int .i64 (oX b)], .cell (ks .i32 (tpT p)), .cell [.list (oL b).length (ks .i64 (oL b))]]
theorem Qs7 (b p : List UInt8) : isDL (Qxz b p) = true := by simp [Qxz, isDL, isD, ZA, Qr]
def QCa (g : Nat) (b p : List UInt8) : AV := if opN b p = 0 then .tup [.fn (.func g) [] (Qxz b p), .int .i64 (oL b).length, .int .i64 (oW b p (oL b).length), .int .i64 0] else .tup [.lit .nilFunc, .int .i64 0, .int .i64 0, .int .i64 (opN b p)]
theorem Qzg (g : Nat) (b p : List UInt8) : isD (QCa g b p) = true := by unfold QCa; split <;> simp [isD, isDL, Qs7]
def Qyh (b p : List UInt8) (k : Nat) : AV := if ofE b p k ≠ 0 then .tup [.list 0 [], .int .i64 (ofE b p k)] else .tup [bs (QbU (oX b) (ofP b p k)), .int .i64 0]
theorem Ql0 (b p : List UInt8) (k : Nat) : isD (Qyh b p k) = true := by unfold Qyh; split <;> simp [isD, isDL, Qr]
theorem QAg {x : Int} {l : List Int} (hx : J0 x ≠ 0) (h : okQ x l) : Zo x l = 0 := by
 rw [Zo, qa hx, qa (by have := h.1; omega), qc (ya.2 h.2)]
theorem Qrh {f c x r n : Int} (h : hdN f c x r n = 0) : J0 x ≠ 0 := by
 unfold hdN at h
 split at h
 ·rename_i hh
  rcases hh.1.1 with h1 | h1 | h1 <;> rw [h1] <;> decide
 ·cases h
def QBE (P : Prg) (g : Nat) : Prop := ∀ (b p : List UInt8) (k : Nat), opN b p = 0 → k < (oL b).length → VC P g (.int .i64 k :: Qxz b p) (Qyh b p k)
set_option maxHeartbeats 2000000 in
theorem QjZ {P : Prg} {g fD fB : Nat} (bd : Qf P g 56 [.tmp 8, .tmp 9] (ZX fD fB)) (hD : QbR P fD) (hB : Qea P fB) : QBE P g := by
 intro b p k hop hk
 obtain ⟨h64, hf, h2, h3⟩ := Qc2 hop
 refine Qi 1 (by simp [isDL, isD, Qs7]) (Ql0 b p k) (Qb bd (by simp [Qxz]) ?_)
 have hle := hf.le
 have hlu := Qe b
 have hl2 := hf.l2
 obtain ⟨hTl, hTI⟩ := Qvz p
 have kT : (ks .i32 (tpT p)).length = 16 := by rw [Qd, hTl]
 have tT : (ks .i32 (tpT p)).take 16 = ks .i32 (tpT p) := qf (by omega)
 have oT := Z4 .i32 (tpT p)
 have hzL : (oS b p).length = (oL b).length := Z5 _ _
 have hol := Qh1 (oS b p)
 have e0 := J8 (K := .i64) (l := iL (Qh2 (oS b p))) (i := k) (by rw [Ze]; omega)
 have e1 := J8 (K := .i64) (l := iL (Qh2 (oS b p))) (i := k + 1) (by rw [Ze]; omega)
 rw [Qo8, QwG (by omega)] at e0 e1
 have e3 := J8 (K := .i64) (l := oL b) (i := k) hk
 have hW := Qo0 hop k
 have hWs := QiL b p k
 have hW1 : oM b p + ((oS b p).take (k + 1)).sum = oW b p (k + 1) := rfl
 have hW0 : oM b p + ((oS b p).take k).sum = oW b p k := rfl
 have hil : (iL (Qh2 (oS b p))).length = (oL b).length + 1 := by rw [Ze]; omega
 have w0 : (oM b p : Int) + (((oS b p).take k).sum : Nat) = (oW b p k : Int) := by omega
 have w1 : (oM b p : Int) + (((oS b p).take (k + 1)).sum : Nat) = (oW b p (k + 1) : Int) := by omega
 have hM2 : oM b p ≤ 200000 := by omega
 have hs0 : ((oS b p).take k).sum ≤ 200000 := by omega
 have hW2 := Qo0 hop (k + 1)
 have hs1 : ((oS b p).take (k + 1)).sum ≤ 200000 := by omega
 unfold Qyh
 by_cases hsh : b.length < oW b p (k + 1)
 ·have e5 : ofE b p k = 24 := by rw [ofE, qc hsh]
  rw [e5, qc (by omega)]
  clear hD hB e5
  simp only [Qxz, bs]
  generalize oW b p (k + 1) = w at *
  generalize ((oS b p).take (k + 1)).sum = s1 at *
  generalize ((oS b p).take k).sum = s0 at *
  generalize oW b p k = w' at *
  simp (maxSteps := 4000000) (disch := omega) only [rq, simprocAttr, ZX, e0, e1, hil, w0, w1]
  simp [QI, Qz, frzL, Qv]
 have hbl : (ofB b p k).length = (oS b p).getD k 0 := by rw [ofB, qh, ql]; omega
 have hat : ((u8 b).drop (oW b p k)).take ((oS b p).getD k 0) = u8 (ofB b p k) := by rw [QE, QJ]; rfl
 have hD' := hD (oC b) (oX b) ((oL b).getD k 0) (tpT p) (ofB b p k) hTl hTI (by omega)
 have hpe := Qxk (oC b) (oX b) (tpT p) ((oL b).getD k 0) (ofB b p k)
 rw [hpe.1, shA, bs, il, hbl] at hD'
 have e6 : Qzr (oC b) (oX b) (tpT p) ((oL b).getD k 0) (ofB b p k) = ofP b p k := rfl
 have e7 : ofE b p k = QAe (oC b) (oX b) (tpT p) ((oL b).getD k 0) (ofB b p k) := by rw [ofE, qa hsh]
 have hok := hpe.2
 rw [e6] at hok
 rw [e6, ← e7] at hD'
 have hB' := hB (oX b) (ofP b p k) (QAn hok)
 rw [qa (by rw [QAg (Qrh hf.hd) hok]; simp), il] at hB'
 have q0 : oW b p (k + 1) - oW b p k = (oS b p).getD k 0 := by omega
 have kp := Qd .i32 (ofP b p k)
 have hpl := QiK b p k
 by_cases h8 : ofE b p k ≠ 0
 ·rw [qc h8]
  clear hD hB e6 e7 hB' hpe hok
  simp only [Qxz, bs]
  generalize ofE b p k = e at *
  generalize ofP b p k = P1 at *
  generalize ofB b p k = B1 at *
  generalize (oL b).getD k 0 = N1 at *
  generalize oW b p (k + 1) = w at *
  generalize ((oS b p).take (k + 1)).sum = s1 at *
  generalize ((oS b p).take k).sum = s0 at *
  generalize oW b p k = w' at *
  generalize (oS b p).getD k 0 = z at *
  simp (maxSteps := 4000000) (disch := omega) only [rq, simprocAttr, ZX, e0, e1, hil, w0, w1, e3, tT, kT, hat, oT, q0]
  refine Qc hD' ?_
  simp (maxSteps := 4000000) (disch := omega) only [rq, simprocAttr]
  simp [QI, Qz, frzL, Qv]
 have h8' : ofE b p k = 0 := Decidable.not_not.1 h8
 rw [qa h8]
 rw [h8'] at hD'
 clear hD hB e6 e7 hpe hok h8 h8'
 simp only [Qxz, bs] at hB' ⊢
 have ts := Q9 (QbU (oX b) (ofP b p k))
 generalize QbU (oX b) (ofP b p k) = R at *
 generalize ofP b p k = P1 at *
 generalize ofB b p k = B1 at *
 generalize (oL b).getD k 0 = N1 at *
 generalize oW b p (k + 1) = w at *
 generalize ((oS b p).take (k + 1)).sum = s1 at *
 generalize ((oS b p).take k).sum = s0 at *
 generalize oW b p k = w' at *
 generalize (oS b p).getD k 0 = z at *
 simp (maxSteps := 4000000) (disch := omega) only [rq, simprocAttr, ZX, e0, e1, hil, w0, w1, e3, tT, kT, hat, oT, q0]
 refine Qc hD' ?_
 simp (maxSteps := 4000000) (disch := omega) only [rq, simprocAttr]
 refine Qa hB' ?_
 simp (maxSteps := 4000000) (disch := omega) only [rq, simprocAttr]
 simp [QI, Qz, frzL, Qv, frzL_T _ ts]
def Qhb (g : Nat) (P : Prg) (f : Nat) : Prop := ∀ b p : List UInt8, b.length ≤ 1000000 → VC P f [bs b, .str p] (QCa g b p)
set_option maxHeartbeats 2000000 in
theorem QlD {P : Prg} {f fO fM fS fT g t0 t1 t2 t3 t4 : Nat} (bd : Qf P f 67 [.tmp 4, .tmp 5, .tmp 6, .tmp 7] (JG fO fM fS fT g t0 t1 t2 t3 t4)) (hO : Qbf P fO) (hM : Qbj P fM) (hS : Qr7 P fS) (hT : QhA P fT) : Qhb g P f := by
 intro b p hb
 refine Qi 2 (by simp [isDL, Qr, isD]) (Qzg g b p) (Qb bd (by simp) ?_)
 have hO' := hO b p hb
 have hlu := Qe b
 unfold QpU at hO'
 unfold QCa
 by_cases h : opN b p = 0
 case neg =>
  rw [qa h, ix0] at hO'
  rw [qa h]
  rw [bs] at hO' ⊢
  generalize opN b p = e at *
  simp (maxSteps := 4000000) (disch := omega) only [rq, simprocAttr, JG]
  refine Qa hO' ?_
  simp (maxSteps := 4000000) (disch := omega) only [rq, simprocAttr]
  simp [QI, Qz, frzL, Qv, show cV Value.nilFunc = AV.lit Value.nilFunc from rfl]
 rw [qc h, ixA, Xh, Ze] at hO'
 rw [qc h]
 obtain ⟨h64, hf, h2, h3⟩ := Qc2 h
 obtain ⟨g1, g2, g3⟩ := QeX h
 rw [g3] at hO'
 have hM' := hM (oF b) (oC b) (oX b) (oR b) (oN b)
 rw [Qzl, qc hf.hd, hdA, ← oL, Xh] at hM'
 have hS' := hS (oS b p) g2
 have hol := Qh1 (oS b p)
 rw [Xh, Ze, Xh, Ze, hol, g3] at hS'
 have hT' := hT p
 rw [QeS, qa h64] at hT'
 obtain ⟨hTl, hTI⟩ := Qvz p
 have eT : ofK (XT 0 p) 8 = tpT p := rfl
 rw [eT] at hT'
 have kT : (ks .i32 (tpT p)).length = 16 := by rw [Qd, hTl]
 have tT : (ks .i32 (tpT p)).take 16 = ks .i32 (tpT p) := qf (by omega)
 have oT := Z4 .i32 (tpT p)
 have z16 : (z3L : List AV) = ks .i32 Jk := rfl
 have ol := Z4 .i32 Jk
 have kl0 : (ks .i32 Jk).length = 16 := rfl
 have zd : (ks .i32 Jk).drop 16 = [] := rfl
 have e1 := J8 (K := .i64) (l := iL (Qh2 (oS b p))) (i := (oL b).length) (by rw [Ze]; omega)
 rw [Qo8, QwG (by omega)] at e1
 have hil : (iL (Qh2 (oS b p))).length = (oL b).length + 1 := by rw [Ze]; omega
 have hW := Qo0 h (oL b).length
 have w1 : (oM b p : Int) + (((oS b p).take (oL b).length).sum : Nat) = (oW b p (oL b).length : Int) := by rw [oW]; omega
 have hl2 := hf.l2
 have tb := Q9 b
 have tL := Qq .i64 (oL b)
 have tS := Qq .i64 (iL (oS b p))
 have tO := Qq .i64 (iL (Qh2 (oS b p)))
 have tTT := Qq .i32 (tpT p)
 have hs2 := (Qsx g2).1
 have hst := Qay (oS b p) (oL b).length
 rw [Qxz]
 rw [bs] at hO' ⊢
 unfold JG
 rw [z16]
 clear hO hM hS hT eT
 generalize oW b p (oL b).length = w at *
 generalize ((oS b p).take (oL b).length).sum = s at *
 generalize oM b p = m at *
 simp (maxSteps := 4000000) (disch := omega) only [rq, simprocAttr]
 iterate 3 (refine Qa (by assumption) ?_; simp (maxSteps := 4000000) (disch := omega) only [rq, simprocAttr])
 refine Qa hT' ?_
 simp (maxSteps := 4000000) (disch := omega) only [rq, simprocAttr, ol, kl0, oT, kT, zd, qX, tT, e1, hil, w1]
 simp [QI, Qz, frzL, Qv, isDL, isD, frzL_T _ tb, frzL_T _ tL, frzL_T _ tS, frzL_T _ tO, frzL_T _ tTT]
def Qjp (P : Prg) (f : Nat) : Prop := ∀ (b p : List UInt8) (k : Nat), b.length ≤ 1000000 → opN b p = 0 → k < (oL b).length → VC P f [bs b, .str p, .int .i64 k] (Qyh b p k)
theorem Qoy {P : Prg} {f fR g : Nat} (bd : Qf P f 35 [.tmp 6, .tmp 7] (Qac fR)) (hR : Qhb g P fR) (hG : QBE P g) : Qjp P f := by
 intro b p k hb h hk
 refine Qn (by simp [isDL, Qr, isD]) (Ql0 b p k) bd ?_
 have hR' := hR b p hb
 rw [QCa, qc h] at hR'
 have hG' := hG b p k h hk
 have hlu := Qe b
 have hl2 := (Qc2 h).2.1.l2
 unfold Qyh at hG' ⊢
 by_cases h8 : ofE b p k ≠ 0
 ·rw [qc h8] at hG' ⊢
  rw [Qxz] at hR' hG'
  rw [bs] at hR' hG' ⊢
  generalize ofE b p k = e at *
  simp (maxSteps := 4000000) (disch := omega) only [rq, simprocAttr, Qac]
  iterate 2 (refine Qa (by assumption) ?_; simp (maxSteps := 4000000) (disch := omega) only [rq, simprocAttr])
 ·rw [qa h8] at hG' ⊢
  rw [Qxz] at hR' hG'
  rw [bs] at hR' hG' ⊢
  rw [bs] at hG' ⊢
  simp (maxSteps := 4000000) (disch := omega) only [rq, simprocAttr, Qac]
  iterate 2 (refine Qa (by assumption) ?_; simp (maxSteps := 4000000) (disch := omega) only [rq, simprocAttr])
theorem QwJ {b : List UInt8} (h : FOk b) : ∃ n : Nat, oN b = n ∧ n ≤ 4000 ∧ (∀ k, 0 ≤ ((oL b).take k).sum ∧ ((oL b).take k).sum ≤ n) ∧ ∀ k, k < (oL b).length → 0 ≤ (oL b).getD k 0 ∧ (oL b).getD k 0 ≤ n := by
 obtain ⟨m, hm, hok⟩ := Qhv h.hd
 have hm4 : m ≤ 4000 := by have := hok.2.2.2.1; omega
 have hs : (oL b).sum = m := by rw [oL, hm, qu, Qyv]
 have hnn : ∀ v ∈ oL b, 0 ≤ v := fun v hv => by
  rw [oL, QaC, qB] at hv
  rcases hv with hv | hv
  ·rw [List.mem_replicate] at hv
   omega
  ·rw [yd] at hv
   have : ((oN b).toNat - 1) / (ZI (oR b)).toNat * (ZI (oR b)).toNat ≤ (oN b).toNat - 1 := Nat.div_mul_le_self _ _
   omega
 have nn : ∀ l : List Int, (∀ v ∈ l, 0 ≤ v) → 0 ≤ l.sum := fun l => by
  induction l with
  | nil => intro _; simp
  | cons a l ih =>
   intro h
   have h1 := h a (by simp)
   have h2 := ih fun v hv => h v (by simp [hv])
   rw [yB]
   omega
 have h1 : ∀ k, 0 ≤ ((oL b).take k).sum ∧ ((oL b).take k).sum ≤ m := fun k => by
  have a1 := nn ((oL b).take k) fun v hv => hnn v (qM hv)
  have a2 := nn ((oL b).drop k) fun v hv => hnn v (je hv)
  have a3 : ((oL b).take k).sum + ((oL b).drop k).sum = (oL b).sum := by rw [← jk, yz]
  omega
 refine ⟨m, hm, hm4, h1, fun k hk => ?_⟩
 have a4 := h1 k
 have a5 := h1 (k + 1)
 have e : ((oL b).take (k + 1)).sum = ((oL b).take k).sum + (oL b).getD k 0 := by
  rw [qm hk]
  simp only [jk, yB, jU, qe, qg hk, yD, Yf]
 have a6 := hnn _ (yb hk)
 have a7 : (oL b).getD k 0 = (oL b)[k] := by simp [qe, qg hk]
 omega
theorem QwI (b : List UInt8) {k : Nat} (hk : k < (oL b).length) : ((oL b).take (k + 1)).sum = ((oL b).take k).sum + (oL b).getD k 0 := by
 rw [qm hk]
 simp only [jk, yB, jU, qe, qg hk, yD, Yf]
def gdN (b : List UInt8) (k : Nat) : Int := ((oL b).take k).sum * oC b * oX b / 8
def Qsh (P : Prg) (f : Nat) : Prop := ∀ (b : List UInt8) (k : Nat), FOk b → k ≤ (oL b).length → VC P f [hdA (oF b) (oC b) (oX b) (oR b) (oN b), .int .i64 k] (.tup [.int .i64 (gdN b k), .int .i64 0])
theorem Qru {P : Prg} {f fM t0 : Nat} (bd : Qf P f 42 [.tmp 4, .tmp 5] (Qb3 fM t0)) (hM : Qbj P fM) : Qsh P f := by
 intro b k hf hk
 refine Qn rfl rfl bd ?_
 have hM' := hM (oF b) (oC b) (oX b) (oR b) (oN b)
 rw [Qzl, qc hf.hd, ← oL, Xh, hdA] at hM'
 rw [hdA]
 have hl2 := hf.l2
 obtain ⟨n, hn, hn4, hsum, hat⟩ := QwJ hf
 have hkL : (ks .i64 (oL b)).length = (oL b).length := Qd _ _
 have hc : 1 ≤ oC b ∧ oC b ≤ 6 ∧ (oX b = 8 ∨ oX b = 16 ∨ oX b = 24) := by
  have h := hf.hd
  unfold hdN at h
  split at h
  ·rename_i hh; exact ⟨hh.1.2.2.1, hh.1.2.2.2.1, hh.1.1⟩
  ·cases h
 simp (disch := omega) only [rq, simprocAttr, Qb3]
 refine Qa hM' ?_
 simp (disch := omega) only [rq, simprocAttr]
 refine Qg (ι := Nat) (fun j => ⟨[(24, .int .i64 j), (23, .int .i64 k), (8, .int .i64 ((oL b).take j).sum), (6, .list (oL b).length (ks .i64 (oL b))), (2, .ref 0 1 0)], [⟨t0, 5, 1, [.int .i64 (oF b), .int .i64 (oC b), .int .i64 (oX b), .int .i64 (oR b), .int .i64 (oN b)], 0⟩]⟩) (fun j => j ≤ k) (fun j => k - j) 0 ?_ (by omega) ?_
 ·simp only [yV, jU]
  exact Qh
 intro j hj
 have hs := hsum j
 by_cases hlt : j < k
 ·have e3 := J8 (K := .i64) (l := oL b) (i := j) (by omega)
  have hs1 := QwI b (k := j) (by omega)
  have hs2 := hsum (j + 1)
  have ha := hat j (by omega)
  generalize ((oL b).take j).sum = s at *
  generalize (oL b).getD j 0 = z at *
  simp (disch := omega) only [rq, simprocAttr, e3]
  refine ⟨j + 1, by omega, by omega, ?_⟩
  rw [hs1]
  exact Qh
 ·obtain rfl : j = k := by omega
  rw [gdN]
  generalize ((oL b).take j).sum = s at *
  obtain ⟨c1, c2, c3⟩ := hc
  have b1 : 0 ≤ s * oC b ∧ s * oC b ≤ 24000 := by
   have h1 : s * oC b ≤ s * 6 := Int.mul_le_mul_of_nonneg_left c2 hs.1
   have h2 : 0 ≤ s * oC b := Int.mul_nonneg hs.1 (by omega)
   omega
  generalize hsc : s * oC b = sc at *
  have b2 : 0 ≤ sc * oX b ∧ sc * oX b ≤ 1000000 := by
   rcases c3 with h | h | h <;> rw [h] <;> omega
  have q : (sc * oX b).tdiv 8 = sc * oX b / 8 := qJ b2.1
  generalize hsx : sc * oX b = sx at *
  simp (disch := omega) only [rq, simprocAttr, hsc, hsx, q]
theorem Qrj {b : List UInt8} (h : FOk b) (k : Nat) : 0 ≤ gdN b k ∧ gdN b k ≤ 12000 := by
 obtain ⟨n, hn, hn4, hsum, _⟩ := QwJ h
 have hs := hsum k
 have hh := h.hd
 unfold hdN at hh
 split at hh
 case isFalse => cases hh
 rename_i h1
 obtain ⟨⟨c3, _, c1, c2, _⟩, hfit⟩ := h1
 have h2 : (n : Int) ≤ 4000 / oC b := by rw [← hn]; exact hfit.1
 have h3 : (n : Int) * oC b ≤ 4000 := Int.le_trans (Int.mul_le_mul_of_nonneg_right h2 (by omega)) (Int.ediv_mul_le _ (by omega))
 unfold gdN
 generalize ((oL b).take k).sum = s at *
 have b1 : 0 ≤ s * oC b ∧ s * oC b ≤ 4000 := by
  have h1 : s * oC b ≤ n * oC b := Int.mul_le_mul_of_nonneg_right hs.2 (by omega)
  have h2 : 0 ≤ s * oC b := Int.mul_nonneg hs.1 (by omega)
  omega
 generalize s * oC b = sc at *
 rcases c3 with h | h | h <;> rw [h] <;> omega
def ptF (b : List UInt8) (e : Int) : Int := if 100000 < b.length then 0 else if (frN b).2 ≠ 0 then 1 else if hrN (oH b) ≠ 0 then 2 else if e = 26 ∨ (oF b = 2 ∧ b.length < oA b + 30) then 3 else 4
def Qng (P : Prg) (f : Nat) : Prop := ∀ (b p : List UInt8) (e : Int), b.length ≤ 1000000 → VC P f [bs b, .str p, .int .i64 e] (.int .u8 (ptF b e))
theorem Qpm {P : Prg} {f fF fR t0 : Nat} (bd : Qf P f 43 [.tmp 6] (Zf fF fR t0)) (hF : QaL P fF) (hR : QaK P fR) : Qng P f := by
 intro b p e hb
 refine Qn (by simp [isDL, Qr, isD]) rfl bd ?_
 have hlu := Qe b
 by_cases h2 : 100000 < b.length
 ·rw [ptF, qc h2, bs]
  simp (disch := omega) only [rq, simprocAttr, Zf]
 have hF' := hF b hb
 rw [bs] at hF'
 by_cases h3 : (frN b).2 ≠ 0
 ·rw [ptF, qa h2, qc h3, bs]
  generalize (frN b).2 = e' at *
  generalize (frN b).1 = m at *
  simp (disch := omega) only [rq, simprocAttr, Zf]
  refine Qa hF' ?_
  simp (disch := omega) only [rq, simprocAttr]
 have h3' : (frN b).2 = 0 := Decidable.not_not.1 h3
 have ha : (frN b).1 = oA b ∧ oA b ≤ 4000 ∧ oA b ≤ b.length := by
  rcases Qe1 b with ⟨_, n, hn, h4, h5⟩ | ⟨_, h5⟩
  ·rw [oA, hn, qu]; exact ⟨rfl, h4, h5⟩
  ·omega
 rw [h3', ha.1] at hF'
 have hHl : (oH b).length = b.length - oA b := by rw [oH, ql]
 have hR' := hR (oH b) (by omega)
 have hsH : ((u8 b).drop (oA b)).take (b.length - oA b) = u8 (oH b) := by
  rw [QE]; exact qf (by rw [Qe, ql]; exact qj _)
 rw [bs, hHl] at hR'
 rw [hrA] at hR'
 by_cases h4 : hrN (oH b) ≠ 0
 ·rw [ptF, qa h2, qa h3, qc h4, bs]
  rw [qa h4, hdA] at hR'
  generalize hrN (oH b) = e' at *
  generalize oA b = a at *
  simp (disch := omega) only [rq, simprocAttr, Zf]
  refine Qa hF' ?_
  simp (disch := omega) only [rq, simprocAttr, hsH]
  refine Qa hR' ?_
  simp (disch := omega) only [rq, simprocAttr]
 have h4' : hrN (oH b) = 0 := Decidable.not_not.1 h4
 rw [qc h4', hdA] at hR'
 have hR2 : VC P fR [.list (b.length - oA b) (u8 (oH b))] (.tup [.agg [.int .i64 (oF b), .int .i64 (oC b), .int .i64 (oX b), .int .i64 (oR b), .int .i64 (oN b)], .int .i64 0]) := hR'
 rw [ptF, qa h2, qa h3, qa h4, bs]
 clear hR' hR hF h3 h4
 by_cases h5 : e = 26
 ·rw [qc (.inl h5)]
  generalize oA b = a at *
  subst h5
  simp (disch := omega) only [rq, simprocAttr, Zf]
  refine Qa hF' ?_
  simp (disch := omega) only [rq, simprocAttr, hsH]
  refine Qa hR2 ?_
  simp (disch := omega) only [rq, simprocAttr]
 by_cases h6 : oF b = 2
 ·by_cases h7 : b.length < oA b + 30
  ·rw [qc (.inr ⟨h6, h7⟩)]
   rw [h6] at hR2
   generalize oA b = a at *
   simp (disch := omega) only [rq, simprocAttr, Zf]
   refine Qa hF' ?_
   simp (disch := omega) only [rq, simprocAttr, hsH]
   refine Qa hR2 ?_
   simp (disch := omega) only [rq, simprocAttr]
  ·rw [qa (fun h => h.elim h5 fun h => h7 h.2)]
   rw [h6] at hR2
   generalize oA b = a at *
   simp (disch := omega) only [rq, simprocAttr, Zf]
   refine Qa hF' ?_
   simp (disch := omega) only [rq, simprocAttr, hsH]
   refine Qa hR2 ?_
   simp (disch := omega) only [rq, simprocAttr]
 ·rw [qa (fun h => h.elim h5 fun h => h6 h.1)]
  generalize oF b = f' at *
  generalize oA b = a at *
  simp (disch := omega) only [rq, simprocAttr, Zf]
  refine Qa hF' ?_
  simp (disch := omega) only [rq, simprocAttr, hsH]
  refine Qa hR2 ?_
  simp (disch := omega) only [rq, simprocAttr]
theorem QwB (b : List UInt8) (e : Int) : 0 ≤ ptF b e ∧ ptF b e ≤ 4 := by
 unfold ptF
 repeat' split
 all_goals omega
def tdP (b p : List UInt8) : Int := if opN b p ≠ 0 then ptF b (opN b p) else if oB b p < (oL b).length then 5 else if clN b p ≠ 0 then 6 else 0
def tdQ (b p : List UInt8) : Int := if opN b p = 0 ∧ oB b p < (oL b).length then oB b p else 0
def tdG (b p : List UInt8) : Int := if opN b p ≠ 0 then 0 else gdN b (oB b p)
def tdA (b p : List UInt8) : AV := if 64 < p.length then .tup [.agg [.int .i64 0, .int .u8 0, .int .i64 0, .int .i64 0], .int .i64 2] else .tup [.agg [.int .i64 (clN b p), .int .u8 (tdP b p), .int .i64 (tdQ b p), .int .i64 (tdG b p)], .int .i64 0]
theorem Qw1 (b p : List UInt8) : isD (tdA b p) = true := by unfold tdA; split <;> rfl
theorem QCg {b p : List UInt8} {k : Nat} (hk : k < (oL b).length) (h1 : ∀ j, j < k → ofE b p j = 0) (h2 : ofE b p k ≠ 0) : oB b p = k := Qmq (by omega) h1 fun _ => h2
theorem QzZ {b p : List UInt8} (h1 : ∀ j, j < (oL b).length → ofE b p j = 0) : oB b p = (oL b).length := Qmq (qj _) h1 fun h => absurd h (by omega)
theorem QAX (b p : List UInt8) : oB b p ≤ (oL b).length := Qmp _ _
theorem QCh {b p : List UInt8} (h : opN b p = 0) (hc : clN b p = 0) : oB b p = (oL b).length := by
 have hl := QAX b p
 obtain ⟨h1, h2⟩ := QrF (ofE b p) (oL b).length
 by_cases hlt : oB b p < (oL b).length
 ·rw [clN, qa (by omega), qc hlt] at hc
  exact absurd hc (h2 hlt)
 ·omega
def Qec (P : Prg) (f : Nat) : Prop := ∀ b p : List UInt8, b.length ≤ 1000000 → VC P f [bs b, .str p] (tdA b p)
set_option maxHeartbeats 4000000 in
theorem Qrv {P : Prg} {f fC fO fF fR fG t0 t1 : Nat} (bd : Qf P f 73 [.cell 4 t0, .tmp 5] (XC fC fO fF fR fG t0 t1)) (ht : ZE P t0 = some (some 4)) (hC : Qco P fC) (hO : Qbf P fO) (hF : Qng P fF) (hR : Qjp P fR) (hG : Qsh P fG) : Qec P f := by
 intro b p hb
 refine Qi 1 (by simp [isDL, Qr, isD]) (Qw1 b p) (Qb bd (by simp) ?_)
 have hlu := Qe b
 unfold tdA
 by_cases h1 : 64 < p.length
 ·rw [qc h1, bs]
  simp (disch := omega) only [rq, simprocAttr, XC, QL, ht, Qm]
  simp [QI, Qz, frzL, Qv]
 rw [qa h1]
 have hC' := hC b p hb
 have hO' := hO b p hb
 unfold QpU at hO'
 by_cases h2 : opN b p ≠ 0
 ·have hF' := hF b p (opN b p) hb
  rw [qa h2, ix0] at hO'
  have e1 : clN b p = opN b p := QeM h2
  rw [tdP, qc h2, tdQ, qa (fun h => h2 h.1), tdG, qc h2, e1]
  rw [e1] at hC'
  rw [bs] at hC' hO' hF' ⊢
  have hp0 := QwB b (opN b p)
  generalize ptF b (opN b p) = q at *
  generalize opN b p = e at *
  clear e1
  simp (disch := omega) only [rq, simprocAttr, XC]
  iterate 2 (refine Qa (by assumption) ?_; simp (disch := omega) only [rq, simprocAttr])
  refine Qa hF' ?_
  simp (disch := omega) only [rq, simprocAttr, QL, ht, Qm]
  simp [QI, Qz, frzL, Qv]
 have h2' : opN b p = 0 := Decidable.not_not.1 h2
 obtain ⟨_, hf, _, _⟩ := Qc2 h2'
 have hl1 := hf.l1
 have hl2 := hf.l2
 obtain ⟨_, _, g3⟩ := QeX h2'
 rw [qc h2', ixA, Xh, Ze, g3] at hO'
 rw [tdP, qa h2, tdQ, tdG, qa h2]
 simp only [h2', true_and]
 have hR' := fun k (hk : k < (oL b).length) => hR b p k hb h2' hk
 have hG' := fun k (hk : k ≤ (oL b).length) => hG b k hf hk
 have hob := QAX b p
 have hbnd := Qrj hf
 have hsl : (ks .i64 (iL (oS b p))).length = (oL b).length := by rw [Qd, Ze, g3]
 simp only [hdA] at hG'
 rw [bs] at hC' hO' ⊢
 simp only [bs] at hR'
 by_cases hcl : clN b p = 0
 ·have e1 := QCh h2' hcl
  have hG2 := hG' (oL b).length (qj _)
  have hgb := hbnd (oL b).length
  rw [e1, hcl, qa (by omega), qa (by omega), qa (by omega)]
  rw [hcl] at hC'
  clear hG' hR' hbnd e1 hcl hC hO hF hR hG
  generalize gdN b (oL b).length = gd at *
  simp (disch := omega) only [rq, simprocAttr, XC]
  iterate 2 (refine Qa (by assumption) ?_; simp (disch := omega) only [rq, simprocAttr])
  refine Qg (ι := Unit) (fun _ => ⟨[(43, .int .i64 0), (42, .int .i64 (oL b).length), (9, .int .i64 (oL b).length), (7, .ref 2 1 0), (6, .ref 1 1 0), (4, .ref 0 1 0), (5, .int .i64 0)], [⟨t0, 4, 1, [.int .i64 0, .int .u8 0, .int .i64 0, .int .i64 0], 0⟩, ⟨t0, 4, 1, [.int .i64 0, .int .u8 0, .int .i64 0, .int .i64 0], 0⟩, ⟨t1, 7, 1, [.int .i64 (oF b), .int .i64 (oC b), .int .i64 (oX b), .int .i64 (oR b), .int .i64 (oN b), .int .i64 (oM b p), .list (oL b).length (ks .i64 (iL (oS b p)))], 0⟩]⟩) (fun _ => True) (fun _ => 0) () (Qh) trivial ?_
  intro _ _
  simp (disch := omega) only [rq, simprocAttr]
  refine Qa hG2 ?_
  simp (disch := omega) only [rq, simprocAttr, QL, ht, Qm]
  simp [QI, Qz, frzL, Qv]
 ·simp only [qc (show clN b p ≠ 0 from hcl)]
  generalize hcn : clN b p = cl at *
  simp (disch := omega) only [rq, simprocAttr, XC]
  iterate 2 (refine Qa (by assumption) ?_; simp (disch := omega) only [rq, simprocAttr])
  refine Qg (ι := Nat) (fun k => ⟨[(43, .int .i64 k), (42, .int .i64 (oL b).length), (9, .int .i64 (oL b).length), (7, .ref 2 1 0), (6, .ref 1 1 0), (4, .ref 0 1 0), (5, .int .i64 0), (0, .list b.length (u8 b)), (1, .str p)], [⟨t0, 4, 1, [.int .i64 0, .int .u8 0, .int .i64 0, .int .i64 0], 0⟩, ⟨t0, 4, 1, [.int .i64 cl, .int .u8 6, .int .i64 0, .int .i64 0], 0⟩, ⟨t1, 7, 1, [.int .i64 (oF b), .int .i64 (oC b), .int .i64 (oX b), .int .i64 (oR b), .int .i64 (oN b), .int .i64 (oM b p), .list (oL b).length (ks .i64 (iL (oS b p)))], 0⟩]⟩) (fun k => k ≤ (oL b).length ∧ ∀ j, j < k → ofE b p j = 0) (fun k => (oL b).length - k) 0 (Qh) ⟨by omega, fun j hj => absurd hj (by omega)⟩ ?_
  rintro k ⟨hk, hz⟩
  by_cases hlt : k < (oL b).length
  ·have hR2 := hR' k hlt
   unfold Qyh at hR2
   by_cases h8 : ofE b p k ≠ 0
   ·have e1 := QCg hlt hz h8
    have hG2 := hG' k hk
    have hgb := hbnd k
    rw [e1, qc hlt, qc hlt]
    rw [qc h8] at hR2
    clear hG' hR' hbnd e1 hC hO hF hR hG hcn
    generalize ofE b p k = e at *
    generalize gdN b k = gd at *
    simp (disch := omega) only [rq, simprocAttr]
    refine Qa hR2 ?_
    simp (disch := omega) only [rq, simprocAttr]
    refine Qa hG2 ?_
    simp (disch := omega) only [rq, simprocAttr, QL, ht, Qm]
    simp [QI, Qz, frzL, Qv]
   ·rw [qa h8] at hR2
    have h8' := Decidable.not_not.1 h8
    clear hG' hR' hbnd hC hO hF hR hG hcn
    simp only [bs] at hR2
    simp (disch := omega) only [rq, simprocAttr]
    refine Qa hR2 ?_
    simp (disch := omega) only [rq, simprocAttr]
    refine ⟨k + 1, ⟨by omega, fun j hj => ?_⟩, by omega, Qh⟩
    by_cases hjk : j < k
    ·exact hz j hjk
    ·rw [show j = k by omega]; exact h8'
  ·obtain rfl : k = (oL b).length := by omega
   have e1 := QzZ hz
   have hG2 := hG' (oL b).length (qj _)
   have hgb := hbnd (oL b).length
   rw [e1, qa (by omega), qa (by omega)]
   clear hG' hR' hbnd e1 hC hO hF hR hG hcn
   generalize gdN b (oL b).length = gd at *
   simp (disch := omega) only [rq, simprocAttr]
   refine Qa hG2 ?_
   simp (disch := omega) only [rq, simprocAttr, QL, ht, Qm]
   simp [QI, Qz, frzL, Qv]
def rpF (b p : List UInt8) : Rp := ⟨oF b, oC b, oX b, oR b, oN b, oM b p, iL (oS b p), clN b p, tdP b p, tdQ b p, tdG b p⟩
def QA1 (b p : List UInt8) : AV := if opN b p = 0 then .tup [(rpF b p).av, .int .i64 0] else .tup [Rp.zero.av, .int .i64 (opN b p)]
theorem Qs2 (b p : List UInt8) : isD (QA1 b p) = true := by unfold QA1; split <;> simp [isD, isDL, Qz7]
def Qvb (P : Prg) (f : Nat) : Prop := ∀ b p : List UInt8, b.length ≤ 1000000 → VC P f [bs b, .str p] (QA1 b p)
theorem Qy7 {P : Prg} {f fO fT t0 t1 t2 : Nat} (bd : Qf P f 32 [.cell 4 t0, .tmp 5] (QcQ fO fT t0 t1 t2)) (ht : ZE P t0 = some (some 11)) (hO : Qbf P fO) (hT : Qec P fT) : Qvb P f := by
 intro b p hb
 refine Qi 1 (by simp [isDL, Qr, isD]) (Qs2 b p) (Qb bd (by simp) ?_)
 have hlu := Qe b
 have hO' := hO b p hb
 have hT' := hT b p hb
 unfold QpU at hO'
 unfold QA1
 by_cases h : opN b p = 0
 ·obtain ⟨h64, hf, _, _⟩ := Qc2 h
  rw [tdA, qa h64] at hT'
  rw [qc h, ixA, Xh] at hO'
  rw [qc h, Rp.av, rpF]
  have tS := Qq .i64 (iL (oS b p))
  simp only [Xh]
  rw [bs] at hO' hT' ⊢
  generalize clN b p = e at *
  generalize tdP b p = q1 at *
  generalize tdQ b p = q2 at *
  generalize tdG b p = q3 at *
  simp (disch := omega) only [rq, simprocAttr, QcQ]
  refine Qa hO' ?_
  simp (disch := omega) only [rq, simprocAttr]
  refine Qa hT' ?_
  simp (disch := omega) only [rq, simprocAttr, QL, ht, Qm]
  simp [QI, Qz, frzL, Qv, frzL_T _ tS]
 ·rw [qa h, ix0] at hO'
  rw [qa h]
  rw [bs] at hO' ⊢
  generalize opN b p = e at *
  simp (disch := omega) only [rq, simprocAttr, QcQ]
  refine Qa hO' ?_
  simp (disch := omega) only [rq, simprocAttr, QL, ht, Qm]
  simp [QI, Qz, frzL, Qv, Rp.av, Rp.zero, Xh, ks]
def QCV (n : Nat) : Bool := decide (5000 < n ∧ n < 12000) || decide (12100 < n)
def Qm8 (P : Prg) (f : Nat) : Prop := ∀ b : List UInt8, VC P f [bs b] (.bool (QCV b.length))
theorem Qt1 {P : Prg} {f : Nat} (bd : Qf P f 16 [.tmp 2] Zi) : Qm8 P f := by
 intro b
 refine Qn (by simp [isDL, Qr]) rfl bd ?_
 have hlu := Qe b
 unfold QCV
 rw [bs]
 generalize b.length = n at *
 by_cases h1 : 5000 < n
 ·by_cases h2 : n < 12000
  ·rw [decide_eq_true ⟨h1, h2⟩]
   simp (disch := omega) only [rq, simprocAttr, Zi]
  ·rw [decide_eq_false (fun h => h2 h.2)]
   by_cases h3 : 12100 < n
   ·rw [decide_eq_true h3]
    simp (disch := omega) only [rq, simprocAttr, Zi]
   ·rw [decide_eq_false h3]
    simp (disch := omega) only [rq, simprocAttr, Zi]
 ·rw [decide_eq_false (fun h => h1 h.1), decide_eq_false (by omega)]
  simp (disch := omega) only [rq, simprocAttr, Zi]
theorem Qwc (x : Rp) : QBK x x = true ∧ QBL x x = true := by simp [QBK, QCw, QBL]
theorem QqQ {P : Prg} {f : Nat} (bd : Qf P f 27 [.tmp 2, .tmp 3] Z0) : QkY P f := by
 intro l hl
 refine Qn (by simp [isDL, Qr]) rfl bd ?_
 by_cases h4 : l.length ≠ 4
 ·rw [Qp4, qc h4]
  simp (maxSteps := 4000000) (disch := omega) only [rq, simprocAttr, Z0, bs]
 have h4' : l.length = 4 := by omega
 rw [Qp4, qa h4]
 simp (maxSteps := 4000000) (disch := omega) only [rq, simprocAttr, Z0, bs]
 refine Qg (ι := Nat) (fun i => ⟨[(5, .int .i64 i), (4, .int .i64 ((Qp5 (l.take i) : Nat) : Int)), (0, .list l.length (u8 l))], []⟩) (fun i => i ≤ 4 ∧ ∀ c ∈ l.take i, c.toNat < 128) (fun i => 4 - i) 0 (Qk (by simp [Am.look, Qp5])) ⟨yF _, by simp⟩ ?_
 intro i ⟨hi, hb⟩
 have hv := Qk3 (l.take i) hb 0
 rw [yj, yS, qh, qA (by omega)] at hv
 have hv2 : (l.take i).foldl (fun n c => 128 * n + c.toNat) 0 = Qp5 (l.take i) := rfl
 rw [hv2] at hv
 have hp : 128 ^ i ≤ 128 ^ 4 := qq (by omega) hi
 have hp4 : (128 : Nat) ^ 4 = 268435456 := by decide
 by_cases hi4 : i < 4
 case neg =>
  obtain rfl : i = 4 := by omega
  have e : l.take 4 = l := qf (by omega)
  rw [e] at hb ⊢
  rw [qc hb]
  simp (maxSteps := 4000000) (disch := omega) only [rq, simprocAttr]
 have hil : i < l.length := by omega
 have hsn := QnB hil
 have hget := Qoi hil
 have hb8 : l[i].toNat < 256 := l[i].toNat_lt
 by_cases hc : l[i].toNat < 128
 ·have hb2 : ∀ c ∈ l.take (i + 1), c.toNat < 128 := by
   intro c hm
   rw [qm hil] at hm
   rcases qB.1 hm with hm | hm
   ·exact hb c hm
   ·rw [yd.1 hm]; exact hc
  generalize l[i].toNat = b at *
  generalize Qp5 (l.take i) = V at *
  simp (maxSteps := 4000000) (disch := omega) only [rq, simprocAttr, hget]
  refine ⟨i + 1, ⟨by omega, hb2⟩, by omega, ?_⟩
  rw [hsn]
  exact Qh
 ·have hno : ¬ ∀ c ∈ l, c.toNat < 128 := fun h => hc (h _ (yb hil))
  rw [qa hno]
  generalize l[i].toNat = b at *
  simp (maxSteps := 4000000) (disch := omega) only [rq, simprocAttr, hget]
set_option maxHeartbeats 2000000 in
set_option maxRecDepth 4000 in
theorem Qt7 {P : Prg} {f fV : Nat} (bd : Qf P f 95 [.tmp 2, .tmp 3] (Qt fV)) (hV : QkY P fV) : Qef P f := by
 intro b hb
 refine Qn (by simp [isDL, Qr]) rfl bd ?_
 have hlu := Qe b
 have hu3 : List.take 3 (u8 b) = u8 (b.take 3) := QJ _ _
 have hd3 := Q6 (b.take 3)
 by_cases hl3 : b.length < 3
 ·have h3 : b.take 3 ≠ [73, 68, 51] := fun h => by
   have := congrArg List.length h
   rw [qh] at this
   simp at this
   omega
  rw [idN, qc h3]
  simp only [bs]
  simp (maxSteps := 4000000) (disch := omega) only [rq, simprocAttr, Qt]
 have hmin : min 3 b.length = 3 := by omega
 by_cases h3 : b.take 3 ≠ [73, 68, 51]
 ·rw [idN, qc h3]
  have hs : Qbh .neq (b.take 3) [73, 68, 51] = some (.bool true) := by simp [Qbh, h3]
  simp only [bs]
  simp (maxSteps := 4000000) (disch := omega) only [rq, simprocAttr, Qt, hu3, hd3, hs, hmin]
 rw [idN, qa h3]
 have h3' : b.take 3 = [73, 68, 51] := Decidable.not_not.1 h3
 have hs : Qbh .neq (b.take 3) [73, 68, 51] = some (.bool false) := by simp [Qbh, h3']
 by_cases h10 : b.length < 10
 ·rw [qc h10]
  simp only [bs]
  simp (maxSteps := 4000000) (disch := omega) only [rq, simprocAttr, Qt, hu3, hd3, hs, hmin]
 rw [qa h10, QgQ (i := 3) (by omega), QgQ (i := 4) (by omega), QgQ (i := 5) (by omega)]
 have d3 := Qoi (l := b) (i := 3) (by omega)
 have d4 := Qoi (l := b) (i := 4) (by omega)
 have d5 := Qoi (l := b) (i := 5) (by omega)
 have lt3 : b[3].toNat < 256 := b[3].toNat_lt
 have lt4 : b[4].toNat < 256 := b[4].toNat_lt
 have lt5 : b[5].toNat < 256 := b[5].toNat_lt
 generalize b[3].toNat = v at *
 generalize b[4].toNat = z at *
 generalize b[5].toNat = fl at *
 have hV' := hV ((b.drop 6).take 4) (by simp; omega)
 have hs6 : (u8 ((b.drop 6).take 4)) = List.take 4 (List.drop 6 (u8 b)) := by rw [QE, QJ]
 have hl6 : ((b.drop 6).take 4).length = 4 := by simp; omega
 rw [bs, hl6, hs6] at hV'
 have hwb := Qk2 ((b.drop 6).take 4)
 generalize Qp4 ((b.drop 6).take 4) = w at *
 have hform : (w.2 ≠ 0 ∨ z ≠ 0 ∨ Ql6 v fl = false) ↔ (v < 2 ∨ 4 < v ∨ z ≠ 0 ∨ (fl ≠ 0 ∧ (fl ≠ 16 ∨ v ≠ 4)) ∨ w.2 ≠ 0) := by
  unfold Ql6
  by_cases g0 : fl = 0
  ·rw [qc g0]
   simp only [Bool.and_eq_false_iff, Yg]
   constructor <;> intro hh <;> omega
  ·rw [qa g0]
   by_cases g16 : fl = 16
   ·rw [qc g16]
    simp only [Yg]
    constructor <;> intro hh <;> omega
   ·rw [qa g16]
    exact ⟨fun _ => .inr (.inr (.inr (.inl ⟨g0, .inl g16⟩))), fun _ => .inr (.inr rfl)⟩
 simp only [bs]
 by_cases cf : w.2 ≠ 0 ∨ z ≠ 0 ∨ Ql6 v fl = false
 ·rw [qc cf]
  replace cf := hform.1 cf
  simp (maxSteps := 4000000) (disch := omega) only [rq, simprocAttr, Qt, hu3, hd3, hs, hmin]
  refine Qa hV' ?_
  by_cases k1 : v < 2
  ·simp (maxSteps := 4000000) (disch := omega) only [rq, simprocAttr, d3]
  by_cases k2 : 4 < v
  ·simp (maxSteps := 4000000) (disch := omega) only [rq, simprocAttr, d3]
  by_cases k3 : z ≠ 0
  ·have k3' : ¬ z = 0 := k3
   simp (maxSteps := 4000000) (disch := omega) only [rq, simprocAttr, d3, d4]
  have k3' : z = 0 := by omega
  subst k3'
  by_cases k4 : fl = 0
  ·subst k4
   have k5 : w.2 ≠ 0 := by omega
   simp (maxSteps := 4000000) (disch := omega) only [rq, simprocAttr, d3, d4, d5]
  by_cases k5 : fl = 16
  ·subst k5
   by_cases k6 : v = 4
   ·subst k6
    have k7 : w.2 ≠ 0 := by omega
    simp (maxSteps := 4000000) (disch := omega) only [rq, simprocAttr, d3, d4, d5]
   ·simp (maxSteps := 4000000) (disch := omega) only [rq, simprocAttr, d3, d4, d5]
  ·simp (maxSteps := 4000000) (disch := omega) only [rq, simprocAttr, d3, d4, d5]
 rw [qa cf]
 have cf' := fun h => cf (hform.2 h)
 have q1 : 2 ≤ v ∧ v ≤ 4 ∧ z = 0 ∧ (fl = 0 ∨ fl = 16 ∧ v = 4) ∧ w.2 = 0 := by
  refine ⟨?_, ?_, ?_, ?_, ?_⟩
  ·exact Nat.le_of_not_lt fun h => cf' (.inl h)
  ·exact Nat.le_of_not_lt fun h => cf' (.inr (.inl h))
  ·exact Decidable.not_not.1 fun h => cf' (.inr (.inr (.inl h)))
  ·by_cases g0 : fl = 0
   ·exact .inl g0
   ·refine .inr ⟨Decidable.not_not.1 fun h => cf' (.inr (.inr (.inr (.inl ⟨g0, .inl h⟩)))), Decidable.not_not.1 fun h => cf' (.inr (.inr (.inr (.inl ⟨g0, .inr h⟩))))⟩
  ·exact Decidable.not_not.1 fun h => cf' (.inr (.inr (.inr (.inr h))))
 obtain ⟨v1, v2, rfl, hfl, hw0⟩ := q1
 clear cf cf' hform
 obtain ⟨N, hN⟩ : ∃ N : Nat, w.1 = N := ⟨w.1.toNat, by omega⟩
 rw [hN] at hwb ⊢
 rcases hfl with rfl | ⟨rfl, rfl⟩
 ·have e0 : ¬ (0 : Nat) = 16 := by omega
  simp only [e0, yl, Yf, false_and]
  by_cases k1 : (4000 : Int) < (N : Int) + 10
  ·rw [qc k1]
   simp (maxSteps := 4000000) (disch := omega) only [rq, simprocAttr, Qt, hu3, hd3, hs, hmin]
   refine Qa hV' ?_
   simp (maxSteps := 4000000) (disch := omega) only [rq, simprocAttr, d3, d4, d5, hN, hw0]
  rw [qa k1]
  by_cases k2 : (b.length : Int) < (N : Int) + 10
  ·rw [qc k2]
   simp (maxSteps := 4000000) (disch := omega) only [rq, simprocAttr, Qt, hu3, hd3, hs, hmin]
   refine Qa hV' ?_
   simp (maxSteps := 4000000) (disch := omega) only [rq, simprocAttr, d3, d4, d5, hN, hw0]
  rw [qa k2]
  simp (maxSteps := 4000000) (disch := omega) only [rq, simprocAttr, Qt, hu3, hd3, hs, hmin]
  refine Qa hV' ?_
  have ac1 : (10 : Int) + (N : Int) = (N : Int) + 10 := by omega
  simp (maxSteps := 4000000) (disch := omega) only [rq, simprocAttr, d3, d4, d5, hN, hw0, ac1]
 ·simp only [yf, true_and]
  by_cases k1 : (4000 : Int) < (N : Int) + 10 + 10
  ·rw [qc k1]
   simp (maxSteps := 4000000) (disch := omega) only [rq, simprocAttr, Qt, hu3, hd3, hs, hmin]
   refine Qa hV' ?_
   simp (maxSteps := 4000000) (disch := omega) only [rq, simprocAttr, d3, d4, d5, hN, hw0]
  rw [qa k1]
  by_cases k2 : (b.length : Int) < (N : Int) + 10 + 10
  ·rw [qc k2]
   simp (maxSteps := 4000000) (disch := omega) only [rq, simprocAttr, Qt, hu3, hd3, hs, hmin]
   refine Qa hV' ?_
   simp (maxSteps := 4000000) (disch := omega) only [rq, simprocAttr, d3, d4, d5, hN, hw0]
  rw [qa k2]
  have e10 : ((N : Int) + 10 + 10 - 10).toNat = N + 10 := by omega
  have e13 : ((N : Int) + 10 + 10 - 7).toNat = N + 13 := by omega
  rw [e10, e13]
  have ac1 : (10 : Int) + (N : Int) = (N : Int) + 10 := by omega
  have ac2 : (N : Int) + 10 + 10 - 10 = ((N + 10 : Nat) : Int) := by omega
  have ac3 : (N : Int) + 10 + 10 = ((N + 20 : Nat) : Int) := by omega
  have ac4 : N + 20 - (N + 10) = 10 := by omega
  have q3 : List.take 10 (List.drop (N + 10) (u8 b)) = u8 ((b.drop (N + 10)).take 10) := by rw [QE, QJ]
  have q5 : List.take 7 (List.drop 3 (u8 b)) = u8 ((b.drop 3).take 7) := by rw [QE, QJ]
  have e12 : (b.drop (N + 10)).take 10 = (b.drop (N + 10)).take 3 ++ (b.drop (N + 13)).take 7 := by
   have hX : ∀ X : List UInt8, X.take 10 = X.take 3 ++ (X.drop 3).take 7 := fun X => by rw [← List.take_add]
   rw [hX, jN]
  have l2 : ((b.drop (N + 13)).take 7).length = 7 := by simp; omega
  have l3 : ((b.drop 3).take 7).length = 7 := by simp; omega
  have l1 : ((b.drop (N + 10)).take 3).length = 3 := by simp; omega
  have d1 := Q6 ((b.drop (N + 10)).take 10)
  have d2 := Q6 ((b.drop 3).take 7)
  rw [e12] at q3 d1
  generalize (b.drop (N + 10)).take 3 = s1 at *
  generalize (b.drop (N + 13)).take 7 = s2 at *
  generalize (b.drop 3).take 7 = s3 at *
  have hl10 : s1.length + s2.length = 10 := by omega
  have hsa : Qbh .add [51, 68, 73] s3 = some (.str (51 :: 68 :: 73 :: s3)) := by
   simp [Qbh]
   omega
  have hm4 : min 4 (b.length - 6) = 4 := by omega
  have q7 : Qj9 (.int .u8 4 :: .int .u8 0 :: .int .u8 16 :: List.take 4 (List.drop 6 (u8 b))) = some s3 := by
   have h := d2
   rw [← q5, d3, d4, d5] at h
   simpa using h
  by_cases g : s1 = [51, 68, 73] ∧ s2 = s3
  ·have hse : Qbh .neq (s1 ++ s2) (51 :: 68 :: 73 :: s3) = some (.bool false) := by simp [Qbh, g.1, g.2]
   rw [qa (fun h => h g)]
   simp (maxSteps := 4000000) (disch := omega) only [rq, simprocAttr, Qt, hu3, hd3, hs, hmin]
   refine Qa hV' ?_
   simp (maxSteps := 4000000) (disch := omega) only [rq, simprocAttr, d3, d4, d5, hN, hw0, ac1, ac2, ac4, q3, d1, hse, hl10, hm4, q7, hsa]
  ·have hne : s1 ++ s2 ≠ [51, 68, 73] ++ s3 := fun h => by
    have := List.append_inj h (by rw [l1]; rfl)
    exact g this
   have hse : Qbh .neq (s1 ++ s2) (51 :: 68 :: 73 :: s3) = some (.bool true) := by
    have hne' : ¬ s1 ++ s2 = 51 :: 68 :: 73 :: s3 := hne
    simp [Qbh, hne']
   rw [qc g]
   simp (maxSteps := 4000000) (disch := omega) only [rq, simprocAttr, Qt, hu3, hd3, hs, hmin]
   refine Qa hV' ?_
   simp (maxSteps := 4000000) (disch := omega) only [rq, simprocAttr, d3, d4, d5, hN, hw0, ac1, ac2, ac4, q3, d1, hse, hl10, hm4, q7, hsa]
theorem Qwm {P : Prg} {f fW t0 : Nat} (bd : Qf P f 30 [.tmp 6] (JO fW t0)) (hW : Qgw P fW) : Qao P f := by
 intro n c fl hn hc hf
 refine Qi 1 rfl (Qr _) (Qb bd (by simp) ?_)
 have h1 := hW 2000 4 (by omega) (by omega)
 have h2 := hW (n + 32) 4 (by omega) (by omega)
 have h3 := hW c 4 (by omega) (by omega)
 have h4 := hW fl 4 (by omega) (by omega)
 rw [bs, Qy] at h1 h2 h3 h4
 have e : Qaq n c fl = QBu ++ (leB 2000 4 ++ (leB (n + 32) 4 ++ (leB c 4 ++ (leB fl 4 ++ List.replicate 8 0)))) := by
  have z : leB 0 4 = [0, 0, 0, 0] := rfl
  simp only [Qaq, Qnt, yg, Yd, List.flatten_cons, List.flatten_nil, z, qX]
  rfl
 have kA : (u8 (leB 2000 4)).length = 4 := by rw [Qe, Qy]
 have kB : (u8 (leB (n + 32) 4)).length = 4 := by rw [Qe, Qy]
 have kC : (u8 (leB c 4)).length = 4 := by rw [Qe, Qy]
 have kD : (u8 (leB fl 4)).length = 4 := by rw [Qe, Qy]
 generalize leB 2000 4 = A at *
 generalize leB (n + 32) 4 = B at *
 generalize leB c 4 = C at *
 generalize leB fl 4 = D at *
 have hl : (Qaq n c fl).length = 32 := QbJ n c fl 6 (by omega)
 have tE := Q9 (Qaq n c fl)
 have hu : AV.int .u8 65 :: AV.int .u8 80 :: AV.int .u8 69 :: AV.int .u8 84 :: AV.int .u8 65 :: AV.int .u8 71 :: AV.int .u8 69 :: AV.int .u8 88 :: (u8 (A ++ B ++ C ++ D) ++ [.int .u8 0, .int .u8 0, .int .u8 0, .int .u8 0, .int .u8 0, .int .u8 0, .int .u8 0, .int .u8 0]) = u8 (Qaq n c fl) := by
  rw [e]
  simp [u8, QBu]
 have q : ((n : Int) + 32) = ((n + 32 : Nat) : Int) := by omega
 simp (maxSteps := 4000000) (disch := omega) only [rq, simprocAttr, JO]
 refine Qa h1 ?_
 simp (maxSteps := 4000000) (disch := omega) only [rq, simprocAttr, kA]
 refine Qa h2 ?_
 simp (maxSteps := 4000000) (disch := omega) only [rq, simprocAttr, kA, kB]
 refine Qa h3 ?_
 simp (maxSteps := 4000000) (disch := omega) only [rq, simprocAttr, kC]
 refine Qa h4 ?_
 simp (maxSteps := 4000000) (disch := omega) only [rq, simprocAttr, kD]
 rw [hu]
 simp [QI, Qz, frzL, Qv, isDL, isD, bs, hl, frzL_T _ tE]
theorem Qt4 {P : Prg} {f fE : Nat} (bd : Qf P f 8 [.tmp 4] (Z8 fE)) (hE : Qao P fE) (n c : Nat) (hn : n ≤ 1000000) (hc : c ≤ 1000000) : VC P f [.int .i64 n, .int .i64 c] (bs (Qaq n c 2684354560)) := by
 refine Qn rfl (Qr _) bd ?_
 have h := hE n c 2684354560 hn hc (by omega)
 simp (maxSteps := 4000000) (disch := omega) only [rq, simprocAttr, Z8]
 refine Qa h ?_
 simp (maxSteps := 4000000) (disch := omega) only [rq, simprocAttr]
theorem Qt5 {P : Prg} {f fE : Nat} (bd : Qf P f 14 [.tmp 6] (Zv fE)) (hE : Qao P fE) (n c : Nat) (w : Bool) (hn : n ≤ 1000000) (hc : c ≤ 1000000) : VC P f [.int .i64 n, .int .i64 c, .bool w] (bs (Qaq n c (if w then 2147483648 else 0))) := by
 refine Qn rfl (Qr _) bd ?_
 have h := hE n c (if w then 2147483648 else 0) hn hc (by split <;> omega)
 cases w with
 | true =>
  rw [qc rfl] at h ⊢
  simp (maxSteps := 4000000) (disch := omega) only [rq, simprocAttr, Zv]
  refine Qa h ?_
  simp (maxSteps := 4000000) (disch := omega) only [rq, simprocAttr]
 | false =>
  rw [qa jQ] at h ⊢
  simp (maxSteps := 4000000) (disch := omega) only [rq, simprocAttr, Zv]
  refine Qa h ?_
  simp (maxSteps := 4000000) (disch := omega) only [rq, simprocAttr]
def QmT (P : Prg) (f : Nat) : Prop := ∀ b : List UInt8, b.length = 32 → VC P f [bs b] (if QhH b then .tup [.int .i64 ((Zs b - 32 : Nat) : Int), .int .i64 (XU b : Nat), .bool true] else .tup [.int .i64 0, .int .i64 0, .bool false])
theorem Qt3 {P : Prg} {f fO : Nat} (bd : Qf P f 28 [.tmp 2, .tmp 3, .tmp 4] (Zj fO)) (hO : Qcn P fO) : QmT P f := by
 intro b hb
 refine Qn (by simp [isDL, Qr]) (by split <;> rfl) bd ?_
 have h1 := hO ((b.drop 12).take 4) (by simp; omega)
 have h2 := hO ((b.drop 16).take 4) (by simp; omega)
 have l1 : ((b.drop 12).take 4).length = 4 := by simp; omega
 have l2 : ((b.drop 16).take 4).length = 4 := by simp; omega
 have s1 : List.take 4 (List.drop 12 (u8 b)) = u8 ((b.drop 12).take 4) := by rw [QE, QJ]
 have s2 : List.take 4 (List.drop 16 (u8 b)) = u8 ((b.drop 16).take 4) := by rw [QE, QJ]
 rw [bs, l1] at h1
 rw [bs, l2] at h2
 have e1 : leN ((b.drop 12).take 4) = Zs b := rfl
 have e2 : leN ((b.drop 16).take 4) = XU b := rfl
 rw [e1] at h1
 rw [e2] at h2
 have b1 : Zs b < 4294967296 := by have := Qhu ((b.drop 12).take 4); rw [l1] at this; exact this
 have b2 : XU b < 4294967296 := by have := Qhu ((b.drop 16).take 4); rw [l2] at this; exact this
 have hlu := Qe b
 have htk : (QhH b) = (32 ≤ Zs b ∧ Zs b ≤ 3032 ∧ XU b ≤ 1000) := rfl
 have hk : (if QhH b then AV.tup [.int .i64 ((Zs b - 32 : Nat) : Int), .int .i64 (XU b : Nat), .bool true] else .tup [.int .i64 0, .int .i64 0, .bool false]) = if 32 ≤ Zs b ∧ Zs b ≤ 3032 ∧ XU b ≤ 1000 then .tup [.int .i64 ((Zs b - 32 : Nat) : Int), .int .i64 (XU b : Nat), .bool true] else .tup [.int .i64 0, .int .i64 0, .bool false] := by
  by_cases hh : QhH b
  ·rw [qc hh, qc (htk ▸ hh)]
  ·rw [qa hh, qa (htk ▸ hh)]
 rw [hk]
 clear hk htk
 generalize Zs b = n at *
 generalize XU b = c at *
 rw [bs, hb]
 by_cases k : 32 ≤ n ∧ n ≤ 3032 ∧ c ≤ 1000
 ·rw [qc k]
  simp (maxSteps := 4000000) (disch := omega) only [rq, simprocAttr, Zj, s1, hb]
  refine Qa h1 ?_
  simp (maxSteps := 4000000) (disch := omega) only [rq, simprocAttr, s2, hb]
  refine Qa h2 ?_
  have q : ((n : Int) - 32) = ((n - 32 : Nat) : Int) := by omega
  simp (maxSteps := 4000000) (disch := omega) only [rq, simprocAttr, q]
 ·rw [qa k]
  by_cases k1 : n < 32
  ·simp (maxSteps := 4000000) (disch := omega) only [rq, simprocAttr, Zj, s1, hb]
   refine Qa h1 ?_
   simp (maxSteps := 4000000) (disch := omega) only [rq, simprocAttr, s2, hb]
   refine Qa h2 ?_
   simp (maxSteps := 4000000) (disch := omega) only [rq, simprocAttr]
  ·by_cases k2 : 3032 < n
   ·simp (maxSteps := 4000000) (disch := omega) only [rq, simprocAttr, Zj, s1, hb]
    refine Qa h1 ?_
    simp (maxSteps := 4000000) (disch := omega) only [rq, simprocAttr, s2, hb]
    refine Qa h2 ?_
    simp (maxSteps := 4000000) (disch := omega) only [rq, simprocAttr]
   ·simp (maxSteps := 4000000) (disch := omega) only [rq, simprocAttr, Zj, s1, hb]
    refine Qa h1 ?_
    simp (maxSteps := 4000000) (disch := omega) only [rq, simprocAttr, s2, hb]
    refine Qa h2 ?_
    simp (maxSteps := 4000000) (disch := omega) only [rq, simprocAttr]
def Qtr (P : Prg) (f : Nat) : Prop := ∀ n c : Nat, n ≤ 1000000 → c ≤ 1000000 → VC P f [.int .i64 n, .int .i64 c] (bs (Qaq n c 2684354560))
def Qts (P : Prg) (f : Nat) : Prop := ∀ (n c : Nat) (w : Bool), n ≤ 1000000 → c ≤ 1000000 → VC P f [.int .i64 n, .int .i64 c, .bool w] (bs (Qaq n c (if w then 2147483648 else 0)))
theorem QaH (a b : List UInt8) : Qbh .neq a b = some (.bool (!(a == b))) := rfl
theorem QhY (a b : List UInt8) : Qbh .eql a b = some (.bool (a == b)) := rfl
set_option maxHeartbeats 2000000 in
theorem QqP {P : Prg} {f fT fH fF : Nat} (bd : Qf P f 57 [.tmp 2, .tmp 3] (QF fT fH fF)) (hT : QmT P fT) (hH : Qtr P fH) (hF : Qts P fF) : Qcr P f := by
 intro b hb
 refine Qn (by simp [isDL, Qr]) rfl bd ?_
 have hlu := Qe b
 have hu8 : List.take 8 (u8 b) = u8 (b.take 8) := QJ _ _
 have hd8 := Q6 (b.take 8)
 by_cases hl8 : b.length < 8
 ·have h3 : b.take 8 ≠ [65, 80, 69, 84, 65, 71, 69, 88] := fun h => by
   have := congrArg List.length h
   rw [qh] at this
   simp at this
   omega
  rw [apF, qc h3]
  simp only [bs]
  simp (maxSteps := 4000000) (disch := omega) only [rq, simprocAttr, QF]
 have hmin : min 8 b.length = 8 := by omega
 have hn8 := QaH (b.take 8) [65, 80, 69, 84, 65, 71, 69, 88]
 by_cases h3 : b.take 8 ≠ [65, 80, 69, 84, 65, 71, 69, 88]
 ·rw [apF, qc h3]
  rw [show (b.take 8 == [65, 80, 69, 84, 65, 71, 69, 88]) = false from qT.2 h3] at hn8
  simp only [bs]
  simp (maxSteps := 4000000) (disch := omega) only [rq, simprocAttr, QF, hu8, hd8, hmin, hn8]
 rw [apF, qa h3]
 rw [show (b.take 8 == [65, 80, 69, 84, 65, 71, 69, 88]) = true from beq_iff_eq.2 (Decidable.not_not.1 h3)] at hn8
 by_cases h10 : b.length < 32
 ·rw [qc h10]
  simp only [bs]
  simp (maxSteps := 4000000) (disch := omega) only [rq, simprocAttr, QF, hu8, hd8, hmin, hn8]
 rw [qa h10]
 have hm32 : min 32 b.length = 32 := by omega
 have hl32 : (b.take 32).length = 32 := by simp; omega
 have hT' := hT (b.take 32) hl32
 have hu : List.take 32 (u8 b) = u8 (b.take 32) := QJ _ _
 have hdu := Q6 (b.take 32)
 rw [bs, hl32] at hT'
 have hle : ∀ n c fl, (Qaq n c fl).length = 32 := fun n c fl => QbJ n c fl 6 (by omega)
 have hH' := hH (Zs (b.take 32) - 32) (XU (b.take 32))
 have hF' := hF (Zs (b.take 32) - 32) (XU (b.take 32)) true
 rw [qc rfl, bs, hle] at hF'
 rw [bs, hle] at hH'
 have hn1 := QaH (b.take 32) (Qaq (Zs (b.take 32) - 32) (XU (b.take 32)) 2684354560)
 have hn2 := QaH ((b.drop (Zs (b.take 32))).take 32) (Qaq (Zs (b.take 32) - 32) (XU (b.take 32)) 2147483648)
 have hdE1 := Q6 (Qaq (Zs (b.take 32) - 32) (XU (b.take 32)) 2684354560)
 have hdE2 := Q6 (Qaq (Zs (b.take 32) - 32) (XU (b.take 32)) 2147483648)
 have hle1 := hle (Zs (b.take 32) - 32) (XU (b.take 32)) 2684354560
 have hle2 := hle (Zs (b.take 32) - 32) (XU (b.take 32)) 2147483648
 have hdS := Q6 ((b.drop (Zs (b.take 32))).take 32)
 have hS0 : List.take 32 (List.drop (Zs (b.take 32)) (u8 b)) = u8 ((b.drop (Zs (b.take 32))).take 32) := by rw [QE, QJ]
 have hSl : Zs (b.take 32) + 32 ≤ b.length → ((b.drop (Zs (b.take 32))).take 32).length = 32 := fun h => by simp; omega
 have htk : QhH (b.take 32) ↔ (32 ≤ Zs (b.take 32) ∧ Zs (b.take 32) ≤ 3032 ∧ XU (b.take 32) ≤ 1000) := Iff.rfl
 by_cases k0 : QhH (b.take 32)
 case neg =>
  rw [qa k0] at hT'
  rw [qc (.inl fun h => k0 (htk.2 h))]
  simp only [bs]
  simp (maxSteps := 4000000) (disch := omega) only [rq, simprocAttr, QF, hu8, hd8, hmin, hn8, hu]
  refine Qa hT' ?_
  simp (maxSteps := 4000000) (disch := omega) only [rq, simprocAttr]
 rw [qc k0] at hT'
 have k1 := htk.1 k0
 clear htk k0 hle
 generalize hr : (b.take 32 == Qaq (Zs (b.take 32) - 32) (XU (b.take 32)) 2684354560) = r at *
 generalize hr2 : ((b.drop (Zs (b.take 32))).take 32 == Qaq (Zs (b.take 32) - 32) (XU (b.take 32)) 2147483648) = r2 at *
 generalize (b.drop (Zs (b.take 32))).take 32 = S at *
 generalize Qaq (Zs (b.take 32) - 32) (XU (b.take 32)) 2684354560 = E1 at *
 generalize Qaq (Zs (b.take 32) - 32) (XU (b.take 32)) 2147483648 = E2 at *
 clear hr hr2
 generalize Zs (b.take 32) = n at *
 generalize XU (b.take 32) = c at *
 generalize b.take 32 = B1 at *
 obtain ⟨m, rfl⟩ : ∃ m, n = m + 32 := ⟨n - 32, by omega⟩
 rw [jx] at hT' hH' hF'
 have hH2 := hH' (by omega) (by omega)
 have hF2 := hF' (by omega) (by omega)
 simp only [bs]
 cases r with
 | false =>
  rw [qc (.inr rfl)]
  simp (maxSteps := 4000000) (disch := omega) only [rq, simprocAttr, QF, hu8, hd8, hmin, hn8, hu, hm32]
  refine Qa hT' ?_
  simp (maxSteps := 4000000) (disch := omega) only [rq, simprocAttr, hu, hdu, hl32]
  refine Qc hH2 ?_
  simp (maxSteps := 4000000) (disch := omega) only [rq, simprocAttr, hdE1, hle1, hn1, yU]
 | true =>
  rw [qa (fun h => h.elim (fun h => h k1) (fun h => Bool.noConfusion h))]
  by_cases k2 : b.length < m + 32 + 32
  ·rw [qc k2]
   simp (maxSteps := 4000000) (disch := omega) only [rq, simprocAttr, QF, hu8, hd8, hmin, hn8, hu, hm32]
   refine Qa hT' ?_
   simp (maxSteps := 4000000) (disch := omega) only [rq, simprocAttr, hu, hdu, hl32]
   refine Qc hH2 ?_
   simp (maxSteps := 4000000) (disch := omega) only [rq, simprocAttr, hdE1, hle1, hn1, yG]
  rw [qa k2]
  have hSl2 := hSl (by omega)
  have q1 : (64 : Int) + (m : Int) - 32 = ((m + 32 : Nat) : Int) := by omega
  have q0 : (64 : Int) + (m : Int) = ((m + 64 : Nat) : Int) := by omega
  have q2 : m + 64 - (m + 32) = 32 := by omega
  cases r2 with
  | false =>
   rw [qc rfl]
   simp (maxSteps := 4000000) (disch := omega) only [rq, simprocAttr, QF, hu8, hd8, hmin, hn8, hu, hm32]
   refine Qa hT' ?_
   simp (maxSteps := 4000000) (disch := omega) only [rq, simprocAttr, hu, hdu, hl32]
   refine Qc hH2 ?_
   simp (maxSteps := 4000000) (disch := omega) only [rq, simprocAttr, hdE1, hle1, hn1, yG, q0, q1, q2, hS0, hdS, hSl2]
   refine Qc hF2 ?_
   simp (maxSteps := 4000000) (disch := omega) only [rq, simprocAttr, hdE2, hle2, hn2, yU]
  | true =>
   rw [qa (fun h => Bool.noConfusion h)]
   simp (maxSteps := 4000000) (disch := omega) only [rq, simprocAttr, QF, hu8, hd8, hmin, hn8, hu, hm32]
   refine Qa hT' ?_
   simp (maxSteps := 4000000) (disch := omega) only [rq, simprocAttr, hu, hdu, hl32]
   refine Qc hH2 ?_
   simp (maxSteps := 4000000) (disch := omega) only [rq, simprocAttr, hdE1, hle1, hn1, yG, q0, q1, q2, hS0, hdS, hSl2]
   refine Qc hF2 ?_
   have q3 : (m : Int) + 64 = (m : Int) + 32 + 32 := by omega
   simp (maxSteps := 4000000) (disch := omega) only [rq, simprocAttr, hdE2, hle2, hn2, yG]
   rw [q3]
theorem QBv (n c : Nat) : Qaq n c 0 ≠ Qaq n c 2147483648 := by
 intro h
 have z : ∀ fl, Qaq n c fl = (QBu ++ leB 2000 4 ++ leB (n + 32) 4 ++ leB c 4) ++ (leB fl 4 ++ (leB 0 4 ++ leB 0 4)) := fun fl => by simp [Qaq, Qnt]
 rw [z, z] at h
 have h1 := List.append_cancel_left h
 have h2 := (List.append_inj h1 (by rw [Qy, Qy])).1
 exact absurd h2 (by decide)
set_option maxHeartbeats 4000000 in
theorem Qt6 {P : Prg} {f fT fF fH : Nat} (bd : Qf P f 87 [.tmp 2, .tmp 3] (QD fT fF fH)) (hT : QmT P fT) (hF : Qts P fF) (hH : Qtr P fH) : QcZ P f := by
 intro b hb
 refine Qn (by simp [isDL, Qr]) rfl bd ?_
 have hlu := Qe b
 by_cases h0 : b.length < 32
 ·rw [apB, QBM, qc (.inl h0)]
  simp only [bs]
  simp (maxSteps := 4000000) (disch := omega) only [rq, simprocAttr, QD]
 obtain ⟨m, hm⟩ : ∃ m, b.length = m + 32 := ⟨b.length - 32, by omega⟩
 rw [apB, show b.length - 32 = m by omega]
 have hTl : (b.drop m).length = 32 := by rw [ql]; omega
 have hsl : ((u8 b).drop m).take 32 = u8 (b.drop m) := by rw [QE]; exact qf (by rw [Qe]; omega)
 have hs8 : ((u8 b).drop m).take 8 = u8 ((b.drop m).take 8) := by rw [QE, QJ]
 have hd8 := Q6 ((b.drop m).take 8)
 have hl8 : ((b.drop m).take 8).length = 8 := by rw [qh]; omega
 generalize hTT : b.drop m = T at *
 have hT' := hT T hTl
 rw [bs, hTl] at hT'
 have q0 : ((m + 32 : Nat) : Int) - 32 = (m : Int) := by omega
 have q1 : m + 32 - m = 32 := by omega
 have q8 : m + 8 - m = 8 := by omega
 have hn8 := QaH (T.take 8) [65, 80, 69, 84, 65, 71, 69, 88]
 have hdT := Q6 T
 unfold QBM
 by_cases h3 : T.take 8 ≠ [65, 80, 69, 84, 65, 71, 69, 88]
 ·rw [qc (.inr h3)]
  rw [show (T.take 8 == [65, 80, 69, 84, 65, 71, 69, 88]) = false from qT.2 h3] at hn8
  simp only [bs, hm]
  simp (maxSteps := 4000000) (disch := omega) only [rq, simprocAttr, QD, q0, q1, q8, hsl, hs8, hd8, hl8, hm, hn8]
 rw [qa (fun h => h.elim h0 h3)]
 rw [show (T.take 8 == [65, 80, 69, 84, 65, 71, 69, 88]) = true from beq_iff_eq.2 (Decidable.not_not.1 h3)] at hn8
 have hle : ∀ n c fl, (Qaq n c fl).length = 32 := fun n c fl => QbJ n c fl 6 (by omega)
 have hne := QBv (Zs T - 32) (XU T)
 have hH' := hH (Zs T - 32) (XU T)
 have hF1 := hF (Zs T - 32) (XU T) true
 have hF0 := hF (Zs T - 32) (XU T) false
 rw [qc rfl, bs, hle] at hF1
 rw [qa jQ, bs, hle] at hF0
 rw [bs, hle] at hH'
 have hb1 := QhY T (Qaq (Zs T - 32) (XU T) 2147483648)
 have hb0 := QaH T (Qaq (Zs T - 32) (XU T) 0)
 have hdE0 := Q6 (Qaq (Zs T - 32) (XU T) 0)
 have hdE1 := Q6 (Qaq (Zs T - 32) (XU T) 2147483648)
 have hdE2 := Q6 (Qaq (Zs T - 32) (XU T) 2684354560)
 have hle0 := hle (Zs T - 32) (XU T) 0
 have hle1 := hle (Zs T - 32) (XU T) 2147483648
 have hle2 := hle (Zs T - 32) (XU T) 2684354560
 have hexc : (T == Qaq (Zs T - 32) (XU T) 2147483648) = true → (T == Qaq (Zs T - 32) (XU T) 0) = false := fun h => by
  have e := eq_of_beq h
  exact qT.2 fun h2 => hne (h2.symm.trans e)
 have htk : QhH T ↔ (32 ≤ Zs T ∧ Zs T ≤ 3032 ∧ XU T ≤ 1000) := Iff.rfl
 simp only [bs, hm]
 by_cases k0 : QhH T
 case neg =>
  rw [qa k0] at hT'
  rw [qc (fun h => k0 (htk.2 h))]
  simp (maxSteps := 4000000) (disch := omega) only [rq, simprocAttr, QD, q0, q1, q8, hsl, hs8, hd8, hl8, hm, hn8]
  refine Qa hT' ?_
  simp (maxSteps := 4000000) (disch := omega) only [rq, simprocAttr]
 rw [qc k0] at hT'
 have k1 := htk.1 k0
 rw [qa (fun h => h k1)]
 have hS0 : ∀ k, List.take 32 (List.drop k (u8 b)) = u8 ((b.drop k).take 32) := fun k => by rw [QE, QJ]
 have hdS := Q6 ((b.drop (m + 32 - (Zs T + 32))).take 32)
 have hn2 := QaH ((b.drop (m + 32 - (Zs T + 32))).take 32) (Qaq (Zs T - 32) (XU T) 2684354560)
 have hSl : Zs T + 32 ≤ b.length → ((b.drop (m + 32 - (Zs T + 32))).take 32).length = 32 := fun h => by simp; omega
 have hS1 := hS0 (m + 32 - (Zs T + 32))
 clear htk k0 hle hne hS0
 generalize (T == Qaq (Zs T - 32) (XU T) 0) = r0 at *
 generalize (T == Qaq (Zs T - 32) (XU T) 2147483648) = r1 at *
 generalize ((b.drop (m + 32 - (Zs T + 32))).take 32 == Qaq (Zs T - 32) (XU T) 2684354560) = r2 at *
 generalize (b.drop (m + 32 - (Zs T + 32))).take 32 = S at *
 generalize Qaq (Zs T - 32) (XU T) 0 = E0 at *
 generalize Qaq (Zs T - 32) (XU T) 2147483648 = E1 at *
 generalize Qaq (Zs T - 32) (XU T) 2684354560 = E2 at *
 generalize Zs T = n at *
 generalize XU T = c at *
 obtain ⟨i, rfl⟩ : ∃ i, n = i + 32 := ⟨n - 32, by omega⟩
 simp only [jx] at hT' hH' hF1 hF0 ⊢
 have hH2 := hH' (by omega) (by omega)
 have hF1' := hF1 (by omega) (by omega)
 have hF0' := hF0 (by omega) (by omega)
 have a1 : (32 : Int) + (i : Int) = ((i + 32 : Nat) : Int) := by omega
 cases r1 with
 | false =>
  cases r0 with
  | false =>
   rw [qa jQ, qc rfl]
   simp (maxSteps := 4000000) (disch := omega) only [rq, simprocAttr, QD, q0, q1, q8, hsl, hs8, hd8, hl8, hm, hn8]
   refine Qa hT' ?_
   simp (maxSteps := 4000000) (disch := omega) only [rq, simprocAttr, hdT, hTl]
   refine Qc hF1' ?_
   simp (maxSteps := 4000000) (disch := omega) only [rq, simprocAttr, hdE1, hle1, hb1, hdT, hTl, yU]
   refine Qc hF0' ?_
   simp (maxSteps := 4000000) (disch := omega) only [rq, simprocAttr, hdE0, hle0, hb0, yU]
  | true =>
   rw [qc rfl]
   by_cases k2 : m < i
   ·rw [qc k2]
    simp (maxSteps := 4000000) (disch := omega) only [rq, simprocAttr, QD, q0, q1, q8, hsl, hs8, hd8, hl8, hm, hn8]
    refine Qa hT' ?_
    simp (maxSteps := 4000000) (disch := omega) only [rq, simprocAttr, hdT, hTl]
    refine Qc hF1' ?_
    simp (maxSteps := 4000000) (disch := omega) only [rq, simprocAttr, hdE1, hle1, hb1, hdT, hTl, yU]
    refine Qc hF0' ?_
    simp (maxSteps := 4000000) (disch := omega) only [rq, simprocAttr, hdE0, hle0, hb0, yG, hm]
   ·rw [qa k2]
    simp (maxSteps := 4000000) (disch := omega) only [rq, simprocAttr, QD, q0, q1, q8, hsl, hs8, hd8, hl8, hm, hn8]
    refine Qa hT' ?_
    simp (maxSteps := 4000000) (disch := omega) only [rq, simprocAttr, hdT, hTl]
    refine Qc hF1' ?_
    simp (maxSteps := 4000000) (disch := omega) only [rq, simprocAttr, hdE1, hle1, hb1, hdT, hTl, yU]
    refine Qc hF0' ?_
    simp (maxSteps := 4000000) (disch := omega) only [rq, simprocAttr, hdE0, hle0, hb0, yG, hm, a1]
 | true =>
  rw [hexc rfl, qa jQ, qa (fun h => Bool.noConfusion h)]
  by_cases k2 : m + 32 < i + 32 + 32
  ·rw [qc k2]
   simp (maxSteps := 4000000) (disch := omega) only [rq, simprocAttr, QD, q0, q1, q8, hsl, hs8, hd8, hl8, hm, hn8]
   refine Qa hT' ?_
   simp (maxSteps := 4000000) (disch := omega) only [rq, simprocAttr, hdT, hTl]
   refine Qc hF1' ?_
   simp (maxSteps := 4000000) (disch := omega) only [rq, simprocAttr, hdE1, hle1, hb1, hdT, hTl, yG, hm]
  rw [qa k2]
  obtain ⟨k, rfl⟩ : ∃ k, m = k + i + 32 := ⟨m - i - 32, by omega⟩
  have e4 : k + i + 32 + 32 - (i + 32 + 32) = k := by omega
  rw [e4] at hS1
  have hSl2 := hSl (by omega)
  have q2 : ((k + i + 32 + 32 : Nat) : Int) - ((32 : Int) + (i : Int) + 32) = (k : Int) := by omega
  have q3 : k + 32 - k = 32 := by omega
  have q5 : k + i + 32 - (32 + i) = k := by omega
  have q6 : min 32 (k + i + 32 + 32 - k) = 32 := by omega
  cases r2 with
  | false =>
   rw [qc rfl]
   simp (maxSteps := 4000000) (disch := omega) only [rq, simprocAttr, QD, q0, q1, q8, hsl, hs8, hd8, hl8, hm, hn8]
   refine Qa hT' ?_
   simp (maxSteps := 4000000) (disch := omega) only [rq, simprocAttr, hdT, hTl]
   refine Qc hF1' ?_
   simp (maxSteps := 4000000) (disch := omega) only [rq, simprocAttr, hdE1, hle1, hb1, hdT, hTl, yG, hm, q2, q5, q3, q6, hS1, hdS, hSl2]
   refine Qc hH2 ?_
   simp (maxSteps := 4000000) (disch := omega) only [rq, simprocAttr, hdE2, hle2, hn2, yU]
  | true =>
   rw [qa (fun h => Bool.noConfusion h)]
   simp (maxSteps := 4000000) (disch := omega) only [rq, simprocAttr, QD, q0, q1, q8, hsl, hs8, hd8, hl8, hm, hn8]
   refine Qa hT' ?_
   simp (maxSteps := 4000000) (disch := omega) only [rq, simprocAttr, hdT, hTl]
   refine Qc hF1' ?_
   simp (maxSteps := 4000000) (disch := omega) only [rq, simprocAttr, hdE1, hle1, hb1, hdT, hTl, yG, hm, q2, q5, q3, q6, hS1, hdS, hSl2]
   refine Qc hH2 ?_
   have q7 : (32 : Int) + (i : Int) + 32 = (i : Int) + 32 + 32 := by omega
   simp (maxSteps := 4000000) (disch := omega) only [rq, simprocAttr, hdE2, hle2, hn2, yG]
   rw [q7]
end Go.Am
