/- What the functions that the law reaches return, for every program that has their code; the conditions stand in each statement. -/
import Derived.Lib.ItoaLen
import Derived.Test.YtpfhdmbamkdnpaaGreatDoorLinesNamesD1
set_option linter.unusedSectionVars false
set_option linter.unusedSimpArgs false
set_option linter.unusedVariables false
namespace Go.Am
open Go.RowKit
theorem Qgx (l : List UInt8) : isTL (u8 l) = true := by
 induction l with
 | nil => rfl
 | cons x l ih => simp [Qhy, isTL, isT, ih]
def Qn3 (b : Int) : Int := if b = 8 then 128 else if b = 16 then 32768 else if b = 24 then 8388608 else 0
def il (l : List Int) : AV := .list l.length (ks .i32 l)
theorem Qcg (l : List Int) : isD (il l) = true := by simp [il, isD, XC]
def inR (b x : Int) : Bool := decide (-Qn3 b ≤ x) && decide (x < Qn3 b)
def QoK (b : Int) (l : List Int) : Int := if Qn3 b = 0 then 2 else if 4000 < l.length then 4 else if l.all (inR b) then 0 else 16
def QG (r : Int) : Int := if 256 * r / 245 < 1 then 1 else 256 * r / 245
theorem JI (r : Int) : 1 ≤ QG r := by unfold QG; split <;> omega
theorem Qme {r : Int} (h : r ≤ 1048576) : QG r ≤ 1095654 := by unfold QG; split <;> omega
def Qdi (r : Int) : AV := if r < 1 ∨ 1048576 < r then .tup [.int .i64 0, .int .i64 2] else .tup [.int .i64 (QG r), .int .i64 0]
def QcX (P : Prg) (f : Nat) : Prop := ∀ r : Int, VC P f [.int .i64 r] (Qdi r)
theorem Qmj (r : Int) : isD (Qdi r) = true := by unfold Qdi; split <;> rfl
theorem Qgs {P : Prg} {f : Nat} (b : Body P f 14 [.tmp 2, .tmp 3] QW) : QcX P f := by
 intro r
 refine Xv rfl (Qmj r) b ?_
 by_cases h1 : r < 1
 ·simp (disch := omega) only [rq, simprocAttr, QW, Qdi, true_or]
 by_cases h2 : 1048576 < r
 ·simp (disch := omega) only [rq, simprocAttr, QW, Qdi, or_true]
 have h3 : 1 ≤ 256 * r / 245 := by omega
 simp (disch := omega) only [rq, simprocAttr, QW, Qdi, or_self, QG]
 rw [show (if (1 : Int) < 256 * r / 245 then 256 * r / 245 else 1) = 256 * r / 245 by split <;> omega]
def QgR (c b : Int) : Int := if Qn3 b = 0 ∨ c < 1 ∨ 6 < c then 2 else 0
def shA (c b : Int) : AV := .agg [.int .i64 c, .int .i64 b]
def bss (l : List (List UInt8)) : AV := .list l.length (l.map bs)
theorem QiS : ∀ l : List (List UInt8), isDL (l.map bs) = true
 | [] => rfl
 | x :: l => by simp [isDL, Jr, QiS l]
theorem QnC (l : List (List UInt8)) : isD (bss l) = true := by simp [bss, isD, QiS]
theorem Qfb : ∀ l : List (List UInt8), isTL (l.map bs) = true
 | [] => rfl
 | x :: l => by
  have : isT (bs x) = true := by simp [bs, isT]; induction x with | nil => rfl | cons y x ih => simp [Qhy, isTL, isT, ih]
  simp [isTL, this, Qfb l]
def w32 (x : Int) : Int := IntKind.i32.wrap x
structure QfW where
 sh : Int
 tp : List Int
 ps : List Int
def QpP (a b : List Int) : Nat → Int
 | 0 => 0
 | k + 1 => QpP a b k + a.getD k 0 * b.getD k 0
def Qoh (s : Int) : Int := if s = 9 then 512 else 1024
def Qov (f : QfW) : Int := w32 (Qoh f.sh / 2 + QpP f.tp f.ps 16) / Qoh f.sh
def Qpd (i : Nat) : Int := if i = 0 then 4 else if i < 4 then 2 else 1
def sgn (x : Int) : Int := if x < 0 then -1 else if 0 < x then 1 else 0
def QpU (x : QfW) (w : Int) (k : Nat) : Int := w32 (x.tp.getD k 0 + Qpd k * sgn (x.ps.getD k 0) * sgn w)
def Qol (x : QfW) (w : Int) (k : Nat) : List Int := (List.range 16).map fun i => if i < k then QpU x w i else x.tp.getD i 0
def lf (x : QfW) (w : Int) (k : Nat) : QfW := { x with tp := Qol x w k }
def Qom (x : QfW) (w : Int) : QfW := lf x w 16
def Qpj (x : QfW) (v : Int) : QfW := { x with ps := v :: x.ps.take 15 }
def QnQ (x : QfW) (v y : Int) : QfW := Qpj (Qom x y) v
def Qp6 (x : QfW) (v : Int) : Int := w32 (v - Qov x)
def Qp7 (x : QfW) (v : Int) : QfW := QnQ x v (Qp6 x v)
def Qoy (b last : Int) : Int := if b = 8 then 15 * last / 16 else 31 * last / 32
structure Qn0 where
 bits : Int
 last : Int
 fl : QfW
def QpE (c : Qn0) (x : Int) : Int := w32 (x - Qoy c.bits c.last)
def QpF (c : Qn0) (x : Int) : Qn0 := ⟨c.bits, x, Qp7 c.fl (QpE c x)⟩
def Qpi (x : QfW) (k : Nat) : List Int := (List.range 16).map fun j => if k < j then x.ps.getD (j - 1) 0 else x.ps.getD j 0
def pf (x : QfW) (k : Nat) : QfW := { x with ps := Qpi x k }
theorem QkO {K : IntKind} {l : List Int} {i : Nat} (h : i < l.length) : (ks K l).drop i = .int K (l.getD i 0) :: ks K (l.drop (i + 1)) := by
 rw [QnM h]; simp [qh, qd h]
theorem QgQ (c x : Int) : QgR c x = 2 ∨ (QgR c x = 0 ∧ Qn3 x ≠ 0 ∧ 1 ≤ c ∧ c ≤ 6) := by unfold QgR; split <;> omega
def stC (c : Nat) (L : List Int) (z : Qn0) (k : Nat) : Nat → Qn0
 | 0 => z
 | n + 1 => QpF (stC c L z k n) (L.getD (k + n * c) 0)
def cnt (c k i : Nat) : Nat := if k < i % c then i / c + 1 else i / c
def stA (c : Nat) (L : List Int) (z : Qn0) (i : Nat) : Nat → Qn0 := fun k => if k < c then stC c L z k (cnt c k i) else z
theorem QmK (os : List Ob) {xs : List Ob} {fr fr' : List (Nat × AV)} (h : ∀ o ∈ os, isTL o.cs = true)
  (hfr : ∀ p ∈ fr', p.2 = .any ∨ Q5 (fun o => decide (o < os.length)) (fun o => decide (os.length ≤ o)) (os ++ xs) 2 [look fr p.1] = some [p.2]) : Le 0 ⟨fr, os ++ xs⟩ ⟨fr', os⟩ := by
 refine Le.drop os.length 2 (by omega) rfl hfr ?_
 intro i y hy
 have hi : i < os.length := by
  rcases yO i os.length with h | h
  ·exact h
  ·rw [qL h] at hy; cases hy
 refine ⟨y.cs, by rw [qj hi]; exact hy, ?_⟩
 simp only [Q5]
 exact frzL_T _ (h y (qK hy))
theorem QmN (K : IntKind) : ∀ n : Nat, Qi [.int K 0] n = ks K (List.replicate n 0)
 | 0 => rfl
 | n + 1 => by rw [Qi, QmN K n]; simp [ks, List.replicate_succ]
def QgS (r n : Int) : AV := if r < 1 ∨ 1048576 < r then .tup [.int .i64 0, .int .i64 2] else if n < 1 ∨ 4000 < n then .tup [.int .i64 0, .int .i64 2] else if 1000 < (n + QG r - 1) / QG r then .tup [.int .i64 0, .int .i64 4] else .tup [.int .i64 ((n + QG r - 1) / QG r), .int .i64 0]
theorem QnB (r n : Int) : isD (QgS r n) = true := by unfold QgS; split <;> (try split) <;> (try split) <;> rfl
def QbN (P : Prg) (f : Nat) : Prop := ∀ r n : Int, VC P f [.int .i64 r, .int .i64 n] (QgS r n)
theorem Qe8 {P : Prg} {f fL : Nat} (b : Body P f 32 [.tmp 4, .tmp 5] (Zs fL)) (hL : QcX P fL) : QbN P f := by
 intro r n
 refine Xv rfl (QnB _ _) b ?_
 have hL' := hL r
 simp (disch := omega) only [rq, simprocAttr, Zs]
 refine Qa hL' ?_
 by_cases h1 : r < 1 ∨ 1048576 < r
 ·have e1 : Qdi r = .tup [.int .i64 0, .int .i64 2] := by rw [Qdi, qG h1]
  have e2 : QgS r n = .tup [.int .i64 0, .int .i64 2] := by rw [QgS, qG h1]
  simp (disch := omega) only [rq, simprocAttr, e1, e2]
 have e1 : Qdi r = .tup [.int .i64 (QG r), .int .i64 0] := by rw [Qdi, qF h1]
 have p1 := JI r
 have p2 := Qme (r := r) (by omega)
 by_cases h2 : n < 1
 ·have e2 : QgS r n = .tup [.int .i64 0, .int .i64 2] := by rw [QgS, qF h1, qG (.inl h2)]
  simp (disch := omega) only [rq, simprocAttr, e1, e2]
 by_cases h3 : 4000 < n
 ·have e2 : QgS r n = .tup [.int .i64 0, .int .i64 2] := by rw [QgS, qF h1, qG (.inr h3)]
  simp (disch := omega) only [rq, simprocAttr, e1, e2]
 have e2 : QgS r n = if 1000 < (n + QG r - 1) / QG r then .tup [.int .i64 0, .int .i64 4] else .tup [.int .i64 ((n + QG r - 1) / QG r), .int .i64 0] := by
  rw [QgS, qF h1, qF (by omega)]
 generalize QG r = L at *
 have q0 : (n + L - 1).tdiv L = (n + L - 1) / L := yt (by omega)
 have q1 : 0 ≤ (n + L - 1) / L := Int.ediv_nonneg (by omega) (by omega)
 have q2 : (n + L - 1) / L ≤ n + L - 1 := ja _ (by omega)
 generalize hq : (n + L - 1) / L = Q at *
 by_cases h4 : 1000 < Q
 ·rw [qG h4] at e2
  simp (disch := omega) only [rq, simprocAttr, e1, q0, hq, e2]
 ·rw [qF h4] at e2
  simp (disch := omega) only [rq, simprocAttr, e1, q0, hq, e2]
def QbJ (P : Prg) (f : Nat) : Prop := ∀ (c x r : Int) (l : List Int), VC P f [.agg [.int .i64 c, .int .i64 x, .int .i64 r, il l]] (shA c x)
theorem QjF {P : Prg} {f t0 t1 : Nat} (b : Body P f 8 [.cell 2 t1] (Xd t0 t1)) (ht : Z2 P t1 = some (some 2)) : QbJ P f := by
 intro c x r l
 refine Xv (by simp [isDL, isD, Qcg]) rfl b ?_
 simp (disch := omega) only [rq, simprocAttr, Xd, il, ZP, ht, shA]
def Qli (r n : Int) : Int := if r < 1 ∨ 1048576 < r then 2 else if n < 1 ∨ 4000 < n then 2 else if 1000 < (n + QG r - 1) / QG r then 4 else 0
theorem Qmy (r n : Int) : ∃ k : Int, QgS r n = .tup [.int .i64 k, .int .i64 (Qli r n)] := by
 unfold QgS Qli
 split
 ·exact ⟨_, rfl⟩
 split
 ·exact ⟨_, rfl⟩
 split
 ·exact ⟨_, rfl⟩
 ·exact ⟨_, rfl⟩
def QnE (c x r n : Int) : Int := if QgR c x ≠ 0 then 8 else if n < 1 then 8 else if 4000 / c < n then 8 else if Qli r n ≠ 0 then 8 else 0
def QmA (c x r : Int) (l : List Int) : Int := if c < 1 then 8 else if (l.length : Int) % c ≠ 0 then 8 else if QnE c x r (l.length / c) ≠ 0 then 8 else if QoK x l ≠ 0 then 8 else 0
def QY (L n : Nat) : List Int := List.replicate ((n - 1) / L) (L : Int) ++ [(n : Int) - ((n - 1) / L * L : Nat)]
theorem XS (L n : Nat) : (QY L n).length = (n - 1) / L + 1 := by simp [QY]
def Q1 (l : List Int) : AV := .list l.length (ks .i64 l)
theorem Jg (l : List Int) : isD (Q1 l) = true := by simp [Q1, isD, XC]
def clA (c x r : Int) (l : List Int) : AV := .agg [.int .i64 c, .int .i64 x, .int .i64 r, il l]
def leB (n : Nat) : Nat → List UInt8
 | 0 => []
 | k + 1 => UInt8.ofNat (n % 256) :: leB (n / 256) k
def Qoc (c b r : Int) : Prop := 1 ≤ c ∧ c ≤ 6 ∧ Qn3 b ≠ 0 ∧ 1 ≤ r ∧ r ≤ 1048576
instance (c b r : Int) : Decidable (Qoc c b r) := by unfold Qoc; exact inferInstance
def QfP (P : Prg) (f : Nat) : Prop := ∀ a b : List UInt8, VC P f [bs a, bs b] (.bool (a == b))
theorem Qie {P : Prg} {f : Nat} (bd : Body P f 10 [.tmp 4] XG) : QfP P f := by
 intro a b
 refine Xv (by simp [isDL, Jr]) rfl bd ?_
 simp (disch := omega) only [rq, simprocAttr, XG, bs, Qga]
theorem QpX {K : IntKind} {n k : Nat} (hk : k ≤ K.bits) : Qaf false K (n : Int) (k : Int) = some (.int K ((n / 2 ^ k : Nat) : Int)) := by
 have h3 : ¬ ((k : Int) < 0) := by omega
 have h5 : min k K.bits = k := by omega
 have h6 : (n : Int).fdiv (2 ^ k) = ((n / 2 ^ k : Nat) : Int) := by
  rw [Int.fdiv_eq_ediv_of_nonneg _ (Int.pow_nonneg (by decide))]
  simp [y9, Int.natCast_pow]
 simp only [Qaf, qF h3, q9, yP, qv, h5, h6]
def Qqa (c : Nat) : Nat := (c / 2) ^^^ (if c % 2 = 1 then 3988292384 else 0)
def QpS : Nat → Nat → Nat
 | 0, c => c
 | k + 1, c => QpS k (Qqa c)
def Qqc (s b : Nat) : Nat := QpS 8 (s ^^^ b)
def Qqb (s : Nat) (l : List UInt8) : Nat := l.foldl (fun s b => Qqc s b.toNat) s
def nB (N : Nat) : Nat := (N + 7) / 8
def bO (t o N : Nat) : Ob := ⟨t, 2, 1, [.own o (nB N), .int .i64 N], 0⟩
def bY (t N V : Nat) : Ob := ⟨t, 1, nB N, u8 (leB V (nB N)), 0⟩
theorem Qmk (V n : Nat) : isDL (u8 (leB V n)) = true := QhX _
theorem Low.put {ob : List Ob} (h : Low ob.length ob) {t t0 o p N V N' : Nat} (ho : o < ob.length) : Low ob.length (Qm4 ob o p (bY t0 N V) (bO t o N')) := by
 unfold Qm4
 refine (h.set ?_).set ?_
 ·exact lowL_D _ (Qmk _ _)
 ·simp [bO, lowL, J8, ho]
theorem Low.drop {ob : List Ob} (h : Low ob.length ob) {t t0 o p N V : Nat} (ho : o < ob.length) {M : Nat} (hM : M ≤ ob.length) {J : List Ob} {fr fr' : List (Nat × AV)}
  (hfr : ∀ q ∈ fr', q.2 = .any ∨ (q.2 = Am.look fr q.1 ∧ J8 ob.length q.2 = true)) :
  Le M ⟨fr, Qm4 ob o p (bY t0 N V) (bO t o N) ++ J⟩ ⟨fr', Qm4 ob o p (bY t0 N V) (bO t o N)⟩ := by
 have hl : (Qm4 ob o p (bY t0 N V) (bO t o N)).length = ob.length := QlS
 refine Le.low (by omega) (by rw [hl]; exact h.put ho) ?_
 rw [hl]
 exact hfr
def N32 (v : List Nat) : Prop := ∀ x ∈ v, x < 4294967296
def QpW (p : List UInt8) : Nat := 4294967295 - Qqb 4294967295 p
theorem N32.take {v : List Nat} (h : N32 v) (i : Nat) : N32 (v.take i) := fun x hx => h x (qC hx)
theorem N32.getD {v : List Nat} (h : N32 v) (i : Nat) : v.getD i 0 < 4294967296 := by
 rw [qh]
 cases hx : v[i]? with
 | none => simp
 | some x => exact h x (qK hx)
def Qpg (p : List UInt8) : List UInt8 := p ++ leB (QpW p) 4
def Qhq (t : Nat) (P : Prg) (f : Nat) : Prop := ∀ (ob : List Ob) (n : Nat) (z : Bool) (K : AV → List Ob → Prop), 0 < n → n ≤ 140737488355328 → K (.own ob.length 0) (ob ++ [⟨t, 1, 0, [], 0⟩]) → ACall P f [.emp z, .int .i64 n] ob K
theorem grow_nil {P : Prg} {f t : Nat} {ρ : Go.Shelf.Ren} (L : Go.Proofs.Lays8.n4 P.prog ρ) (hf : ρ.f 4 = f) (ht : ρ.t 25 = t) (h25 : (P.prog.info? t).map (fun i => (i.zero, i.size, i.bytes)) = some (some (.int .u8 0), 1, 1)) : Qhq t P f := by
 intro ob n z K h1 h2 hK
 subst hf; subst ht
 exact ACall.grow_nil L h25 h1 h2 hK
def emL : List AV → List AV
 | [] => []
 | .emp _ :: l => .list 0 [] :: emL l
 | a :: l => a :: emL l
theorem Qi6 {X : Cx} : ∀ (l : List AV) (vs : List Value), RepL X l vs → RepL X (emL l) vs
 | [], _, h => h
 | a :: l, vs, h => by
  simp only [RepL] at h
  obtain ⟨v, rest, e, g1, g2⟩ := h
  have h2 := Qi6 l rest g2
  cases a with
  | emp z =>
   simp only [emL, RepL]
   refine ⟨v, rest, e, ?_, h2⟩
   simp only [Rep] at g1 ⊢
   obtain ⟨a, e, _⟩ := g1
   exact ⟨a, 0, [], e, qg _, .inl rfl, by simp [RepL]⟩
  | _ => simp only [emL, RepL]; exact ⟨v, rest, e, g1, h2⟩
theorem VC.emp {P : Prg} {f : FuncId} (avs : List AV) {r : AV} (h : VC P f (emL avs) r) (hd : isDL avs = true) : VC P f avs r :=
 ⟨h.1, hd, h.2.2.1, fun w C vs hC hG hr => h.2.2.2 w C vs hC hG (Qi6 _ _ hr)⟩
def nl (l : List Int) : AV := .list l.length (ks .i64 l)
theorem QkV (l : List Int) : isD (nl l) = true := by simp [nl, isD, XC]
def nls (L : List (List Int)) : AV := .list L.length (L.map nl)
theorem QiR : ∀ L : List (List Int), isDL (L.map nl) = true
 | [] => rfl
 | l :: L => by simp [isDL, QkV, QiR L]
def QdP (t : Nat) (P : Prg) (f : Nat) : Prop := ∀ L : List (List Int), L.length ≤ 1000000 → 0 < L.flatten.length → L.flatten.length ≤ 1000000 → VO P f [nls L] (.own 0 L.flatten.length) ⟨t, 1, L.flatten.length, ks .i64 L.flatten, 0⟩
theorem grow_nilI {P : Prg} {f t : Nat} {ρ : Go.Shelf.Ren} (L : Go.Proofs.Lays8.n4 P.prog ρ) (hf : ρ.f 4 = f) (ht : ρ.t 25 = t) (h25 : (P.prog.info? t).map (fun i => (i.zero, i.size, i.bytes)) = some (some (.int .i64 0), 1, 8)) : ∀ (ob : List Ob) (n : Nat) (z : Bool) (K : AV → List Ob → Prop), 0 < n → n ≤ 1000000 → K (.own ob.length 0) (ob ++ [⟨t, 1, 0, [], 0⟩]) → ACall P f [.emp z, .int .i64 n] ob K := by
 intro ob n z K h1 h2 hK
 subst hf; subst ht
 exact ACall.grow_nilI (by omega) L h25 h1 (by omega) hK
def QeJ (t : Nat) (P : Prg) (f : Nat) : Prop := ∀ (ob : List Ob) (n : Nat) (z : Bool) (K : AV → List Ob → Prop), 0 < n → n ≤ 1000000 → K (.own ob.length 0) (ob ++ [⟨t, 1, 0, [], 0⟩]) → ACall P f [.emp z, .int .i64 n] ob K
theorem Qev {L : List (List Int)} {k : Nat} (h : k < L.length) : (L.take (k + 1)).flatten = (L.take k).flatten ++ L.getD k [] := by
 rw [qU h, List.flatten_append, qh, qd h]
 simp
theorem QiU (L : List (List Int)) (k : Nat) : (L.take k).flatten.length ≤ L.flatten.length := by
 conv => rhs; rw [← yL k L, List.flatten_append, qn]
 omega
theorem QdY {P : Prg} {f fG t0 : Nat} (bd : Body P f 36 [.tmp 2] (QB fG t0)) (hG : QeJ t0 P fG) : QdP t0 P f := by
 intro L hL h0 h1
 refine VO.of_walk (by simp [isDL, isD, nls, QiR]) (XC _ _) (by simp [okr]) (Qj bd (by simp) ?_)
 have hat : ∀ k, k < L.length → (L.map nl).drop k = nl (L.getD k []) :: (L.map nl).drop (k + 1) := fun k hk => by
  rw [ym (by simpa using hk)]
  simp [qh, qd hk]
 have hml : (L.map nl).length = L.length := by simp
 simp only [nl] at hat
 simp (disch := omega) only [rq, simprocAttr, QB, nls]
 refine ZV (ι := Nat) (fun k => ⟨[(11, .int .i64 k), (10, .int .i64 L.length), (9, .list L.length (L.map nl)), (3, .int .i64 (L.take k).flatten.length), (0, .list L.length (L.map nl))], []⟩) (fun k => k ≤ L.length) (fun k => L.length - k) 0 (QH) (by omega) ?_
 intro k hk
 by_cases hlt : k < L.length
 ·have ha := hat k hlt
  have hf := Qev hlt
  have hle := QiU L (k + 1)
  rw [hf, qn] at hle
  have hl : ((L.take (k + 1)).flatten.length : Int) = (L.take k).flatten.length + (L.getD k []).length := by rw [hf]; simp
  generalize (L.take k).flatten.length = s at *
  generalize L.getD k [] = x at *
  simp (disch := omega) only [rq, simprocAttr, ha, hml]
  exact ⟨k + 1, by omega, by omega, by simp only [hl]; exact QH⟩
 obtain rfl : k = L.length := by omega
 rw [yw]
 have hG' := fun K hK => hG [] L.flatten.length true K h0 h1 hK
 simp (disch := omega) only [rq, simprocAttr]
 refine hG' _ ?_
 simp (disch := omega) only [rq, simprocAttr]
 refine ZV (ι := Nat) (fun k => ⟨[(27, .int .i64 k), (26, .int .i64 L.length), (25, .list L.length (L.map nl)), (6, .own 0 (L.take k).flatten.length)], [⟨t0, 1, (L.take k).flatten.length, ks .i64 (L.take k).flatten, 0⟩]⟩) (fun k => k ≤ L.length) (fun k => L.length - k) 0 (Jq (by simp [Am.look, ks])) (by omega) ?_
 intro k hk
 by_cases hlt : k < L.length
 ·have ha := hat k hlt
  have hf := Qev hlt
  have hle := QiU L (k + 1)
  rw [hf, qn] at hle
  have hl : (L.take (k + 1)).flatten.length = (L.take k).flatten.length + (L.getD k []).length := by rw [hf]; simp
  have hu : ks .i64 (L.take (k + 1)).flatten = ks .i64 (L.take k).flatten ++ ks .i64 (L.getD k []) := by rw [hf]; simp [ks]
  have hc : (ks .i64 (L.take k).flatten).length = (L.take k).flatten.length := QU _ _
  have hx : (ks .i64 (L.getD k [])).length = (L.getD k []).length := QU _ _
  generalize ks .i64 (L.take k).flatten = cs at *
  generalize (L.take k).flatten.length = s at *
  generalize ks .i64 (L.getD k []) = us at *
  generalize (L.getD k []).length = xl at *
  simp (disch := omega) only [rq, simprocAttr, ha, hml, hc, hx]
  exact ⟨k + 1, by omega, by omega, by rw [hl, hu]; exact QH⟩
 obtain rfl : k = L.length := by omega
 rw [yw]
 simp (disch := omega) only [rq, simprocAttr]
 exact ⟨0, rfl, rfl⟩
def QjW (P : Prg) (f : Nat) : Prop := ∀ x y : Nat, x ≤ 65535 → y ≤ 65535 → VC P f [.int .u64 x, .int .u64 y] (.tup [.int .u64 0, .int .u64 ((x * y : Nat) : Int)])
theorem Qjo {P : Prg} {f : Nat} (bd : Body P f 51 [.tmp 4, .tmp 5] Q9) : QjW P f := by
 intro x y hx hy
 refine Xv rfl rfl bd ?_
 have hxy : x * y ≤ 65535 * 65535 := Nat.mul_le_mul hx hy
 have hm : (x : Int) * (y : Int) = ((x * y : Nat) : Int) := by simp
 have an : ∀ a : Nat, a ≤ 4294967295 → IntKind.u64.wrap (BitVec.ofInt IntKind.u64.bits (a : Int) &&& BitVec.ofInt IntKind.u64.bits 4294967295).toNat = (a : Int) := by
  intro a ha
  have := QnT a 4294967295 (by omega) (by decide)
  rw [show (4294967295 : Nat) = 2 ^ 32 - 1 from rfl, Nat.and_two_pow_sub_one_eq_mod, Nat.mod_eq_of_lt (by omega)] at this
  exact this
 have sh : ∀ a : Nat, a ≤ 4294967295 → Qaf false .u64 (a : Int) 32 = some (.int .u64 0) := by
  intro a ha
  have := QpX (K := .u64) (n := a) (k := 32) (by decide)
  rw [Nat.div_eq_of_lt (by omega)] at this
  exact this
 have a1 := an x (by omega)
 have a2 := an y (by omega)
 have a3 : IntKind.u64.wrap (BitVec.ofInt IntKind.u64.bits 0 &&& BitVec.ofInt IntKind.u64.bits 4294967295).toNat = 0 := by decide
 have s1 := sh x (by omega)
 have s2 := sh y (by omega)
 have s3 := sh (x * y) (by omega)
 have s4 : Qaf false .u64 0 32 = some (.int .u64 0) := sh 0 (by omega)
 generalize x * y = z at *
 simp (disch := omega) only [rq, simprocAttr, Q9, a1, a2, a3, s1, s2, s3, s4, hm, Int.zero_mul, Int.mul_zero, Int.add_zero, Int.zero_add]
theorem Qmd {P : Prg} {f f32 f64 : Nat} (bd : Body P f 30 [.tmp 4, .tmp 5] (Zr f32 f64)) (h64 : QjW P f64) : QjW P f := by
 intro x y hx hy
 refine Xv rfl rfl bd ?_
 have h := h64 x y hx hy
 generalize x * y = z at *
 simp (disch := omega) only [rq, simprocAttr, Zr]
 refine Qa h ?_
 simp (disch := omega) only [rq, simprocAttr]
def rpL (v : Int) (m c : Nat) : List Int := List.replicate m v ++ List.replicate (c - m) 0
theorem Qod {v : Int} {m c : Nat} (h : m ≤ c) : (rpL v m c).length = c := by simp [rpL]; omega
def QdN (t : Nat) (P : Prg) (f : Nat) : Prop := ∀ (v : Int) (c : Nat), c ≤ 1000 → VO P f [nl [v], .int .i64 c] (.own 0 c) ⟨t, 1, c, ks .i64 (List.replicate c v), 0⟩
theorem QdX {P : Prg} {f fM t0 : Nat} (bd : Body P f 48 [.tmp 4] (QA fM t0)) (hM : QjW P fM) : QdN t0 P f := by
 intro v c hc
 refine VO.of_walk (by simp [isDL, QkV, isD]) (XC _ _) (by simp [okr]) (Qj bd (by simp) ?_)
 have hM' := hM 1 c (by omega) (by omega)
 rw [Nat.one_mul] at hM'
 have hM2 : VC P fM [.int .u64 1, .int .u64 c] (.tup [.int .u64 0, .int .u64 c]) := hM'
 have e1 : nl [v] = .list 1 [.int .i64 v] := rfl
 have er : Qi [.int .i64 0] c = ks .i64 (List.replicate c 0) := QmN .i64 c
 have hl : (ks .i64 (List.replicate c 0)).length = c := by simp [QU]
 rw [e1]
 simp (disch := omega) only [rq, simprocAttr, QA]
 refine Qa hM2 ?_
 by_cases h0 : c = 0
 ·subst h0
  simp (disch := omega) only [rq, simprocAttr, er]
  refine ZV (ι := Nat) (fun _ => ⟨[(8, .int .i64 0), (7, .own 0 0)], [⟨t0, 1, 0, [], 0⟩]⟩) (fun _ => True) (fun _ => 0) 0 (Jq (by simp [Am.look, ks])) trivial ?_
  intro _ _
  simp (disch := omega) only [rq, simprocAttr]
  exact ⟨0, rfl, rfl⟩
 ·have hmn : Nat.min 1 c = 1 := qY (by omega)
  have hst : (1 : Int) < (c : Int) ∨ c = 1 := by omega
  simp (disch := omega) only [rq, simprocAttr, er, hl, hmn]
  refine ZV (ι := Nat) (fun m => ⟨[(8, .int .i64 m), (7, .own 0 c)], [⟨t0, 1, c, ks .i64 (rpL v m c), 0⟩]⟩) (fun m => 1 ≤ m ∧ m ≤ c) (fun m => c - m) 1 ?_ (by omega) ?_
  ·have : [AV.int .i64 v] ++ (ks .i64 (List.replicate c 0)).drop 1 = ks .i64 (rpL v 1 c) := by simp [rpL, ks]
   rw [← this]
   exact QH
  intro m hm
  obtain ⟨hm1, hm2⟩ := hm
  have hkl : (ks .i64 (rpL v m c)).length = c := by rw [QU, Qod hm2]
  by_cases hlt : m < c
  ·obtain ⟨q, hq⟩ : ∃ q, q = Nat.min m (c - m) := ⟨_, rfl⟩
   have hq1 : q ≤ m := by rw [hq]; exact jc _ _
   have hq2 : q ≤ c - m := by rw [hq]; exact Nat.min_le_right _ _
   have hq3 : 1 ≤ q := by rw [hq]; exact Nat.le_min.2 ⟨hm1, by omega⟩
   have hmc : min m c = m := qY hm2
   have hal : ((ks .i64 (rpL v m c)).take m).all AV.one = true := by
    rw [qI]
    intro x hx
    exact qI.1 (QkN .i64 (rpL v m c)) x (qC hx)
   have e1 : (rpL v m c).take m = List.replicate m v := by unfold rpL; rw [List.take_left' (by simp)]
   have e2 : (rpL v m c).drop (m + q) = List.replicate (c - (m + q)) 0 := by
    unfold rpL
    rw [List.drop_append, List.drop_of_length_le (by simp), List.nil_append, List.drop_replicate, qT]
    congr 1
    omega
   have hcs : (ks .i64 (rpL v m c)).take m ++ (((ks .i64 (rpL v m c)).take m).take q ++ (ks .i64 (rpL v m c)).drop (m + q)) = ks .i64 (rpL v (m + q) c) := by
    have k1 : ∀ l n, (ks .i64 l).take n = ks .i64 (l.take n) := fun l n => by simp [ks, List.map_take]
    have k2 : ∀ l n, (ks .i64 l).drop n = ks .i64 (l.drop n) := fun l n => by simp [ks, List.map_drop]
    have k3 : ∀ a b, ks .i64 a ++ ks .i64 b = ks .i64 (a ++ b) := fun a b => by simp [ks]
    rw [k1, e1, k1, k2, e2, List.take_replicate, qY hq1, k3, k3, ← qH, List.replicate_append_replicate]
    rfl
   have hcs2 : (ks .i64 (rpL v m c)).take m ++ ((ks .i64 (rpL v m c)).take m).take q ++ (ks .i64 (rpL v m c)).drop (m + q) = ks .i64 (rpL v (m + q) c) := by rw [qH]; exact hcs
   simp (disch := omega) only [rq, simprocAttr, hkl, h0, yG, hmc, hal, ← hq, Nat.mul_one, hcs2, hcs]
   refine ⟨m + q, ⟨by omega, by omega⟩, by omega, ?_⟩
   exact QH
  ·obtain rfl : m = c := by omega
   have : rpL v m m = List.replicate m v := by simp [rpL]
   rw [this]
   simp (disch := omega) only [rq, simprocAttr]
   exact ⟨0, rfl, rfl⟩
def QlG (t : Nat) (P : Prg) (f : Nat) : Prop := ∀ a b : List Int, 0 < a.length + b.length → a.length + b.length ≤ 1000000 → VO P f [nl a, nl b] (.own 0 (a.length + b.length)) ⟨t, 1, a.length + b.length, ks .i64 (a ++ b), 0⟩
theorem QdZ {P : Prg} {f fC t0 t1 : Nat} (bd : Body P f 9 [.tmp 4] (Zh fC t1)) (hC : QdP t0 P fC) : QlG t0 P f := by
 intro a b h0 h1
 refine VO.of_walk (by simp [isDL, QkV]) (XC _ _) (by simp [okr]) (Qj bd (by simp) ?_)
 have hC' := hC [a, b] (by simp) (by simpa using h0) (by simpa using h1)
 have e1 : nls [a, b] = .list 2 [nl a, nl b] := rfl
 have e2 : [a, b].flatten = a ++ b := by simp
 rw [e1, e2, qn] at hC'
 have ta := QN .i64 a
 have tb := QN .i64 b
 simp only [nl] at hC' ⊢
 simp (disch := omega) only [rq, simprocAttr, Zh]
 refine QaN.vo_still 1 [0] hC' (by simp [ZO, Q5, frzL, QQ, frzL_T _ ta, frzL_T _ tb]) ?_
 simp (disch := omega) only [rq, simprocAttr, Qe, shr]
 exact ⟨1, rfl, rfl⟩
def okA (r n : Int) : Prop := 1 ≤ r ∧ r ≤ 1048576 ∧ 1 ≤ n ∧ n ≤ 4000 ∧ (QY (QG r).toNat n.toNat).length ≤ 1000
def Qi5 (t : Nat) (P : Prg) (f : Nat) : Prop := ∀ r n : Int, okA r n → VO P f [.int .i64 r, .int .i64 n] (.tup [.own 0 (QY (QG r).toNat n.toNat).length, .int .i64 0]) ⟨t, 1, (QY (QG r).toNat n.toNat).length, ks .i64 (QY (QG r).toNat n.toNat), 0⟩
theorem QhU {P : Prg} {f fC fL fR fB t0 : Nat} (bd : Body P f 39 [.tmp 4, .tmp 5] (ZT fC fL fR fB t0)) (hC : QbN P fC) (hL : QcX P fL) (hR : QdN t0 P fR) (hB : QlG t0 P fB) : Qi5 t0 P f := by
 intro r n ⟨a1, a2, a3, a4, a5⟩
 refine VO.of_walk rfl (XC _ _) (by simp [okr, flat]) (Qj bd (by simp) ?_)
 have hlong : 1 ≤ QG r := by unfold QG; split <;> omega
 obtain ⟨L, hLe⟩ : ∃ L : Nat, QG r = L := ⟨(QG r).toNat, by omega⟩
 obtain ⟨m, rfl⟩ : ∃ m : Nat, n = m := ⟨n.toNat, by omega⟩
 rw [hLe, qv, qv] at a5 ⊢
 rw [XS] at a5
 obtain ⟨q, hq⟩ : ∃ q, q = (m - 1) / L := ⟨_, rfl⟩
 have hql : (QY L m).length = q + 1 := by rw [XS, hq]
 rw [← hq] at a5
 have hcd : ((m : Int) + (L : Int) - 1) / (L : Int) = ((q + 1 : Nat) : Int) := by
  have h1 : (m : Int) + (L : Int) - 1 = ((m - 1 + L : Nat) : Int) := by omega
  rw [h1, ← y9, Nat.add_div_right _ (by omega), ← hq]
 have hk : QgS r m = .tup [.int .i64 ((q + 1 : Nat) : Int), .int .i64 0] := by
  rw [QgS, qF (by omega), qF (by omega), hLe, hcd, qF (by omega)]
 have hC' := hC r m
 rw [hk] at hC'
 have hL' := hL r
 rw [Qdi, qF (by omega), hLe] at hL'
 have hR' := hR L q (by omega)
 have hB' := hB (List.replicate q (L : Int)) [(m : Int) - ((q * L : Nat) : Int)] (by simp) (by simp; omega)
 have e1 : List.replicate q (L : Int) ++ [(m : Int) - ((q * L : Nat) : Int)] = QY L m := by unfold QY; rw [hq]
 rw [e1] at hB'
 have e2 : (List.replicate q (L : Int)).length + [(m : Int) - ((q * L : Nat) : Int)].length = q + 1 := by simp
 rw [e2] at hB'
 have e3 : nl [(L : Int)] = .list 1 [.int .i64 (L : Int)] := rfl
 have e4 : nl [(m : Int) - ((q * L : Nat) : Int)] = .list 1 [.int .i64 ((m : Int) - ((q * L : Nat) : Int))] := rfl
 rw [e3] at hR'
 rw [e4] at hB'
 have tr := QN .i64 (List.replicate q (L : Int))
 have hqL : (q : Int) * (L : Int) = ((q * L : Nat) : Int) := by simp
 have hle : q * L ≤ m := by
  have := Nat.div_mul_le_self (m - 1) L
  rw [← hq] at this
  omega
 simp only [nl, qT] at hB'
 rw [hql]
 generalize ks .i64 (QY L m) = LL at *
 generalize ks .i64 (List.replicate q (L : Int)) = RR at *
 generalize q * L = w at *
 simp only [Int.natCast_add, Int.cast_ofNat_Int] at hC'
 have hq1 : (q : Int) + 1 - 1 = (q : Int) := by omega
 simp (disch := omega) only [rq, simprocAttr, ZT]
 refine Qa hC' ?_
 simp (disch := omega) only [rq, simprocAttr]
 refine Qa hL' ?_
 simp (disch := omega) only [rq, simprocAttr, hq1]
 refine QaN.vo_still 1 [0] hR' (by simp [ZO, Q5, frzL, QQ]) ?_
 simp (disch := omega) only [rq, simprocAttr, Qe, shr, hq1, hqL]
 refine QaN.vo_still 1 [1, 2] hB' (by simp [ZO, Q5, frzL, QQ, frzL_T _ tr]) ?_
 simp (disch := omega) only [rq, simprocAttr, Qe, shr]
 exact ⟨3, rfl, rfl⟩
def JG (Lc : Nat) (l : List Int) (j : Nat) : List Int := (l.drop (j * Lc)).take Lc
def QbK (t : Nat) (P : Prg) (f : Nat) : Prop := ∀ (k n : Nat) (x r : Int) (l : List Int), 1 ≤ k → k ≤ 1000 → l.length = n * k → okA r n →
 QeL P f [.int .i64 k, .int .i64 x, .int .i64 r, il l] [t] (cnt := (QY (QG r).toNat n).length) (fun j => il (JG ((QG r).toNat * k) l j.1))
theorem JV {X : Cx} {a : Act} : ∀ i, Rep X (look [] i) (a.tmps.getD i undef) := fun i => by simp only [look, Rep]
theorem Qx {X : Cx} {a : Act} {fr : List (Nat × AV)} {j : Nat} {v : AV} (h : Rep X v (a.tmps.getD j undef)) (g : ∀ i, Rep X (look fr i) (a.tmps.getD i undef)) : ∀ i, Rep X (look ((j, v) :: fr) i) (a.tmps.getD i undef) := fun i => by
 simp only [look]
 split
 ·rename_i e; subst e; exact h
 ·exact g i
theorem Qpf {N : Nat} {fr : List (Nat × AV)} {a : Act} {W : World} (hd : a.defers = []) (hz : a.tmps.size = N) (h : ∀ i, Rep ⟨W, [], [], fun _ _ => False⟩ (look fr i) (a.tmps.getD i undef)) : Sim ⟨W.heap.size, ⟨W, [], [], fun _ _ => False⟩, N, []⟩ ⟨fr, []⟩ a W :=
 ⟨hd, hz, Below.refl _ _, [], ⟨rfl, by simp, by simp, by simp, fun _ _ h => h.elim, qg _⟩, Moves.refl _, h⟩
theorem Xn {W W' : World} (h : Below W.heap.size W W') : W.grownBy W' none := ⟨h.os, h.tape, h.output, h.size, fun k hk _ => h.block k hk⟩
theorem Qjm {k n L j : Nat} {l : List Int} (hl : l.length = n * k) (hn : 1 ≤ n) (hL : 1 ≤ L) (hj : j < (QY L n).length) :
  ∃ m : Nat, (QY L n).getD j 0 = m ∧ m ≤ n ∧ min (j * (L * k)) (n * k) = j * (L * k) ∧ j * (L * k) ≤ n * k ∧ min ((j + 1) * (L * k)) (n * k) = j * (L * k) + m * k ∧ JG (L * k) l j = (l.drop (j * (L * k))).take (m * k) ∧ j * (L * k) + m * k ≤ n * k := by
 rw [XS] at hj
 have g0 : (n - 1) / L * L ≤ n - 1 := Nat.div_mul_le_self _ _
 have g2 : n - 1 < (n - 1) / L * L + L := Nat.lt_div_mul_add (by omega)
 have g1 : j * L ≤ (n - 1) / L * L := qu _ (by omega)
 have e0 : j * (L * k) = j * L * k := by rw [Nat.mul_assoc]
 have e1 : (j + 1) * (L * k) = (j * L + L) * k := by rw [← Nat.mul_assoc, yo, Nat.one_mul]
 have h3 : j * L * k ≤ n * k := qu _ (by omega)
 by_cases hq : j < (n - 1) / L
 ·have g3 : (j + 1) * L ≤ (n - 1) / L * L := qu _ (by omega)
  rw [yo, Nat.one_mul] at g3
  have h7 : j * L + L ≤ n := qJ g3 (qJ g0 (Nat.sub_le _ _))
  have h4 : (j * L + L) * k ≤ n * k := qu _ h7
  refine ⟨L, ?_, by omega, by rw [e0]; exact qY h3, by rw [e0]; exact h3, by rw [e1, e0, qY h4, yo], rfl, by rw [e0, ← yo]; exact h4⟩
  unfold QY
  rw [qh, qj (by simpa using hq), List.getElem?_replicate, qG hq]
  rfl
 ·have hjq : j = (n - 1) / L := by omega
  have h7 : n ≤ j * L + L := by rw [hjq]; generalize (n - 1) / L * L = w at *; omega
  have h8 : n - j * L ≤ L := by omega
  have h4 : n * k ≤ (j * L + L) * k := qu _ h7
  have h5 : j * L * k + (n - j * L) * k = n * k := by rw [← yo]; congr 1; omega
  refine ⟨n - j * L, ?_, Nat.sub_le _ _, by rw [e0]; exact qY h3, by rw [e0]; exact h3, by rw [e1, e0, Nat.min_eq_right h4, h5], ?_, by rw [e0, h5]; exact qg _⟩
  ·unfold QY
   rw [qh, qE (by simp; omega)]
   simp only [qT, ← hjq, Nat.sub_self, yp, yu]
   omega
  ·unfold JG
   have h6 : (l.drop (j * (L * k))).length = (n - j * L) * k := by rw [yf, hl, e0]; omega
   rw [qO (by rw [h6]; exact qu _ h8), qO (by rw [h6]; exact qg _)]
theorem Qk2 {m j : Nat} (h : j < m) : (List.finRange m).take (j + 1) = (List.finRange m).take j ++ [⟨j, h⟩] := by
 rw [qU (by simpa using h)]
 simp
theorem Qmf (L n : Nat) : 1 ≤ (QY L n).length := by rw [XS]; exact Nat.le_add_left 1 _
set_option maxHeartbeats 1000000 in
theorem Qia {P : Prg} {f fA t0 : Nat} (bd : Body P f 43 [] (Ze fA)) (hA : Qi5 t0 P fA) : QbK t0 P f := by
 intro k n x r l hk1 hk2 hl hok
 obtain ⟨L, hL⟩ : ∃ L, (QG r).toNat = L := ⟨_, rfl⟩
 have hL1 : 1 ≤ L := by have := JI r; omega
 obtain ⟨a1, a2, a3, a4, a5⟩ := hok
 have hn1 : 1 ≤ n := by omega
 have hn2 : n ≤ 4000 := by omega
 have hA' := hA r n ⟨a1, a2, a3, a4, a5⟩
 rw [hL, qv] at hA' a5
 rw [hL]
 refine ⟨fun j => Qcg _, fun w C v1 hv1 hex hG => ?_⟩
 have hv1' := hv1
 simp only [Rep] at hv1
 obtain ⟨b, o, vs, hv1e, hat, hvs⟩ := hv1
 simp only [RepL] at hvs
 obtain ⟨u0, q0, rfl, hu0, u1, q1, rfl, hu1, u2, q2, rfl, hu2, u3, q3, rfl, hu3, rfl⟩ := hvs
 have hu0' := hu0
 have hu3' := hu3
 simp only [Rep] at hu0 hu1 hu2
 rw [il] at hu3
 simp only [Rep] at hu3
 obtain ⟨sa, cap, ws, e3, hcap, hws, hwr⟩ := hu3
 rw [hl] at hcap
 obtain ⟨atN, hatN⟩ : ∃ atN : Nat → Nat, ∀ j, atN j = min (j * (L * k)) (n * k) := ⟨_, fun _ => rfl⟩
 obtain ⟨cnt, hcnt⟩ : ∃ cnt, (QY L n).length = cnt := ⟨_, rfl⟩
 have hnk : n * k ≤ 4000000 := Nat.mul_le_mul hn2 hk2
 rw [hcnt] at hA' a5 ⊢
 have hcnt1 : 1 ≤ cnt := by rw [← hcnt]; exact Qmf _ _
 have pf : ∀ j, j < cnt → ∃ m : Nat, (QY L n).getD j 0 = m ∧ m ≤ n ∧ atN j = j * (L * k) ∧ atN (j + 1) = atN j + m * k ∧ JG (L * k) l j = (l.drop (atN j)).take (m * k) ∧ atN j + m * k ≤ n * k := fun j hj => by
  obtain ⟨m, h1, h2, h3, h4, h5, h6, h7⟩ := Qjm (j := j) hl hn1 hL1 (by rw [hcnt]; exact hj)
  refine ⟨m, h1, h2, by rw [hatN]; exact h3, by rw [hatN, hatN, h3]; exact h5, by rw [hatN, h3]; exact h6, by rw [hatN, h3]; exact h7⟩
 have hun : ∀ {W' : World}, (∀ (b k : Nat) (v : Value), ¬ C b k → w.cell? ⟨b, k, none⟩ = some v → W'.cell? ⟨b, k, none⟩ = some v) → ∀ (c : AV) (v : Value), isD c = true → Rep ⟨w, [], [], C⟩ c v → Rep ⟨W', [], [], fun _ _ => False⟩ c v := fun h c v hd hr =>
  Rep.data (X := ⟨w, [], [], C⟩) (Y := ⟨_, [], [], fun _ _ => False⟩) (fun b k v hc ha => ⟨h b k v (fun h => ha (.inl h)) hc, fun h => by
   rcases h with h | ⟨o, x, c, h1, _⟩
   ·exact h.elim
   ·simp at h1⟩) c v hd hr
 have hlit : ∀ {W' : World}, (∀ (b k : Nat) (v : Value), ¬ C b k → w.cell? ⟨b, k, none⟩ = some v → W'.cell? ⟨b, k, none⟩ = some v) → Rep ⟨W', [], [], fun _ _ => False⟩ (.cell [.int .i64 k, .int .i64 x, .int .i64 r, .lit u3]) v1 := fun {W'} h => by
  have h1 : Rep ⟨w, [], [], C⟩ (.cell [.int .i64 k, .int .i64 x, .int .i64 r, .lit u3]) v1 := by
   simp only [Rep]
   exact ⟨b, o, _, hv1e, hat, by simp only [RepL, Rep]; exact ⟨u0, _, rfl, hu0, u1, _, rfl, hu1, u2, _, rfl, hu2, u3, _, rfl, rfl, rfl⟩⟩
  exact hun h _ _ rfl h1
 refine ⟨fun j => .slice (if cap = atN j.1 then sa else sa.map (·.add (atN j.1 * 1))) (atN (j.1 + 1) - atN j.1) (cap - atN j.1), fun j => ?rep, ?seq⟩
 case rep =>
  obtain ⟨m, h1, h2, h3, h4, h5, h6⟩ := pf j.1 j.2
  have g : Held 0 ⟨w, [], [], fun _ _ => False⟩ := ⟨rfl, by simp, by simp, by simp, fun _ _ h => h.elim, ye _⟩
  have e4 : ((atN (j.1 + 1) : Nat) - (atN j.1 : Nat) : Int).toNat = m * k := by omega
  have e5 : (JG (L * k) l j.1).length = m * k := by rw [h5, qQ, yf, hl]; omega
  have hs : QdS [] 1 (il l) (atN j.1 : Nat) (atN (j.1 + 1) : Nat) = some (il (JG (L * k) l j.1)) := by
   simp only [QdS, il]
   rw [qG (by omega), qG (by rw [hl]; simp [ks]; omega), e4, e5, h5]
   simp [ks, List.map_take, List.map_drop]
  have hr := QhK (X := ⟨w, [], [], fun b k => C b k ∧ b < w.heap.size⟩) (B := w.heap.size) ⟨rfl, by simp, by simp, by simp, fun _ _ h => h.2, qg _⟩ (η := fun _ => .any) (ρ := fun _ => undef) (fun _ => by simp only [Rep]) (sz := 1) (n := l.length) (cs := ks .i32 l) (a := sa) (cap := cap) (m := cap) (by
   rw [← e3]
   exact Rep.data (X := ⟨w, [], [], C⟩) (Y := ⟨w, [], [], fun b k => C b k ∧ b < w.heap.size⟩) (fun b k v hc ha => ⟨hc, fun h => ha (by
    rcases h with h | ⟨o, x, c, h1, _⟩
    ·exact .inl h.1
    ·simp at h1)⟩) _ _ (Qcg l) hu3') rfl hs (by omega) (.inl (qg _))
  have hr2 := hr.2.2.2
  simp only [qv] at hr2
  exact Rep.data (X := ⟨w, [], [], fun b k => C b k ∧ b < w.heap.size⟩) (Y := ⟨w, [], [], C⟩) (fun b k v hc ha => ⟨hc, fun h => ha (by
   rcases h with h | ⟨o, x, c, h1, _⟩
   ·exact .inl ⟨h, World.block_lt_of_cell? w _ hc⟩
   ·simp at h1)⟩) _ _ (Qcg _) hr2
 case seq =>
  intro ll J Jx W hW hJ hJx hY hJ0
  have hkw : ∀ (b k : Nat) (v : Value), ¬ C b k → w.cell? ⟨b, k, none⟩ = some v → W.cell? ⟨b, k, none⟩ = some v := fun b k v _ hc => (hW.cell (p := ⟨b, k, none⟩) (World.block_lt_of_cell? w _ hc)).trans hc
  obtain ⟨fn, hf, hnm, hN, hrl, hc'⟩ := bd
  obtain ⟨c, hb, hc⟩ := qe.1 hc'
  refine callsIn_of_wp hf hb trivial ?_ rfl
  rw [hN]
  unfold Ze at hc
  obtain ⟨c1, r1, rfl, hc1, hr1⟩ := Qs hc
  obtain ⟨c2, r2, rfl, hc2, hr2⟩ := Qs hr1
  obtain ⟨c3, c4, rfl, hc3, hc4⟩ := Qs hr2
  obtain ⟨c5, rfl, hc5⟩ := Xl hc4
  obtain ⟨c6, rfl, hc6⟩ := Qb2 hc5
  obtain ⟨d1, s1, rfl, hd1, hs1⟩ := Qs hc6
  obtain ⟨d2, s2, rfl, hd2, hs2⟩ := Qs hs1
  obtain ⟨y1, y2, rfl, hy1, hy2⟩ := Xg hd2
  obtain rfl := XX hy1
  obtain rfl := QeA hy2
  obtain ⟨d3, d9, rfl, hd3, hd9⟩ := Qs hs2
  obtain ⟨d4, rfl, hd4⟩ := Xl hd3
  obtain ⟨d5, s5, rfl, hd5, hs5⟩ := Qs hd4
  obtain ⟨d6, s6, rfl, hd6, hs6⟩ := Qs hs5
  obtain ⟨s7, d8, rfl, hs7, hd8⟩ := Qs hs6
  obtain ⟨d7, dc, rfl, hd7, hdc⟩ := Qs hs7
  obtain ⟨y3, y4, rfl, hy3, hy4⟩ := Xg hdc
  obtain rfl := Qg0 hy3
  obtain rfl := XX hy4
  obtain ⟨id7, ops, rfl, hm7⟩ := Qbi hd7
  obtain ⟨l5, l3, hops, hm5, hm3⟩ := QcR (q1 := [_, _, _, _, _]) hm7
  obtain ⟨oS, l2, rfl, hoS, hm2⟩ := QcQ hm3
  obtain ⟨oY, l1, rfl, hoY, hm1⟩ := QcQ hm2
  generalize hyv : (Value.func (.yield ll) #[] #[]) = yv at *
  let a0 : Act := { tmps := #[yv] ++ #[v1] ++ Array.replicate (43 - (#[yv] ++ #[v1]).size) undef, defers := [] }
  show Code.wpIn _ _ _ _ _ a0 _
  have z0 : a0.tmps.size = 43 := by simp [a0]
  have t00 : a0.tmps.getD 0 undef = yv := by simp [a0]
  have t01 : a0.tmps.getD 1 undef = v1 := by simp [a0]
  let C0 : Nat → Nat → Prop := fun b k => C b k ∧ b < W.heap.size
  have g0 : Held W.heap.size ⟨W, [ph2], [none], C0⟩ := by
   have g := (Held.empty (B := W.heap.size) (X := ⟨W, [], [], C0⟩) ⟨rfl, by simp, by simp, by simp, fun _ _ h => h.2, qg _⟩ 1 0).1
   exact g
  have hC0 : ∀ c v, isD c = true → Rep ⟨w, [], [], C⟩ c v → Rep ⟨W, [ph2], [none], C0⟩ c v := fun c v hd hr =>
   Rep.data (X := ⟨w, [], [], C⟩) (Y := ⟨W, [ph2], [none], C0⟩) (fun b k v hc ha => ⟨hkw b k v (fun h => ha (.inl h)) hc, fun h => by
    rcases h with h | ⟨o, x, c, h1, h2, _⟩
    ·exact ha (.inl h.1)
    ·rcases o with _ | o <;> simp at h2⟩) c v hd hr
  let Γ0 : Ctx := ⟨W.heap.size, ⟨W, [ph2], [none], C0⟩, 43, []⟩
  have hs0 : Sim Γ0 ⟨[(0, .lit yv), (1, .cell [.int .i64 k, .int .i64 x, .int .i64 r, il l])], [ph2]⟩ a0 W :=
   ⟨rfl, z0, Below.refl _ _, [none], g0, Moves.refl _, Qx (by rw [t00]; simp only [Rep]) (Qx (by rw [t01]; exact hC0 _ _ (by simp [isD, isDL, Qcg]) hv1') JV)⟩
  have hF0 : Fit P 43 Γ0 := ⟨rfl, fun q cs hq => hC0 _ _ (by simp only [isD]; exact P.gd q cs hq) (hG q cs hq)⟩
  refine wpIn_seq ?_
  have hk0 : ((n * k : Nat) : Int) / (k : Int) = n := by
   rw [Int.natCast_mul, Int.mul_ediv_cancel _ (by omega)]
  have hk3 : ((n * k : Nat) : Int).tdiv (k : Int) = n := by rw [yt (by omega), hk0]
  refine Qlf (Q := fun _ st' => st'.ob = [⟨t0, 1, cnt, ks .i64 (QY L n), 0⟩] ∧ look st'.fr 0 = .lit yv ∧ look st'.fr 3 = .own 0 cnt) hF0 hc1 1 (by rfl) t01 ?_ hs0 ?_
  ·simp only [il]
   simp (disch := omega) only [rq, simprocAttr, hl, hk3, hk0]
   refine ⟨shr 0 (.tup [.own 0 cnt, .int .i64 0]), some (0, ⟨t0, 1, cnt, ks .i64 (QY L n), 0⟩), ?_, ?_⟩
   ·unfold Zn
    rw [qG rfl]
    exact ⟨ACall.of_vo_at hA' rfl ⟨rfl, rfl⟩, fun o x' e => by cases e; exact ⟨ph2, rfl, by simp [ph2, ph]⟩⟩
   ·simp (disch := omega) only [rq, simprocAttr, shr]
  ·intro st1 a1 W1 ⟨hob1, h10, h13⟩ hs1 t11
   show (Code.seq c2 _).wpIn Fence.wide 4 _ _ a1 W1
   let row : Ob := ⟨t0, 1, cnt, ks .i64 (QY L n), 0⟩
   have hs1' : Sim Γ0 ⟨[(0, .lit yv), (3, .own 0 cnt)], [row]⟩ a1 W1 := by
    have h : st1 = ⟨st1.fr, [row]⟩ := by rw [← hob1]
    rw [h] at hs1
    exact Jq (M := 1) (by simp [h10, h13]) Γ0 a1 W1 rfl hs1
   refine wpIn_seq ?_
   refine Zp (Q := fun _ st' => st' = ⟨[(5, .int .i64 0), (0, .lit yv), (3, .own 0 cnt)], [row]⟩) hF0 hc2 [(1, v1)] (by simp only [q8]; rintro _ rfl; exact ⟨rfl, t11⟩) (by simp (disch := omega) only [rq, simprocAttr]) hs1' ?_
   rintro _ a2 W2 rfl hs2 t2
   show (Code.seq c3 _).wpIn Fence.wide 4 _ _ a2 W2
   refine wpIn_seq ?_
   refine Zp (Q := fun _ st' => st' = ⟨[(23, .int .i64 0), (22, .int .i64 cnt), (21, .own 0 cnt), (5, .int .i64 0), (0, .lit yv), (3, .own 0 cnt)], [row]⟩) hF0 hc3 [(1, v1)] (by simp only [q8]; rintro _ rfl; exact ⟨rfl, t2 _ (by simp)⟩) (by simp (disch := omega) only [rq, simprocAttr, row]) hs2 ?_
   rintro _ a3 W3 rfl hs3 t3
   show (Code.block 0 (.loop _)).wpIn Fence.wide 4 _ _ a3 W3
   obtain ⟨f1, f2, f3, be, f4, f5, f6⟩ := hs3
   have f1' : a3.defers = [] := f1
   have f2' : a3.tmps.size = 43 := f2
   obtain ⟨e, he, hoke⟩ := f4.get (o := 0) (x := row) rfl
   have f21 := f6 21
   simp only [look, Nat.reduceEqDiff, yP, yD, Rep] at f21
   obtain ⟨⟨rw', hrw, _, _, hown⟩, _⟩ := f21
   have hrw' : row = rw' := by simpa using hrw
   subst hrw'
   have hown' := hown rfl
   have he' : be[0]? = some e := he
   simp only [he'] at hown'
   cases e with
   | none => exact absurd hoke.1 (by simp only [row]; omega)
   | some p =>
   obtain ⟨br, capr⟩ := p
   obtain ⟨cur, ⟨frz, hblk, _⟩, hcs, hnc, _, hcl, hcr, hone⟩ := hoke
   simp only [OwnV] at hown'
   have hblk' : W3.heap[br]? = some (.cells cur t0 frz) := hblk
   obtain ⟨sv, hsv⟩ : ∃ sv, sv = Value.slice (some ⟨br, 0, none⟩) cnt capr := ⟨_, rfl⟩
   have hcr' : ∀ {Y : Cx}, RepL Y (ks .i64 (QY L n)) (cur.toList.take cnt) := fun {Y} => by
    have h := RepL.flat (Y := Y) (by simp [row, ks, flat]) hcr
    have e : row.cs.length = cnt := by simp [row, ks, hcnt]
    rw [e] at h
    exact h
   have hrowR : ∀ {W' : World}, W'.heap[br]? = some (.cells cur t0 frz) → Rep ⟨W', [], [], fun _ _ => False⟩ (.list cnt (ks .i64 (QY L n))) sv := fun {W'} h => by
    simp only [Rep]
    refine ⟨_, _, cur.toList.take cnt, hsv, hnc, .inr ⟨br, 0, rfl, fun i v hv => ?_⟩, hcr'⟩
    rw [yk] at hv
    split at hv
    ·have hv2 : cur[i]? = some v := by simpa using hv
     refine ⟨⟨by simp [World.cell?, h, hv2], fun h => ?_⟩, hone v (by
      obtain ⟨h1, h2⟩ := qi.1 hv2
      rw [← h2]; simp)⟩
     rcases h with h | ⟨o, x, c, h1, _⟩
     ·exact h.elim
     ·simp at h1
    ·cases hv
   have hJ3 : J [] W3 := hJ _ W W3 none hJ0 (Xn f3) (fun r h => by cases h)
   refine wpIn_block ?_
   refine wpIn_loop (fun a W' => ∃ j, j ≤ cnt ∧ a.defers = [] ∧ a.tmps.size = 43 ∧ a.tmps.getD 0 undef = yv ∧ a.tmps.getD 1 undef = v1 ∧ a.tmps.getD 5 undef = .int .i64 (atN j : Nat) ∧ a.tmps.getD 21 undef = sv ∧ a.tmps.getD 22 undef = .int .i64 cnt ∧ a.tmps.getD 23 undef = .int .i64 j ∧
     W'.heap[br]? = some (.cells cur t0 frz) ∧ (∀ (b k : Nat) (v : Value), ¬ C b k → w.cell? ⟨b, k, none⟩ = some v → W'.cell? ⟨b, k, none⟩ = some v) ∧ J ((List.finRange cnt).take j) W')
    (fun a _ => match a.tmps.getD 23 undef with | .int _ z => cnt - z.toNat | _ => 0) ?_ ?_
   ·refine ⟨0, ye _, f1', f2', ?_, t3 (1, v1) (by simp), ?_, by rw [hsv]; exact hown', ?_, ?_, hblk', ?_, hJ3⟩
    ·have h := f6 0
     simpa [look, Rep] using h
    ·have h := f6 5
     have e0 : atN 0 = 0 := by rw [hatN]; simp
     simpa [look, Rep, e0] using h
    ·have h := f6 22
     simpa [look, Rep] using h
    ·have h := f6 23
     simpa [look, Rep] using h
    ·intro b k v hc hv
     have h := hkw b k v hc hv
     exact (f3.cell (p := ⟨b, k, none⟩) (World.block_lt_of_cell? W _ h)).trans h
   intro a Wj ⟨j, hj, i1, i2, i3, i4, i5, i6, i7, i8, i9, i10, i11⟩
   let ΓW : World → Ctx := fun W' => ⟨W'.heap.size, ⟨W', [], [], fun _ _ => False⟩, 43, []⟩
   have hF : ∀ {W' : World}, (∀ (b k : Nat) (v : Value), ¬ C b k → w.cell? ⟨b, k, none⟩ = some v → W'.cell? ⟨b, k, none⟩ = some v) → Fit P 43 (ΓW W') := fun {W'} h => ⟨rfl, fun q cs hq => hun h _ _ (by simp only [isD]; exact P.gd q cs hq) (hG q cs hq)⟩
   have hsA : Sim (ΓW Wj) ⟨[(0, .lit yv), (1, .cell [.int .i64 k, .int .i64 x, .int .i64 r, .lit u3]), (5, .int .i64 (atN j : Nat)), (21, .list cnt (ks .i64 (QY L n))), (22, .int .i64 cnt), (23, .int .i64 j)], []⟩ a Wj :=
    Qpf i1 i2 (Qx (by rw [i3]; simp only [Rep]) (Qx (by rw [i4]; exact hlit i10) (Qx (by rw [i5]; simp only [Rep]) (Qx (by rw [i6]; exact hrowR i9) (Qx (by rw [i7]; simp only [Rep]) (Qx (by rw [i8]; simp only [Rep]) JV))))))
   have hI : ∀ {qs : List AO} {a : Act}, J6 1 qs = true → J6 21 qs = true → a.tmps.getD 1 undef = v1 → a.tmps.getD 21 undef = sv → ∀ p ∈ [(1, v1), (21, sv)], J6 p.1 qs = true ∧ a.tmps.getD p.1 undef = p.2 := fun h1 h2 h3 h4 p hp => by
    simp only [qm, qM, or_false] at hp
    rcases hp with rfl | rfl
    ·exact ⟨h1, h3⟩
    ·exact ⟨h2, h4⟩
   refine wpIn_seq ?_
   refine Zp (Q := fun _ st' => st' = ⟨[(24, .bool (decide ((j : Int) < cnt))), (0, .lit yv), (1, .cell [.int .i64 k, .int .i64 x, .int .i64 r, .lit u3]), (5, .int .i64 (atN j : Nat)), (21, .list cnt (ks .i64 (QY L n))), (22, .int .i64 cnt), (23, .int .i64 j)], []⟩) (hF i10) hd1 [(1, v1), (21, sv)] (hI rfl rfl i4 i6) (by simp (disch := omega) only [rq, simprocAttr]) hsA ?_
   rintro _ aB WB rfl hsB tB
   have bW : Below Wj.heap.size Wj WB := hsB.2.2.1
   show (Code.seq (.cond _ .skip (.exit 0)) _).wpIn Fence.wide 4 _ _ aB WB
   have h24 : aB.eval (.tmp 24) = .bool (decide ((j : Int) < cnt)) := by
    obtain ⟨_, _, _, _, _, _, h⟩ := hsB
    have h : Rep _ (.bool _) (aB.tmps.getD 24 undef) := h 24
    simp only [Rep] at h
    exact h
   refine wpIn_seq ?_
   by_cases hjc : j < cnt
   ·have e24 : decide ((j : Int) < cnt) = true := by simp; omega
    rw [e24] at h24 hsB
    obtain ⟨m, p1, p2, p3, p4, p5, p6⟩ := pf j hjc
    have la : (ks .i64 (QY L n)).drop j = .int .i64 m :: (ks .i64 (QY L n)).drop (j + 1) := by
     have h := QkO (K := .i64) (l := QY L n) (i := j) (by omega)
     rw [p1, ← QbY] at h
     exact h
    refine wpIn_cond_true h24 (wpIn_skip ?_)
    show (Code.seq (.block 1 (.seq d5 _)) _).wpIn Fence.wide 4 _ _ aB WB
    obtain ⟨mk, hmk⟩ : ∃ mk, m * k = mk := ⟨_, rfl⟩
    rw [hmk] at p4 p5 p6
    have emk : (m : Int) * (k : Int) = mk := by rw [← hmk]; simp
    have e8 : ((atN j : Nat) : Int) + (mk : Int) = ((atN (j + 1) : Nat) : Int) := by omega
    obtain ⟨nk, hnk'⟩ : ∃ nk, n * k = nk := ⟨_, rfl⟩
    rw [hnk'] at p6 hnk hcap hl
    have hm4 : (m : Int) ≤ 4000 := by omega
    refine wpIn_seq (wpIn_block (wpIn_seq ?_))
    refine Zp (Q := fun _ st' => Le 0 st' ⟨[(7, .int .i64 m), (0, .lit yv), (1, .cell [.int .i64 k, .int .i64 x, .int .i64 r, .lit u3]), (5, .int .i64 (atN j : Nat)), (21, .list cnt (ks .i64 (QY L n))), (22, .int .i64 cnt), (23, .int .i64 j)], []⟩) (hF i10) hd5 [(1, v1), (21, sv)] (hI rfl rfl (tB (1, v1) (by simp)) (tB (21, sv) (by simp)))
     (by simp (disch := omega) only [rq, simprocAttr, la, QU]; exact QH) hsB ?_
    intro st5 a5 W5 hle5 hs5' t5
    have hs5 := hle5 _ _ _ rfl hs5'
    show (Code.seq d6 _).wpIn Fence.wide 4 _ _ a5 W5
    refine wpIn_seq ?_
    refine Zp (Q := fun _ st' => Le 0 st' ⟨[(8, .int .i64 (atN (j + 1) : Nat)), (0, .lit yv), (1, .cell [.int .i64 k, .int .i64 x, .int .i64 r, .lit u3]), (5, .int .i64 (atN j : Nat)), (21, .list cnt (ks .i64 (QY L n))), (22, .int .i64 cnt), (23, .int .i64 j)], []⟩) (hF i10) hd6 [(1, v1), (21, sv)] (hI rfl rfl (t5 (1, v1) (by simp)) (t5 (21, sv) (by simp)))
     (by simp (disch := omega) only [rq, simprocAttr, emk, e8]; exact QH) hs5 ?_
    intro st6 a6 W6 hle6 hs6' t6
    have hs6 := hle6 _ _ _ rfl hs6'
    show (Code.seq (.seq (.region id7 ops false) _) d8).wpIn Fence.wide 4 _ _ a6 W6
    refine wpIn_seq (wpIn_seq (wpIn_region_list ?_))
    rw [hops]
    refine ZX l5 _ a6 W6 (Qh ?_ _ _ _ (ZZ (Q := fun _ st' => Le 0 st' ⟨[(33, .lit yv), (0, .lit yv), (35, .lit u3), (36, .int .i64 (atN j : Nat)), (37, .int .i64 (atN (j + 1) : Nat)), (8, .int .i64 (atN (j + 1) : Nat)), (22, .int .i64 cnt), (23, .int .i64 j)], []⟩) (hF i10) hm5 [(1, v1), (21, sv)] (hI rfl rfl (t6 (1, v1) (by simp)) (t6 (21, sv) (by simp)))
     (by simp (disch := omega) only [rq, simprocAttr]; exact QH) hs6))
    rintro _ a7 W7 ⟨rfl, st7, hle7, hs7', t7⟩
    have hs7 := hle7 _ _ _ rfl hs7'
    show wpListIn Fence.wide 4 _ _ _ (oS :: oY :: l1) a7 W7
    have W7b : Below Wj.heap.size Wj W7 := hs7.2.2.1
    have hd7 : a7.defers = [] := hs7.1
    have hz7 : a7.tmps.size = 43 := hs7.2.1
    have f7 : ∀ {i : Nat} {v : Value}, Rep ⟨W7, [], [], fun _ _ => False⟩ (.lit v) (a7.tmps.getD i undef) → a7.tmps.getD i undef = v := fun h => by simpa only [Rep] using h
    have f33 : a7.tmps.getD 33 undef = yv := by obtain ⟨_, _, _, _, _, _, h⟩ := hs7; have h : Rep _ (.lit yv) (a7.tmps.getD 33 undef) := h 33; simpa only [Rep] using h
    have f35 : a7.tmps.getD 35 undef = u3 := by obtain ⟨_, _, _, _, _, _, h⟩ := hs7; have h : Rep _ (.lit u3) (a7.tmps.getD 35 undef) := h 35; simpa only [Rep] using h
    have f8 : a7.tmps.getD 8 undef = .int .i64 (atN (j + 1) : Nat) := by obtain ⟨_, _, _, _, _, _, h⟩ := hs7; have h : Rep _ (.int .i64 _) (a7.tmps.getD 8 undef) := h 8; simpa only [Rep] using h
    have f22 : a7.tmps.getD 22 undef = .int .i64 cnt := by obtain ⟨_, _, _, _, _, _, h⟩ := hs7; have h : Rep _ (.int .i64 _) (a7.tmps.getD 22 undef) := h 22; simpa only [Rep] using h
    have f23 : a7.tmps.getD 23 undef = .int .i64 j := by obtain ⟨_, _, _, _, _, _, h⟩ := hs7; have h : Rep _ (.int .i64 _) (a7.tmps.getD 23 undef) := h 23; simpa only [Rep] using h
    obtain ⟨be7, g7, _, hη, _⟩ := hs7.eta (hF i10).2
    obtain ⟨cS, dS, _, gS⟩ := QV hoS
    obtain ⟨tS, eS, opS, uS, zS⟩ := Qlm (QeB cS (by intro h; cases h))
    have gS' : oS.guard = none := by
     rcases gS with ⟨h, _⟩ | ⟨_, _, _, _, _, h⟩
     ·exact h
     ·cases h
    have ex : a7.eval (.tmp 35) = .slice sa nk cap := by rw [← hl]; exact f35.trans e3
    have hrun := QhF (X := ⟨W7, [], be7, fun _ _ => False⟩) g7 hη opS uS zS ex (l := (atN j : Nat)) (h := (atN (j + 1) : Nat)) (by simp [loA, opd, look]) (by simp [hiA, opd, look]) (by omega) (by omega) (by omega)
    simp only [qv] at hrun
    unfold wpListIn
    rw [qG (by simp [Region.wanted, gS'])]
    unfold Oper.wpIn
    refine ⟨fun _ _ => trivial, ?_⟩
    rw [QoY, hrun]
    show wpListIn Fence.wide 4 _ _ _ (oY :: l1) (a7.put oS.dst _) W7
    rw [← dS]
    obtain ⟨cY, dY, _, gY⟩ := QV hoY
    obtain ⟨cl, opY, calY, argY⟩ := Xm cY
    have gY' : oY.guard = none := by
     rcases gY with ⟨h, _⟩ | ⟨_, _, _, _, _, h⟩
     ·exact h
     ·cases h
    have argY' : cl.args = #[.tmp 38] := qZ argY.symm
    unfold wpListIn
    rw [qG (by simp [Region.wanted, gY'])]
    have hJ7 : J ((List.finRange cnt).take j) W7 := hJ _ Wj W7 none i11 (Xn W7b) (fun r h => by cases h)
    have hlen : ((List.finRange cnt).take j).length < cnt := by simp; omega
    obtain ⟨vj, hvj⟩ : ∃ vj : Value, vj = .slice (if cap = atN j then sa else sa.map (·.add (atN j * 1))) (atN (j + 1) - atN j) (cap - atN j) := ⟨_, rfl⟩
    have hY' := hY ((List.finRange cnt).take j) ⟨j, hjc⟩ W7 hJ7 hlen
    simp only at hY'
    rw [← hvj] at hY' ⊢
    have p38 : (a7.put (some 38) vj).tmps.getD 38 undef = vj := by simp [Act.put, hz7]
    have p33 : (a7.put (some 38) vj).tmps.getD 33 undef = .func (.yield ll) #[] #[] := by rw [Zl (by simp), f33]; exact hyv.symm
    refine QbP opY calY argY' p33 p38 hY' ?_
    rw [← dY]
    have z8 : ∀ bb : Bool, ((a7.put (some 38) vj).put (some 39) (.bool bb)).tmps.size = 43 := fun bb => by rw [JW, JW]; exact hz7
    have p39 : ∀ bb : Bool, ((a7.put (some 38) vj).put (some 39) (.bool bb)).tmps.getD 39 undef = .bool bb := fun bb => by simp [Act.put, hz7]
    have pO : ∀ (bb : Bool) (i : Nat), i ≠ 38 → i ≠ 39 → ((a7.put (some 38) vj).put (some 39) (.bool bb)).tmps.getD i undef = a7.tmps.getD i undef := fun bb i h1 h2 => by
     rw [Zl (by simpa using fun h => h2 h.symm), Zl (by simpa using fun h => h1 h.symm)]
    have d8' : ∀ bb : Bool, ((a7.put (some 38) vj).put (some 39) (.bool bb)).defers = [] := fun bb => by rw [Xf, Xf]; exact hd7
    have hI3 : ∀ {qs : List AO} {a : Act}, J6 0 qs = true → J6 1 qs = true → J6 21 qs = true → a.tmps.getD 0 undef = yv → a.tmps.getD 1 undef = v1 → a.tmps.getD 21 undef = sv → ∀ p ∈ [(0, yv), (1, v1), (21, sv)], J6 p.1 qs = true ∧ a.tmps.getD p.1 undef = p.2 := fun h1 h2 h3 h4 h5 h6 p hp => by
     simp only [qm, qM, or_false] at hp
     rcases hp with rfl | rfl | rfl
     ·exact ⟨h1, h4⟩
     ·exact ⟨h2, h5⟩
     ·exact ⟨h3, h6⟩
    have f0 : a7.tmps.getD 0 undef = yv := by obtain ⟨_, _, _, _, _, _, h⟩ := hs7; have h : Rep _ (.lit yv) (a7.tmps.getD 0 undef) := h 0; simpa only [Rep] using h
    have q0 : ∀ bb : Bool, _ := fun bb => (pO bb 0 (by omega) (by omega)).trans f0
    have q1 : ∀ bb : Bool, _ := fun bb => (pO bb 1 (by omega) (by omega)).trans (t7 (1, v1) (by simp))
    have q21 : ∀ bb : Bool, _ := fun bb => (pO bb 21 (by omega) (by omega)).trans (t7 (21, sv) (by simp))
    rintro e W8 (⟨rfl, hJ8, hK8⟩ | ⟨rfl, hX8⟩)
    ·refine ⟨true, rfl, ?_⟩
     have hbr7 : W7.heap[br]? = some (.cells cur t0 frz) := (W7b.block br (qi.1 i9).1).trans i9
     have hbr8 : W8.heap[br]? = some (.cells cur t0 frz) := (hK8.1 br cur t0 frz hbr7 (by simp)).trans hbr7
     have hk8 : ∀ (b k : Nat) (v : Value), ¬ C b k → w.cell? ⟨b, k, none⟩ = some v → W8.cell? ⟨b, k, none⟩ = some v := fun b k v hc hv => by
      have h1 := i10 b k v hc hv
      exact hK8.2 b k v hc ((W7b.cell (p := ⟨b, k, none⟩) (World.block_lt_of_cell? Wj _ h1)).trans h1)
     have hs8 : Sim (ΓW W8) ⟨[(39, .bool true), (8, .int .i64 (atN (j + 1) : Nat)), (22, .int .i64 cnt), (23, .int .i64 j)], []⟩ ((a7.put (some 38) vj).put (some 39) (.bool true)) W8 :=
      Qpf (d8' true) (z8 true) (Qx (by rw [p39]; simp only [Rep]) (Qx (by rw [pO true 8 (by omega) (by omega), f8]; simp only [Rep]) (Qx (by rw [pO true 22 (by omega) (by omega), f22]; simp only [Rep]) (Qx (by rw [pO true 23 (by omega) (by omega), f23]; simp only [Rep]) JV))))
     refine Qh ?_ _ _ _ (ZZ (Q := fun _ st' => Le 0 st' ⟨[(40, .bool false), (8, .int .i64 (atN (j + 1) : Nat)), (22, .int .i64 cnt), (23, .int .i64 j)], []⟩) (hF hk8) hm1 [(0, yv), (1, v1), (21, sv)] (hI3 rfl rfl rfl (q0 true) (q1 true) (q21 true))
      (by simp (disch := omega) only [rq, simprocAttr, qV]; exact QH) hs8)
     rintro _ a9 W9 ⟨rfl, st9, hle9, hs9', t9⟩
     have hs9 := hle9 _ _ _ rfl hs9'
     show (Code.cond _ .ret .skip).wpIn Fence.wide 4 _ _ a9 W9
     have h40 : a9.eval (.tmp 40) = .bool false := by obtain ⟨_, _, _, _, _, _, h⟩ := hs9; have h : Rep _ (.bool _) (a9.tmps.getD 40 undef) := h 40; simp only [Rep] at h; exact h
     refine wpIn_cond_false h40 (wpIn_skip ?_)
     show d8.wpIn Fence.wide 4 _ _ a9 W9
     refine Zp (Q := fun _ st' => Le 0 st' ⟨[(5, .int .i64 (atN (j + 1) : Nat)), (22, .int .i64 cnt), (23, .int .i64 j)], []⟩) (hF hk8) hd8 [(0, yv), (1, v1), (21, sv)] (hI3 rfl rfl rfl (t9 (0, yv) (by simp)) (t9 (1, v1) (by simp)) (t9 (21, sv) (by simp)))
      (by simp (disch := omega) only [rq, simprocAttr]; exact QH) hs9 ?_
     intro stA aA WA hleA hsA' tA
     have hsA2 := hleA _ _ _ rfl hsA'
     show d9.wpIn Fence.wide 4 _ _ aA WA
     refine Zp (Q := fun _ st' => Le 0 st' ⟨[(5, .int .i64 (atN (j + 1) : Nat)), (22, .int .i64 cnt), (23, .int .i64 ((j + 1 : Nat) : Int))], []⟩) (hF hk8) hd9 [(0, yv), (1, v1), (21, sv)] (hI3 rfl rfl rfl (tA (0, yv) (by simp)) (tA (1, v1) (by simp)) (tA (21, sv) (by simp)))
      (by simp (disch := omega) only [rq, simprocAttr]; exact QH) hsA2 ?_
     intro stC aC WC hleC hsC' tC
     have hsC := hleC _ _ _ rfl hsC'
     have WCb : Below W8.heap.size W8 WC := hsC.2.2.1
     obtain ⟨h1, h2, _, _, _, _, hC⟩ := hsC
     have c5 : aC.tmps.getD 5 undef = .int .i64 (atN (j + 1) : Nat) := by have h : Rep _ (.int .i64 _) (aC.tmps.getD 5 undef) := hC 5; simpa only [Rep] using h
     have c22 : aC.tmps.getD 22 undef = .int .i64 cnt := by have h : Rep _ (.int .i64 _) (aC.tmps.getD 22 undef) := hC 22; simpa only [Rep] using h
     have c23 : aC.tmps.getD 23 undef = .int .i64 ((j + 1 : Nat) : Int) := by have h : Rep _ (.int .i64 _) (aC.tmps.getD 23 undef) := hC 23; simpa only [Rep] using h
     refine ⟨⟨j + 1, by omega, h1, h2, tC (0, yv) (by simp), tC (1, v1) (by simp), c5, tC (21, sv) (by simp), c22, c23, (WCb.block br (qi.1 hbr8).1).trans hbr8, fun b k v hc hv => ?_, ?_⟩, ?_⟩
     ·have h := hk8 b k v hc hv
      exact (WCb.cell (p := ⟨b, k, none⟩) (World.block_lt_of_cell? W8 _ h)).trans h
     ·rw [Qk2 hjc]
      exact hJ _ W8 WC none hJ8 (Xn WCb) (fun r h => by cases h)
     ·simp only [c23, i8, qv]
      omega
    ·refine ⟨false, rfl, ?_⟩
     have hs8 : Sim (ΓW W8) ⟨[(39, .bool false)], []⟩ ((a7.put (some 38) vj).put (some 39) (.bool false)) W8 :=
      Qpf (d8' false) (z8 false) (Qx (by rw [p39]; simp only [Rep]) JV)
     let P0 : Prg := ⟨P.prog, [], fun _ _ h => by cases h⟩
     refine Qh ?_ _ _ _ (ZZ (P := P0) (N := 43) (Γ := ΓW W8) (Q := fun _ st' => Le 0 st' ⟨[(40, .bool true)], []⟩) ⟨rfl, fun _ _ h => by cases h⟩ hm1 [] (fun p hp => by cases hp)
      (by simp (disch := omega) only [rq, simprocAttr, yj]; exact QH) hs8)
     rintro _ a9 W9 ⟨rfl, st9, hle9, hs9', t9⟩
     have hs9 := hle9 _ _ _ rfl hs9'
     show (Code.cond _ .ret .skip).wpIn Fence.wide 4 _ _ a9 W9
     have h40 : a9.eval (.tmp 40) = .bool true := by obtain ⟨_, _, _, _, _, _, h⟩ := hs9; have h : Rep _ (.bool _) (a9.tmps.getD 40 undef) := h 40; simp only [Rep] at h; exact h
     refine wpIn_cond_true h40 (wpIn_ret ?_)
     have hX9 := hJx _ W8 W9 none hX8 (Xn hs9.2.2.1) (fun r h => by cases h)
     exact ⟨hs9.1, .tuple #[], results_none (qZ hrl) _ _ _, ⟨_, rfl⟩, .inr ⟨_, trivial, hX9⟩⟩
   ·have e24 : decide ((j : Int) < cnt) = false := by simp; omega
    rw [e24] at h24
    refine wpIn_cond_false h24 (wpIn_exit ?_)
    have hjc' : j = cnt := by omega
    rw [hjc', qO (by simp)] at i11
    have hJB : J (List.finRange cnt) WB := hJ _ Wj WB none i11 (Xn bW) (fun r h => by cases h)
    have hdB : aB.defers = [] := hsB.1
    exact ⟨hdB, .tuple #[], results_none (qZ hrl) _ _ _, ⟨_, rfl⟩, .inl ⟨_, rfl, hJB⟩⟩
def QbL (g : Nat) (P : Prg) (f : Nat) : Prop := ∀ (c x r : Int) (l : List Int), VC P f [clA c x r l] (.fn (.func g) [] [.cell [.int .i64 c, .int .i64 x, .int .i64 r, il l]])
theorem QjG {P : Prg} {f g t0 : Nat} (b : Body P f 4 [.tmp 2] (Jo g t0)) : QbL g P f := by
 intro c x r l
 refine QD 1 (by simp [isDL, isD, Qcg, clA]) (by simp [isD, isDL, Qcg]) (Qj b (by simp) ?_)
 simp (disch := omega) only [rq, simprocAttr, Jo, clA, il]
 simp [ZO, Q5, frzL, QQ, isDL, isD, frzL_T _ (QN .i32 _)]
def Xi (c r : Int) (l : List Int) : List (List Int) := (List.range (QY (QG r).toNat (l.length / c.toNat)).length).map (JG ((QG r).toNat * c.toNat) l)
theorem Qmz {c x r : Int} {l : List Int} (h : QmA c x r l = 0) : ∃ k n : Nat, c = k ∧ 1 ≤ k ∧ k ≤ 1000 ∧ l.length = n * k ∧ okA r n ∧ l.length ≤ 4000 := by
 unfold QmA at h
 split at h
 ·cases h
 rename_i h1
 split at h
 ·cases h
 rename_i h2
 split at h
 ·cases h
 rename_i h3
 have h3' : QnE c x r (l.length / c) = 0 := by simpa using h3
 have h2' : (l.length : Int) % c = 0 := by simpa using h2
 obtain ⟨k, rfl⟩ : ∃ k : Nat, c = k := ⟨c.toNat, by omega⟩
 have e1 : (l.length : Int) / (k : Int) = ((l.length / k : Nat) : Int) := by simp
 have e2 : l.length % k = 0 := by exact_mod_cast h2'
 rw [e1] at h3'
 have e3 := Nat.div_add_mod l.length k
 rw [e2, yH, Nat.mul_comm] at e3
 unfold QnE at h3'
 split at h3'
 ·cases h3'
 rename_i a1
 split at h3'
 ·cases h3'
 rename_i a2
 split at h3'
 ·cases h3'
 rename_i a3
 split at h3'
 ·cases h3'
 rename_i a4
 obtain ⟨n, hn⟩ : ∃ n, l.length / k = n := ⟨_, rfl⟩
 rw [hn] at e3 a2 a3 a4
 have a5 : QgR k x = 0 := by simpa using a1
 have a6 : Qli r n = 0 := by simpa using a4
 rcases QgQ (k : Int) x with h4 | ⟨_, h5, h6, h7⟩
 ·omega
 have hle : n * k ≤ 4000 := by
  have h8 : (n : Int) ≤ 4000 / (k : Int) := by omega
  have h9 := Int.mul_le_of_le_ediv (a := (n : Int)) (b := 4000) (c := (k : Int)) (by omega) h8
  have h10 : ((n * k : Nat) : Int) ≤ 4000 := by rw [Int.natCast_mul]; exact h9
  omega
 have hn4 : n ≤ 4000 := qJ (yY n (by omega)) hle
 refine ⟨k, n, rfl, by omega, by omega, e3.symm, ?_, by omega⟩
 unfold Qli at a6
 split at a6
 ·cases a6
 split at a6
 ·cases a6
 split at a6
 ·cases a6
 rename_i b1 b2 b3
 refine ⟨by omega, by omega, by omega, by omega, ?_⟩
 have hlong : 1 ≤ QG r := JI r
 obtain ⟨L, hLe⟩ : ∃ L : Nat, QG r = L := ⟨(QG r).toNat, by omega⟩
 rw [hLe, qv, qv, XS]
 rw [hLe] at b3
 have h1 : (n : Int) + (L : Int) - 1 = ((n - 1 + L : Nat) : Int) := by omega
 rw [h1, ← y9, Nat.add_div_right _ (by omega)] at b3
 omega
def QcZ : List Int := List.replicate 16 0
theorem RepL.split {X : Cx} : ∀ {cs bs : List AV} {vs : List Value}, RepL X (cs ++ bs) vs → ∃ us ws, vs = us ++ ws ∧ RepL X cs us ∧ RepL X bs ws
 | [], bs, vs, h => ⟨[], vs, rfl, by simp [RepL], h⟩
 | a :: cs, bs, vs, h => by
  simp only [qW, RepL] at h
  obtain ⟨v, rest, rfl, h1, h2⟩ := h
  obtain ⟨us, ws, rfl, h3, h4⟩ := RepL.split h2
  exact ⟨v :: us, ws, rfl, by simp only [RepL]; exact ⟨v, us, rfl, h1, h3⟩, h4⟩
def ph3 : Ob := ⟨1, 1, 0, [], 0⟩
theorem Held.fill {B : Nat} {w : World} {ob : List Ob} {be : List (Option (Nat × Nat))} {C : Nat → Nat → Prop} {o : Nat} (g : Held B ⟨w, ob, be, C⟩) (ho : ob[o]? = some ph2) :
  Held B ⟨w, ob.set o ph3, be.set o none, C⟩ ∧ Moves ⟨w, ob, be, C⟩ ⟨w, ob.set o ph3, be.set o none, C⟩ := by
 have hol : o < ob.length := (qb.1 ho).1
 have hlen : be.length = ob.length := g.len
 have hav : ∀ b k, (Cx.mk w (ob.set o ph3) (be.set o none) C).av b k → (Cx.mk w ob be C).av b k := by
  rintro b k (h | ⟨o', x, c, h1, h2, h3⟩)
  ·exact .inl h
  ·simp only [qo] at h1 h2
   by_cases e : o = o'
   ·subst e; simp [hlen, hol] at h2
   ·simp [e] at h1 h2
    exact .inr ⟨o', x, c, h1, h2, h3⟩
 have m : Moves ⟨w, ob, be, C⟩ ⟨w, ob.set o ph3, be.set o none, C⟩ := by
  refine ⟨fun b k v hc ha => ⟨hc, fun h => ha (hav b k h)⟩, fun o' x hx => ?_, fun b hb hf => ⟨rfl, fun o' c h => ?_⟩⟩
  ·by_cases e : o = o'
   ·subst e
    have hx' : ob[o]? = some x := hx
    rw [ho] at hx'; cases hx'
    exact ⟨ph3, by simp [hol], qg _, fun h => absurd rfl h⟩
   ·exact ⟨x, by simp only [qo, e, yP]; exact hx, qg _, fun h => ⟨h, fun _ => by simp only [qo, e, yP]⟩⟩
  ·simp only [qo] at h
   by_cases e : o = o'
   ·subst e; simp [hlen, hol] at h
   ·simp [e] at h; exact hf o' c h
 refine ⟨⟨by simp [hlen], fun o' x e' hx he => ?_, fun o1 o2 b c c' q1 q2 => ?_, fun o1 b c q => ?_, g.bnd, g.size⟩, m⟩
 ·simp only [qo] at hx he
  by_cases e : o = o'
  ·subst e
   simp [hlen, hol] at hx he
   subst hx; subst he
   exact ⟨rfl, rfl⟩
  ·simp [e] at hx he
   exact (g.ok o' x e' hx he).move m fun _ _ _ => rfl
 ·simp only [qo] at q1 q2
  by_cases e : o = o1
  ·subst e; simp [hlen, hol] at q1
  ·by_cases e2 : o = o2
   ·subst e2; simp [hlen, hol] at q2
   ·simp [e] at q1; simp [e2] at q2
    exact g.inj o1 o2 b c c' q1 q2
 ·simp only [qo] at q
  by_cases e : o = o1
  ·subst e; simp [hlen, hol] at q
  ·simp [e] at q; exact g.base o1 b c q
theorem ACall.fill {P : Prg} {f : FuncId} {avs : List AV} {r : AV} {ob : List Ob} {o : Nat} (ho : ob[o]? = some ph2) (h : ACall P f avs ob (fun r' ob' => r' = r ∧ ob' = ob)) : ACall P f avs ob (fun r' ob' => r' = r ∧ ob' = ob.set o ph3) := by
 obtain ⟨hE, h⟩ := h
 refine ⟨hE, fun B w be C vs g hG hr => (h B w be C vs g hG hr).mono ?_⟩
 rintro e w' ⟨v, r', ob', be', rfl, hb, hh, hm, hv, rfl, rfl⟩
 obtain ⟨g1, m1⟩ := hh.fill ho
 exact ⟨v, r', _, _, rfl, hb, g1, hm.trans m1, Rep.move m1 _ _ hv, rfl, rfl⟩
theorem XD.own {P : Prg} {B : Nat} {Q : Exit → St → Prop} {f : FuncId} {avs : List AV} {r : AV} {ob : List Ob} (o : Nat) (he : Enters P f) (h : ∀ ob', ob'[o]? = some ph2 → ACall P f avs ob' (fun r' ob'' => r' = r ∧ ob'' = ob')) (ho : ob[o]? = some ph2)
  {xs : List It} {fr : List (Nat × AV)} {dst : Option Nat} (hK : XN P B xs Q ⟨QJ fr dst r, ob.set o ph3⟩) : XD P B false 0 f avs xs Q fr ob dst := by
 refine XD.at (r := r) o ph3 he (fun ob' h' => ACall.fill h' (h ob' h')) ho (by decide) ?_
 simp only [app, qG (qb.1 ho).1]
 exact hK
theorem callE.vo {P : Prg} {B k : Nat} {Q : Exit → St → Prop} {f : FuncId} {ds : List AV} {r : AV} {x : Ob} (h : VO P f ds r x) {ob : List Ob} (o : Nat) (ho : ob[o]? = some ph2) {xs : List It} {fr : List (Nat × AV)} {dst : Option Nat} (hK : XN P B xs Q ⟨QJ fr dst (shr o r), ob.set o x⟩) : XD P B true k f ds xs Q fr ob dst := by
 have hl : o < ob.length := (qb.1 ho).1
 have ha : app ob (some (o, x)) = ob.set o x := by simp [app, hl]
 refine ⟨shr o r, some (o, x), ?_, by rw [ha]; exact hK⟩
 unfold Zn
 rw [qG rfl]
 refine ⟨ACall.of_vo_at h ho ⟨rfl, by rw [ha]⟩, fun o' y e => ?_⟩
 cases e
 exact ⟨ph2, ho, by simp [ph2, ph]⟩
def QjX : Int → List Int → Prop
 | _, [] => True
 | m, n :: l => 5 ≤ n ∧ n ≤ m ∧ QjX (m - n) l
instance decSk : ∀ (m : Int) (l : List Int), Decidable (QjX m l)
 | _, [] => isTrue trivial
 | m, n :: l => by
  unfold QjX
  have := decSk (m - n) l
  exact inferInstance
def skN (l : List Int) : Int := if l.length = 0 ∨ 1000 < l.length then 8 else if QjX 100000 l then 0 else 8
def skL (m : Int) (l : List Int) : Nat → Int
 | 0 => m
 | k + 1 => skL m l k - l.getD k 0
theorem QlY (l : List Int) : ∀ (m : Int) , QjX m l ↔ ∀ k, k < l.length → 5 ≤ l.getD k 0 ∧ l.getD k 0 ≤ skL m l k := by
 induction l with
 | nil => intro m; simp [QjX]
 | cons n l ih =>
  intro m
  have e : ∀ k, skL m (n :: l) (k + 1) = skL (m - n) l k := fun k => by
   induction k with
   | zero => simp [skL]
   | succ k ih2 =>
    show skL m (n :: l) (k + 1) - (n :: l).getD (k + 1) 0 = skL (m - n) l k - l.getD k 0
    rw [ih2]; rfl
  rw [QjX, ih]
  constructor
  ·rintro ⟨h1, h2, h3⟩ k hk
   match k with
   | 0 => exact ⟨h1, h2⟩
   | k + 1 =>
    rw [e]
    exact h3 k (by simpa using hk)
  ·intro h
   refine ⟨(h 0 (by simp)).1, (h 0 (by simp)).2, fun k hk => ?_⟩
   have := h (k + 1) (by simpa using hk)
   rw [e] at this
   exact this
def QdM (P : Prg) (f : Nat) : Prop := ∀ l : List Int, l.length ≤ 1000000 → (∀ v ∈ l, -9223372036854775808 ≤ v ∧ v ≤ 9223372036854775807) → VC P f [Q1 l] (.int .i64 (skN l))
theorem QhH {P : Prg} {f : Nat} (bd : Body P f 31 [.tmp 2] Q6) : QdM P f := by
 intro l hl hv
 refine Xv (by simp [isDL, Jg]) rfl bd ?_
 by_cases h1 : l.length = 0 ∨ 1000 < l.length
 ·have e8 : skN l = 8 := by rw [skN, qG h1]
  rw [e8]
  rcases h1 with h1 | h1
  ·simp (disch := omega) only [rq, simprocAttr, Q6, Q1]
  ·by_cases h0 : l.length = 0
   ·omega
   ·simp (disch := omega) only [rq, simprocAttr, Q6, Q1]
 have e8 : skN l = if QjX 100000 l then 0 else 8 := by rw [skN, qF h1]
 rw [e8]
 clear e8
 have hiff := QlY l 100000
 have kl : (ks .i64 l).length = l.length := QU _ _
 have h0 : ¬ l.length = 0 := by omega
 simp (disch := omega) only [rq, simprocAttr, Q6, Q1]
 refine ZV (ι := Nat) (fun k => ⟨[(16, .int .i64 k), (15, .int .i64 l.length), (14, .list l.length (ks .i64 l)), (3, .int .i64 (skL 100000 l k))], []⟩) (fun k => k ≤ l.length ∧ (∀ j, j < k → 5 ≤ l.getD j 0 ∧ l.getD j 0 ≤ skL 100000 l j) ∧ 0 ≤ skL 100000 l k ∧ skL 100000 l k ≤ 100000) (fun k => l.length - k) 0 (Jq (by simp [Am.look, skL])) ⟨by omega, by omega, by simp [skL], by simp [skL]⟩ ?_
 rintro k ⟨hk, ha, hb, hc⟩
 by_cases hlt : k < l.length
 ·have e1 : (ks .i64 l).drop k = .int .i64 (l.getD k 0) :: (ks .i64 l).drop (k + 1) := by
   have h := QkO (K := .i64) (l := l) (i := k) hlt
   rw [← QbY] at h
   exact h
  have hr := hv (l.getD k 0) (by rw [qh, qd hlt]; exact yg _)
  have hs : skL 100000 l (k + 1) = skL 100000 l k - l.getD k 0 := rfl
  by_cases g1 : l.getD k 0 < 5
  ·have hn : ¬ QjX 100000 l := fun h => by have := (hiff.1 h k hlt).1; omega
   rw [qF hn]
   generalize l.getD k 0 = v at *
   simp (disch := omega) only [rq, simprocAttr, e1, kl]
  ·by_cases g2 : skL 100000 l k < l.getD k 0
   ·have hn : ¬ QjX 100000 l := fun h => by have := (hiff.1 h k hlt).2; omega
    rw [qF hn]
    generalize l.getD k 0 = v at *
    simp (disch := omega) only [rq, simprocAttr, e1, kl]
   ·have ha' : ∀ j, j < k + 1 → 5 ≤ l.getD j 0 ∧ l.getD j 0 ≤ skL 100000 l j := fun j hj => by
     by_cases e : j = k
     ·subst e; omega
     ·exact ha j (by omega)
    generalize l.getD k 0 = v at *
    generalize skL 100000 l k = m at *
    simp (disch := omega) only [rq, simprocAttr, e1, kl]
    refine ⟨k + 1, ⟨by omega, ha', by omega, by omega⟩, by omega, ?_⟩
    simp only [hs]
    exact QH
 ·have ek : k = l.length := by omega
  subst ek
  rw [qG (hiff.2 ha)]
  simp (disch := omega) only [rq, simprocAttr]
def hdA (f c b r n : Int) : AV := .agg [.int .i64 f, .int .i64 c, .int .i64 b, .int .i64 r, .int .i64 n]
def shP (f c b r n : Int) : Prop := (b = 8 ∨ b = 16 ∨ b = 24) ∧ (f = 1 ∨ f = 2) ∧ 1 ≤ c ∧ c ≤ 6 ∧ 1 ≤ r ∧ r ≤ 1048576 ∧ 1 ≤ n
instance decShP (f c b r n : Int) : Decidable (shP f c b r n) := by unfold shP; exact inferInstance
def QfQ (P : Prg) (g : Nat) : Prop := ∀ f c b r n : Int, VC P g [hdA f c b r n] (.bool (decide (shP f c b r n)))
theorem Qfd {P : Prg} {g t0 : Nat} (bd : Body P g 44 [.tmp 2] (Qp t0)) : QfQ P g := by
 intro f c b r n
 refine Xv rfl rfl bd ?_
 by_cases hb : b = 8 ∨ b = 16 ∨ b = 24
 case neg =>
  have hn : decide (shP f c b r n) = false := decide_eq_false fun h => hb h.1
  rw [hn]
  simp (disch := omega) only [rq, simprocAttr, Qp, hdA]
 by_cases hf : f = 1 ∨ f = 2
 case neg =>
  have hn : decide (shP f c b r n) = false := decide_eq_false fun h => hf h.2.1
  rw [hn]
  rcases hb with rfl | rfl | rfl <;> simp (disch := omega) only [rq, simprocAttr, Qp, hdA]
 by_cases hc1 : 1 ≤ c
 case neg =>
  have hn : decide (shP f c b r n) = false := decide_eq_false fun h => hc1 h.2.2.1
  rw [hn]
  rcases hb with rfl | rfl | rfl <;> rcases hf with rfl | rfl <;> simp (disch := omega) only [rq, simprocAttr, Qp, hdA]
 by_cases hc2 : c ≤ 6
 case neg =>
  have hn : decide (shP f c b r n) = false := decide_eq_false fun h => hc2 h.2.2.2.1
  rw [hn]
  rcases hb with rfl | rfl | rfl <;> rcases hf with rfl | rfl <;> simp (disch := omega) only [rq, simprocAttr, Qp, hdA]
 by_cases hr1 : 1 ≤ r
 case neg =>
  have hn : decide (shP f c b r n) = false := decide_eq_false fun h => hr1 h.2.2.2.2.1
  rw [hn]
  rcases hb with rfl | rfl | rfl <;> rcases hf with rfl | rfl <;> simp (disch := omega) only [rq, simprocAttr, Qp, hdA]
 by_cases hr2 : r ≤ 1048576
 case neg =>
  have hn : decide (shP f c b r n) = false := decide_eq_false fun h => hr2 h.2.2.2.2.2.1
  rw [hn]
  rcases hb with rfl | rfl | rfl <;> rcases hf with rfl | rfl <;> simp (disch := omega) only [rq, simprocAttr, Qp, hdA]
 by_cases hn1 : 1 ≤ n
 case neg =>
  have hn : decide (shP f c b r n) = false := decide_eq_false fun h => hn1 h.2.2.2.2.2.2
  rw [hn]
  rcases hb with rfl | rfl | rfl <;> rcases hf with rfl | rfl <;> simp (disch := omega) only [rq, simprocAttr, Qp, hdA]
 have hn : decide (shP f c b r n) = true := decide_eq_true ⟨hb, hf, hc1, hc2, hr1, hr2, hn1⟩
 rw [hn]
 rcases hb with rfl | rfl | rfl <;> rcases hf with rfl | rfl <;> simp (disch := omega) only [rq, simprocAttr, Qp, hdA]
def Qmo (c r n : Int) : Prop := n ≤ 4000 / c ∧ Qli r n = 0
instance decFitP (c r n : Int) : Decidable (Qmo c r n) := by unfold Qmo; exact inferInstance
theorem Qlh {r n : Int} (h : Qli r n = 0) : ∃ k : Int, QgS r n = .tup [.int .i64 k, .int .i64 0] ∧ 0 ≤ k ∧ k ≤ 1000 := by
 unfold Qli at h
 unfold QgS
 split at h
 ·cases h
 rename_i a1
 split at h
 ·cases h
 rename_i a2
 split at h
 ·cases h
 rename_i a3
 rw [qF a1, qF a2, qF a3]
 have := JI r
 exact ⟨_, rfl, Int.ediv_nonneg (by omega) (by omega), by omega⟩
def QlE (P : Prg) (g : Nat) : Prop := ∀ f c b r n : Int, 1 ≤ c → c ≤ 6 → VC P g [hdA f c b r n] (.bool (decide (Qmo c r n)))
theorem QhZ {P : Prg} {g fC t0 : Nat} (bd : Body P g 25 [.tmp 2] (Q7 fC t0)) (hC : QbN P fC) : QlE P g := by
 intro f c b r n c1 c2
 refine Xv rfl rfl bd ?_
 have hC' := hC r n
 have q0 : ¬ c = 0 := by omega
 have q1 : (4000 : Int).tdiv c = 4000 / c := yt (by omega)
 have q2 : 0 ≤ 4000 / c := Int.ediv_nonneg (by omega) (by omega)
 have q3 : 4000 / c ≤ 4000 := ja _ (by omega)
 by_cases h1 : n ≤ 4000 / c
 case neg =>
  have hn : decide (Qmo c r n) = false := decide_eq_false fun h => h1 h.1
  rw [hn]
  generalize hQ : 4000 / c = Q at *
  have hw : IntKind.i64.wrap Q = Q := QcN (by omega) (by omega)
  simp (disch := omega) only [rq, simprocAttr, Q7, hdA, q1, hQ, hw]
 by_cases h2 : Qli r n = 0
 ·have hn : decide (Qmo c r n) = true := decide_eq_true ⟨h1, h2⟩
  rw [hn]
  obtain ⟨k, e, k1, k2⟩ := Qlh h2
  rw [e] at hC'
  generalize hQ : 4000 / c = Q at *
  have hw : IntKind.i64.wrap Q = Q := QcN (by omega) (by omega)
  simp (disch := omega) only [rq, simprocAttr, Q7, hdA, q1, hQ, hw]
  refine Qa hC' ?_
  simp (disch := omega) only [rq, simprocAttr]
 ·have hn : decide (Qmo c r n) = false := decide_eq_false fun h => h2 h.2
  rw [hn]
  obtain ⟨k, e⟩ := Qmy r n
  rw [e] at hC'
  generalize hQ : 4000 / c = Q at *
  have hw : IntKind.i64.wrap Q = Q := QcN (by omega) (by omega)
  generalize Qli r n = E at *
  simp (disch := omega) only [rq, simprocAttr, Q7, hdA, q1, hQ, hw]
  refine Qa hC' ?_
  simp (disch := omega) only [rq, simprocAttr]
def hdN (f c b r n : Int) : Int := if shP f c b r n ∧ Qmo c r n then 0 else 8
def QdO (P : Prg) (g : Nat) : Prop := ∀ f c b r n : Int, VC P g [hdA f c b r n] (.int .i64 (hdN f c b r n))
theorem QgD {P : Prg} {g fS fF t0 : Nat} (bd : Body P g 11 [.tmp 2] (QX fS fF t0)) (hS : QfQ P fS) (hF : QlE P fF) : QdO P g := by
 intro f c b r n
 refine Xv rfl rfl bd ?_
 have hS' := hS f c b r n
 by_cases h1 : shP f c b r n
 case neg =>
  have e : hdN f c b r n = 8 := by rw [hdN, qF fun h => h1 h.1]
  rw [decide_eq_false h1] at hS'
  rw [e]
  rw [hdA] at hS' ⊢
  simp (disch := omega) only [rq, simprocAttr, QX]
  refine Qa hS' ?_
  simp (disch := omega) only [rq, simprocAttr]
 have hF' := hF f c b r n h1.2.2.1 h1.2.2.2.1
 rw [decide_eq_true h1] at hS'
 by_cases h2 : Qmo c r n
 ·have e : hdN f c b r n = 0 := by rw [hdN, qG ⟨h1, h2⟩]
  rw [decide_eq_true h2] at hF'
  rw [e]
  rw [hdA] at hS' hF' ⊢
  simp (disch := omega) only [rq, simprocAttr, QX]
  iterate 2 (refine Qa (by assumption) ?_; simp (disch := omega) only [rq, simprocAttr])
 ·have e : hdN f c b r n = 8 := by rw [hdN, qF fun h => h2 h.2]
  rw [decide_eq_false h2] at hF'
  rw [e]
  rw [hdA] at hS' hF' ⊢
  simp (disch := omega) only [rq, simprocAttr, QX]
  iterate 2 (refine Qa (by assumption) ?_; simp (disch := omega) only [rq, simprocAttr])
def hdP (f c b r n : Nat) : Nat → List UInt8
 | 0 => [84, 84, 65, 49]
 | 1 => [84, 84, 65, 49] ++ leB f 2
 | 2 => [84, 84, 65, 49] ++ leB f 2 ++ leB c 2
 | 3 => [84, 84, 65, 49] ++ leB f 2 ++ leB c 2 ++ leB b 2
 | 4 => [84, 84, 65, 49] ++ leB f 2 ++ leB c 2 ++ leB b 2 ++ leB r 4
 | _ => [84, 84, 65, 49] ++ leB f 2 ++ leB c 2 ++ leB b 2 ++ leB r 4 ++ leB n 4
def hdB (f c b r n : Nat) : List UInt8 := Qpg (hdP f c b r n 5)
theorem QkY (f c b r n : Int) : hdN f c b r n = 0 ∨ hdN f c b r n = 8 := by unfold hdN; split <;> simp
def QnD (f c b r n : Int) : AV := if hdN f c b r n = 0 then .tup [Q1 (QY (QG r).toNat n.toNat), .int .i64 0] else .tup [.list 0 [], .int .i64 8]
theorem QnA (f c b r n : Int) : isD (QnD f c b r n) = true := by unfold QnD; split <;> simp [isD, isDL, Jg]
theorem QmV {f c b r n : Int} (h : hdN f c b r n = 0) : ∃ m : Nat, n = m ∧ okA r m := by
 unfold hdN at h
 split at h
 case isFalse => cases h
 rename_i h1
 obtain ⟨⟨a1, a2, a3, a4, a5, a6, a7⟩, b1, b2⟩ := h1
 have q3 : 4000 / c ≤ 4000 := ja _ (by omega)
 obtain ⟨m, rfl⟩ : ∃ m : Nat, n = m := ⟨n.toNat, by omega⟩
 refine ⟨m, rfl, by omega, by omega, by omega, by omega, ?_⟩
 unfold Qli at b2
 rw [qF (by omega), qF (by omega)] at b2
 split at b2
 ·cases b2
 rename_i b3
 have hlong : 1 ≤ QG r := JI r
 obtain ⟨L, hLe⟩ : ∃ L : Nat, QG r = L := ⟨(QG r).toNat, by omega⟩
 rw [hLe, qv, qv, XS]
 rw [hLe] at b3
 have h1 : (m : Int) + (L : Int) - 1 = ((m - 1 + L : Nat) : Int) := by omega
 rw [h1, ← y9, Nat.add_div_right _ (by omega)] at b3
 omega
def Qb8 (P : Prg) (g : Nat) : Prop := ∀ f c b r n : Int, VC P g [hdA f c b r n] (QnD f c b r n)
theorem Qfe {P : Prg} {g fC fL t0 ti : Nat} (bd : Body P g 17 [.tmp 2, .tmp 3] (Q4 fC fL t0)) (hC : QdO P fC) (hL : Qi5 ti P fL) : Qb8 P g := by
 intro f c b r n
 refine QD 1 rfl (QnA _ _ _ _ _) (Qj bd (by simp) ?_)
 have hC' := hC f c b r n
 rw [hdA] at hC' ⊢
 rcases QkY f c b r n with h | h
 ·rw [h] at hC'
  rw [QnD, qG h]
  obtain ⟨m, rfl, hok⟩ := QmV h
  have hL' := hL r m hok
  have tl := QN .i64 (QY (QG r).toNat m)
  rw [qv] at hL' ⊢
  rw [Q1]
  generalize QY (QG r).toNat m = LL at *
  simp (disch := omega) only [rq, simprocAttr, Q4]
  refine Qa hC' ?_
  simp (disch := omega) only [rq, simprocAttr]
  refine QaN.vo hL' ?_
  simp (disch := omega) only [rq, simprocAttr, shr]
  simp [ZO, Q5, frzL, QQ, frzL_T _ tl]
 ·rw [h] at hC'
  rw [QnD, qF (by omega)]
  simp (disch := omega) only [rq, simprocAttr, Q4]
  refine Qa hC' ?_
  simp (disch := omega) only [rq, simprocAttr]
  simp [ZO, Q5, frzL, QQ]
def QlB (P : Prg) (f : Nat) : Prop := ∀ s t : List UInt8, s.length ≤ 1000000 → t.length ≤ 1000000 → VC P f [.str s, .str t] (.bool (s.take t.length == t))
theorem Qge {P : Prg} {f : Nat} (bd : Body P f 18 [.tmp 4] Qk) : QlB P f := by
 intro s t hs ht
 refine Xv rfl rfl bd ?_
 by_cases h : t.length ≤ s.length
 ·have hs1 : Qga .eql (s.take t.length) t = some (.bool (s.take t.length == t)) := rfl
  simp (disch := omega) only [rq, simprocAttr, Qk, hs1]
 ·have : (s.take t.length == t) = false := yq.2 fun e => by
   have := congrArg List.length e
   rw [qQ] at this
   omega
  rw [this]
  simp (disch := omega) only [rq, simprocAttr, Qk]
def Qi4 (P : Prg) (f : Nat) : Prop := ∀ s t : List UInt8, s.length ≤ 1000000 → t.length ≤ 1000000 → VC P f [bs s, bs t] (.bool (s.take t.length == t))
theorem Qdt {P : Prg} {f fE : Nat} (bd : Body P f 18 [.tmp 4] (Za fE)) (hE : QfP P fE) : Qi4 P f := by
 intro s t hs ht
 refine Xv (by simp [isDL, Jr]) rfl bd ?_
 by_cases h : t.length ≤ s.length
 ·have hE' := hE (s.take t.length) t
  have hl : (s.take t.length).length = t.length := by rw [qQ]; omega
  have hu : (u8 s).take t.length = u8 (s.take t.length) := Qm5 _ _
  rw [bs, bs, hl] at hE'
  simp only [bs]
  simp (disch := omega) only [rq, simprocAttr, Za, hu, yG]
  refine Qa hE' ?_
  simp (disch := omega) only [rq, simprocAttr]
 ·have : (s.take t.length == t) = false := yq.2 fun e => by
   have := congrArg List.length e
   rw [qQ] at this
   omega
  rw [this]
  simp only [bs]
  simp (disch := omega) only [rq, simprocAttr, Za]
def QnX (b : List UInt8) : Prop := b.length ≤ 1000000 ∧ (b.take 3 == [73, 68, 51]) = false ∧ (b.take 8 == [65, 80, 69, 84, 65, 71, 69, 88]) = false
def XH (P : Prg) (f : Nat) : Prop := ∀ b, QnX b → VC P f [bs b] (.tup [.int .i64 0, .int .i64 6])
theorem QgB {P : Prg} {f fH fV fS fE t0 : Nat} (bd : Body P f 78 [.tmp 2, .tmp 3] (Xq fH fV fS fE t0)) (hH : Qi4 P fH) : XH P f := by
 intro b ⟨h1, h2, h3⟩
 refine Xv (by simp [isDL, Jr]) rfl bd ?_
 have hH' := hH b [73, 68, 51] h1 (by simp)
 rw [show ([73, 68, 51] : List UInt8).length = 3 from rfl, h2] at hH'
 have hH2 : VC P fH [.list b.length (u8 b), .list 3 [.int .u8 73, .int .u8 68, .int .u8 51]] (.bool false) := hH'
 simp only [bs]
 simp (disch := omega) only [rq, simprocAttr, Xq]
 refine Zt 1 [0] hH2 (by simp [ZO, Q5, frzL, QQ, isDL, isD, frzL_T _ (Qgx b)]) ?_
 simp (disch := omega) only [rq, simprocAttr, Qe]
theorem Qlz {P : Prg} {f fH fT fN fE t0 t1 : Nat} (bd : Body P f 43 [.tmp 2, .tmp 3] (JT fH fT fN fE t0 t1)) (hH : Qi4 P fH) : XH P f := by
 intro b ⟨h1, h2, h3⟩
 refine Xv (by simp [isDL, Jr]) rfl bd ?_
 have hH' := hH b [65, 80, 69, 84, 65, 71, 69, 88] h1 (by simp)
 rw [show ([65, 80, 69, 84, 65, 71, 69, 88] : List UInt8).length = 8 from rfl, h3] at hH'
 have hH2 : VC P fH [.list b.length (u8 b), .list 8 [.int .u8 65, .int .u8 80, .int .u8 69, .int .u8 84, .int .u8 65, .int .u8 71, .int .u8 69, .int .u8 88]] (.bool false) := hH'
 simp only [bs]
 simp (disch := omega) only [rq, simprocAttr, JT]
 refine Zt 1 [0] hH2 (by simp [ZO, Q5, frzL, QQ, isDL, isD, frzL_T _ (Qgx b)]) ?_
 simp (disch := omega) only [rq, simprocAttr, Qe]
theorem Qjc {P : Prg} {f fI fA : Nat} (bd : Body P f 19 [.tmp 2, .tmp 3] (Jm fI fA)) (hI : XH P fI) (hA : XH P fA) : XH P f := by
 intro b h
 refine Xv (by simp [isDL, Jr]) rfl bd ?_
 have hI' := hI b h
 have hA' := hA b h
 rw [bs] at hI' hA' ⊢
 simp (disch := omega) only [rq, simprocAttr, Jm]
 iterate 2 (refine Qa (by assumption) ?_; simp (disch := omega) only [rq, simprocAttr])
def Qit (g : Nat) (P : Prg) (f : Nat) : Prop := ∀ b : List UInt8, VC P f [bs b] (.fn (.func g) [] [.cell [bs b]])
theorem Qjb {P : Prg} {f g t0 : Nat} (bd : Body P f 4 [.tmp 2] (Jl g t0)) : Qit g P f := by
 intro b
 refine QD 1 (by simp [isDL, Jr]) (by simp [isD, isDL, Jr]) (Qj bd (by simp) ?_)
 have tb := Qgx b
 simp (disch := omega) only [rq, simprocAttr, Jl, bs]
 simp [ZO, Q5, frzL, QQ, frzL_T _ tb]
theorem QhA {P : Prg} {f fS : Nat} (bd : Body P f 35 [] (ZE fS)) (hS : XH P fS) {b : List UInt8} (h : QnX b) : ACall P f [.any, .cell [bs b]] [] (fun _ _ => True) := by
 refine Qj bd (by simp) ?_
 have hS' := hS b h
 rw [bs] at hS' ⊢
 simp (disch := omega) only [rq, simprocAttr, ZE]
 refine ZV (ι := Unit) (fun _ => ⟨[(3, .int .i64 0), (1, .cell [.list b.length (u8 b)])], []⟩) (fun _ => True) (fun _ => 0) () (QH) trivial ?_
 intro _ _
 have hub : (u8 b).take b.length = u8 b := qO (by rw [Qf9]; omega)
 simp (disch := omega) only [rq, simprocAttr, List.drop_zero, yG, Int.sub_zero, hub]
 refine Qa hS' ?_
 simp (disch := omega) only [rq, simprocAttr]
def Xs (fT t0 t1 : Nat) : RC0 := ⟨[.reg [zs 2 (.alloc t0 [.int .i64 0]), zs 3 (.alloc t1 [.int .i64 0])], .reg [zs 4 (.alloc t0 [.int .i64 0]), zu (.store 1 (.tmp 4) (.const (.int .i64 0)))]], 8, .reg [zm 7 0, zq 8 fT [(.tmp 7)]], .seq (.reg [zl 17 4, zw 1 2 17, zu (.store 1 (.tmp 3) (.const (.int .i64 0)))]) (.ret)⟩
def QcY (P : Prg) (f : Nat) : Prop := ∀ b, QnX b → VC P f [bs b] (.tup [.int .i64 0, .int .i64 0])
theorem QhB {P : Prg} {f fT g fS t0 t1 : Nat} (bd : QlJ P f 18 [.cell 2 t0, .cell 3 t1] (Xs fT t0 t1)) (hT : Qit g P fT) (bG : Body P g 35 [] (ZE fS)) (hS : XH P fS) (h0 : Z2 P t0 = some none) (h1 : Z2 P t1 = some none) : QcY P f := by
 intro b h
 refine Jp (by simp [isDL, Jr]) rfl (ACall.of_rangeN bd (by simp) ?_)
 have hT' := hT b
 have hI := QhA bG hS h
 have hc : isDL [bs b] = true := by simp [isDL, Jr]
 rw [bs] at hT' hI hc ⊢
 simp (disch := omega) only [rq, simprocAttr, Xs, QlR, Qm2, Qju, Qny, Qgv, Qoq]
 refine Qa hT' ?_
 simp (disch := omega) only [rq, simprocAttr, Qgv]
 refine ⟨g, _, fun j => j.elim0, rfl, bG.ent, hc, QkT hc hI, ?_⟩
 simp (disch := omega) only [rq, simprocAttr, ZP, h0, h1, QC]
def pcs (c : UInt8) : List UInt8 → List (List UInt8)
 | [] => [[]]
 | b :: l => if b = c then [] :: pcs c l else match pcs c l with | [] => [[b]] | p :: r => (b :: p) :: r
theorem Qen (c : UInt8) : ∀ s, pcs c s ≠ []
 | [] => by simp [pcs]
 | b :: l => by unfold pcs; split <;> (try split) <;> simp
theorem QkW (b c : UInt8) (l : List UInt8) : Lib.index (b :: l) [c] = if b = c then 0 else if Lib.index l [c] = -1 then -1 else Lib.index l [c] + 1 := by
 show (if [c].isPrefixOf (b :: l) then 0 else if Lib.index l [c] == -1 then -1 else Lib.index l [c] + 1) = _
 have e : [c].isPrefixOf (b :: l) = decide (b = c) := by
  simp only [List.isPrefixOf, Bool.and_true]
  by_cases h : b = c
  ·simp [h]
  ·simp [h]
   exact fun h' => h h'.symm
 rw [e]
 by_cases h : b = c <;> simp [h]
theorem JF (c : UInt8) : ∀ s, (Lib.index s [c] = -1 ∧ pcs c s = [s]) ∨ ∃ i : Nat, Lib.index s [c] = i ∧ i < s.length ∧ pcs c s = s.take i :: pcs c (s.drop (i + 1))
 | [] => .inl ⟨rfl, rfl⟩
 | b :: l => by
  rw [QkW]
  by_cases h : b = c
  ·refine .inr ⟨0, by simp [h], by simp, ?_⟩
   simp [pcs, h]
  ·rw [qF h]
   rcases JF c l with ⟨h1, h2⟩ | ⟨i, h1, h2, h3⟩
   ·refine .inl ⟨by rw [qG h1], ?_⟩
    rw [pcs, qF h, h2]
   ·refine .inr ⟨i + 1, by rw [h1, qF (by omega)]; omega, by simp; omega, ?_⟩
    rw [pcs, qF h, h3]
    simp
def QdL (c : UInt8) (ty : Nat) (P : Prg) (f : Nat) : Prop := QnZ P f ty [c] (pcs c)
section
variable {br cap ty : Nat}
def ΓS (br cap ty : Nat) (W : World) (r : List UInt8) (N : Nat) : Ctx := ⟨0, ⟨W, [bx ty r], [some (br, cap)], fun _ _ => False⟩, N, []⟩
theorem Qpe {N : Nat} {fr : List (Nat × AV)} {a : Act} {W : World} {r : List UInt8} (hb : ZJ W br cap ty r) (hd : a.defers = []) (hz : a.tmps.size = N) (h : ∀ i, Rep ⟨W, [bx ty r], [some (br, cap)], fun _ _ => False⟩ (look fr i) (a.tmps.getD i undef)) : Sim (ΓS br cap ty W r N) ⟨fr, [bx ty r]⟩ a W := by
 refine ⟨hd, hz, Below.refl _ _, [some (br, cap)], ⟨rfl, fun o x e hx he => ?_, fun o o' b c c' h1 h2 => ?_, fun _ _ _ _ => ye _, fun _ _ h => h.elim, ye _⟩, Moves.refl _, h⟩
 ·rcases o with _ | o
  ·simp only [ΓS, yp, qc] at hx he
   subst hx he
   obtain ⟨cur, q1, q2, q3, q4, q5, q6⟩ := hb
   refine ⟨cur, ⟨(0, 0), q1, .inl rfl⟩, by simp [bx, q2], q3, q4, rfl, ?_, q6⟩
   simp only [bx, qp, qX]
   rw [q5]
   simp only [RepL, Rep]
   exact ⟨_, _, rfl, rfl, rfl⟩
  ·simp [ΓS] at hx
 ·rcases o with _ | o <;> rcases o' with _ | o'
  ·rfl
  all_goals simp [ΓS] at h1 h2
theorem Qa6 {N : Nat} {fr : List (Nat × AV)} {a : Act} {W W' : World} {r r' : List UInt8} (hb : ZJ W br cap ty r) (h : Sim (ΓS br cap ty W r N) ⟨fr, [bx ty r']⟩ a W') :
  QmZ br cap ty W W' ∧ ZJ W' br cap ty r' ∧ (∀ (b k : Nat) (v : Value), b ≠ br → W.cell? ⟨b, k, none⟩ = some v → W'.cell? ⟨b, k, none⟩ = some v) := by
 obtain ⟨_, _, bel, be, g, m, _⟩ := h
 have hbe : be[0]? = some (some (br, cap)) := by
  obtain ⟨y, hy, _, hyp⟩ := m.ob 0 (bx ty r) rfl
  have hy' : [bx ty r'][0]? = some y := hy
  simp only [yp, qc] at hy'
  subst hy'
  exact (hyp (by simp [bx])).2 rfl
 have hbox : ZJ W' br cap ty r' := Held.boxAt g rfl hbe
 have hblk : ∀ k, k < W.heap.size → k ≠ br → W'.heap[k]? = W.heap[k]? := fun k hk hne => (m.blk k hk fun o c he => by
  rcases o with _ | o
  ·simp only [ΓS, yp, qc, ya] at he
   exact hne he.1.symm
  ·simp [ΓS] at he).1
 refine ⟨⟨some br, ⟨bel.os, bel.tape, bel.output, bel.size, fun k hk hne => hblk k hk fun e => hne (by rw [e])⟩, fun q e => by cases e; exact ⟨rfl, ⟨r, hb⟩, ⟨r', hbox⟩⟩⟩, hbox, fun b k v hne hc => ?_⟩
 rw [World.cell?_of_block (w := W) (hblk b (World.block_lt_of_cell? W _ hc) hne)]
 exact hc
end
noncomputable def QpG (br cap ty : Nat) (W : World) : Nat := by
 classical exact if h : ∃ r, ZJ W br cap ty r then (Classical.choose h).length else 0
theorem Qlr {br cap ty : Nat} {W : World} {r : List UInt8} (h : ZJ W br cap ty r) : QpG br cap ty W = r.length := by
 unfold QpG
 have h' : ∃ r, ZJ W br cap ty r := ⟨r, h⟩
 rw [dif_pos h', (Classical.choose_spec h').uniq h]
set_option maxHeartbeats 1000000 in
theorem QbQ {P : Prg} {f fD fX : Nat} {c : UInt8} {ty : Nat} (bd : Body P f 52 [] (QM fD fX)) (hX : S_StrIndex P fX) : QdL c ty P f := by
 intro s w C v1 v3 br cap hsl hv1 hv3 hbx hCbr hex hG ll J Jx W hW hJ hJx hY hJ0
 obtain ⟨cnt, hcnt⟩ : ∃ cnt, (pcs c s).length = cnt := ⟨_, rfl⟩
 have hbr0 : br < w.heap.size := hbx.lt
 have hne : ∀ {b k : Nat}, ¬ C b k → b ≠ br := fun h e => h (e ▸ hCbr _)
 obtain ⟨KC, hKC⟩ : ∃ KC : World → Prop, ∀ W', KC W' = ∀ (b k : Nat) (v : Value), ¬ C b k → w.cell? ⟨b, k, none⟩ = some v → W'.cell? ⟨b, k, none⟩ = some v := ⟨_, fun _ => rfl⟩
 have hkw : KC W := by rw [hKC]; exact fun b k v _ hc => (hW.cell (p := ⟨b, k, none⟩) (World.block_lt_of_cell? w _ hc)).trans hc
 have hKs : ∀ {A B : World}, KC A → (∀ (b k : Nat) (v : Value), b ≠ br → A.cell? ⟨b, k, none⟩ = some v → B.cell? ⟨b, k, none⟩ = some v) → KC B := fun {A B} h1 h2 => by
  rw [hKC] at h1 ⊢
  exact fun b k v hc hv => h2 b k v (hne hc) (h1 b k v hc hv)
 have hun : ∀ {W' : World} {r : List UInt8}, KC W' → ∀ (c : AV) (v : Value), isD c = true → Rep ⟨w, [], [], C⟩ c v → Rep ⟨W', [bx ty r], [some (br, cap)], fun _ _ => False⟩ c v := fun {W' r} h c v hd hr =>
  Rep.data (X := ⟨w, [], [], C⟩) (Y := ⟨W', [bx ty r], [some (br, cap)], fun _ _ => False⟩) (fun b k v hc ha => ⟨by rw [hKC] at h; exact h b k v (fun h => ha (.inl h)) hc, fun h => by
   rcases h with h | ⟨o, x, c, h1, h2, _⟩
   ·exact h.elim
   ·rcases o with _ | o
    ·simp only [yp, qc, ya] at h2
     exact hne (fun h => ha (.inl h)) h2.1.symm
    ·simp at h2⟩) c v hd hr
 obtain ⟨fn, hf, hnm, hN, hrl, hc'⟩ := bd
 obtain ⟨cc, hb, hc⟩ := qe.1 hc'
 refine callsIn_of_wp hf hb trivial ?_ rfl
 rw [hN]
 unfold QM at hc
 obtain ⟨c1, r1, rfl, hc1, hr1⟩ := Qs hc
 obtain ⟨d0, dA, rfl, hd0, hdA⟩ := Qs hc1
 obtain ⟨y1, y2, rfl, hy1, hy2⟩ := Xg hdA
 obtain rfl := XX hy2
 obtain ⟨c2, d9, rfl, hc2, hd9⟩ := Qs hr1
 obtain ⟨c3, rfl, hc3⟩ := Xl hc2
 obtain ⟨c4, rfl, hc4⟩ := Qb2 hc3
 obtain ⟨c5, rfl, hc5⟩ := Xl hc4
 obtain ⟨d1, s1, rfl, hd1, hs1⟩ := Qs hc5
 obtain ⟨s2, s3, rfl, hs2, hs3⟩ := Qs hs1
 obtain ⟨d2, dB, rfl, hd2, hdB⟩ := Qs hs2
 obtain ⟨y3, y4, rfl, hy3, hy4⟩ := Xg hdB
 obtain rfl := QeA hy3
 obtain rfl := XX hy4
 obtain ⟨d3, s4, rfl, hd3, hs4⟩ := Qs hs3
 obtain ⟨s5, d5, rfl, hs5, hd5⟩ := Qs hs4
 obtain ⟨d4, dC, rfl, hd4, hdC⟩ := Qs hs5
 obtain ⟨y5, y6, rfl, hy5, hy6⟩ := Xg hdC
 obtain rfl := Qg0 hy5
 obtain rfl := XX hy6
 obtain ⟨id4, ops4, rfl, hm4⟩ := Qbi hd4
 obtain ⟨l2, l3, hops4, hm2, hm3⟩ := QcR (q1 := [_, _]) hm4
 obtain ⟨oY, l1, rfl, hoY, hm1⟩ := QcQ hm3
 obtain ⟨id9, ops9, rfl, hm9⟩ := Qbi hd9
 obtain ⟨k2, k3, hops9, hk2, hk3⟩ := QcR (q1 := [_, _]) hm9
 obtain ⟨oZ, k1, rfl, hoZ, hk1⟩ := QcQ hk3
 have hk1' : k1 = [] := by
  cases k1 with
  | nil => rfl
  | cons a b => simp [qP, qe] at hk1
 subst hk1'
 obtain ⟨v2, hv2⟩ : ∃ v2, v2 = Value.pointer (some ⟨br, 0, none⟩) := ⟨_, rfl⟩
 rw [← hv2]
 obtain ⟨yv, hyv⟩ : ∃ yv, yv = (Value.func (.yield ll) #[] #[]) := ⟨_, rfl⟩
 rw [← hyv]
 let a0 : Act := { tmps := #[yv] ++ #[v1, v2, v3] ++ Array.replicate (52 - (#[yv] ++ #[v1, v2, v3]).size) undef, defers := [] }
 show Code.wpIn _ _ _ _ _ a0 _
 let SL : Act → Prop := fun a => a.defers = [] ∧ a.tmps.size = 52 ∧ a.tmps.getD 0 undef = yv ∧ a.tmps.getD 1 undef = v1 ∧ a.tmps.getD 2 undef = v2 ∧ a.tmps.getD 3 undef = v3
 have hSL0 : SL a0 := ⟨rfl, by simp [a0], by simp [a0], by simp [a0], by simp [a0], by simp [a0]⟩
 let I4 : List (Nat × Value) := [(0, yv), (1, v1), (2, v2), (3, v3)]
 have hI : ∀ {qs : List AO} {a : Act}, (J6 0 qs && J6 1 qs && J6 2 qs && J6 3 qs) = true → SL a → ∀ p ∈ I4, J6 p.1 qs = true ∧ a.tmps.getD p.1 undef = p.2 := fun h1 h2 p hp => by
  simp only [qf] at h1
  obtain ⟨_, _, e0, e1, e2, e3⟩ := h2
  simp only [I4, qm, qM, or_false] at hp
  rcases hp with rfl | rfl | rfl | rfl
  ·exact ⟨h1.1.1.1, e0⟩
  ·exact ⟨h1.1.1.2, e1⟩
  ·exact ⟨h1.1.2, e2⟩
  ·exact ⟨h1.2, e3⟩
 let base : List (Nat × AV) := [(0, .lit yv), (1, .cell [.str [c]]), (2, .ref 0 1 0), (3, .cell [.int .i64 0])]
 have hrep : ∀ {W' : World} {r : List UInt8} {a : Act}, KC W' → SL a → ∀ i, Rep ⟨W', [bx ty r], [some (br, cap)], fun _ _ => False⟩ (look base i) (a.tmps.getD i undef) := fun {W' r a} hk h => by
  obtain ⟨_, _, e0, e1, e2, e3⟩ := h
  refine Je (by rw [e0]; simp only [Rep]) (Je (by rw [e1]; exact hun hk _ _ rfl hv1) (Je ?_ (Je (by rw [e3]; exact hun hk _ _ rfl hv3) Qkp)))
  rw [e2, hv2]
  simp only [Rep]
  exact ⟨⟨bx ty r, rfl, by simp [bx], qg _, fun _ => ⟨br, cap, rfl, rfl⟩⟩, rfl⟩
 have hslN : ∀ {W' : World} {r r' : List UInt8} {fr : List (Nat × AV)} {a : Act} {W2 : World}, Sim (ΓS br cap ty W' r 52) ⟨fr, [bx ty r']⟩ a W2 → (∀ p ∈ I4, a.tmps.getD p.1 undef = p.2) → SL a := fun h1 h2 =>
  ⟨h1.1, h1.2.1, h2 (0, yv) (by simp [I4]), h2 (1, v1) (by simp [I4]), h2 (2, v2) (by simp [I4]), h2 (3, v3) (by simp [I4])⟩
 have hF : ∀ {W' : World} {r : List UInt8}, KC W' → Fit P 52 (ΓS br cap ty W' r 52) := fun {W' r} h => ⟨rfl, fun q cs hq => hun h _ _ (by simp only [isD]; exact P.gd q cs hq) (hG q cs hq)⟩
 have hbW : ZJ W br cap ty s := hbx.same (hW.block br hbr0)
 refine wpIn_seq (wpIn_seq ?_)
 refine Zp (Q := fun _ st' => Le 1 st' ⟨(11, .bool false) :: base, [bx ty s]⟩) (hF hkw) hd0 I4 (hI rfl hSL0) (by simp (maxSteps := 4000000) (disch := omega) only [rq, simprocAttr, base, bx]; exact QH) (Qpe hbW hSL0.1 hSL0.2.1 (hrep hkw hSL0)) ?_
 intro st0 a1 W1 hle1 hs1' t1
 have hs1 := hle1 _ _ _ rfl hs1'
 have hSL1 := hslN hs1 t1
 obtain ⟨q1, hbW1, hk1c⟩ := Qa6 hbW hs1
 have hkW1 := hKs hkw hk1c
 have hJ1 := hJ _ _ _ hJ0 q1
 show (Code.cond _ y1 .skip).wpIn Fence.wide 4 _ _ a1 W1
 have h11 : a1.eval (.tmp 11) = .bool false := by
  obtain ⟨_, _, _, _, _, _, h⟩ := hs1
  have h : Rep _ (.bool _) (a1.tmps.getD 11 undef) := h 11
  simp only [Rep] at h
  exact h
 refine wpIn_cond_false h11 (wpIn_skip ?_)
 show (Code.seq (.block 2 _) _).wpIn Fence.wide 4 _ _ a1 W1
 refine wpIn_seq (wpIn_block ?_)
 refine wpIn_loop (fun a W' => ∃ (j : Nat) (r : List UInt8), j < cnt ∧ SL a ∧ KC W' ∧ ZJ W' br cap ty r ∧ r.length ≤ s.length ∧ pcs c r = (pcs c s).drop j ∧ J ((List.finRange (pcs c s).length).take j) W') (fun _ W' => QpG br cap ty W') ?_ ?_
 ·exact ⟨0, s, by rw [← hcnt]; exact List.length_pos_iff.2 (Qen c s), hSL1, hkW1, hbW1, qg _, rfl, hJ1⟩
 intro a Wj ⟨j, r, hj, sl, kc, hb, hrs, hp, hJj⟩
 have hX' := hX r [c] (by omega)
 have getB : ∀ {fr : List (Nat × AV)} {r' : List UInt8} {W' W2 : World} {a : Act} {i : Nat} {b : Bool}, Sim (ΓS br cap ty W' r 52) ⟨fr, [bx ty r']⟩ a W2 → look fr i = .bool b → a.eval (.tmp i) = .bool b := fun {fr r' W' W2 a i b} h e => by
  obtain ⟨_, _, _, _, _, _, h⟩ := h
  have h := h i
  simp only [e, Rep] at h
  exact h
 have fin : ∀ (k : Nat) (hk : k < cnt), (List.finRange (pcs c s).length).take (k + 1) = (List.finRange (pcs c s).length).take k ++ [⟨k, by rw [hcnt]; exact hk⟩] := fun k hk => by
  rw [qU (by simpa [hcnt] using hk)]
  simp
 show (Code.block 3 _).wpIn Fence.wide 4 _ _ a Wj
 refine wpIn_block (wpIn_seq ?_)
 refine Zp (Q := fun _ st' => Le 1 st' ⟨(7, .int .i64 (Lib.index r [c])) :: base, [bx ty r]⟩) (hF kc) hd1 I4 (hI rfl sl) (by simp (maxSteps := 4000000) (disch := omega) only [rq, simprocAttr, base, bx]; refine Qa hX' ?_; simp (maxSteps := 4000000) (disch := omega) only [rq, simprocAttr]; exact QH) (Qpe hb sl.1 sl.2.1 (hrep kc sl)) ?_
 intro st1 aA WA hleA hsA' tA
 have hsA := hleA _ _ _ rfl hsA'
 have slA := hslN hsA tA
 show (Code.seq (.seq d2 _) _).wpIn Fence.wide 4 _ _ aA WA
 refine wpIn_seq (wpIn_seq ?_)
 refine Zp (Q := fun _ st' => Le 1 st' ⟨(33, .bool (decide (Lib.index r [c] < 0))) :: (7, .int .i64 (Lib.index r [c])) :: base, [bx ty r]⟩) (hF kc) hd2 I4 (hI rfl slA) (by simp (maxSteps := 4000000) (disch := omega) only [rq, simprocAttr, base, bx]; exact QH) hsA ?_
 intro st2 aB WB hleB hsB' tB
 have hsB := hleB _ _ _ rfl hsB'
 have slB := hslN hsB tB
 obtain ⟨qB, hbB, hkB⟩ := Qa6 hb hsB
 have kcB := hKs kc hkB
 have hJB := hJ _ _ _ hJj qB
 have h33 := getB hsB (i := 33) rfl
 show (Code.cond _ (.exit 2) .skip).wpIn Fence.wide 4 _ _ aB WB
 rcases JF c r with ⟨e1, e2⟩ | ⟨i, e1, e2, e3⟩
 ·rw [e1] at h33
  refine wpIn_cond_true h33 (wpIn_exit ?_)
  show (Code.region id9 ops9 false).wpIn Fence.wide 4 _ _ aB WB
  have hLj : (pcs c s).drop j = [r] := by rw [← hp, e2]
  have hj1 : j + 1 = cnt := by have := congrArg List.length hLj; rw [yf, hcnt] at this; simp at this; omega
  have hgj : (pcs c s)[j]'(by omega) = r := by
   have : (pcs c s)[j]? = some r := by have h := congrArg (·[0]?) hLj; simpa using h
   exact (qb.1 this).2
  refine wpIn_region_list ?_
  rw [hops9]
  refine ZX k2 _ aB WB (Qh ?_ _ _ _ (ZZ (Q := fun _ st' => Le 1 st' ⟨[(49, .lit yv), (50, .str r)], [bx ty r]⟩) (hF kc) hk2 [] (fun p hp => by cases hp) (by simp (maxSteps := 4000000) (disch := omega) only [rq, simprocAttr, base, bx]; exact QH) hsB))
  rintro _ a7 W7 ⟨rfl, st7, hle7, hs7', _⟩
  have hs7 := hle7 _ _ _ rfl hs7'
  obtain ⟨q7, hb7, hk7⟩ := Qa6 hb hs7
  have hJ7 := hJ _ _ _ hJj q7
  show wpListIn Fence.wide 4 _ _ _ [oZ] a7 W7
  have hd7 : a7.defers = [] := hs7.1
  have hz7 : a7.tmps.size = 52 := hs7.2.1
  have f49 : a7.tmps.getD 49 undef = yv := by obtain ⟨_, _, _, _, _, _, h⟩ := hs7; have h : Rep _ (.lit yv) (a7.tmps.getD 49 undef) := h 49; simpa only [Rep] using h
  have f50 : a7.tmps.getD 50 undef = .string ⟨r.toArray⟩ := by obtain ⟨_, _, _, _, _, _, h⟩ := hs7; have h : Rep _ (.str r) (a7.tmps.getD 50 undef) := h 50; simpa only [Rep] using h
  obtain ⟨cY, dY, _, gY⟩ := QV hoZ
  obtain ⟨cl, opY, calY, argY⟩ := Xm cY
  have gY' : oZ.guard = none := by
   rcases gY with ⟨h, _⟩ | ⟨_, _, _, _, _, h⟩
   ·exact h
   ·cases h
  have argY' : cl.args = #[.tmp 50] := qZ argY.symm
  have hY' := hY ((List.finRange (pcs c s).length).take j) ⟨j, by omega⟩ W7 hJ7 (by simp; omega)
  simp only [Fin.getElem_fin, hgj] at hY'
  unfold wpListIn
  rw [qG (by simp [Region.wanted, gY'])]
  refine QbP opY calY argY' (f49.trans hyv) f50 hY' ?_
  rintro e W8 (⟨rfl, hJ8, _⟩ | ⟨rfl, hX8⟩)
  ·refine ⟨true, rfl, ?_⟩
   refine ⟨by rw [Xf]; exact hd7, .tuple #[], results_none (qZ hrl) _ _ _, ⟨_, rfl⟩, .inl ⟨_, rfl, ?_⟩⟩
   have h1 := fin j hj
   rw [hj1, qO (by simp; omega)] at h1
   rw [h1]
   exact hJ8
  ·refine ⟨false, rfl, ?_⟩
   exact ⟨by rw [Xf]; exact hd7, .tuple #[], results_none (qZ hrl) _ _ _, ⟨_, rfl⟩, .inr ⟨_, trivial, hX8⟩⟩
 ·rw [e1, decide_eq_false (by omega)] at h33
  refine wpIn_cond_false h33 (wpIn_skip ?_)
  show (Code.seq d3 _).wpIn Fence.wide 4 _ _ aB WB
  have hLj : (pcs c s).drop j = r.take i :: pcs c (r.drop (i + 1)) := by rw [← hp, e3]
  have hj1 : j + 1 < cnt := by
   have := congrArg List.length hLj
   rw [yf, hcnt] at this
   have h2 := List.length_pos_iff.2 (Qen c (r.drop (i + 1)))
   simp only [qp] at this
   omega
  have hgj : (pcs c s)[j]'(by omega) = r.take i := by
   have : (pcs c s)[j]? = some (r.take i) := by have h := congrArg (·[0]?) hLj; simpa using h
   exact (qb.1 this).2
  have hdj : pcs c (r.drop (i + 1)) = (pcs c s).drop (j + 1) := by
   have h := congrArg (List.drop 1) hLj
   rw [List.drop_drop] at h
   simpa using h.symm
  rw [e1] at hsB
  refine wpIn_seq ?_
  refine Zp (Q := fun _ st' => Le 1 st' ⟨(8, .str (r.take i)) :: (7, .int .i64 i) :: base, [bx ty r]⟩) (hF kc) hd3 I4 (hI rfl slB) (by simp (maxSteps := 4000000) (disch := omega) only [rq, simprocAttr, base, bx]; exact QH) hsB ?_
  intro st3 aC WC hleC hsC' tC
  have hsC := hleC _ _ _ rfl hsC'
  have slC := hslN hsC tC
  show (Code.seq (.seq (.region id4 ops4 false) _) d5).wpIn Fence.wide 4 _ _ aC WC
  refine wpIn_seq (wpIn_seq (wpIn_region_list ?_))
  rw [hops4]
  refine ZX l2 _ aC WC (Qh ?_ _ _ _ (ZZ (Q := fun _ st' => Le 1 st' ⟨(39, .lit yv) :: (40, .str (r.take i)) :: (7, .int .i64 i) :: base, [bx ty r]⟩) (hF kc) hm2 I4 (hI rfl slC) (by simp (maxSteps := 4000000) (disch := omega) only [rq, simprocAttr, base, bx]; exact QH) hsC))
  rintro _ a7 W7 ⟨rfl, st7, hle7, hs7', t7⟩
  have hs7 := hle7 _ _ _ rfl hs7'
  have sl7 := hslN hs7 t7
  obtain ⟨q7, hb7, hk7⟩ := Qa6 hb hs7
  have kc7 := hKs kc hk7
  have hJ7 := hJ _ _ _ hJj q7
  show wpListIn Fence.wide 4 _ _ _ (oY :: l1) a7 W7
  have hd7 : a7.defers = [] := hs7.1
  have hz7 : a7.tmps.size = 52 := hs7.2.1
  have f39 : a7.tmps.getD 39 undef = yv := by obtain ⟨_, _, _, _, _, _, h⟩ := hs7; have h : Rep _ (.lit yv) (a7.tmps.getD 39 undef) := h 39; simpa only [Rep] using h
  have f40 : a7.tmps.getD 40 undef = .string ⟨(r.take i).toArray⟩ := by obtain ⟨_, _, _, _, _, _, h⟩ := hs7; have h : Rep _ (.str (r.take i)) (a7.tmps.getD 40 undef) := h 40; simpa only [Rep] using h
  have f7 : a7.tmps.getD 7 undef = .int .i64 i := by obtain ⟨_, _, _, _, _, _, h⟩ := hs7; have h : Rep _ (.int .i64 i) (a7.tmps.getD 7 undef) := h 7; simpa only [Rep] using h
  obtain ⟨cY, dY, _, gY⟩ := QV hoY
  obtain ⟨cl, opY, calY, argY⟩ := Xm cY
  have gY' : oY.guard = none := by
   rcases gY with ⟨h, _⟩ | ⟨_, _, _, _, _, h⟩
   ·exact h
   ·cases h
  have argY' : cl.args = #[.tmp 40] := qZ argY.symm
  have hY' := hY ((List.finRange (pcs c s).length).take j) ⟨j, by omega⟩ W7 hJ7 (by simp; omega)
  simp only [Fin.getElem_fin, hgj] at hY'
  unfold wpListIn
  rw [qG (by simp [Region.wanted, gY'])]
  refine QbP opY calY argY' (f39.trans hyv) f40 hY' ?_
  rw [← dY]
  have p41 : ∀ bb : Bool, (a7.put (some 41) (.bool bb)).tmps.getD 41 undef = .bool bb := fun bb => by simp [Act.put, hz7]
  have pO : ∀ (bb : Bool) (i : Nat), i ≠ 41 → (a7.put (some 41) (.bool bb)).tmps.getD i undef = a7.tmps.getD i undef := fun bb i h => Zl (by simpa using fun h' => h h'.symm)
  have slY : ∀ bb : Bool, SL (a7.put (some 41) (.bool bb)) := fun bb => by
   obtain ⟨g1, g2, g3, g4, g5, g6⟩ := sl7
   exact ⟨by rw [Xf]; exact g1, by rw [JW]; exact g2, by rw [pO bb 0 (by omega)]; exact g3, by rw [pO bb 1 (by omega)]; exact g4, by rw [pO bb 2 (by omega)]; exact g5, by rw [pO bb 3 (by omega)]; exact g6⟩
  rintro e W8 (⟨rfl, hJ8, hK8⟩ | ⟨rfl, hX8⟩)
  ·refine ⟨true, rfl, ?_⟩
   have hb8 : ZJ W8 br cap ty r := hK8.1 r hb7
   have kc8 : KC W8 := by
    rw [hKC] at kc7 ⊢
    exact fun b k v hc hv => hK8.2 b k v hc (kc7 b k v hc hv)
   have hs8 : Sim (ΓS br cap ty W8 r 52) ⟨(41, .bool true) :: (7, .int .i64 i) :: base, [bx ty r]⟩ (a7.put (some 41) (.bool true)) W8 :=
    Qpe hb8 (slY true).1 (slY true).2.1 (Je (by rw [p41]; simp only [Rep]) (Je (by rw [pO true 7 (by omega), f7]; simp only [Rep]) (hrep kc8 (slY true))))
   refine Qh ?_ _ _ _ (ZZ (Q := fun _ st' => Le 1 st' ⟨(42, .bool false) :: (7, .int .i64 i) :: base, [bx ty r]⟩) (hF kc8) hm1 I4 (hI rfl (slY true)) (by simp (maxSteps := 4000000) (disch := omega) only [rq, simprocAttr, base, bx, qV]; exact QH) hs8)
   rintro _ a9 W9 ⟨rfl, st9, hle9, hs9', t9⟩
   have hs9 := hle9 _ _ _ rfl hs9'
   have sl9 := hslN hs9 t9
   show (Code.cond _ .ret .skip).wpIn Fence.wide 4 _ _ a9 W9
   refine wpIn_cond_false (getB hs9 (i := 42) rfl) (wpIn_skip ?_)
   show d5.wpIn Fence.wide 4 _ _ a9 W9
   have hl1 : r.length - (i + 1) ≤ s.length := by omega
   refine Zp (Q := fun _ st' => Le 1 st' ⟨base, [bx ty (r.drop (i + 1))]⟩) (hF kc8) hd5 I4 (hI rfl sl9) (by simp (maxSteps := 4000000) (disch := omega) only [rq, simprocAttr, base, bx]; exact QH) hs9 ?_
   intro stD aD WD hleD hsD' tD
   have hsD := hleD _ _ _ rfl hsD'
   have slD := hslN hsD tD
   obtain ⟨qD, hbD, hkD⟩ := Qa6 hb8 hsD
   have hJD := hJ _ _ _ hJ8 qD
   refine ⟨⟨j + 1, r.drop (i + 1), hj1, slD, hKs kc8 hkD, hbD, by rw [yf]; omega, hdj, ?_⟩, ?_⟩
   ·rw [fin j hj]
    exact hJD
   ·rw [Qlr hb, Qlr hbD, yf]
    omega
  ·refine ⟨false, rfl, ?_⟩
   have hz8 : (a7.put (some 41) (.bool false)).tmps.size = 52 := (slY false).2.1
   let P0 : Prg := ⟨P.prog, [], fun _ _ h => by cases h⟩
   have hs8 : Sim ⟨W8.heap.size, ⟨W8, [], [], fun _ _ => False⟩, 52, []⟩ ⟨[(41, .bool false)], []⟩ (a7.put (some 41) (.bool false)) W8 :=
    ⟨(slY false).1, hz8, Below.refl _ _, [], ⟨rfl, by simp, by simp, by simp, fun _ _ h => h.elim, qg _⟩, Moves.refl _, Je (by rw [p41]; simp only [Rep]) Qkp⟩
   refine Qh ?_ _ _ _ (ZZ (P := P0) (N := 52) (Γ := ⟨W8.heap.size, ⟨W8, [], [], fun _ _ => False⟩, 52, []⟩) (Q := fun _ st' => Le 0 st' ⟨[(42, .bool true)], []⟩) ⟨rfl, fun _ _ h => by cases h⟩ hm1 [] (fun p hp => by cases hp)
    (by simp (maxSteps := 4000000) (disch := omega) only [rq, simprocAttr, yj]; exact QH) hs8)
   rintro _ a9 W9 ⟨rfl, st9, hle9, hs9', t9⟩
   have hs9 := hle9 _ _ _ rfl hs9'
   show (Code.cond _ .ret .skip).wpIn Fence.wide 4 _ _ a9 W9
   have h42 : a9.eval (.tmp 42) = .bool true := by obtain ⟨_, _, _, _, _, _, h⟩ := hs9; have h : Rep _ (.bool _) (a9.tmps.getD 42 undef) := h 42; simp only [Rep] at h; exact h
   refine wpIn_cond_true h42 (wpIn_ret ?_)
   have b9 : Below W8.heap.size W8 W9 := hs9.2.2.1
   have hX9 := hJx _ W8 W9 hX8 ⟨none, ⟨b9.os, b9.tape, b9.output, b9.size, fun k hk _ => b9.block k hk⟩, fun q e => by cases e⟩
   exact ⟨hs9.1, .tuple #[], results_none (qZ hrl) _ _ _, ⟨_, rfl⟩, .inr ⟨_, trivial, hX9⟩⟩
def ZA (c : UInt8) : List (List UInt8) → List UInt8
 | [] => []
 | [p] => p
 | p :: q :: r => p ++ c :: ZA c (q :: r)
theorem Qeu (c : UInt8) (p : List UInt8) {L : List (List UInt8)} (h : L ≠ []) : ZA c (p :: L) = p ++ c :: ZA c L := by
 cases L with
 | nil => exact absurd rfl h
 | cons q r => rfl
theorem J0 (c : UInt8) : ∀ s, ZA c (pcs c s) = s
 | [] => rfl
 | b :: l => by
  have ih := J0 c l
  unfold pcs
  split
  ·rename_i h
   rw [Qeu c [] (Qen c l), ih, h]
   rfl
  ·split
   ·rename_i h; exact absurd h (Qen c l)
   ·rename_i p r h
    rw [h] at ih
    cases r with
    | nil => simp only [ZA] at ih ⊢; rw [ih]
    | cons q r => simp only [ZA] at ih ⊢; rw [qW, ih]
theorem QiI {c : UInt8} : ∀ {p : List UInt8}, c ∉ p → pcs c p = [p]
 | [], _ => rfl
 | b :: p, h => by
  simp only [qm, not_or] at h
  rw [pcs, qF fun e => h.1 e.symm, QiI h.2]
theorem QkE {c : UInt8} : ∀ {p : List UInt8} (s : List UInt8), c ∉ p → pcs c (p ++ c :: s) = p :: pcs c s
 | [], s, _ => by simp [pcs]
 | b :: p, s, h => by
  simp only [qm, not_or] at h
  rw [qW, pcs, qF fun e => h.1 e.symm, QkE s h.2]
theorem Qa9 {c : UInt8} : ∀ {L : List (List UInt8)}, L ≠ [] → (∀ p ∈ L, c ∉ p) → pcs c (ZA c L) = L
 | [], h, _ => absurd rfl h
 | [p], _, h => QiI (h p (by simp))
 | p :: q :: r, _, h => by
  rw [ZA, QkE _ (h p (by simp)), Qa9 (by simp) fun x hx => h x (yb _ hx)]
theorem Qbh (c : UInt8) : ∀ (n : Nat) (s : List UInt8), s.length < n → Lib.countFrom [c] n s + 1 = (pcs c s).length
 | 0, _, h => by omega
 | n + 1, s, h => by
  unfold Lib.countFrom
  rcases JF c s with ⟨h1, h2⟩ | ⟨i, h1, h2, h3⟩
  ·rw [h1, h2]; rfl
  ·have h4 := Qbh c n (s.drop (i + 1)) (by rw [yf]; omega)
   rw [h1, h3, qF (by simp)]
   simp only [qv, qp, qX, qR]
   omega
theorem Qei (c : UInt8) : ∀ (k : Nat) (s : List UInt8), k + 1 = (pcs c s).length → Lib.splitK [c] 0 k s = pcs c s
 | 0, s, h => by
  rcases JF c s with ⟨h1, h2⟩ | ⟨i, h1, h2, h3⟩
  ·rw [h2]; rfl
  ·have := List.length_pos_iff.2 (Qen c (s.drop (i + 1)))
   rw [h3] at h
   simp only [qp] at h
   omega
 | k + 1, s, h => by
  unfold Lib.splitK
  rcases JF c s with ⟨h1, h2⟩ | ⟨i, h1, h2, h3⟩
  ·rw [h2] at h; simp at h
  ·rw [h1, h3, qF (by simp)]
   rw [h3] at h
   simp only [qp] at h
   simp only [qv, qp, qX, qR, yH]
   rw [Qei c k _ (by omega)]
theorem Qgc (c : UInt8) (s : List UInt8) : Lib.split s [c] = pcs c s :=
 Qei c _ s (Qbh c _ s (by omega))
theorem QbZ (b : UInt8) (l t : List UInt8) : Lib.index (b :: l) t = if t.isPrefixOf (b :: l) then 0 else if Lib.index l t == -1 then -1 else Lib.index l t + 1 := rfl
theorem Qmx : ∀ (s t : List UInt8) (a b : List UInt8), t ≠ [] → Lib.cut s t = (a, b, true) → s = a ++ t ++ b := by
 have key : ∀ (s t : List UInt8), t ≠ [] → 0 ≤ Lib.index s t → s = s.take (Lib.index s t).toNat ++ t ++ s.drop ((Lib.index s t).toNat + t.length) := by
  intro s t ht
  induction s with
  | nil =>
   intro h
   exfalso
   have : Lib.index [] t = -1 := by
    show (if t.isEmpty then (0 : Int) else -1) = -1
    cases t with
    | nil => exact absurd rfl ht
    | cons a b => rfl
   omega
  | cons b l ih =>
   intro h
   rw [QbZ] at h ⊢
   split
   ·rename_i hp
    obtain ⟨r, hr⟩ := List.isPrefixOf_iff_prefix.1 hp
    simp only [Int.toNat_zero, List.take_zero, List.nil_append, qR]
    rw [← hr]
    simp
   ·rename_i hp
    rw [qF hp] at h
    split
    ·rename_i h1; rw [qG h1] at h; omega
    ·rename_i h1
     rw [qF h1] at h
     have h2 : Lib.index l t ≠ -1 := by simpa using h1
     have h3 := Lib.index_ge l t
     have e : (Lib.index l t + 1).toNat = (Lib.index l t).toNat + 1 := by omega
     rw [e, List.take_succ_cons, show (Lib.index l t).toNat + 1 + t.length = ((Lib.index l t).toNat + t.length) + 1 by omega, List.drop_succ_cons, qW, qW, ← ih (by omega)]
 intro s t a b ht h
 unfold Lib.cut at h
 split at h
 ·rename_i h0
  cases h
  exact key s t ht h0
 ·cases h
theorem QnO : ∀ (p s : List UInt8) (x : UInt8) (t : List UInt8), x ∉ p → Lib.cut (p ++ (x :: t) ++ s) (x :: t) = (p, s, true) := by
 have key : ∀ (p s : List UInt8) (x : UInt8) (t : List UInt8), x ∉ p → Lib.index (p ++ (x :: t) ++ s) (x :: t) = p.length := by
  intro p s x t
  induction p with
  | nil =>
   intro _
   show Lib.index (x :: (t ++ s)) (x :: t) = 0
   rw [QbZ, qG (List.isPrefixOf_iff_prefix.2 ⟨s, by simp⟩)]
  | cons b p ih =>
   intro h
   simp only [qm, not_or] at h
   rw [qW, qW, QbZ, qF (by simp [List.isPrefixOf, h.1]), ih h.2, qF (by simp)]
   simp
 intro p s x t h
 unfold Lib.cut
 rw [key p s x t h, qG (by omega)]
 simp only [qv]
 rw [qH, List.take_left, ← qH, show p.length + (x :: t).length = (p ++ (x :: t)).length by simp, List.drop_left]
def QbO (s : List UInt8) : Option Int := match Lib.atoiAll s with | .ok v => if Lib.itoa v = s then some v else none | _ => none
def Qdd (s : List UInt8) : Int := match Lib.atoiAll s with | .ok v => v | Lib.NumEnd.syntax => 0 | .range => Lib.atoiSat s
theorem Qgo {s : List UInt8} {v : Int} (h : QbO s = some v) : Lib.itoa v = s := by
 unfold QbO at h
 split at h
 ·split at h
  ·rename_i e; cases h; exact e
  ·cases h
 ·cases h
theorem Qb1 (u : Nat) : ∀ b ∈ Lib.decDigits u, 48 ≤ b.toNat ∧ b.toNat ≤ 57 := by
 induction u using Nat.strongRecOn with
 | _ u ih =>
  intro b hb
  have e : ∀ k, k < 10 → (UInt8.ofNat (48 + k)).toNat = 48 + k := fun k hk => by simp; omega
  rw [Lib.decDigits] at hb
  split at hb
  ·rename_i h
   simp only [q8] at hb
   rw [hb, e u h]
   omega
  ·rcases qt.1 hb with hb | hb
   ·exact ih (u / 10) (by omega) b hb
   ·simp only [q8] at hb
    rw [hb, e (u % 10) (by omega)]
    omega
theorem Qmg (v : Int) (b : UInt8) (h : b ∈ Lib.itoa v) : b.toNat = 45 ∨ 48 ≤ b.toNat ∧ b.toNat ≤ 57 := by
 unfold Lib.itoa at h
 split at h
 ·rcases qm.1 h with rfl | h
  ·exact .inl rfl
  ·exact .inr (Qb1 _ b h)
 ·exact .inr (Qb1 _ b h)
theorem Qfa {v : Int} {b : UInt8} (h : b.toNat ≠ 45 ∧ (b.toNat < 48 ∨ 57 < b.toNat)) : b ∉ Lib.itoa v := fun hm => by
 have := Qmg v b hm
 omega
theorem Qgl : ∀ (l1 l2 : List UInt8) (a : Nat), Lib.parseUint10 a (l1 ++ l2) = match Lib.parseUint10 a l1 with | .ok b => Lib.parseUint10 b l2 | Lib.NumEnd.syntax => Lib.NumEnd.syntax | .range => .range
 | [], l2, a => rfl
 | c :: l1, l2, a => by
  have h := Qgl l1 l2 (a * 10 + (c.toNat - 48))
  rw [qW]
  simp only [Lib.parseUint10]
  split
  ·split
   ·rfl
   ·split
    ·rfl
    ·exact h
  ·rfl
theorem QkF (u : Nat) (h : u < 9223372036854775808) : Lib.parseUint10 0 (Lib.decDigits u) = .ok u := by
 induction u using Nat.strongRecOn with
 | _ u ih =>
  have e : ∀ k, k < 10 → (UInt8.ofNat (48 + k)).toNat = 48 + k := fun k hk => by simp; omega
  rw [Lib.decDigits]
  split
  ·rename_i h
   simp only [Lib.parseUint10, e u h]
   rw [qG (by omega), qF (by omega), qF (by omega)]
   congr 1
   omega
  ·rw [Qgl, ih (u / 10) (by omega) (by omega)]
   simp only [Lib.parseUint10, e (u % 10) (by omega)]
   rw [qG (by omega), qF (by omega), qF (by omega)]
   congr 1
   omega
theorem QoI (u : Nat) : Lib.decDigits u ≠ [] := by
 rw [Lib.decDigits]
 split <;> simp
theorem Jf {v : Int} (h0 : 0 ≤ v) (h1 : v < 9223372036854775808) : QbO (Lib.itoa v) = some v := by
 obtain ⟨u, rfl⟩ : ∃ u : Nat, v = u := ⟨v.toNat, by omega⟩
 have e : Lib.itoa (u : Int) = Lib.decDigits u := Lib.itoa_nonneg u
 have ha : Lib.atoiAll (Lib.decDigits u) = .ok (u : Int) := by
  have hd := Qb1 u
  have hp := QkF u (by omega)
  have hn := QoI u
  unfold Lib.atoiAll
  split
  ·rename_i h; exact absurd h hn
  ·rename_i c r h
   have hc := hd c (by rw [h]; simp)
   rw [qF (by omega)]
   have hm : Lib.parseMag (Lib.decDigits u) = .ok u := by unfold Lib.parseMag; rw [qF hn, hp]
   simp only [← h, hm]
   rw [qF (by omega), qF (by omega), qF (by omega)]
 unfold QbO
 rw [e, ha]
 simp only [e, yD]
structure Rp where
 f : Int
 c : Int
 b : Int
 r : Int
 n : Int
 m : Int
 l : List Int
 e : Int
 p : Int
 q : Int
 g : Int
def Rp.av (x : Rp) : AV := .agg [.int .i64 x.f, .int .i64 x.c, .int .i64 x.b, .int .i64 x.r, .int .i64 x.n, .int .i64 x.m, Q1 x.l, .int .i64 x.e, .int .u8 x.p, .int .i64 x.q, .int .i64 x.g]
def Rp.zero : Rp := ⟨0, 0, 0, 0, 0, 0, [], 0, 0, 0, 0⟩
def QiE (x : Rp) : Prop := hdN x.f x.c x.b x.r x.n = 0 ∧ skN x.l = 0 ∧ (QY (QG x.r).toNat x.n.toNat).length = x.l.length ∧ 22 ≤ x.m ∧ x.m ≤ 100000 ∧ 0 ≤ x.e ∧ x.e ≤ 99 ∧ 0 ≤ x.p ∧ x.p ≤ 6 ∧ 0 ≤ x.q ∧ x.q < x.l.length ∧ 0 ≤ x.g ∧ x.g ≤ 12000
instance decRpOk (x : Rp) : Decidable (QiE x) := by unfold QiE; exact inferInstance
def wF1 : List UInt8 := [102, 111, 114, 109, 97, 116]
def wC1 : List UInt8 := [99, 104, 97, 110, 110, 101, 108, 115]
def wB1 : List UInt8 := [98, 105, 116, 115]
def wR1 : List UInt8 := [114, 97, 116, 101]
def wN1 : List UInt8 := [99, 111, 117, 110, 116]
def wF2 : List UInt8 := [102, 114, 97, 109, 101, 115]
def wF3 : List UInt8 := [102, 111, 117, 110, 100]
def ln1 (x : Rp) : List UInt8 := ZA 32 [wF1, Lib.itoa x.f, wC1, Lib.itoa x.c, wB1, Lib.itoa x.b, wR1, Lib.itoa x.r, wN1, Lib.itoa x.n]
def ln2 (x : Rp) : List UInt8 := ZA 32 [wF2, Lib.itoa x.m] ++ [58, 32] ++ ZA 32 (x.l.map Lib.itoa)
def ln3 (x : Rp) : List UInt8 := [102, 111, 117, 110, 100, 32] ++ ZA 32 [Lib.itoa x.e, Lib.itoa x.p, Lib.itoa x.q, Lib.itoa x.g]
def txt (x : Rp) : List UInt8 := ZA 10 [ln1 x, ln2 x, ln3 x, []]
def Qde : List (List UInt8) → List (List UInt8) → Option (List Int)
 | [], [] => some []
 | w :: ws, p :: q :: ps => if p = w then match QbO q with | some v => (Qde ws ps).map (v :: ·) | none => none else none
 | _, _ => none
def QcC (s : List UInt8) : Option (List Int) := (pcs 32 s).mapM QbO
def rdQ (s : List UInt8) : Rp × Bool :=
 match pcs 10 s with
 | [a, b, d, []] =>
  match Qde [wF1, wC1, wB1, wR1, wN1] (pcs 32 a) with
  | some [f, c, bb, r, n] =>
   match Lib.cut b [58, 32] with
   | (w, all, true) =>
    match Qde [wF2] (pcs 32 w) with
    | some [m] =>
     match QcC all with
     | some l =>
      if d.take 6 = [102, 111, 117, 110, 100, 32] then
       match QcC (d.drop 6) with
       | some [e, p, q, g] => if 0 ≤ p ∧ p ≤ 6 then (⟨f, c, bb, r, n, m, l, e, p, q, g⟩, true) else (⟨f, c, bb, r, n, m, l, 0, 0, 0, 0⟩, false)
       | _ => (⟨f, c, bb, r, n, m, l, 0, 0, 0, 0⟩, false)
      else (⟨f, c, bb, r, n, m, l, 0, 0, 0, 0⟩, false)
     | none => (⟨f, c, bb, r, n, m, [], 0, 0, 0, 0⟩, false)
    | _ => (⟨f, c, bb, r, n, 0, [], 0, 0, 0, 0⟩, false)
   | _ => (⟨f, c, bb, r, n, 0, [], 0, 0, 0, 0⟩, false)
  | _ => (Rp.zero, false)
 | _ => (Rp.zero, false)
def rdO (s : List UInt8) : Option Rp := if (rdQ s).2 = true then some (rdQ s).1 else none
theorem Qgq : ∀ {L : List (List UInt8)} {l : List Int}, L.mapM QbO = some l → L = l.map Lib.itoa
 | [], l, h => by simp at h; subst h; rfl
 | p :: L, l, h => by
  simp only [qP, qy, qk, qe, qc] at h
  obtain ⟨v, hv, r, hr, rfl⟩ := h
  rw [qz, Qgo hv, ← Qgq hr]
theorem Qer {s : List UInt8} {l : List Int} (h : QcC s = some l) : s = ZA 32 (l.map Lib.itoa) := by
 rw [← Qgq h, J0]
theorem Qgn : ∀ {l : List Int}, (∀ v ∈ l, 0 ≤ v ∧ v < 9223372036854775808) → (l.map Lib.itoa).mapM QbO = some l
 | [], _ => rfl
 | v :: l, h => by
  simp only [qz, qP, Jf (h v (by simp)).1 (h v (by simp)).2, Qgn fun u hu => h u (yb _ hu), qy, qk, yT]
theorem Qgw {l : List Int} (hl : l ≠ []) (h : ∀ v ∈ l, 0 ≤ v ∧ v < 9223372036854775808) : QcC (ZA 32 (l.map Lib.itoa)) = some l := by
 unfold QcC
 rw [Qa9 (by simpa using hl) (fun p hp => by
  obtain ⟨v, _, rfl⟩ := qS.1 hp
  exact Qfa (by decide)), Qgn h]
theorem JH : ∀ {ws ps : List (List UInt8)} {vs : List Int}, Qde ws ps = some vs → ps = (List.zipWith (fun w v => [w, Lib.itoa v]) ws vs).flatten ∧ vs.length = ws.length
 | [], [], vs, h => by simp only [Qde, qc] at h; subst h; exact ⟨rfl, rfl⟩
 | w :: ws, p :: q :: ps, vs, h => by
  simp only [Qde] at h
  split at h
  case isFalse => cases h
  rename_i e
  split at h
  case h_2 => cases h
  rename_i v hv
  obtain ⟨r, hr, rfl⟩ := qa.1 h
  obtain ⟨h1, h2⟩ := JH hr
  rw [e, ← Qgo hv]
  exact ⟨by simp [← h1], by simp [h2]⟩
 | [], p :: ps, vs, h => by simp [Qde] at h
 | w :: ws, [], vs, h => by simp [Qde] at h
 | w :: ws, [p], vs, h => by simp [Qde] at h
theorem QmO {s : List UInt8} {x : Rp} (h : rdO s = some x) : txt x = s := by
 unfold rdO at h
 split at h
 case isFalse => cases h
 rename_i hy
 cases h
 generalize hq : rdQ s = y at hy ⊢
 unfold rdQ at hq
 split at hq
 case h_2 => subst hq; cases hy
 rename_i a b d h10
 split at hq
 case h_2 => subst hq; cases hy
 rename_i f c bb r n h1
 split at hq
 case h_2 => subst hq; cases hy
 rename_i w all hcut
 split at hq
 case h_2 => subst hq; cases hy
 rename_i m h2
 split at hq
 case h_2 => subst hq; cases hy
 rename_i l h3
 split at hq
 case isFalse => subst hq; cases hy
 rename_i hf
 split at hq
 case h_2 => subst hq; cases hy
 rename_i e p q g h4
 split at hq
 case isFalse => subst hq; cases hy
 subst hq
 have e1 := (JH h1).1
 have e2 := (JH h2).1
 have e3 := Qer h3
 have e4 := Qer h4
 have c1 := J0 32 a
 have c2 := J0 32 w
 have c3 := Qmx _ _ _ _ (by simp) hcut
 rw [e1] at c1
 rw [e2] at c2
 have hs := J0 10 s
 rw [h10] at hs
 rw [← hs]
 unfold txt
 have k1 : ln1 ⟨f, c, bb, r, n, m, l, e, p, q, g⟩ = a := by rw [← c1]; rfl
 have k2 : ln2 ⟨f, c, bb, r, n, m, l, e, p, q, g⟩ = b := by rw [c3, ← c2, e3]; rfl
 have k3 : ln3 ⟨f, c, bb, r, n, m, l, e, p, q, g⟩ = d := by
  have : d = d.take 6 ++ d.drop 6 := (yL 6 d).symm
  rw [this, hf, e4]
  rfl
 rw [k1, k2, k3]
theorem Qj0 {c : UInt8} (h : c = 10 ∨ c = 32 ∨ c = 58) : c ∉ wF1 ∧ c ∉ wC1 ∧ c ∉ wB1 ∧ c ∉ wR1 ∧ c ∉ wN1 ∧ c ∉ wF2 ∧ c ∉ wF3 := by
 rcases h with rfl | rfl | rfl <;> decide
theorem J1 {c b : UInt8} : ∀ {L : List (List UInt8)}, b ∈ ZA c L → b = c ∨ ∃ p ∈ L, b ∈ p
 | [], h => by simp [ZA] at h
 | [p], h => .inr ⟨p, by simp, h⟩
 | p :: q :: r, h => by
  rw [ZA] at h
  rcases qt.1 h with h | h
  ·exact .inr ⟨p, by simp, h⟩
  ·rcases qm.1 h with h | h
   ·exact .inl h
   ·rcases J1 h with h | ⟨x, hx, h⟩
    ·exact .inl h
    ·exact .inr ⟨x, yb _ hx, h⟩
theorem QlZ : ∀ {l : List Int} {m : Int}, QjX m l → ∀ v ∈ l, 5 ≤ v ∧ v ≤ m := by
 intro l
 induction l with
 | nil => intro m _ v hv; cases hv
 | cons a l ih =>
  intro m h v hv
  simp only [QjX] at h
  rcases qm.1 hv with rfl | hv
  ·exact ⟨h.1, h.2.1⟩
  ·have := ih h.2.2 v hv
   omega
theorem Qkl {l : List Int} (h : skN l = 0) : l ≠ [] ∧ l.length ≤ 1000 ∧ ∀ v ∈ l, 5 ≤ v ∧ v ≤ 100000 := by
 unfold skN at h
 split at h
 ·cases h
 rename_i h1
 split at h
 ·rename_i h2
  exact ⟨fun e => h1 (.inl (by rw [e]; rfl)), by omega, fun v hv => QlZ h2 v hv⟩
 ·cases h
theorem QkX {f c b r n : Int} (h : hdN f c b r n = 0) : shP f c b r n ∧ Qmo c r n := by
 unfold hdN at h
 split at h
 ·assumption
 ·cases h
theorem QmU {f c b r n : Int} (h : hdN f c b r n = 0) : 1 ≤ n ∧ n ≤ 4000 := by
 obtain ⟨⟨_, _, h1, h2, _, _, h3⟩, h4, _⟩ := QkX h
 have : (4000 : Int) / c ≤ 4000 := ja _ (by omega)
 exact ⟨h3, by omega⟩
theorem Qj7 {x : Rp} (h : QiE x) : rdO (txt x) = some x := by
 obtain ⟨h1, h2, h3, h4, h5, h6, h7, h8, h9, h10, h11, h12, h13⟩ := h
 obtain ⟨k1, k2, k3⟩ := Qkl h2
 obtain ⟨⟨s1, s2, s3, s4, s5, s6, s7⟩, _⟩ := QkX h1
 have s8 := QmU h1
 have w10 := Qj0 (c := 10) (.inl rfl)
 have w32 := Qj0 (c := 32) (.inr (.inl rfl))
 have w58 := Qj0 (c := 58) (.inr (.inr rfl))
 have nl : ∀ v, (10 : UInt8) ∉ Lib.itoa v := fun v => Qfa (by decide)
 have ns : ∀ v, (32 : UInt8) ∉ Lib.itoa v := fun v => Qfa (by decide)
 have nc : ∀ v, (58 : UInt8) ∉ Lib.itoa v := fun v => Qfa (by decide)
 have p10 : pcs 10 (txt x) = [ln1 x, ln2 x, ln3 x, []] := by
  refine Qa9 (by simp) fun p hp => ?_
  simp only [qm, qM, or_false] at hp
  rcases hp with rfl | rfl | rfl | rfl
  ·intro hm
   rcases J1 hm with hm | ⟨p, hp, hm⟩
   ·exact absurd hm (by decide)
   ·simp only [qm, qM, or_false] at hp
    rcases hp with rfl | rfl | rfl | rfl | rfl | rfl | rfl | rfl | rfl | rfl
    ·exact w10.1 hm
    ·exact nl _ hm
    ·exact w10.2.1 hm
    ·exact nl _ hm
    ·exact w10.2.2.1 hm
    ·exact nl _ hm
    ·exact w10.2.2.2.1 hm
    ·exact nl _ hm
    ·exact w10.2.2.2.2.1 hm
    ·exact nl _ hm
  ·intro hm
   unfold ln2 at hm
   rcases qt.1 hm with hm | hm
   ·rcases qt.1 hm with hm | hm
    ·rcases J1 hm with hm | ⟨p, hp, hm⟩
     ·exact absurd hm (by decide)
     ·simp only [qm, qM, or_false] at hp
      rcases hp with rfl | rfl
      ·exact w10.2.2.2.2.2.1 hm
      ·exact nl _ hm
    ·exact absurd hm (by decide)
   ·rcases J1 hm with hm | ⟨p, hp, hm⟩
    ·exact absurd hm (by decide)
    ·obtain ⟨v, _, rfl⟩ := qS.1 hp
     exact nl _ hm
  ·intro hm
   unfold ln3 at hm
   rcases qt.1 hm with hm | hm
   ·exact absurd hm (by decide)
   ·rcases J1 hm with hm | ⟨p, hp, hm⟩
    ·exact absurd hm (by decide)
    ·simp only [qm, qM, or_false] at hp
     rcases hp with rfl | rfl | rfl | rfl <;> exact nl _ hm
  ·simp
 have q1 : pcs 32 (ln1 x) = [wF1, Lib.itoa x.f, wC1, Lib.itoa x.c, wB1, Lib.itoa x.b, wR1, Lib.itoa x.r, wN1, Lib.itoa x.n] := by
  refine Qa9 (by simp) fun p hp => ?_
  simp only [qm, qM, or_false] at hp
  rcases hp with rfl | rfl | rfl | rfl | rfl | rfl | rfl | rfl | rfl | rfl
  ·exact w32.1
  ·exact ns _
  ·exact w32.2.1
  ·exact ns _
  ·exact w32.2.2.1
  ·exact ns _
  ·exact w32.2.2.2.1
  ·exact ns _
  ·exact w32.2.2.2.2.1
  ·exact ns _
 have q2 : pcs 32 (ZA 32 [wF2, Lib.itoa x.m]) = [wF2, Lib.itoa x.m] := by
  refine Qa9 (by simp) fun p hp => ?_
  simp only [qm, qM, or_false] at hp
  rcases hp with rfl | rfl
  ·exact w32.2.2.2.2.2.1
  ·exact ns _
 have q3 : Lib.cut (ln2 x) [58, 32] = (ZA 32 [wF2, Lib.itoa x.m], ZA 32 (x.l.map Lib.itoa), true) := by
  refine QnO _ _ 58 [32] fun hm => ?_
  rcases J1 hm with hm | ⟨p, hp, hm⟩
  ·exact absurd hm (by decide)
  ·simp only [qm, qM, or_false] at hp
   rcases hp with rfl | rfl
   ·exact w58.2.2.2.2.2.1 hm
   ·exact nc _ hm
 have big : ∀ v ∈ x.l, 0 ≤ v ∧ v < 9223372036854775808 := fun v hv => by have := k3 v hv; omega
 have hlen : (x.l.length : Int) ≤ 1000 := by omega
 have m1 : Qde [wF1, wC1, wB1, wR1, wN1] (pcs 32 (ln1 x)) = some [x.f, x.c, x.b, x.r, x.n] := by
  rw [q1]
  simp only [Qde, yD, Jf (v := x.f) (by omega) (by omega), Jf (v := x.c) (by omega) (by omega), Jf (v := x.b) (by omega) (by omega), Jf (v := x.r) (by omega) (by omega), Jf (v := x.n) (by omega) (by omega), qN]
 have m2 : Qde [wF2] (pcs 32 (ZA 32 [wF2, Lib.itoa x.m])) = some [x.m] := by
  rw [q2]
  simp only [Qde, yD, Jf (v := x.m) (by omega) (by omega), qN]
 have m3 : QcC (ZA 32 (x.l.map Lib.itoa)) = some x.l := Qgw k1 big
 have d3 : (ln3 x).drop 6 = ZA 32 ([x.e, x.p, x.q, x.g].map Lib.itoa) := rfl
 have m4 : QcC ((ln3 x).drop 6) = some [x.e, x.p, x.q, x.g] := by
  rw [d3]
  refine Qgw (by simp) fun v hv => ?_
  simp only [qm, qM, or_false] at hv
  rcases hv with rfl | rfl | rfl | rfl <;> omega
 have d4 : (ln3 x).take 6 = [102, 111, 117, 110, 100, 32] := rfl
 have hr : rdQ (txt x) = (x, true) := by
  unfold rdQ
  simp only [p10, m1, q3, m2, m3, d4, m4, yD]
  rw [qG ⟨h8, h9⟩]
 unfold rdO
 rw [hr]
 rfl
theorem Qma (s : List UInt8) : -9223372036854775808 ≤ Qdd s ∧ Qdd s ≤ 9223372036854775807 := by
 unfold Qdd
 split
 ·rename_i h; exact Lib.atoiAll_bounds h
 ·omega
 ·exact Lib.atoiSat_bounds s
def QcW (P : Prg) (f : Nat) : Prop := ∀ s : List UInt8, s.length ≤ 1000000 → VC P f [.str s] (.tup [.int .i64 (Qdd s), .bool (QbO s).isSome])
theorem Qgr {P : Prg} {f fA fI : Nat} (bd : Body P f 20 [.tmp 2, .tmp 3] (Xp fA fI)) (hA : S_Atoi P fA) (hI : S_Itoa P fI) : QcW P f := by
 intro s hs
 refine Xv rfl rfl bd ?_
 simp (maxSteps := 4000000) (disch := omega) only [rq, simprocAttr, Xp]
 refine hA s _ _ hs (fun v hv => ?_) (fun t p hv => ?_) (fun t p hv => ?_)
 ·obtain ⟨b1, b2⟩ := Lib.atoiAll_bounds hv
  have hI' := hI v b1 b2
  have e1 : Qdd s = v := by unfold Qdd; rw [hv]
  have e2 : (QbO s).isSome = (Lib.itoa v == s) := by
   unfold QbO
   rw [hv]
   by_cases h : Lib.itoa v = s <;> simp [h]
  have hs1 : Qga .eql (Lib.itoa v) s = some (.bool (Lib.itoa v == s)) := rfl
  rw [e1, e2]
  simp (maxSteps := 4000000) (disch := omega) only [rq, simprocAttr]
  refine Qa hI' ?_
  simp (maxSteps := 4000000) (disch := omega) only [rq, simprocAttr, hs1]
 ·have e1 : Qdd s = 0 := by unfold Qdd; rw [hv]
  have e2 : (QbO s).isSome = false := by unfold QbO; rw [hv]; rfl
  rw [e1, e2]
  simp (maxSteps := 4000000) (disch := omega) only [rq, simprocAttr]
 ·have e1 : Qdd s = Lib.atoiSat s := by unfold Qdd; rw [hv]
  have e2 : (QbO s).isSome = false := by unfold QbO; rw [hv]; rfl
  rw [e1, e2]
  simp (maxSteps := 4000000) (disch := omega) only [rq, simprocAttr]
def J4 (P : Prg) (f : Nat) : Prop := ∀ s t : List UInt8, s.length ≤ 1000000 → t.length ≤ 1000000 → VC P f [.str s, .str t] (if s.take t.length = t then .tup [.str (s.drop t.length), .bool true] else .tup [.str s, .bool false])
theorem Qgf {P : Prg} {f fH : Nat} (bd : Body P f 15 [.tmp 4, .tmp 5] (Qr fH)) (hH : QlB P fH) : J4 P f := by
 intro s t hs ht
 refine Xv rfl (by split <;> rfl) bd ?_
 have hH' := hH s t hs ht
 by_cases h : s.take t.length = t
 ·have hl : t.length ≤ s.length := by have := congrArg List.length h; rw [qQ] at this; omega
  rw [beq_iff_eq.2 h] at hH'
  rw [qG h]
  simp (maxSteps := 4000000) (disch := omega) only [rq, simprocAttr, Qr]
  refine Qa hH' ?_
  simp (maxSteps := 4000000) (disch := omega) only [rq, simprocAttr]
 ·rw [yq.2 h] at hH'
  rw [qF h]
  simp (maxSteps := 4000000) (disch := omega) only [rq, simprocAttr, Qr]
  refine Qa hH' ?_
  simp (maxSteps := 4000000) (disch := omega) only [rq, simprocAttr]
theorem QbR {P : Prg} {f fH : Nat} (bd : Body P f 11 [.tmp 4, .tmp 5] (QR fH)) (hH : J4 P fH) : J4 P f := by
 intro s t hs ht
 refine Xv rfl (by split <;> rfl) bd ?_
 have hH' := hH s t hs ht
 by_cases h : s.take t.length = t
 ·rw [qG h] at hH' ⊢
  simp (maxSteps := 4000000) (disch := omega) only [rq, simprocAttr, QR]
  refine Qa hH' ?_
  simp (maxSteps := 4000000) (disch := omega) only [rq, simprocAttr]
 ·rw [qF h] at hH' ⊢
  simp (maxSteps := 4000000) (disch := omega) only [rq, simprocAttr, QR]
  refine Qa hH' ?_
  simp (maxSteps := 4000000) (disch := omega) only [rq, simprocAttr]
def Qb7 (t0 t1 : Nat) (c : UInt8) (P : Prg) (f : Nat) : Prop := ∃ g, Enters P g ∧ QdL c t0 P g ∧ ∀ (s : List UInt8) (x0 x1 x2 : Ob) (K : AV → List Ob → Prop), K (.fn (.func g) [] [.cell [.str [c]], .ref 3 1 0, .cell [.int .i64 0]]) [x0, x1, x2, bx t0 s, ⟨t0, 1, 1, [.str [c]], 1⟩, ⟨t1, 1, 1, [.int .i64 0], 1⟩] → ACall P f [.str s, .str [c]] [x0, x1, x2] K
def QaT (t0 t1 : Nat) (c : UInt8) (P : Prg) (f : Nat) : Prop := ∃ g, Enters P g ∧ QdL c t0 P g ∧ ∀ (s : List UInt8) (x0 x1 x2 : Ob) (K : AV → List Ob → Prop), K (.fn (.func g) [] [.cell [.str [c]], .ref 3 1 0, .cell [.int .i64 0]]) [x0, x1, x2, bx t0 s, ⟨t0, 1, 1, [.str [c]], 1⟩, ⟨t1, 1, 1, [.int .i64 0], 1⟩] → ACall P f [.str s, .str [c], .int .i64 0] [x0, x1, x2] K
theorem QcA {P : Prg} {f g t0 t1 fD fX : Nat} {c : UInt8} (bd : Body P f 8 [.tmp 6] (Zu g t0 t1)) (bG : Body P g 52 [] (QM fD fX)) (hX : S_StrIndex P fX) : QaT t0 t1 c P f := by
 refine ⟨g, bG.ent, QbQ bG hX, fun s x0 x1 x2 K hK => ?_⟩
 refine ACall.of_cut 1 bd (by simp) ?_
 simp (maxSteps := 4000000) (disch := omega) only [rq, simprocAttr, QpQ, Zu]
 refine ⟨⟨[(4, .cell [.str [c]]), (3, .ref 3 1 0), (5, .cell [.int .i64 0])], _⟩, Le.still [4, 5] 1 (by simp [Am.look, Q5, frzL, QQ, isDL, isD]), ?_⟩
 simp (maxSteps := 4000000) (disch := omega) only [rq, simprocAttr, QpQ, Qe]
 exact hK
theorem QcB {P : Prg} {f fS t0 t1 : Nat} {c : UInt8} (bd : Body P f 8 [.tmp 4] (Zv fS)) (hS : QaT t0 t1 c P fS) : Qb7 t0 t1 c P f := by
 obtain ⟨g, h1, h2, h3⟩ := hS
 refine ⟨g, h1, h2, fun s x0 x1 x2 K hK => Qj bd (by simp) ?_⟩
 simp (maxSteps := 4000000) (disch := omega) only [rq, simprocAttr, Zv]
 refine h3 s x0 x1 x2 _ ?_
 simp (maxSteps := 4000000) (disch := omega) only [rq, simprocAttr]
 exact hK
def Qe5 (s : List UInt8) : AV := match QcC s with | some l => .tup [Q1 l, .bool true] | none => .tup [.list 0 [], .bool false]
theorem QkU (s : List UInt8) : isD (Qe5 s) = true := by unfold Qe5; split <;> simp [isD, isDL, Jg]
def QlC (P : Prg) (f : Nat) : Prop := ∀ s : List UInt8, s.length ≤ 1000000 → VC P f [.str s] (Qe5 s)
theorem Qcf {α β : Type} {f : α → Option β} : ∀ {l : List α} {x : α}, x ∈ l → f x = none → l.mapM f = none
 | a :: l, x, hx, h => by
  rw [qP]
  rcases qm.1 hx with rfl | hx
  ·rw [h]; rfl
  ·rw [Qcf hx h]; cases f a <;> rfl
theorem Qdh {α β : Type} {f : α → Option β} {g : α → β} : ∀ {l : List α}, (∀ x ∈ l, f x = some (g x)) → l.mapM f = some (l.map g)
 | [], _ => rfl
 | a :: l, h => by
  rw [qP, h a (by simp), Qdh fun x hx => h x (yb _ hx)]
  rfl
theorem QkI {s : List UInt8} {v : Int} (h : QbO s = some v) : Qdd s = v := by
 unfold QbO at h
 unfold Qdd
 split at h
 ·rename_i h1
  rw [h1]
  split at h
  ·cases h; rfl
  ·cases h
 ·cases h
theorem Qe0 (c : UInt8) : ∀ s : List UInt8, (pcs c s).length ≤ s.length + 1
 | [] => by simp [pcs]
 | b :: l => by
  have := Qe0 c l
  unfold pcs
  split
  ·simp; omega
  ·split
   ·simp
   ·rename_i h; rw [h] at this; simp at this ⊢; omega
theorem Qa8 (c : UInt8) : ∀ (s : List UInt8), ∀ p ∈ pcs c s, p.length ≤ s.length
 | [], p, hp => by simp [pcs] at hp; simp [hp]
 | b :: l, p, hp => by
  have ih := Qa8 c l
  unfold pcs at hp
  split at hp
  ·rcases qm.1 hp with rfl | hp
   ·simp
   ·have := ih p hp; simp; omega
  ·split at hp
   ·simp at hp; simp [hp]
   ·rename_i q r h
    rw [h] at ih
    rcases qm.1 hp with rfl | hp
    ·have := ih q (by simp); simp; omega
    ·have := ih p (yb _ hp); simp; omega
theorem Qmp {α β : Type} (L : List α) (f : α → β) : (List.finRange L.length).map (fun x => f L[x]) = L.map f := by
 apply List.ext_getElem <;> simp
theorem Qe7 {P : Prg} {f fS fN t0 t1 t2 u1 : Nat} (bd : Qee P f 23 [.cell 2 t0, .cell 3 t1] (Z6 fS fN t0 t1 t2)) {u0 : Nat} (hS : Qb7 u0 u1 32 P fS) (hN : QcW P fN) (ht0 : Z2 P t0 = some none) (ht1 : Z2 P t1 = some none) : QlC P f := by
 intro s hs
 refine QD 2 (by simp [isDL, isD]) (QkU s) (ACall.of_rangeS bd (by simp) ?_)
 obtain ⟨g, gE, gI, gK⟩ := hS
 simp (maxSteps := 4000000) (disch := omega) only [rq, simprocAttr, Z6, Qj1, QlQ, Qjt, Qnx, Qet, Qnz]
 refine gK s _ _ _ _ ?_
 simp (maxSteps := 4000000) (disch := omega) only [rq, simprocAttr, Qet]
 let L := pcs 32 s
 let val : Fin L.length → Int := fun x => Qdd L[x]
 let G : List (Fin L.length) → Prop := fun pre => ∀ x ∈ pre, (QbO L[x]).isSome = true
 refine ⟨g, 3, u0, [32], s, pcs 32, [(9, .fn (.func g) [] [.cell [.str [32]], .ref 3 1 0, .cell [.int .i64 0]]), (2, .ref 0 1 0), (3, .ref 1 1 0), (4, .ref 2 1 0)], G,
  fun pre => [⟨t0, 1, 1, [.emp true], 0⟩, ⟨t1, 1, 1, [.bool false], 0⟩, ⟨t0, 1, 1, [.own 6 pre.length], 0⟩, bx u0 [], ⟨u0, 1, 1, [.str [32]], 1⟩, ⟨u1, 1, 1, [.int .i64 0], 1⟩, ⟨t2, 1, pre.length, ks .i64 (pre.map val), 0⟩], fun x hx => (by cases hx), ?_, rfl, gE, hs, gI, by decide, by decide, rfl, fun pre => by simp, ?_, ?_⟩
 ·refine Le.trans (Le.virtC 2 0 t2 1 (by decide) rfl rfl) (QH)
 ·intro pre x r hG hpl
  have hx : x.1 < L.length := x.2
  have hLx : L[x].length ≤ 1000000 := qJ (Qa8 32 s _ (yg x.2)) hs
  have hLl : pre.length ≤ 1000001 := by have := Qe0 32 s; omega
  have hN' := hN L[x] hLx
  show wpC P 23 7 _ _ ⟨QJ (QJ _ (some 10) (.str L[x])) (some 5) (.str L[x]), _⟩
  have hval : val x = Qdd L[x] := rfl
  have hmem : L[x] ∈ L := yg x.2
  have hGx : (QbO L[x]).isSome = true → G (pre ++ [x]) := fun h y hy => by
   rcases qt.1 hy with hy | hy
   ·exact hG y hy
   ·simp only [q8] at hy; rw [hy]; exact h
  have hnone : QbO L[x] = none → QcC s = none := fun h => Qcf hmem h
  generalize L[x] = w at *
  have hpm : (ks .i64 (pre.map val)).length = pre.length := by simp [ks]
  cases ho : QbO w with
  | none =>
   rw [ho] at hN'
   have hr : Qe5 s = .tup [.list 0 [], .bool false] := by unfold Qe5; rw [hnone ho]
   simp (maxSteps := 4000000) (disch := omega) only [rq, simprocAttr, bx]
   refine Qa hN' ?_
   simp (maxSteps := 4000000) (disch := omega) only [rq, simprocAttr, yj, Option.isSome_none]
   refine ⟨[⟨t0, 1, 1, [.emp true], 0⟩, ⟨t1, 1, 1, [.bool false], 0⟩, ⟨t0, 1, 1, [.own 6 pre.length], 0⟩, bx u0 [], ⟨u0, 1, 1, [.str [32]], 1⟩, ⟨u1, 1, 1, [.int .i64 0], 1⟩, ⟨t2, 1, pre.length, ks .i64 (pre.map val), 0⟩], by simp, Jq (by simp), fun r' => ?_⟩
   simp (maxSteps := 4000000) (disch := omega) only [rq, simprocAttr, ZP, ht0, ht1, QC]
   rw [hr]
   simp [ZO, Q5, frzL, QQ]
  | some v =>
   rw [ho] at hN'
   simp (maxSteps := 4000000) (disch := omega) only [rq, simprocAttr, bx]
   refine Qa hN' ?_
   simp (maxSteps := 4000000) (disch := omega) only [rq, simprocAttr, qV, Option.isSome_some, hpm]
   have e1 : ks .i64 ((pre ++ [x]).map val) = ks .i64 (pre.map val) ++ [.int .i64 (Qdd w)] := by simp [ks, hval]
   rw [e1]
   refine ⟨hGx (by rw [ho]; rfl), ?_⟩
   refine Le.low (ob := [_, _, _, _, _, _, _]) (J := [_]) (by simp) ?_ (by simp)
   refine Low.cons rfl (Low.cons rfl (Low.cons rfl (Low.cons rfl (Low.cons rfl (Low.cons rfl (Low.cons ?_ Low.nil))))))
   exact lowL_D _ (by rw [← e1]; exact XC _ _)
 ·intro hG r
  have hall : QcC s = some (L.map Qdd) := by
   refine Qdh fun p hp => ?_
   obtain ⟨i, hi, rfl⟩ := yA.1 hp
   have h := hG ⟨i, hi⟩ (List.mem_finRange _)
   obtain ⟨v, hv⟩ := yV.1 h
   have hv' : QbO (pcs 32 s)[i] = some v := hv
   rw [hv', QkI hv']
  have hfm : (List.finRange L.length).map val = L.map Qdd := Qmp L Qdd
  have hr : Qe5 s = .tup [Q1 (L.map Qdd), .bool true] := by unfold Qe5; rw [hall]
  rw [hr, ← hfm]
  have tl : isTL (ks .i64 ((List.finRange (pcs 32 s).length).map val)) = true := QN _ _
  show wpC P 23 7 _ _ _
  have hcl : (pcs 32 s).length = L.length := rfl
  simp (maxSteps := 4000000) (disch := omega) only [rq, simprocAttr, bx, Q1, yZ, List.length_finRange, hcl]
  simp (maxSteps := 4000000) (disch := omega) only [rq, simprocAttr, ZP, ht0, ht1, QC]
  simp [ZO, Q5, frzL, QQ, frzL_T _ tl]
  rfl
theorem Qhz {L : List (List UInt8)} {i : Nat} (h : i < L.length) : (L.map AV.str).drop i = .str (L.getD i []) :: (L.map AV.str).drop (i + 1) := by
 rw [ym (by simpa using h)]
 simp [h]
def QjY (ps : List (List UInt8)) (n : Nat) : List Int := (List.range n).map fun k => Qdd (ps.getD (2 * k + 1) [])
def QhR (ws ps : List (List UInt8)) (k : Nat) : Prop := ps.getD (2 * k) [] = ws.getD k [] ∧ (QbO (ps.getD (2 * k + 1) [])).isSome = true
theorem QkK (p q : List UInt8) (ps : List (List UInt8)) (n : Nat) : QjY (p :: q :: ps) (n + 1) = Qdd q :: QjY ps n := by
 unfold QjY
 rw [List.range_succ_eq_map, qz, yW]
 simp only [List.cons.injEq]
 exact ⟨by simp, yc fun k _ => by
  show Qdd ((p :: q :: ps).getD (2 * (k + 1) + 1) []) = _
  rw [show 2 * (k + 1) + 1 = (2 * k + 1) + 1 + 1 by omega, yl, yl]⟩
theorem Qes {w p q : List UInt8} {ws ps : List (List UInt8)} {k : Nat} : QhR (w :: ws) (p :: q :: ps) (k + 1) ↔ QhR ws ps k := by
 unfold QhR
 rw [show 2 * (k + 1) + 1 = (2 * k + 1) + 1 + 1 by omega, show 2 * (k + 1) = (2 * k) + 1 + 1 by omega, yl, yl, yl, yl, yl]
theorem QiN : ∀ {ws ps : List (List UInt8)}, ps.length = 2 * ws.length → (∀ k, k < ws.length → QhR ws ps k) → Qde ws ps = some (QjY ps ws.length)
 | [], [], _, _ => rfl
 | [], p :: ps, h, _ => by simp at h
 | w :: ws, [], h, _ => by simp at h
 | w :: ws, [p], h, _ => by simp at h; omega
 | w :: ws, p :: q :: ps, h, hk => by
  obtain ⟨h1, h2⟩ := hk 0 (by simp)
  have h1 : p = w := h1
  have h2 : (QbO q).isSome = true := h2
  obtain ⟨v, hv⟩ := yV.1 h2
  simp only [Qde, h1, hv, yD]
  rw [QiN (ws := ws) (ps := ps) (by simp at h; omega) fun k hk' => Qes.1 (hk (k + 1) (by simp; omega)), qp, QkK, QkI hv]
  rfl
theorem QiM : ∀ {ws ps : List (List UInt8)} {k : Nat}, k < ws.length → ¬ QhR ws ps k → Qde ws ps = none
 | [], _, k, h, _ => by simp at h
 | w :: ws, [], k, h, _ => rfl
 | w :: ws, [p], k, h, _ => rfl
 | w :: ws, p :: q :: ps, k, h, hk => by
  simp only [Qde]
  split
  ·rename_i h1
   split
   ·rename_i v hv
    cases k with
    | zero => exact absurd ⟨h1, by show (QbO q).isSome = true; rw [hv]; rfl⟩ hk
    | succ k =>
     rw [QiM (k := k) (by simp at h; omega) fun h' => hk (Qes.2 h')]
     rfl
   ·rfl
  ·rfl
theorem QiL : ∀ {ws ps : List (List UInt8)}, ps.length ≠ 2 * ws.length → Qde ws ps = none
 | [], [], h => absurd rfl h
 | [], p :: ps, _ => rfl
 | w :: ws, [], _ => rfl
 | w :: ws, [p], _ => rfl
 | w :: ws, p :: q :: ps, h => by
  simp only [Qde]
  split
  ·split
   ·rw [QiL (by simp at h; omega)]
    rfl
   ·rfl
  ·rfl
def Qn2 (ws : List (List UInt8)) (s : List UInt8) : AV := match Qde ws (pcs 32 s) with | some l => .tup [Q1 l, .bool true] | none => .tup [.list 0 [], .bool false]
theorem Qmi (ws : List (List UInt8)) (s : List UInt8) : isD (Qn2 ws s) = true := by unfold Qn2; split <;> simp [isD, isDL, Jg]
theorem Qmh (l : List (List UInt8)) : isD (strL l) = true := by
 have hD : ∀ l : List (List UInt8), isDL (l.map AV.str) = true := fun l => by
  induction l with
  | nil => rfl
  | cons a l ih => simp only [qz, isDL, isD, ih]; rfl
 simp only [strL, isD]; exact hD _
theorem Qgy : ∀ l : List (List UInt8), isTL (l.map AV.str) = true
 | [] => rfl
 | a :: l => by simp [isTL, isT, Qgy l]
theorem Ql6 (c : UInt8) (s : List UInt8) (i : Nat) : ((pcs c s).getD i []).length ≤ s.length := by
 rw [qh]
 cases h : (pcs c s)[i]? with
 | none => simp
 | some p => exact Qa8 c s p (qK h)
def Qiv (P : Prg) (f : Nat) : Prop := ∀ (s : List UInt8) (ws : List (List UInt8)), s.length ≤ 1000000 → ws.length ≤ 1000 → VC P f [.str s, strL ws] (Qn2 ws s)
theorem QhS {P : Prg} {f fS fN t0 : Nat} (bd : Body P f 54 [.tmp 4, .tmp 5] (ZS fS fN t0)) (hS : S_SplitS P fS) (hN : QcW P fN) : Qiv P f := by
 intro s ws hs hw
 refine QD 1 (by simp [isDL, isD, Qmh]) (Qmi ws s) (Qj bd (by simp) ?_)
 have hS' := hS s [32] hs (by simp)
 rw [Qgc, strL] at hS'
 have hpl := Qe0 32 s
 have hN' : ∀ i, VC P fN [.str ((pcs 32 s).getD i [])] _ := fun i => hN _ (qJ (Ql6 32 s i) hs)
 have hA : Qn2 ws s = match Qde ws (pcs 32 s) with | some l => .tup [Q1 l, .bool true] | none => .tup [.list 0 [], .bool false] := rfl
 generalize pcs 32 s = ps at *
 have lw : (ws.map AV.str).length = ws.length := by simp
 have lp : (ps.map AV.str).length = ps.length := by simp
 by_cases h0 : ps.length = 2 * ws.length
 case neg =>
  rw [hA, QiL h0]
  simp (maxSteps := 4000000) (disch := omega) only [rq, simprocAttr, ZS, strL]
  refine Qa hS' ?_
  simp (maxSteps := 4000000) (disch := omega) only [rq, simprocAttr]
  simp [ZO, Q5, frzL, QQ]
 simp (maxSteps := 4000000) (disch := omega) only [rq, simprocAttr, ZS, strL]
 refine Qa hS' ?_
 simp (maxSteps := 4000000) (disch := omega) only [rq, simprocAttr]
 refine ZV (ι := Nat) (fun i => ⟨[(22, .int .i64 i), (21, .int .i64 ws.length), (20, .list ws.length (ws.map .str)), (7, .own 0 i), (6, .list ps.length (ps.map .str))], [⟨t0, 1, i, ks .i64 (QjY ps i), 0⟩]⟩)
  (fun i => i ≤ ws.length ∧ ∀ k, k < i → QhR ws ps k) (fun i => ws.length - i) 0 (Le.trans (QnY 7 t0 1 (by decide) rfl) (QH)) ⟨ye _, fun k h => by omega⟩ ?_
 intro i ⟨hi, hk⟩
 have lv : (ks .i64 (QjY ps i)).length = i := by simp [ks, QjY]
 by_cases hi2 : i < ws.length
 ·have a1 := Qhz (L := ws) hi2
  have a2 := Qhz (L := ps) (i := 2 * i + 1) (by omega)
  have a3 := Qhz (L := ps) (i := 2 * i) (by omega)
  have t1 : (2 * (i : Int) + 1).toNat = 2 * i + 1 := by omega
  have t2 : (2 * (i : Int)).toNat = 2 * i := by omega
  by_cases hok : QhR ws ps i
  ·obtain ⟨k1, k2⟩ := hok
   have hN2 := hN' (2 * i + 1)
   rw [k2] at hN2
   have hse : Qga .neq (ps.getD (2 * i) []) (ws.getD i []) = some (.bool false) := by
    show some (AV.bool (!(ps.getD (2 * i) [] == ws.getD i []))) = _
    rw [beq_iff_eq.2 k1]
    rfl
   have e1 : ks .i64 (QjY ps (i + 1)) = ks .i64 (QjY ps i) ++ [.int .i64 (Qdd (ps.getD (2 * i + 1) []))] := by simp [ks, QjY, List.range_succ]
   simp (maxSteps := 4000000) (disch := omega) only [rq, simprocAttr, a1, a2, t1]
   refine Qa hN2 ?_
   simp (maxSteps := 4000000) (disch := omega) only [rq, simprocAttr, qV, a3, t2, hse, lv]
   refine ⟨i + 1, ⟨by omega, fun k hk' => ?_⟩, by omega, ?_⟩
   ·rcases Nat.lt_succ_iff_lt_or_eq.1 hk' with h | h
    ·exact hk k h
    ·rw [h]; exact ⟨k1, k2⟩
   ·rw [e1]
    exact QmK [_] (by simp only [q8]; rintro o rfl; rw [← e1]; exact QN _ _) (by simp [Am.look, Q5, frzL, QQ, strL, frzL_T _ (Qgy _)])
  ·rw [hA, QiM hi2 hok]
   have hN2 := hN' (2 * i + 1)
   cases k2 : (QbO (ps.getD (2 * i + 1) [])).isSome with
   | false =>
    rw [k2] at hN2
    simp (maxSteps := 4000000) (disch := omega) only [rq, simprocAttr, a1, a2, t1]
    refine Qa hN2 ?_
    simp (maxSteps := 4000000) (disch := omega) only [rq, simprocAttr, yj]
    simp [ZO, Q5, frzL, QQ]
   | true =>
    rw [k2] at hN2
    have hse : Qga .neq (ps.getD (2 * i) []) (ws.getD i []) = some (.bool true) := by
     show some (AV.bool (!(ps.getD (2 * i) [] == ws.getD i []))) = _
     rw [yq.2 fun h => hok ⟨h, k2⟩]
     rfl
    simp (maxSteps := 4000000) (disch := omega) only [rq, simprocAttr, a1, a2, t1]
    refine Qa hN2 ?_
    simp (maxSteps := 4000000) (disch := omega) only [rq, simprocAttr, qV, a3, t2, hse]
    simp [ZO, Q5, frzL, QQ]
 ·obtain rfl : i = ws.length := by omega
  rw [hA, QiN h0 hk]
  simp (maxSteps := 4000000) (disch := omega) only [rq, simprocAttr]
  simp [ZO, Q5, frzL, QQ, Q1, frzL_T _ (QN .i64 (QjY ps ws.length))]
  simp [QjY]
def rpB (x : Rp) : Prop := x.l.length ≤ 1000000 ∧ (∀ v ∈ x.l, -9223372036854775808 ≤ v ∧ v ≤ 9223372036854775807) ∧ 0 ≤ x.p ∧ x.p ≤ 255
def rpN (x : Rp) : Int := if QiE x then 0 else 8
theorem Qdl (x : Rp) : isD x.av = true := by simp [Rp.av, isD, isDL, Jg]
def QbM (P : Prg) (f : Nat) : Prop := ∀ x : Rp, rpB x → VC P f [x.av] (.int .i64 (rpN x))
theorem QhT {P : Prg} {f fF fC t0 t1 : Nat} (bd : Body P f 63 [.tmp 2] (Ql fF fC t0 t1)) (hF : Qb8 P fF) (hC : QdM P fC) : QbM P f := by
 intro x ⟨b1, b2, b3, b4⟩
 refine Xv (by simp [isDL, Qdl]) rfl bd ?_
 have hF' := hF x.f x.c x.b x.r x.n
 have hC' := hC x.l b1 b2
 have no : ∀ p : Prop, ¬ p → (QiE x → p) → rpN x = 8 := fun p hp h => qF fun hx => hp (h hx)
 rw [hdA] at hF'
 rw [Q1] at hC'
 have kl := QmV (f := x.f) (c := x.c) (b := x.b) (r := x.r) (n := x.n)
 have hcl : hdN x.f x.c x.b x.r x.n = 0 → (QY (QG x.r).toNat x.n.toNat).length ≤ 1000 := fun h => by
  obtain ⟨m, e, h1⟩ := kl h
  rw [e, qv]
  have := h1.2.2.2.2
  rwa [qv] at this
 by_cases h1 : hdN x.f x.c x.b x.r x.n = 0
 case neg =>
  rw [no _ h1 fun h => h.1]
  rw [QnD, qF h1] at hF'
  simp (maxSteps := 4000000) (disch := omega) only [rq, simprocAttr, Ql, Rp.av, Q1]
  refine Qa hF' ?_
  simp (maxSteps := 4000000) (disch := omega) only [rq, simprocAttr]
 have hcl' := hcl h1
 rw [QnD, qG h1, Q1] at hF'
 have rok : QiE x ↔ (skN x.l = 0 ∧ (QY (QG x.r).toNat x.n.toNat).length = x.l.length ∧ 22 ≤ x.m ∧ x.m ≤ 100000 ∧ 0 ≤ x.e ∧ x.e ≤ 99 ∧ 0 ≤ x.p ∧ x.p ≤ 6 ∧ 0 ≤ x.q ∧ x.q < x.l.length ∧ 0 ≤ x.g ∧ x.g ≤ 12000) := ⟨fun h => h.2, fun h => ⟨h1, h⟩⟩
 generalize QY (QG x.r).toNat x.n.toNat = Ls at *
 by_cases h2 : skN x.l = 0
 case neg =>
  rw [no _ h2 fun h => h.2.1]
  simp (maxSteps := 4000000) (disch := omega) only [rq, simprocAttr, Ql, Rp.av, Q1]
  iterate 2 (refine Qa (by assumption) ?_; simp (maxSteps := 4000000) (disch := omega) only [rq, simprocAttr])
 rw [h2] at hC'
 by_cases h3 : Ls.length = x.l.length
 case neg =>
  rw [no _ h3 fun h => (rok.1 h).2.1]
  simp (maxSteps := 4000000) (disch := omega) only [rq, simprocAttr, Ql, Rp.av, Q1]
  iterate 2 (refine Qa (by assumption) ?_; simp (maxSteps := 4000000) (disch := omega) only [rq, simprocAttr])
 have fin : (22 ≤ x.m ∧ x.m ≤ 100000 ∧ 0 ≤ x.e ∧ x.e ≤ 99 ∧ 0 ≤ x.p ∧ x.p ≤ 6 ∧ 0 ≤ x.q ∧ x.q < x.l.length ∧ 0 ≤ x.g ∧ x.g ≤ 12000) → rpN x = 0 := fun h => qG (rok.2 ⟨h2, h3, h⟩)
 have bad : ¬ (22 ≤ x.m ∧ x.m ≤ 100000 ∧ 0 ≤ x.e ∧ x.e ≤ 99 ∧ 0 ≤ x.p ∧ x.p ≤ 6 ∧ 0 ≤ x.q ∧ x.q < x.l.length ∧ 0 ≤ x.g ∧ x.g ≤ 12000) → rpN x = 8 := fun h => qF fun hx => h (rok.1 hx).2.2
 by_cases h4 : 22 ≤ x.m
 case neg =>
  rw [bad fun h => h4 h.1]
  simp (maxSteps := 4000000) (disch := omega) only [rq, simprocAttr, Ql, Rp.av, Q1]
  iterate 2 (refine Qa (by assumption) ?_; simp (maxSteps := 4000000) (disch := omega) only [rq, simprocAttr])
 by_cases h5 : x.m ≤ 100000
 case neg =>
  rw [bad fun h => h5 h.2.1]
  simp (maxSteps := 4000000) (disch := omega) only [rq, simprocAttr, Ql, Rp.av, Q1]
  iterate 2 (refine Qa (by assumption) ?_; simp (maxSteps := 4000000) (disch := omega) only [rq, simprocAttr])
 by_cases h6 : 0 ≤ x.e
 case neg =>
  rw [bad fun h => h6 h.2.2.1]
  simp (maxSteps := 4000000) (disch := omega) only [rq, simprocAttr, Ql, Rp.av, Q1]
  iterate 2 (refine Qa (by assumption) ?_; simp (maxSteps := 4000000) (disch := omega) only [rq, simprocAttr])
 by_cases h7 : x.e ≤ 99
 case neg =>
  rw [bad fun h => h7 h.2.2.2.1]
  simp (maxSteps := 4000000) (disch := omega) only [rq, simprocAttr, Ql, Rp.av, Q1]
  iterate 2 (refine Qa (by assumption) ?_; simp (maxSteps := 4000000) (disch := omega) only [rq, simprocAttr])
 by_cases h8 : x.p ≤ 6
 case neg =>
  rw [bad fun h => h8 h.2.2.2.2.2.1]
  simp (maxSteps := 4000000) (disch := omega) only [rq, simprocAttr, Ql, Rp.av, Q1]
  iterate 2 (refine Qa (by assumption) ?_; simp (maxSteps := 4000000) (disch := omega) only [rq, simprocAttr])
 by_cases h9 : 0 ≤ x.q
 case neg =>
  rw [bad fun h => h9 h.2.2.2.2.2.2.1]
  simp (maxSteps := 4000000) (disch := omega) only [rq, simprocAttr, Ql, Rp.av, Q1]
  iterate 2 (refine Qa (by assumption) ?_; simp (maxSteps := 4000000) (disch := omega) only [rq, simprocAttr])
 by_cases h10 : x.q < x.l.length
 case neg =>
  rw [bad fun h => h10 h.2.2.2.2.2.2.2.1]
  simp (maxSteps := 4000000) (disch := omega) only [rq, simprocAttr, Ql, Rp.av, Q1]
  iterate 2 (refine Qa (by assumption) ?_; simp (maxSteps := 4000000) (disch := omega) only [rq, simprocAttr])
 by_cases h11 : 0 ≤ x.g
 case neg =>
  rw [bad fun h => h11 h.2.2.2.2.2.2.2.2.1]
  simp (maxSteps := 4000000) (disch := omega) only [rq, simprocAttr, Ql, Rp.av, Q1]
  iterate 2 (refine Qa (by assumption) ?_; simp (maxSteps := 4000000) (disch := omega) only [rq, simprocAttr])
 by_cases h12 : x.g ≤ 12000
 case neg =>
  rw [bad fun h => h12 h.2.2.2.2.2.2.2.2.2]
  simp (maxSteps := 4000000) (disch := omega) only [rq, simprocAttr, Ql, Rp.av, Q1]
  iterate 2 (refine Qa (by assumption) ?_; simp (maxSteps := 4000000) (disch := omega) only [rq, simprocAttr])
 rw [fin ⟨h4, h5, h6, h7, b3, h8, h9, h10, h11, h12⟩]
 simp (maxSteps := 4000000) (disch := omega) only [rq, simprocAttr, Ql, Rp.av, Q1]
 iterate 2 (refine Qa (by assumption) ?_; simp (maxSteps := 4000000) (disch := omega) only [rq, simprocAttr])
def rc (f c b r n m : Int) (L : AV) (e p q g : Int) : List AV := [.int .i64 f, .int .i64 c, .int .i64 b, .int .i64 r, .int .i64 n, .int .i64 m, L, .int .i64 e, .int .u8 p, .int .i64 q, .int .i64 g]
def Rp.cs (x : Rp) : List AV := rc x.f x.c x.b x.r x.n x.m (Q1 x.l) x.e x.p x.q x.g
def QnW (P : Prg) (f : Nat) : Prop := ∀ s : List UInt8, s.length ≤ 1000000 → VC P f [.str s] (.tup [(rdQ s).1.av, .bool (rdQ s).2])
theorem Qlg (s t : List UInt8) : (Lib.cut s t).1.length ≤ s.length ∧ (Lib.cut s t).2.1.length ≤ s.length := by
 unfold Lib.cut
 split
 ·exact ⟨by simp only [qQ]; omega, by simp only [yf]; omega⟩
 ·exact ⟨qg _, ye _⟩
theorem Qjq {P : Prg} {f fS fN fC fM fX t0 t1 : Nat} (bd : Body P f 140 [.cell 2 t0, .tmp 3] (Zg fS fN fC fM fX t0 t1)) (hS : S_SplitS P fS) (hN : Qiv P fN) (hC : S_StrCut P fC) (hM : QlC P fM) (hX : J4 P fX) (ht : Z2 P t0 = some (some 11)) : QnW P f := by
 intro s hs
 refine QD 1 rfl (by simp [isD, isDL, Qdl]) (Qj bd (by simp) ?_)
 have hS' := hS s [10] hs (by simp)
 rw [Qgc, strL] at hS'
 have hpp := Qa8 10 s
 have hR : rdQ s = rdQ s := rfl
 conv at hR => rhs; unfold rdQ
 generalize pcs 10 s = ps at *
 by_cases hl : ps.length = 4
 case neg =>
  have hR' : rdQ s = (Rp.zero, false) := by
   rw [hR]
   split
   ·exact absurd rfl hl
   ·rfl
  rw [hR']
  by_cases h0 : ps.length < 4
  ·have : ¬ (ps.length : Int) = 4 := by omega
   simp (maxSteps := 4000000) (disch := omega) only [rq, simprocAttr, Zg]
   refine Qa hS' ?_
   simp (maxSteps := 4000000) (disch := omega) only [rq, simprocAttr]
   simp (maxSteps := 4000000) (disch := omega) only [rq, simprocAttr, ZP, ht, QC]
   simp [ZO, Q5, frzL, QQ, Rp.av, Rp.zero, Q1, ks]
  ·simp (maxSteps := 4000000) (disch := omega) only [rq, simprocAttr, Zg]
   refine Qa hS' ?_
   simp (maxSteps := 4000000) (disch := omega) only [rq, simprocAttr]
   simp (maxSteps := 4000000) (disch := omega) only [rq, simprocAttr, ZP, ht, QC]
   simp [ZO, Q5, frzL, QQ, Rp.av, Rp.zero, Q1, ks]
 match ps, hl with
 | [a, b, d, e4], _ =>
  have la : a.length ≤ 1000000 := qJ (hpp a (by simp)) hs
  have lb : b.length ≤ 1000000 := qJ (hpp b (by simp)) hs
  have ld : d.length ≤ 1000000 := qJ (hpp d (by simp)) hs
  simp only [qp, qX, qz, yM, qR, Nat.reduceAdd] at hS'
  by_cases h4 : e4 = []
  case neg =>
   have hR' : rdQ s = (Rp.zero, false) := by
    rw [hR]
    split
    ·rename_i h; simp at h; exact absurd h.2.2.2 h4
    ·rfl
   have hse : Qga .neq e4 [] = some (.bool true) := by
    show some (AV.bool (!(e4 == []))) = _
    rw [yq.2 h4]
    rfl
   rw [hR']
   simp (maxSteps := 4000000) (disch := omega) only [rq, simprocAttr, Zg]
   refine Qa hS' ?_
   simp (maxSteps := 4000000) (disch := omega) only [rq, simprocAttr, hse]
   simp (maxSteps := 4000000) (disch := omega) only [rq, simprocAttr, ZP, ht, QC]
   simp [ZO, Q5, frzL, QQ, Rp.av, Rp.zero, Q1, ks]
  subst h4
  simp only at hR
  have hN1 := hN a [wF1, wC1, wB1, wR1, wN1] la (by simp)
  have hC1 := hC b [58, 32] lb
  have hX1 := hX d [102, 111, 117, 110, 100, 32] ld (by simp)
  have hcl := Qlg b [58, 32]
  unfold Qn2 at hN1
  simp only [strL, qp, qX, qz, yM, qR, Nat.reduceAdd, wF1, wC1, wB1, wR1, wN1] at hN1 hR
  have hse : Qga .neq [] [] = some (.bool false) := rfl
  simp (maxSteps := 4000000) (disch := omega) only [rq, simprocAttr, Zg]
  refine Qa hS' ?_
  simp (maxSteps := 4000000) (disch := omega) only [rq, simprocAttr, hse]
  cases h1 : Qde [[102, 111, 114, 109, 97, 116], [99, 104, 97, 110, 110, 101, 108, 115], [98, 105, 116, 115], [114, 97, 116, 101], [99, 111, 117, 110, 116]] (pcs 32 a) with
  | none =>
   rw [h1] at hN1 hR
   rw [hR]
   refine Zt 1 [2] hN1 (by simp [ZO, Q5, frzL, QQ, isDL, isD]) ?_
   simp (maxSteps := 4000000) (disch := omega) only [rq, simprocAttr, Qe, yj]
   simp (maxSteps := 4000000) (disch := omega) only [rq, simprocAttr, ZP, ht, QC]
   simp [ZO, Q5, frzL, QQ, Rp.av, Rp.zero, Q1, ks]
  | some vs =>
   have hvl := (JH h1).2
   rw [h1] at hN1 hR
   match vs, hvl with
   | [f, c, bb, r, n], _ =>
    simp only at hR hN1
    rw [Q1] at hN1
    simp only [ks, qp, qX, qz, yM, qR, Nat.reduceAdd] at hN1
    refine Zt 1 [2] hN1 (by simp [ZO, Q5, frzL, QQ, isDL, isD]) ?_
    simp (maxSteps := 4000000) (disch := omega) only [rq, simprocAttr, Qe, qV]
    rcases hcut : Lib.cut b [58, 32] with ⟨w, all, fd⟩
    rw [hcut] at hC1 hR hcl
    have lw : w.length ≤ 1000000 := qJ hcl.1 lb
    have lal : all.length ≤ 1000000 := qJ hcl.2 lb
    simp only at hC1 hR
    cases fd with
    | false =>
     simp only at hR
     rw [hR]
     refine Qa hC1 ?_
     simp (maxSteps := 4000000) (disch := omega) only [rq, simprocAttr, yj]
     simp (maxSteps := 4000000) (disch := omega) only [rq, simprocAttr, ZP, ht, QC]
     simp [ZO, Q5, frzL, QQ, Rp.av, Q1, ks]
    | true =>
     simp only at hR
     have hN2 := hN w [wF2] lw (by simp)
     have hM1 := hM all lal
     unfold Qn2 at hN2
     unfold Qe5 at hM1
     simp only [strL, qp, qX, qz, yM, qR, wF2] at hN2 hR
     refine Qa hC1 ?_
     simp (maxSteps := 4000000) (disch := omega) only [rq, simprocAttr, qV]
     cases h2 : Qde [[102, 114, 97, 109, 101, 115]] (pcs 32 w) with
     | none =>
      rw [h2] at hN2 hR
      rw [hR]
      refine Zt 1 [3] hN2 (by simp [ZO, Q5, frzL, QQ, isDL, isD]) ?_
      simp (maxSteps := 4000000) (disch := omega) only [rq, simprocAttr, Qe, yj]
      simp (maxSteps := 4000000) (disch := omega) only [rq, simprocAttr, ZP, ht, QC]
      simp [ZO, Q5, frzL, QQ, Rp.av, Q1, ks]
     | some ms =>
      have hml := (JH h2).2
      rw [h2] at hN2 hR
      match ms, hml with
      | [m], _ =>
       simp only at hR hN2
       rw [Q1] at hN2
       simp only [ks, qp, qX, qz, yM, qR] at hN2
       refine Zt 1 [3] hN2 (by simp [ZO, Q5, frzL, QQ, isDL, isD]) ?_
       simp (maxSteps := 4000000) (disch := omega) only [rq, simprocAttr, Qe, qV]
       cases h3 : QcC all with
       | none =>
        rw [h3] at hM1 hR
        rw [hR]
        refine Qa hM1 ?_
        simp (maxSteps := 4000000) (disch := omega) only [rq, simprocAttr, yj]
        simp (maxSteps := 4000000) (disch := omega) only [rq, simprocAttr, ZP, ht, QC]
        simp [ZO, Q5, frzL, QQ, Rp.av, Q1, ks]
       | some l =>
        rw [h3] at hM1 hR
        simp only [Q1] at hM1
        simp only at hR
        refine Qa hM1 ?_
        simp (maxSteps := 4000000) (disch := omega) only [rq, simprocAttr, qV]
        by_cases h5 : d.take 6 = [102, 111, 117, 110, 100, 32]
        case neg =>
         rw [qF h5] at hR
         rw [qF (by simpa using h5)] at hX1
         rw [hR]
         refine Qa hX1 ?_
         simp (maxSteps := 4000000) (disch := omega) only [rq, simprocAttr, yj]
         simp (maxSteps := 4000000) (disch := omega) only [rq, simprocAttr, ZP, ht, QC]
         simp [ZO, Q5, frzL, QQ, Rp.av, Q1, frzL_T _ (QN .i64 l)]
        rw [qG h5] at hR
        rw [qG (by simpa using h5)] at hX1
        have hM2 := hM (d.drop 6) (by rw [yf]; omega)
        unfold Qe5 at hM2
        simp only [qp, qX, qR, Nat.reduceAdd] at hX1
        refine Qa hX1 ?_
        simp (maxSteps := 4000000) (disch := omega) only [rq, simprocAttr, qV]
        cases h6 : QcC (d.drop 6) with
        | none =>
         rw [h6] at hM2 hR
         rw [hR]
         refine Qa hM2 ?_
         simp (maxSteps := 4000000) (disch := omega) only [rq, simprocAttr, yj]
         simp (maxSteps := 4000000) (disch := omega) only [rq, simprocAttr, ZP, ht, QC]
         simp [ZO, Q5, frzL, QQ, Rp.av, Q1, frzL_T _ (QN .i64 l)]
        | some fs =>
         rw [h6] at hM2 hR
         by_cases h7 : fs.length = 4
         case neg =>
          have hR' : rdQ s = (⟨f, c, bb, r, n, m, l, 0, 0, 0, 0⟩, false) := by
           rw [hR]
           split
           ·rename_i h; cases h; exact absurd rfl h7
           ·rfl
          rw [hR']
          simp only [Q1] at hM2
          by_cases h8 : fs.length < 4
          ·have : ¬ (fs.length : Int) = 4 := by omega
           refine Qa hM2 ?_
           simp (maxSteps := 4000000) (disch := omega) only [rq, simprocAttr, qV]
           simp (maxSteps := 4000000) (disch := omega) only [rq, simprocAttr, ZP, ht, QC]
           simp [ZO, Q5, frzL, QQ, Rp.av, Q1, frzL_T _ (QN .i64 l)]
          ·refine Qa hM2 ?_
           simp (maxSteps := 4000000) (disch := omega) only [rq, simprocAttr, qV]
           simp (maxSteps := 4000000) (disch := omega) only [rq, simprocAttr, ZP, ht, QC]
           simp [ZO, Q5, frzL, QQ, Rp.av, Q1, frzL_T _ (QN .i64 l)]
         match fs, h7 with
         | [e, p, q, g], _ =>
          simp only at hR hM2
          rw [Q1] at hM2
          simp only [ks, qp, qX, qz, yM, qR, Nat.reduceAdd] at hM2
          by_cases h8 : 0 ≤ p
          case neg =>
           rw [qF fun h => h8 h.1] at hR
           rw [hR]
           refine Qa hM2 ?_
           simp (maxSteps := 4000000) (disch := omega) only [rq, simprocAttr, qV]
           simp (maxSteps := 4000000) (disch := omega) only [rq, simprocAttr, ZP, ht, QC]
           simp [ZO, Q5, frzL, QQ, Rp.av, Q1, frzL_T _ (QN .i64 l)]
          by_cases h9 : p ≤ 6
          case neg =>
           rw [qF fun h => h9 h.2] at hR
           rw [hR]
           refine Qa hM2 ?_
           simp (maxSteps := 4000000) (disch := omega) only [rq, simprocAttr, qV]
           simp (maxSteps := 4000000) (disch := omega) only [rq, simprocAttr, ZP, ht, QC]
           simp [ZO, Q5, frzL, QQ, Rp.av, Q1, frzL_T _ (QN .i64 l)]
          rw [qG ⟨h8, h9⟩] at hR
          rw [hR]
          refine Qa hM2 ?_
          simp (maxSteps := 4000000) (disch := omega) only [rq, simprocAttr, qV]
          simp (maxSteps := 4000000) (disch := omega) only [rq, simprocAttr, ZP, ht, QC]
          simp [ZO, Q5, frzL, QQ, Rp.av, Q1, frzL_T _ (QN .i64 l)]
theorem Ql9 {s : List UInt8} {v : Int} (h : QbO s = some v) : -9223372036854775808 ≤ v ∧ v ≤ 9223372036854775807 := by
 have := Qma s
 rw [QkI h] at this
 exact this
theorem Qbb : ∀ {L : List (List UInt8)} {l : List Int}, L.mapM QbO = some l → l.length = L.length ∧ ∀ v ∈ l, -9223372036854775808 ≤ v ∧ v ≤ 9223372036854775807
 | [], l, h => by simp at h; subst h; exact ⟨rfl, fun v hv => by cases hv⟩
 | p :: L, l, h => by
  simp only [qP, qy, qk, qe, qc] at h
  obtain ⟨v, hv, r, hr, rfl⟩ := h
  obtain ⟨h1, h2⟩ := Qbb hr
  refine ⟨by simp [h1], fun u hu => ?_⟩
  rcases qm.1 hu with rfl | hu
  ·exact Ql9 hv
  ·exact h2 u hu
theorem Qkv {s : List UInt8} (hs : s.length ≤ 999999) (h : (rdQ s).2 = true) : rpB (rdQ s).1 := by
 have hpp := Qa8 10 s
 generalize hq : rdQ s = y at h ⊢
 unfold rdQ at hq
 split at hq
 case h_2 => subst hq; cases h
 rename_i a b d h10
 have lb : b.length ≤ 999999 := qJ (hpp b (by rw [h10]; simp)) hs
 split at hq
 case h_2 => subst hq; cases h
 rename_i f c bb r n h1
 split at hq
 case h_2 => subst hq; cases h
 rename_i w all hcut
 have hcl := (Qlg b [58, 32]).2
 rw [hcut] at hcl
 split at hq
 case h_2 => subst hq; cases h
 rename_i m h2
 split at hq
 case h_2 => subst hq; cases h
 rename_i l h3
 split at hq
 case isFalse => subst hq; cases h
 split at hq
 case h_2 => subst hq; cases h
 rename_i e p q g h4
 split at hq
 case isFalse => subst hq; cases h
 rename_i hp
 subst hq
 obtain ⟨k1, k2⟩ := Qbb h3
 have := Qe0 32 all
 exact ⟨by simp only at hcl ⊢; omega, k2, hp.1, by simp only; omega⟩
def QaU (P : Prg) (f : Nat) : Prop := ∀ s : List UInt8, s.length ≤ 999999 → (∀ x, QiE x → txt x = s → VC P f [.str s] (.tup [x.av, .int .i64 0])) ∧ ((¬ ∃ x, QiE x ∧ txt x = s) → VC P f [.str s] (.tup [Rp.zero.av, .int .i64 12]))
theorem Qjs {P : Prg} {f fR fC t0 : Nat} (bd : Body P f 20 [.cell 2 t0, .tmp 3] (ZG fR fC t0)) (hR : QnW P fR) (hC : QbM P fC) (ht : Z2 P t0 = some (some 11)) : QaU P f := by
 intro s hs
 have hR' := hR s (by omega)
 refine ⟨fun x hx htx => ?_, fun hno => ?_⟩
 ·refine QD 1 rfl (by simp [isD, isDL, Qdl]) (Qj bd (by simp) ?_)
  have h1 : rdO s = some x := by rw [← htx]; exact Qj7 hx
  unfold rdO at h1
  split at h1
  case isFalse => cases h1
  rename_i h2
  have hb := Qkv hs h2
  cases h1
  have hC' := hC _ hb
  have e0 : rpN (rdQ s).1 = 0 := qG hx
  rw [e0] at hC'
  rw [h2] at hR'
  generalize (rdQ s).1 = x at *
  rw [Rp.av, Q1] at hR' hC' ⊢
  simp (maxSteps := 4000000) (disch := omega) only [rq, simprocAttr, ZG]
  refine Qa hR' ?_
  simp (maxSteps := 4000000) (disch := omega) only [rq, simprocAttr, qV]
  refine Qa hC' ?_
  simp (maxSteps := 4000000) (disch := omega) only [rq, simprocAttr]
  simp (maxSteps := 4000000) (disch := omega) only [rq, simprocAttr, ZP, ht, QC]
  simp [ZO, Q5, frzL, QQ, frzL_T _ (QN .i64 x.l)]
 ·refine QD 1 rfl (by simp [isD, isDL, Qdl]) (Qj bd (by simp) ?_)
  cases h2 : (rdQ s).2 with
  | false =>
   rw [h2] at hR'
   generalize (rdQ s).1 = x at *
   rw [Rp.av, Q1] at hR'
   simp (maxSteps := 4000000) (disch := omega) only [rq, simprocAttr, ZG]
   refine Qa hR' ?_
   simp (maxSteps := 4000000) (disch := omega) only [rq, simprocAttr, yj]
   simp (maxSteps := 4000000) (disch := omega) only [rq, simprocAttr, ZP, ht, QC]
   simp [ZO, Q5, frzL, QQ, Rp.av, Rp.zero, Q1, ks]
  | true =>
   have hb := Qkv hs h2
   have hC' := hC _ hb
   have hrd : rdO s = some (rdQ s).1 := by unfold rdO; rw [qG h2]
   have e8 : rpN (rdQ s).1 = 8 := qF fun hx => hno ⟨_, hx, QmO hrd⟩
   rw [e8] at hC'
   rw [h2] at hR'
   generalize (rdQ s).1 = x at *
   rw [Rp.av, Q1] at hR' hC'
   simp (maxSteps := 4000000) (disch := omega) only [rq, simprocAttr, ZG]
   refine Qa hR' ?_
   simp (maxSteps := 4000000) (disch := omega) only [rq, simprocAttr, qV]
   refine Qa hC' ?_
   simp (maxSteps := 4000000) (disch := omega) only [rq, simprocAttr]
   simp (maxSteps := 4000000) (disch := omega) only [rq, simprocAttr, ZP, ht, QC]
   simp [ZO, Q5, frzL, QQ, Rp.av, Rp.zero, Q1, ks]
def QlF (tB : Nat) (P : Prg) (f : Nat) : Prop := ∀ (ob : List Ob) (p : Nat) (c0 c : AV) (K : AV → List Ob → Prop), (c0 = .lit (.pointer none) ∨ c0 = .ref p 1 0) → ob[p]? = some ⟨tB, 2, 1, [c0, c], 0⟩ → K (.tup []) (ob.set p ⟨tB, 2, 1, [.ref p 1 0, c], 0⟩) → ACall P f [.ref p 1 0] ob K
section
open Go.Shelf Go.Proofs
theorem Qon {P : Prg} {tB fC : Nat} (hN : CopyNew P.prog tB fC) (hO : CopyOld P.prog fC) (hE : Enters P fC) : QlF tB P fC := fun ob p c0 c K h0 hp hK => by
 rcases h0 with rfl | rfl
 ·exact ACall.copy_fresh hN hE hp hK
 ·refine ACall.copy_used hO hE hp ?_
  have e : ob.set p ⟨tB, 2, 1, [.ref p 1 0, c], 0⟩ = ob := by
   apply yh
   intro i
   rw [qo]
   split
   ·rename_i e; subst e; split
    ·exact hp.symm
    ·rename_i h; exact absurd (qb.1 hp).1 h
   ·rfl
  rw [e] at hK
  exact hK
end
def Qi3 (tB tb : Nat) (P : Prg) (f : Nat) : Prop := ∀ (x0 x1 x2 : Ob) (rest : List Ob) (c0 : AV) (l s : List UInt8) (K : AV → List Ob → Prop), (c0 = .lit (.pointer none) ∨ c0 = .ref 3 1 0) → l.length + s.length ≤ 1000000 →
 K (.tup [.int .i64 s.length, .lit .nilIface]) (x0 :: x1 :: x2 :: ⟨tB, 2, 1, [.ref 3 1 0, .own 4 (l.length + s.length)], 0⟩ :: ⟨tb, 1, l.length + s.length, u8 (l ++ s), 0⟩ :: rest) →
 ACall P f [.ref 3 1 0, .str s] (x0 :: x1 :: x2 :: ⟨tB, 2, 1, [c0, .own 4 l.length], 0⟩ :: ⟨tb, 1, l.length, u8 l, 0⟩ :: rest) K
theorem Qdu {P : Prg} {f fC tb tB : Nat} (bd : Body P f 19 [.tmp 4, .tmp 5] (Qz fC tb)) (hC : QlF tB P fC) : Qi3 tB tb P f := by
 intro x0 x1 x2 rest c0 l s K h0 hl hK
 refine Qj bd (by simp) ?_
 simp (maxSteps := 4000000) (disch := omega) only [rq, simprocAttr, Qz]
 refine hC _ 3 c0 _ _ h0 rfl ?_
 simp (maxSteps := 4000000) (disch := omega) only [rq, simprocAttr]
 exact hK
def Z9 (w : List UInt8) (l : List Int) : List UInt8 := w ++ (l.map fun n => 32 :: Lib.itoa n).flatten
theorem Jc (w : List UInt8) : ∀ l : List Int, (∀ v ∈ l, -9223372036854775808 ≤ v ∧ v ≤ 9223372036854775807) → (Z9 w l).length ≤ w.length + 22 * l.length := by
 intro l
 unfold Z9
 rw [qn]
 induction l with
 | nil => intro _; simp
 | cons n l ih =>
  intro h
  have h1 := ih fun v hv => h v (yb _ hv)
  have h2 := Lib.itoa_length_le n (h n (by simp)).1 (h n (by simp)).2
  simp only [qz, List.flatten_cons, qn, qp]
  omega
theorem Ql0 (w : List UInt8) (l : List Int) (n : Int) : Z9 w (l ++ [n]) = Z9 w l ++ (32 :: Lib.itoa n) := by simp [Z9]
def QnV (tB tb ti : Nat) (P : Prg) (f : Nat) : Prop := ∀ (x0 x1 x2 : Ob) (rest : List Ob) (c0 : AV) (l w : List UInt8) (A : AV) (ns : List Int) (K : AV → List Ob → Prop), (c0 = .lit (.pointer none) ∨ c0 = .ref 3 1 0) →
 (A = Q1 ns ∨ ∃ j, A = .own (j + 5) ns.length ∧ rest[j]? = some ⟨ti, 1, ns.length, ks .i64 ns, 0⟩) → (∀ v ∈ ns, -9223372036854775808 ≤ v ∧ v ≤ 9223372036854775807) → l.length + w.length + 22 * ns.length ≤ 1000000 →
 (K (.tup []) (x0 :: x1 :: x2 :: ⟨tB, 2, 1, [.ref 3 1 0, .own 4 (l ++ Z9 w ns).length], 0⟩ :: ⟨tb, 1, (l ++ Z9 w ns).length, u8 (l ++ Z9 w ns), 0⟩ :: rest)) →
 ACall P f [.str w, A, .ref 3 1 0] (x0 :: x1 :: x2 :: ⟨tB, 2, 1, [c0, .own 4 l.length], 0⟩ :: ⟨tb, 1, l.length, u8 l, 0⟩ :: rest) K
theorem QkM {P : Prg} {f fW fI tB tb ti : Nat} (bd : Body P f 20 [] (ZF fW fI)) (hW : Qi3 tB tb P fW) (hI : S_Itoa P fI) : QnV tB tb ti P f := by
 intro x0 x1 x2 rest c0 l w A ns K h0 hA hb hl hK
 refine Qj bd (by simp) ?_
 have hlen : ∀ i, i ≤ ns.length → (l ++ Z9 w (ns.take i)).length + 22 ≤ 1000000 + 22 := fun i hi => by
  have h1 := Jc w (ns.take i) fun v hv => hb v (qC hv)
  have h2 : (ns.take i).length ≤ i := by simp; omega
  rw [qn]
  omega
 have stp : ∀ i (hi : i < ns.length), l ++ Z9 w (ns.take (i + 1)) = (l ++ Z9 w (ns.take i)) ++ (32 :: Lib.itoa ns[i]) := fun i hi => by
  rw [qU hi, Ql0, qH]
 have hit : ∀ i (hi : i < ns.length), S_Itoa P fI → VC P fI [.int .i64 ns[i]] (.str (Lib.itoa ns[i])) := fun i hi h => h _ (hb _ (yg hi)).1 (hb _ (yg hi)).2
 let S : Nat → List Ob := fun i => x0 :: x1 :: x2 :: ⟨tB, 2, 1, [.ref 3 1 0, .own 4 (l ++ Z9 w (ns.take i)).length], 0⟩ :: ⟨tb, 1, (l ++ Z9 w (ns.take i)).length, u8 (l ++ Z9 w (ns.take i)), 0⟩ :: rest
 have hnl : ns.length ≤ 1000000 := by omega
 have s0 : Z9 w (ns.take 0) = w := by simp [Z9]
 have hw : l.length + w.length ≤ 1000000 := by omega
 rcases hA with rfl | ⟨j, rfl, hj⟩
 ·simp (maxSteps := 4000000) (disch := omega) only [rq, simprocAttr, ZF, Q1]
  refine hW x0 x1 x2 rest c0 l w _ h0 hw ?_
  simp (maxSteps := 4000000) (disch := omega) only [rq, simprocAttr]
  refine ZV (ι := Nat) (fun i => ⟨[(11, .int .i64 i), (10, .int .i64 ns.length), (9, .list ns.length (ks .i64 ns)), (2, .ref 3 1 0)], S i⟩) (fun i => i ≤ ns.length) (fun i => ns.length - i) 0
   (by simp only [S, s0, qn]; exact QH) (ye _) ?_
  intro i hi
  by_cases hi2 : i < ns.length
  ·have hI' := hit i hi2 hI
   have la : (ks .i64 ns).drop i = .int .i64 ns[i] :: (ks .i64 ns).drop (i + 1) := by
    have h := QkO (K := .i64) (l := ns) (i := i) hi2
    rw [← QbY] at h
    simpa [qh, hi2] using h
   have hil := Lib.itoa_length_le ns[i] (hb _ (yg hi2)).1 (hb _ (yg hi2)).2
   have hst := stp i hi2
   have hL := hlen i hi
   have hL1 := hlen (i + 1) hi2
   rw [hst, qn, qp] at hL1
   have hS1 : S (i + 1) = x0 :: x1 :: x2 :: ⟨tB, 2, 1, [.ref 3 1 0, .own 4 ((l ++ Z9 w (ns.take i)).length + (32 :: Lib.itoa ns[i]).length)], 0⟩ :: ⟨tb, 1, (l ++ Z9 w (ns.take i)).length + (32 :: Lib.itoa ns[i]).length, u8 ((l ++ Z9 w (ns.take i)) ++ (32 :: Lib.itoa ns[i])), 0⟩ :: rest := by
    simp only [S]
    rw [hst, @List.length_append _ (l ++ Z9 w (ns.take i))]
   have hS0 : S i = x0 :: x1 :: x2 :: ⟨tB, 2, 1, [.ref 3 1 0, .own 4 (l ++ Z9 w (ns.take i)).length], 0⟩ :: ⟨tb, 1, (l ++ Z9 w (ns.take i)).length, u8 (l ++ Z9 w (ns.take i)), 0⟩ :: rest := rfl
   rw [hS0]
   generalize l ++ Z9 w (ns.take i) = m at *
   simp (maxSteps := 4000000) (disch := omega) only [rq, simprocAttr, la, QU]
   refine Qa hI' ?_
   have hsa : Qga .add [32] (Lib.itoa ns[i]) = some (.str (32 :: Lib.itoa ns[i])) := by
    simp only [Qga]
    rw [qG (by simp; omega)]
    rfl
   simp (maxSteps := 4000000) (disch := omega) only [rq, simprocAttr, hsa]
   refine hW x0 x1 x2 rest _ m _ _ (.inr rfl) (by simp only [qp]; omega) ?_
   simp (maxSteps := 4000000) (disch := omega) only [rq, simprocAttr]
   refine ⟨i + 1, hi2, by omega, ?_⟩
   rw [hS1]
   exact QH
  ·obtain rfl : i = ns.length := by omega
   simp (maxSteps := 4000000) (disch := omega) only [rq, simprocAttr]
   simp only [S, yw]
   exact hK
 ·have hj5 : ∀ a b c d e : Ob, (a :: b :: c :: d :: e :: rest)[j + 5]? = some ⟨ti, 1, ns.length, ks .i64 ns, 0⟩ := fun a b c d e => hj
  simp (maxSteps := 4000000) (disch := omega) only [rq, simprocAttr, ZF]
  refine hW x0 x1 x2 rest c0 l w _ h0 hw ?_
  simp (maxSteps := 4000000) (disch := omega) only [rq, simprocAttr, hj5]
  refine ZV (ι := Nat) (fun i => ⟨[(11, .int .i64 i), (10, .int .i64 ns.length), (9, .own (j + 5) ns.length), (2, .ref 3 1 0)], S i⟩) (fun i => i ≤ ns.length) (fun i => ns.length - i) 0
   (by simp only [S, s0, qn]; exact QH) (ye _) ?_
  intro i hi
  by_cases hi2 : i < ns.length
  ·have hI' := hit i hi2 hI
   have la : (ks .i64 ns).drop i = .int .i64 ns[i] :: (ks .i64 ns).drop (i + 1) := by
    have h := QkO (K := .i64) (l := ns) (i := i) hi2
    rw [← QbY] at h
    simpa [qh, hi2] using h
   have hil := Lib.itoa_length_le ns[i] (hb _ (yg hi2)).1 (hb _ (yg hi2)).2
   have hst := stp i hi2
   have hL := hlen i hi
   have hL1 := hlen (i + 1) hi2
   rw [hst, qn, qp] at hL1
   have hS1 : S (i + 1) = x0 :: x1 :: x2 :: ⟨tB, 2, 1, [.ref 3 1 0, .own 4 ((l ++ Z9 w (ns.take i)).length + (32 :: Lib.itoa ns[i]).length)], 0⟩ :: ⟨tb, 1, (l ++ Z9 w (ns.take i)).length + (32 :: Lib.itoa ns[i]).length, u8 ((l ++ Z9 w (ns.take i)) ++ (32 :: Lib.itoa ns[i])), 0⟩ :: rest := by
    simp only [S]
    rw [hst, @List.length_append _ (l ++ Z9 w (ns.take i))]
   have hS0 : S i = x0 :: x1 :: x2 :: ⟨tB, 2, 1, [.ref 3 1 0, .own 4 (l ++ Z9 w (ns.take i)).length], 0⟩ :: ⟨tb, 1, (l ++ Z9 w (ns.take i)).length, u8 (l ++ Z9 w (ns.take i)), 0⟩ :: rest := rfl
   rw [hS0]
   generalize l ++ Z9 w (ns.take i) = m at *
   simp (maxSteps := 4000000) (disch := omega) only [rq, simprocAttr, hj5, la, QU]
   refine Qa hI' ?_
   have hsa : Qga .add [32] (Lib.itoa ns[i]) = some (.str (32 :: Lib.itoa ns[i])) := by
    simp only [Qga]
    rw [qG (by simp; omega)]
    rfl
   simp (maxSteps := 4000000) (disch := omega) only [rq, simprocAttr, hsa]
   refine hW x0 x1 x2 rest _ m _ _ (.inr rfl) (by simp only [qp]; omega) ?_
   simp (maxSteps := 4000000) (disch := omega) only [rq, simprocAttr]
   refine ⟨i + 1, hi2, by omega, ?_⟩
   rw [hS1]
   exact QH
  ·obtain rfl : i = ns.length := by omega
   simp (maxSteps := 4000000) (disch := omega) only [rq, simprocAttr]
   simp only [S, yw]
   exact hK
def QlH (tB tb : Nat) (P : Prg) (f : Nat) : Prop := ∀ (ob : List Ob) (p o : Nat) (c : AV) (l : List UInt8) (K : AV → List Ob → Prop), ob[p]? = some ⟨tB, 2, 1, [c, .own o l.length], 0⟩ → ob[o]? = some ⟨tb, 1, l.length, u8 l, 0⟩ → l ≠ [] → K (.str l) (ob.set o ⟨tb, 1, l.length, u8 l, fzAll + l.length⟩) → ACall P f [.ref p 1 0] ob K
section
open Go.Shelf Go.Proofs
theorem Qoo {P : Prg} {ρ : Ren} (L : Lays.n169 P.prog ρ) (X5 : Builder.Extra P.prog ρ) (hE : Enters P (ρ.f 169)) : QlH (ρ.t 72) (ρ.t 5) P (ρ.f 169) := fun ob p o c l K hp ho h0 hK => ACall.bld_string L X5 hE hp ho h0 hK
end
theorem QgE : ∀ {l : List Int}, l ≠ [] → (l.map fun n => 32 :: Lib.itoa n).flatten = 32 :: ZA 32 (l.map Lib.itoa)
 | [], h => absurd rfl h
 | [n], _ => by simp [ZA]
 | n :: k :: l, _ => by
  have h := QgE (l := k :: l) (by simp)
  rw [qz, List.flatten_cons, h, qz (a := n), Qeu 32 _ (by simp)]
  simp
def QiD (x : Rp) : List UInt8 := Z9 wF1 [x.f] ++ Z9 (32 :: wC1) [x.c] ++ Z9 (32 :: wB1) [x.b] ++ Z9 (32 :: wR1) [x.r] ++ Z9 (32 :: wN1) [x.n] ++ Z9 (10 :: wF2) [x.m] ++ Z9 [58] x.l ++ Z9 (10 :: wF3) [x.e, x.p, x.q, x.g] ++ [10]
theorem Qnf {x : Rp} (h : x.l ≠ []) : QiD x = txt x := by
 unfold QiD txt ln1 ln2 ln3
 simp only [Z9, QgE h, ZA, qz, yM, List.flatten_cons, List.flatten_nil, yN, qH, qW, List.nil_append, wF1, wC1, wB1, wR1, wN1, wF2, wF3]
def Qja (x : Rp) : AV := if QiE x then .tup [.str (txt x), .int .i64 0] else .tup [.str [], .int .i64 8]
def QfS (P : Prg) (f : Nat) : Prop := ∀ x : Rp, rpB x → VC P f [x.av] (Qja x)
theorem Qjr {P : Prg} {f fC g fW fS t0 t1 t2 t3 t4 tb : Nat} (bd : Body P f 70 [.tmp 2, .tmp 3] (Xc fC g fW fS t0 t1 t2 t3 t4)) (hC : QbM P fC) (hY : QnV t3 tb t4 P g) (hW : Qi3 t3 tb P fW) (hS : QlH t3 tb P fS) : QfS P f := by
 intro x hb
 have hC' := hC x hb
 refine QD 1 (by simp [isDL, Qdl]) (by unfold Qja; split <;> rfl) (ACall.of_cuts [false, false, true, false, false, true] bd (by simp) ?_)
 by_cases hx : QiE x
 case neg =>
  have e1 : rpN x = 8 := qF hx
  have e2 : Qja x = .tup [.str [], .int .i64 8] := qF hx
  rw [e1] at hC'
  rw [e2]
  rw [Rp.av, Q1] at hC' ⊢
  simp (maxSteps := 4000000) (disch := omega) only [rq, simprocAttr, J7, Xc]
  refine Qa hC' ?_
  simp (maxSteps := 4000000) (disch := omega) only [rq, simprocAttr, J7]
  simp [ZO, Q5, frzL, QQ]
 have e1 : rpN x = 0 := qG hx
 have e2 : Qja x = .tup [.str (txt x), .int .i64 0] := qG hx
 rw [e1] at hC'
 obtain ⟨h1, h2, h3, h4, h5, h6, h7, h8, h9, h10, h11, h12, h13⟩ := hx
 obtain ⟨k1, k2, k3⟩ := Qkl h2
 obtain ⟨⟨s1, s2, s3, s4, s5, s6, s7⟩, _⟩ := QkX h1
 have s8 := QmU h1
 rw [e2, ← Qnf k1]
 have one : ∀ {v : Int}, -9223372036854775808 ≤ v ∧ v ≤ 9223372036854775807 → ∀ u ∈ [v], -9223372036854775808 ≤ u ∧ u ≤ 9223372036854775807 := fun {v} h u hu => by simp only [q8] at hu; rw [hu]; exact h
 have four : ∀ u ∈ [x.e, x.p, x.q, x.g], -9223372036854775808 ≤ u ∧ u ≤ 9223372036854775807 := fun u hu => by
  simp only [qm, qM, or_false] at hu
  rcases hu with rfl | rfl | rfl | rfl <;> omega
 have lbig : ∀ u ∈ x.l, -9223372036854775808 ≤ u ∧ u ≤ 9223372036854775807 := fun u hu => by have := k3 u hu; omega
 obtain ⟨m1, e1, b1⟩ : ∃ m : List UInt8, m = [] ++ Z9 wF1 [x.f] ∧ m.length ≤ 40 := ⟨_, rfl, by have := Jc wF1 [x.f] (one (by omega)); simp [wF1] at this ⊢; omega⟩
 obtain ⟨m2, e2, b2⟩ : ∃ m : List UInt8, m = m1 ++ Z9 (32 :: wC1) [x.c] ∧ m.length ≤ 80 := ⟨_, rfl, by have := Jc (32 :: wC1) [x.c] (one (by omega)); simp [wC1] at this ⊢; omega⟩
 obtain ⟨m3, e3, b3⟩ : ∃ m : List UInt8, m = m2 ++ Z9 (32 :: wB1) [x.b] ∧ m.length ≤ 120 := ⟨_, rfl, by have := Jc (32 :: wB1) [x.b] (one (by omega)); simp [wB1] at this ⊢; omega⟩
 obtain ⟨m4, e4, b4⟩ : ∃ m : List UInt8, m = m3 ++ Z9 (32 :: wR1) [x.r] ∧ m.length ≤ 160 := ⟨_, rfl, by have := Jc (32 :: wR1) [x.r] (one (by omega)); simp [wR1] at this ⊢; omega⟩
 obtain ⟨m5, e5, b5⟩ : ∃ m : List UInt8, m = m4 ++ Z9 (32 :: wN1) [x.n] ∧ m.length ≤ 200 := ⟨_, rfl, by have := Jc (32 :: wN1) [x.n] (one (by omega)); simp [wN1] at this ⊢; omega⟩
 obtain ⟨m6, e6, b6⟩ : ∃ m : List UInt8, m = m5 ++ Z9 (10 :: wF2) [x.m] ∧ m.length ≤ 240 := ⟨_, rfl, by have := Jc (10 :: wF2) [x.m] (one (by omega)); simp [wF2] at this ⊢; omega⟩
 obtain ⟨m7, e7, b7⟩ : ∃ m : List UInt8, m = m6 ++ Z9 [58] x.l ∧ m.length ≤ 23000 := ⟨_, rfl, by have := Jc [58] x.l lbig; simp at this ⊢; omega⟩
 obtain ⟨m8, e8, b8⟩ : ∃ m : List UInt8, m = m7 ++ Z9 (10 :: wF3) [x.e, x.p, x.q, x.g] ∧ m.length ≤ 24000 := ⟨_, rfl, by have := Jc (10 :: wF3) [x.e, x.p, x.q, x.g] four; simp [wF3] at this ⊢; omega⟩
 have e9 : QiD x = m8 ++ [10] := by rw [e8, e7, e6, e5, e4, e3, e2, e1]; simp [QiD]
 rw [e9]
 rw [Rp.av, Q1] at hC' ⊢
 simp (maxSteps := 4000000) (disch := omega) only [rq, simprocAttr, J7, Xc]
 refine Qa hC' ?_
 simp (maxSteps := 4000000) (disch := omega) only [rq, simprocAttr, J7]
 refine Qiz ⟨[(1, .cell [.int .i64 x.f, .int .i64 x.c, .int .i64 x.b, .int .i64 x.r, .int .i64 x.n, .int .i64 x.m, .list x.l.length (ks .i64 x.l), .int .i64 x.e, .int .u8 x.p, .int .i64 x.q, .int .i64 x.g])], _⟩ (Le.still [0] 1 (by simp [Am.look, Q5, frzL, QQ, isDL, isD, XC, frzL_T _ (QN .i64 x.l)])) ?_
 simp (maxSteps := 4000000) (disch := omega) only [rq, simprocAttr, J7, Qe]
 refine Qiz ⟨[(1, .cell [.int .i64 x.f, .int .i64 x.c, .int .i64 x.b, .int .i64 x.r, .int .i64 x.n, .int .i64 x.m, .list x.l.length (ks .i64 x.l), .int .i64 x.e, .int .u8 x.p, .int .i64 x.q, .int .i64 x.g]), (5, .ref 1 1 0), (6, .ref 2 1 0), (7, .ref 3 1 0)], _⟩ (Le.trans (Le.virtC 3 1 tb 1 (by decide) rfl rfl) (Jq (by simp [Am.look, QJ]))) ?_
 simp (maxSteps := 4000000) (disch := omega) only [rq, simprocAttr, J7]
 refine hY _ _ _ [_] _ [] wF1 _ [x.f] _ (.inl rfl) (.inr ⟨0, rfl, rfl⟩) (one (by omega)) (by simp [wF1]) ?_
 rw [← e1]
 simp (maxSteps := 4000000) (disch := omega) only [rq, simprocAttr, J7]
 refine hY _ _ _ [_, _] _ m1 (32 :: wC1) _ [x.c] _ (.inr rfl) (.inr ⟨1, rfl, rfl⟩) (one (by omega)) (by simp [wC1]; omega) ?_
 rw [← e2]
 simp (maxSteps := 4000000) (disch := omega) only [rq, simprocAttr, J7]
 refine hY _ _ _ [_, _, _] _ m2 (32 :: wB1) _ [x.b] _ (.inr rfl) (.inr ⟨2, rfl, rfl⟩) (one (by omega)) (by simp [wB1]; omega) ?_
 rw [← e3]
 simp (maxSteps := 4000000) (disch := omega) only [rq, simprocAttr, J7]
 refine hY _ _ _ [_, _, _, _] _ m3 (32 :: wR1) _ [x.r] _ (.inr rfl) (.inr ⟨3, rfl, rfl⟩) (one (by omega)) (by simp [wR1]; omega) ?_
 rw [← e4]
 simp (maxSteps := 4000000) (disch := omega) only [rq, simprocAttr, J7]
 refine hY _ _ _ [_, _, _, _, _] _ m4 (32 :: wN1) _ [x.n] _ (.inr rfl) (.inr ⟨4, rfl, rfl⟩) (one (by omega)) (by simp [wN1]; omega) ?_
 rw [← e5]
 simp (maxSteps := 4000000) (disch := omega) only [rq, simprocAttr, J7]
 refine hY _ _ _ [_, _, _, _, _, _] _ m5 (10 :: wF2) _ [x.m] _ (.inr rfl) (.inr ⟨5, rfl, rfl⟩) (one (by omega)) (by simp [wF2]; omega) ?_
 rw [← e6]
 simp (maxSteps := 4000000) (disch := omega) only [rq, simprocAttr, J7]
 refine hY _ _ _ [_, _, _, _, _, _] _ m6 [58] _ x.l _ (.inr rfl) (.inl rfl) lbig (by simp; omega) ?_
 rw [← e7]
 simp (maxSteps := 4000000) (disch := omega) only [rq, simprocAttr, J7]
 refine hY _ _ _ [_, _, _, _, _, _, _] _ m7 (10 :: wF3) _ [x.e, x.p, x.q, x.g] _ (.inr rfl) (.inr ⟨6, rfl, rfl⟩) four (by simp [wF3]; omega) ?_
 rw [← e8]
 simp (maxSteps := 4000000) (disch := omega) only [rq, simprocAttr, J7]
 refine hW _ _ _ [_, _, _, _, _, _, _] _ m8 [10] _ (.inr rfl) (by simp; omega) ?_
 simp (maxSteps := 4000000) (disch := omega) only [rq, simprocAttr, J7]
 refine hS _ 3 4 (.ref 3 1 0) (m8 ++ [10]) _ (by simp) (by simp) (by simp) ?_
 simp (maxSteps := 4000000) (disch := omega) only [rq, simprocAttr, J7]
 simp [ZO, Q5, frzL, QQ]
def Qiu (P : Prg) (f : Nat) : Prop := ∀ a b : List Int, a.length ≤ 1000000 → b.length ≤ 1000000 → VC P f [Q1 a, Q1 b] (.bool (decide (a = b)))
theorem QiQ {l : List Int} {i : Nat} (h : i < l.length) : (ks .i64 l).drop i = .int .i64 l[i] :: (ks .i64 l).drop (i + 1) := by
 have h1 := QkO (K := .i64) (l := l) (i := i) h
 rw [← QbY] at h1
 simpa [qh, h] using h1
theorem QhN {P : Prg} {f : Nat} (bd : Body P f 26 [.tmp 4] Qt) : Qiu P f := by
 intro a b ha hb
 refine Xv (by simp [isDL, Jg]) rfl bd ?_
 by_cases h0 : a.length = b.length
 case neg =>
  have e : decide (a = b) = false := decide_eq_false fun h => h0 (by rw [h])
  have h1 : ¬ (a.length : Int) = b.length := by omega
  rw [e]
  by_cases h2 : a.length < b.length
  ·simp (maxSteps := 4000000) (disch := omega) only [rq, simprocAttr, Qt, Q1]
  ·simp (maxSteps := 4000000) (disch := omega) only [rq, simprocAttr, Qt, Q1]
 simp (maxSteps := 4000000) (disch := omega) only [rq, simprocAttr, Qt, Q1]
 refine ZV (ι := Nat) (fun i => ⟨[(5, .int .i64 i), (0, .list a.length (ks .i64 a)), (1, .list b.length (ks .i64 b))], []⟩) (fun i => i ≤ a.length ∧ a.take i = b.take i) (fun i => a.length - i) 0
  (QH) ⟨ye _, by simp⟩ ?_
 intro i ⟨hi, ht⟩
 by_cases hi2 : i < a.length
 ·have la := QiQ hi2
  have lb := QiQ (l := b) (i := i) (by omega)
  have ea : a.take (i + 1) = a.take i ++ [a[i]] := qU hi2
  have eb : b.take (i + 1) = b.take i ++ [b[i]'(by omega)] := qU (by omega)
  by_cases h1 : a[i] = b[i]'(by omega)
  ·have ht1 : a.take (i + 1) = b.take (i + 1) := by rw [ea, eb, ht, h1]
   generalize a[i] = u at *
   generalize b[i]'(by omega) = v at *
   subst h1
   simp (maxSteps := 4000000) (disch := omega) only [rq, simprocAttr, la, lb, QU]
   exact ⟨i + 1, ⟨by omega, ht1⟩, by omega, QH⟩
  ·have e : decide (a = b) = false := decide_eq_false fun h => h1 (by subst h; rfl)
   rw [e]
   generalize a[i] = u at *
   generalize b[i]'(by omega) = v at *
   rcases Int.lt_or_gt_of_ne h1 with h2 | h2
   ·simp (maxSteps := 4000000) (disch := omega) only [rq, simprocAttr, la, lb, QU]
   ·simp (maxSteps := 4000000) (disch := omega) only [rq, simprocAttr, la, lb, QU]
 ·obtain rfl : i = a.length := by omega
  rw [yw, h0, yw] at ht
  have e : decide (a = b) = true := decide_eq_true ht
  rw [e]
  simp (maxSteps := 4000000) (disch := omega) only [rq, simprocAttr]
def Qml (x : Rp) : AV := .agg [.int .i64 x.f, .int .i64 x.c, .int .i64 x.b, .int .i64 x.r, .int .i64 x.n, .int .i64 x.m, Q1 x.l]
def Qo6 (x y : Rp) : Bool := decide (x.f = y.f ∧ x.c = y.c ∧ x.b = y.b ∧ x.r = y.r ∧ x.n = y.n)
def Qor (x y : Rp) : Bool := Qo6 x y && (decide (x.m = y.m) && decide (x.l = y.l))
def QoA (x y : Rp) : Bool := decide (x.e = y.e ∧ x.p = y.p ∧ x.q = y.q ∧ x.g = y.g)
theorem Qou (x y : Rp) : (decide (x.f = y.f) && (decide (x.c = y.c) && (decide (x.b = y.b) && (decide (x.r = y.r) && decide (x.n = y.n))))) = Qo6 x y := by
 unfold Qo6
 simp only [Bool.decide_and]
theorem Qoz (x y : Rp) : (decide (x.e = y.e) && (decide (x.p = y.p) && (decide (x.q = y.q) && decide (x.g = y.g)))) = QoA x y := by
 unfold QoA
 simp only [Bool.decide_and]
def QfR (P : Prg) (f : Nat) : Prop := ∀ x y : Rp, x.l.length ≤ 1000000 → y.l.length ≤ 1000000 → VC P f [Qml x, Qml y] (.bool (Qor x y))
theorem Qjl {P : Prg} {f fI t0 : Nat} (bd : Body P f 24 [.tmp 4] (Qu fI t0)) (hI : Qiu P fI) : QfR P f := by
 intro x y hx hy
 refine Xv (by simp [isDL, Qml, isD, Jg]) rfl bd ?_
 have hI' := hI x.l y.l hx hy
 rw [Q1, Q1] at hI'
 have hb := Qou x y
 unfold Qor
 rcases h1 : Qo6 x y with _ | _
 ·rw [h1] at hb
  simp (maxSteps := 4000000) (disch := omega) only [rq, simprocAttr, Qu, Qml, Q1, Qk6, hb]
 ·rw [h1] at hb
  by_cases h2 : x.m = y.m
  ·rw [decide_eq_true h2]
   simp (maxSteps := 4000000) (disch := omega) only [rq, simprocAttr, Qu, Qml, Q1, Qk6, hb]
   refine Qa hI' ?_
   simp (maxSteps := 4000000) (disch := omega) only [rq, simprocAttr]
  ·rw [decide_eq_false h2]
   rcases Int.lt_or_gt_of_ne h2 with h3 | h3
   ·simp (maxSteps := 4000000) (disch := omega) only [rq, simprocAttr, Qu, Qml, Q1, Qk6, hb]
   ·simp (maxSteps := 4000000) (disch := omega) only [rq, simprocAttr, Qu, Qml, Q1, Qk6, hb]
def QcV (P : Prg) (f : Nat) : Prop := ∀ x y : Rp, x.l.length ≤ 1000000 → y.l.length ≤ 1000000 → VC P f [x.av, y.av] (.bool (Qor x y && QoA x y))
theorem Qjk {P : Prg} {f fI t0 : Nat} (bd : Body P f 17 [.tmp 4] (QS fI t0)) (hI : QfR P fI) : QcV P f := by
 intro x y hx hy
 refine Xv (by simp [isDL, Qdl]) rfl bd ?_
 have hI' := hI x y hx hy
 rw [Qml, Qml, Q1, Q1] at hI'
 have hb := Qoz x y
 rcases h1 : Qor x y with _ | _
 ·rw [h1] at hI'
  simp (maxSteps := 4000000) (disch := omega) only [rq, simprocAttr, QS, Rp.av, Q1]
  refine Qa hI' ?_
  simp (maxSteps := 4000000) (disch := omega) only [rq, simprocAttr]
 ·rw [h1] at hI'
  simp (maxSteps := 4000000) (disch := omega) only [rq, simprocAttr, QS, Rp.av, Q1]
  refine Qa hI' ?_
  rcases h2 : QoA x y with _ | _
  ·rw [h2] at hb
   simp (maxSteps := 4000000) (disch := omega) only [rq, simprocAttr, Qk6, hb]
  ·rw [h2] at hb
   simp (maxSteps := 4000000) (disch := omega) only [rq, simprocAttr, Qk6, hb]
theorem QaM {α : Type} (f : α → AV) : ∀ l : List α, (l.map fun x => [f x]).flatten = l.map f
 | [] => rfl
 | x :: l => by simp [QaM f l]
theorem Qo7 {L : List (List AV)} (h : ∀ c ∈ L, Qn5 (.int .u8) c) : ∃ l : List UInt8, L.length = l.length ∧ AV.list L.length L.flatten = bs l := by
 obtain ⟨l, rfl, _⟩ := QbX (f := fun b : UInt8 => [AV.int .u8 b.toNat]) (q := fun _ => True) h (fun c hc => by
  simp only [Qn5] at hc
  obtain ⟨n, rfl, h1, h2⟩ := hc
  simp only [IntKind.min, IntKind.max, IntKind.signed, IntKind.bits] at h1 h2
  refine ⟨UInt8.ofNat n.toNat, ?_, trivial⟩
  simp at h1 h2
  simp; omega)
 exact ⟨l, by simp, by simp [bs, u8, QaM]⟩
theorem Qox {K : IntKind} {L : List (List AV)} (h : ∀ c ∈ L, Qn5 (.int K) c) : ∃ l : List Int, L.length = l.length ∧ AV.list L.length L.flatten = .list l.length (ks K l) ∧ ∀ x ∈ l, K.min ≤ x ∧ x ≤ K.max := by
 obtain ⟨l, rfl, h2⟩ := QbX (f := fun n : Int => [AV.int K n]) (q := fun x => K.min ≤ x ∧ x ≤ K.max) h (fun c hc => by
  simp only [Qn5] at hc
  obtain ⟨n, rfl, h1, h2⟩ := hc
  exact ⟨n, rfl, h1, h2⟩)
 exact ⟨l, by simp, by simp [ks, QaM], h2⟩
def Qos (P : Program) (t : TypeId) : Bool := match P.underlying t with | some (.struct _) => true | _ => false
def Qot (P : Program) (t : TypeId) : Bool := match P.underlying t with | some (.array _ _) => true | _ => false
def QpN (P : Program) (t : TypeId) : Bool := match P.underlying t with | some (.slice _) => true | _ => false
theorem Qo3 {P : Program} {t : TypeId} (h : Qos P t = true) : ∃ fs, P.underlying t = some (.struct fs) := by
 unfold Qos at h; split at h
 ·exact ⟨_, by assumption⟩
 ·cases h
theorem Qo4 {P : Program} {t : TypeId} (h : Qot P t = true) : ∃ n e, P.underlying t = some (.array n e) := by
 unfold Qot at h; split at h
 ·exact ⟨_, _, by assumption⟩
 ·cases h
theorem Qpu {P : Program} {t : TypeId} (h : QpN P t = true) : ∃ e, P.underlying t = some (.slice e) := by
 unfold QpN at h; split at h
 ·exact ⟨_, by assumption⟩
 ·cases h
theorem Qgk (c : UInt8) : ∀ s, (pcs c s).length = s.count c + 1
 | [] => rfl
 | b :: l => by
  have ih := Qgk c l
  unfold pcs
  split
  ·rename_i e
   subst e
   simp [ih]
  ·rename_i e
   have ec : (b :: l).count c = l.count c := by simp [List.count_cons, e]
   rw [ec, ← ih]
   split
   ·rename_i h; exact absurd h (Qen c l)
   ·rename_i h; rw [h]; rfl
theorem Qof {s : List UInt8} {x : Rp} (h : rdO s = some x) : ∃ a b d, pcs 10 s = [a, b, d, []] := by
 unfold rdO at h
 split at h
 case isFalse => cases h
 rename_i hy
 unfold rdQ at hy
 split at hy
 ·rename_i a b d h10; exact ⟨a, b, d, h10⟩
 ·cases hy
theorem Qj8 {x : Rp} (h : QiE x) : (txt x).count 10 = 3 ∧ 0 < (txt x).length ∧ (txt x).getLast? = some 10 := by
 obtain ⟨a, b, d, hp⟩ := Qof (Qj7 h)
 have hc := Qgk 10 (txt x)
 rw [hp] at hc
 have hj := J0 10 (txt x)
 rw [hp] at hj
 refine ⟨by simpa using hc.symm, ?_, ?_⟩
 ·rw [← hj]; simp only [ZA, qn, qp]; omega
 ·rw [← hj]
  simp [ZA, List.getLast?_append, List.getLast?_cons]
end Go.Am
