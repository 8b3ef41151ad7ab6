/- What the functions that the law reaches return, for every program that has their code; the conditions stand in each statement. -/
import Derived.Lib.ItoaLen
import Derived.Test.YtpfhdmbamkdnpacGreatDoorLinesOneD1
set_option linter.unusedSectionVars false
set_option linter.unusedSimpArgs false
set_option linter.unusedVariables false
namespace Go.Am
open Go.RowKit
theorem Qls (l : List UInt8) : isTL (u8 l) = true := by
 induction l with
 | nil => rfl
 | cons x l ih => simp [QhX, isTL, isT, ih]
def Qov (b : Int) : Int := if b = 8 then 128 else if b = 16 then 32768 else if b = 24 then 8388608 else 0
def il (l : List Int) : AV := .list l.length (ks .i32 l)
theorem Qct (l : List Int) : isD (il l) = true := by simp [il, isD, XM]
def inR (b x : Int) : Bool := decide (-Qov b ≤ x) && decide (x < Qov b)
def Qpb (b : Int) (l : List Int) : Int := if Qov b = 0 then 2 else if 4000 < l.length then 4 else if l.all (inR b) then 0 else 16
def Qw (r : Int) : Int := if 256 * r / 245 < 1 then 1 else 256 * r / 245
theorem Xt (r : Int) : 1 ≤ Qw r := by unfold Qw; split <;> omega
theorem Qjh {r : Int} (h : r ≤ 1048576) : Qw r ≤ 1095654 := by unfold Qw; split <;> omega
def Qdu (r : Int) : AV := if r < 1 ∨ 1048576 < r then .tup [.int .i64 0, .int .i64 2] else .tup [.int .i64 (Qw r), .int .i64 0]
def Qc9 (P : Prg) (f : Nat) : Prop := ∀ r : Int, VC P f [.int .i64 r] (Qdu r)
theorem QmT (r : Int) : isD (Qdu r) = true := by unfold Qdu; split <;> rfl
theorem QgS {P : Prg} {f : Nat} (b : Body P f 14 [.tmp 2, .tmp 3] Q4) : Qc9 P f := by
 intro r
 refine ZR rfl (QmT r) b ?_
 by_cases h1 : r < 1
 ·simp (disch := omega) only [rq, simprocAttr, Q4, Qdu, true_or]
 by_cases h2 : 1048576 < r
 ·simp (disch := omega) only [rq, simprocAttr, Q4, Qdu, or_true]
 have h3 : 1 ≤ 256 * r / 245 := by omega
 simp (disch := omega) only [rq, simprocAttr, Q4, Qdu, or_self, Qw]
 rw [show (if (1 : Int) < 256 * r / 245 then 256 * r / 245 else 1) = 256 * r / 245 by split <;> omega]
def Qhe (c b : Int) : Int := if Qov b = 0 ∨ c < 1 ∨ 6 < c then 2 else 0
def shA (c b : Int) : AV := .agg [.int .i64 c, .int .i64 b]
def bss (l : List (List UInt8)) : AV := .list l.length (l.map bs)
theorem Qjl : ∀ l : List (List UInt8), isDL (l.map bs) = true
 | [] => rfl
 | x :: l => by simp [isDL, Qaq, Qjl l]
theorem Qn3 (l : List (List UInt8)) : isD (bss l) = true := by simp [bss, isD, Qjl]
theorem Qft : ∀ l : List (List UInt8), isTL (l.map bs) = true
 | [] => rfl
 | x :: l => by
  have : isT (bs x) = true := by simp [bs, isT]; induction x with | nil => rfl | cons y x ih => simp [QhX, isTL, isT, ih]
  simp [isTL, this, Qft l]
def w32 (x : Int) : Int := IntKind.i32.wrap x
structure Qgg where
 sh : Int
 tp : List Int
 ps : List Int
def Qqc (a b : List Int) : Nat → Int
 | 0 => 0
 | k + 1 => Qqc a b k + a.getD k 0 * b.getD k 0
def QoI (s : Int) : Int := if s = 9 then 512 else 1024
def QoZ (f : Qgg) : Int := w32 (QoI f.sh / 2 + Qqc f.tp f.ps 16) / QoI f.sh
def QpE (i : Nat) : Int := if i = 0 then 4 else if i < 4 then 2 else 1
def sgn (x : Int) : Int := if x < 0 then -1 else if 0 < x then 1 else 0
def Qqg (x : Qgg) (w : Int) (k : Nat) : Int := w32 (x.tp.getD k 0 + QpE k * sgn (x.ps.getD k 0) * sgn w)
def QoO (x : Qgg) (w : Int) (k : Nat) : List Int := (List.range 16).map fun i => if i < k then Qqg x w i else x.tp.getD i 0
def lf (x : Qgg) (w : Int) (k : Nat) : Qgg := { x with tp := QoO x w k }
def QoP (x : Qgg) (w : Int) : Qgg := lf x w 16
def QpJ (x : Qgg) (v : Int) : Qgg := { x with ps := v :: x.ps.take 15 }
def Qoi (x : Qgg) (v y : Int) : Qgg := QpJ (QoP x y) v
def Qqt (x : Qgg) (v : Int) : Int := w32 (v - QoZ x)
def Qqu (x : Qgg) (v : Int) : Qgg := Qoi x v (Qqt x v)
def Qo1 (b last : Int) : Int := if b = 8 then 15 * last / 16 else 31 * last / 32
structure Qos where
 bits : Int
 last : Int
 fl : Qgg
def Qp2 (c : Qos) (x : Int) : Int := w32 (x - Qo1 c.bits c.last)
def Qp3 (c : Qos) (x : Int) : Qos := ⟨c.bits, x, Qqu c.fl (Qp2 c x)⟩
def QpI (x : Qgg) (k : Nat) : List Int := (List.range 16).map fun j => if k < j then x.ps.getD (j - 1) 0 else x.ps.getD j 0
def pf (x : Qgg) (k : Nat) : Qgg := { x with ps := QpI x k }
theorem Qj0 {K : IntKind} {l : List Int} {i : Nat} (h : i < l.length) : (ks K l).drop i = .int K (l.getD i 0) :: ks K (l.drop (i + 1)) := by
 rw [Qod h]; simp [qh, qd h]
theorem Qhd (c x : Int) : Qhe c x = 2 ∨ (Qhe c x = 0 ∧ Qov x ≠ 0 ∧ 1 ≤ c ∧ c ≤ 6) := by unfold Qhe; split <;> omega
def stC (c : Nat) (L : List Int) (z : Qos) (k : Nat) : Nat → Qos
 | 0 => z
 | n + 1 => Qp3 (stC c L z k n) (L.getD (k + n * c) 0)
def cnt (c k i : Nat) : Nat := if k < i % c then i / c + 1 else i / c
def stA (c : Nat) (L : List Int) (z : Qos) (i : Nat) : Nat → Qos := fun k => if k < c then stC c L z k (cnt c k i) else z
theorem Qb1 (os : List Ob) {xs : List Ob} {fr fr' : List (Nat × AV)} (h : ∀ o ∈ os, isTL o.cs = true)
  (hfr : ∀ p ∈ fr', p.2 = .any ∨ Zf (fun o => decide (o < os.length)) (fun o => decide (os.length ≤ o)) (os ++ xs) 2 [look fr p.1] = some [p.2]) : Le 0 ⟨fr, os ++ xs⟩ ⟨fr', os⟩ := by
 refine Le.drop os.length 2 (by omega) rfl hfr ?_
 intro i y hy
 have hi : i < os.length := by
  rcases yP i os.length with h | h
  ·exact h
  ·rw [qO h] at hy; cases hy
 refine ⟨y.cs, by rw [qj hi]; exact hy, ?_⟩
 simp only [Zf]
 exact frzL_T _ (h y (qK hy))
theorem Qnj (K : IntKind) : ∀ n : Nat, Qp [.int K 0] n = ks K (List.replicate n 0)
 | 0 => rfl
 | n + 1 => by rw [Qp, Qnj K n]; simp [ks, List.replicate_succ]
def Qhf (r n : Int) : AV := if r < 1 ∨ 1048576 < r then .tup [.int .i64 0, .int .i64 2] else if n < 1 ∨ 4000 < n then .tup [.int .i64 0, .int .i64 2] else if 1000 < (n + Qw r - 1) / Qw r then .tup [.int .i64 0, .int .i64 4] else .tup [.int .i64 ((n + Qw r - 1) / Qw r), .int .i64 0]
theorem Qn2 (r n : Int) : isD (Qhf r n) = true := by unfold Qhf; split <;> (try split) <;> (try split) <;> rfl
def Qb0 (P : Prg) (f : Nat) : Prop := ∀ r n : Int, VC P f [.int .i64 r, .int .i64 n] (Qhf r n)
theorem Qfp {P : Prg} {f fL : Nat} (b : Body P f 32 [.tmp 4, .tmp 5] (ZC fL)) (hL : Qc9 P fL) : Qb0 P f := by
 intro r n
 refine ZR rfl (Qn2 _ _) b ?_
 have hL' := hL r
 simp (disch := omega) only [rq, simprocAttr, ZC]
 refine Qa hL' ?_
 by_cases h1 : r < 1 ∨ 1048576 < r
 ·have e1 : Qdu r = .tup [.int .i64 0, .int .i64 2] := by rw [Qdu, qE h1]
  have e2 : Qhf r n = .tup [.int .i64 0, .int .i64 2] := by rw [Qhf, qE h1]
  simp (disch := omega) only [rq, simprocAttr, e1, e2]
 have e1 : Qdu r = .tup [.int .i64 (Qw r), .int .i64 0] := by rw [Qdu, qz h1]
 have p1 := Xt r
 have p2 := Qjh (r := r) (by omega)
 by_cases h2 : n < 1
 ·have e2 : Qhf r n = .tup [.int .i64 0, .int .i64 2] := by rw [Qhf, qz h1, qE (.inl h2)]
  simp (disch := omega) only [rq, simprocAttr, e1, e2]
 by_cases h3 : 4000 < n
 ·have e2 : Qhf r n = .tup [.int .i64 0, .int .i64 2] := by rw [Qhf, qz h1, qE (.inr h3)]
  simp (disch := omega) only [rq, simprocAttr, e1, e2]
 have e2 : Qhf r n = if 1000 < (n + Qw r - 1) / Qw r then .tup [.int .i64 0, .int .i64 4] else .tup [.int .i64 ((n + Qw r - 1) / Qw r), .int .i64 0] := by
  rw [Qhf, qz h1, qz (by omega)]
 generalize Qw r = L at *
 have q0 : (n + L - 1).tdiv L = (n + L - 1) / L := yh (by omega)
 have q1 : 0 ≤ (n + L - 1) / L := jg (by omega) (by omega)
 have q2 : (n + L - 1) / L ≤ n + L - 1 := yX _ (by omega)
 generalize hq : (n + L - 1) / L = Q at *
 by_cases h4 : 1000 < Q
 ·rw [qE h4] at e2
  simp (disch := omega) only [rq, simprocAttr, e1, q0, hq, e2]
 ·rw [qz h4] at e2
  simp (disch := omega) only [rq, simprocAttr, e1, q0, hq, e2]
def QbX (P : Prg) (f : Nat) : Prop := ∀ (c x r : Int) (l : List Int), VC P f [.agg [.int .i64 c, .int .i64 x, .int .i64 r, il l]] (shA c x)
theorem Qkf {P : Prg} {f t0 t1 : Nat} (b : Body P f 8 [.cell 2 t1] (Xl t0 t1)) (ht : Xp P t1 = some (some 2)) : QbX P f := by
 intro c x r l
 refine ZR (by simp [isDL, isD, Qct]) rfl b ?_
 simp (disch := omega) only [rq, simprocAttr, Xl, il, Z8, ht, shA]
def Qke (r n : Int) : Int := if r < 1 ∨ 1048576 < r then 2 else if n < 1 ∨ 4000 < n then 2 else if 1000 < (n + Qw r - 1) / Qw r then 4 else 0
theorem Qm7 (r n : Int) : ∃ k : Int, Qhf r n = .tup [.int .i64 k, .int .i64 (Qke r n)] := by
 unfold Qhf Qke
 split
 ·exact ⟨_, rfl⟩
 split
 ·exact ⟨_, rfl⟩
 split
 ·exact ⟨_, rfl⟩
 ·exact ⟨_, rfl⟩
def Qn5 (c x r n : Int) : Int := if Qhe c x ≠ 0 then 8 else if n < 1 then 8 else if 4000 / c < n then 8 else if Qke r n ≠ 0 then 8 else 0
def Qm9 (c x r : Int) (l : List Int) : Int := if c < 1 then 8 else if (l.length : Int) % c ≠ 0 then 8 else if Qn5 c x r (l.length / c) ≠ 0 then 8 else if Qpb x l ≠ 0 then 8 else 0
def QJ (L n : Nat) : List Int := List.replicate ((n - 1) / L) (L : Int) ++ [(n : Int) - ((n - 1) / L * L : Nat)]
theorem Z5 (L n : Nat) : (QJ L n).length = (n - 1) / L + 1 := by simp [QJ]
theorem QmF (k : Nat) (a : Int) : List.replicate k a ++ [a] = List.replicate (k + 1) a := by rw [List.replicate_succ']
def QL (l : List Int) : AV := .list l.length (ks .i64 l)
theorem Xh (l : List Int) : isD (QL l) = true := by simp [QL, isD, XM]
def clA (c x r : Int) (l : List Int) : AV := .agg [.int .i64 c, .int .i64 x, .int .i64 r, il l]
def leB (n : Nat) : Nat → List UInt8
 | 0 => []
 | k + 1 => UInt8.ofNat (n % 256) :: leB (n / 256) k
def QoD (c b r : Int) : Prop := 1 ≤ c ∧ c ≤ 6 ∧ Qov b ≠ 0 ∧ 1 ≤ r ∧ r ≤ 1048576
instance (c b r : Int) : Decidable (QoD c b r) := by unfold QoD; exact inferInstance
def Qf7 (P : Prg) (f : Nat) : Prop := ∀ a b : List UInt8, VC P f [bs a, bs b] (.bool (a == b))
theorem QiE {P : Prg} {f : Nat} (bd : Body P f 10 [.tmp 4] XP) : Qf7 P f := by
 intro a b
 refine ZR (by simp [isDL, Qaq]) rfl bd ?_
 simp (disch := omega) only [rq, simprocAttr, XP, bs, Qgy]
theorem Qqk {K : IntKind} {n k : Nat} (hk : k ≤ K.bits) : Qan false K (n : Int) (k : Int) = some (.int K ((n / 2 ^ k : Nat) : Int)) := by
 have h3 : ¬ ((k : Int) < 0) := by omega
 have h5 : min k K.bits = k := by omega
 have h6 : (n : Int).fdiv (2 ^ k) = ((n / 2 ^ k : Nat) : Int) := by
  rw [Int.fdiv_eq_ediv_of_nonneg _ (Int.pow_nonneg (by decide))]
  simp [yY, Int.natCast_pow]
 simp only [Qan, qz h3, ya, yS, qt, h5, h6]
def Qqx (c : Nat) : Nat := (c / 2) ^^^ (if c % 2 = 1 then 3988292384 else 0)
def Qqe : Nat → Nat → Nat
 | 0, c => c
 | k + 1, c => Qqe k (Qqx c)
def Qqz (s b : Nat) : Nat := Qqe 8 (s ^^^ b)
def Qqy (s : Nat) (l : List UInt8) : Nat := l.foldl (fun s b => Qqz s b.toNat) s
def nB (N : Nat) : Nat := (N + 7) / 8
def bO (t o N : Nat) : Ob := ⟨t, 2, 1, [.own o (nB N), .int .i64 N], 0⟩
def bY (t N V : Nat) : Ob := ⟨t, 1, nB N, u8 (leB V (nB N)), 0⟩
theorem QmU (V n : Nat) : isDL (u8 (leB V n)) = true := Qlv _
theorem Low.put {ob : List Ob} (h : Low ob.length ob) {t t0 o p N V N' : Nat} (ho : o < ob.length) : Low ob.length (Qny ob o p (bY t0 N V) (bO t o N')) := by
 unfold Qny
 refine (h.set ?_).set ?_
 ·exact lowL_D _ (QmU _ _)
 ·simp [bO, lowL, Qad, ho]
theorem Low.drop {ob : List Ob} (h : Low ob.length ob) {t t0 o p N V : Nat} (ho : o < ob.length) {M : Nat} (hM : M ≤ ob.length) {J : List Ob} {fr fr' : List (Nat × AV)}
  (hfr : ∀ q ∈ fr', q.2 = .any ∨ (q.2 = Am.look fr q.1 ∧ Qad ob.length q.2 = true)) :
  Le M ⟨fr, Qny ob o p (bY t0 N V) (bO t o N) ++ J⟩ ⟨fr', Qny ob o p (bY t0 N V) (bO t o N)⟩ := by
 have hl : (Qny ob o p (bY t0 N V) (bO t o N)).length = ob.length := Qms
 refine Le.low (by omega) (by rw [hl]; exact h.put ho) ?_
 rw [hl]
 exact hfr
def N32 (v : List Nat) : Prop := ∀ x ∈ v, x < 4294967296
def Qqj (p : List UInt8) : Nat := 4294967295 - Qqy 4294967295 p
theorem N32.take {v : List Nat} (h : N32 v) (i : Nat) : N32 (v.take i) := fun x hx => h x (qG hx)
theorem N32.getD {v : List Nat} (h : N32 v) (i : Nat) : v.getD i 0 < 4294967296 := by
 rw [qh]
 cases hx : v[i]? with
 | none => simp
 | some x => exact h x (qK hx)
def QpH (p : List UInt8) : List UInt8 := p ++ leB (Qqj p) 4
def QhO (t : Nat) (P : Prg) (f : Nat) : Prop := ∀ (ob : List Ob) (n : Nat) (z : Bool) (K : AV → List Ob → Prop), 0 < n → n ≤ 140737488355328 → K (.own ob.length 0) (ob ++ [⟨t, 1, 0, [], 0⟩]) → ACall P f [.emp z, .int .i64 n] ob K
theorem grow_nil {P : Prg} {f t : Nat} {ρ : Go.Shelf.Ren} (L : Go.Proofs.Lays8.n4 P.prog ρ) (hf : ρ.f 4 = f) (ht : ρ.t 25 = t) (h25 : (P.prog.info? t).map (fun i => (i.zero, i.size, i.bytes)) = some (some (.int .u8 0), 1, 1)) : QhO t P f := by
 intro ob n z K h1 h2 hK
 subst hf; subst ht
 exact ACall.grow_nil L h25 h1 h2 hK
def emL : List AV → List AV
 | [] => []
 | .emp _ :: l => .list 0 [] :: emL l
 | a :: l => a :: emL l
theorem QjC {X : Cx} : ∀ (l : List AV) (vs : List Value), RepL X l vs → RepL X (emL l) vs
 | [], _, h => h
 | a :: l, vs, h => by
  simp only [RepL] at h
  obtain ⟨v, rest, e, g1, g2⟩ := h
  have h2 := QjC l rest g2
  cases a with
  | emp z =>
   simp only [emL, RepL]
   refine ⟨v, rest, e, ?_, h2⟩
   simp only [Rep] at g1 ⊢
   obtain ⟨a, e, _⟩ := g1
   exact ⟨a, 0, [], e, qg _, .inl rfl, by simp [RepL]⟩
  | _ => simp only [emL, RepL]; exact ⟨v, rest, e, g1, h2⟩
theorem VC.emp {P : Prg} {f : FuncId} (avs : List AV) {r : AV} (h : VC P f (emL avs) r) (hd : isDL avs = true) : VC P f avs r :=
 ⟨h.1, hd, h.2.2.1, fun w C vs hC hG hr => h.2.2.2 w C vs hC hG (QjC _ _ hr)⟩
def nl (l : List Int) : AV := .list l.length (ks .i64 l)
theorem Qlu (l : List Int) : isD (nl l) = true := by simp [nl, isD, XM]
def nls (L : List (List Int)) : AV := .list L.length (L.map nl)
theorem Qjk : ∀ L : List (List Int), isDL (L.map nl) = true
 | [] => rfl
 | l :: L => by simp [isDL, Qlu, Qjk L]
def Qd0 (t : Nat) (P : Prg) (f : Nat) : Prop := ∀ L : List (List Int), L.length ≤ 1000000 → 0 < L.flatten.length → L.flatten.length ≤ 1000000 → VO P f [nls L] (.own 0 L.flatten.length) ⟨t, 1, L.flatten.length, ks .i64 L.flatten, 0⟩
theorem grow_nilI {P : Prg} {f t : Nat} {ρ : Go.Shelf.Ren} (L : Go.Proofs.Lays8.n4 P.prog ρ) (hf : ρ.f 4 = f) (ht : ρ.t 25 = t) (h25 : (P.prog.info? t).map (fun i => (i.zero, i.size, i.bytes)) = some (some (.int .i64 0), 1, 8)) : ∀ (ob : List Ob) (n : Nat) (z : Bool) (K : AV → List Ob → Prop), 0 < n → n ≤ 1000000 → K (.own ob.length 0) (ob ++ [⟨t, 1, 0, [], 0⟩]) → ACall P f [.emp z, .int .i64 n] ob K := by
 intro ob n z K h1 h2 hK
 subst hf; subst ht
 exact ACall.grow_nilI (by omega) L h25 h1 (by omega) hK
def QeU (t : Nat) (P : Prg) (f : Nat) : Prop := ∀ (ob : List Ob) (n : Nat) (z : Bool) (K : AV → List Ob → Prop), 0 < n → n ≤ 1000000 → K (.own ob.length 0) (ob ++ [⟨t, 1, 0, [], 0⟩]) → ACall P f [.emp z, .int .i64 n] ob K
theorem QeI {L : List (List Int)} {k : Nat} (h : k < L.length) : (L.take (k + 1)).flatten = (L.take k).flatten ++ L.getD k [] := by
 rw [qy h, List.flatten_append, qh, qd h]
 simp
theorem Qjo (L : List (List Int)) (k : Nat) : (L.take k).flatten.length ≤ L.flatten.length := by
 conv => rhs; rw [← yr k L, List.flatten_append, qm]
 omega
theorem Qea {P : Prg} {f fG t0 : Nat} (bd : Body P f 36 [.tmp 2] (QI fG t0)) (hG : QeU t0 P fG) : Qd0 t0 P f := by
 intro L hL h0 h1
 refine VO.of_walk (by simp [isDL, isD, nls, Qjk]) (XM _ _) (by simp [okr]) (Ql bd (by simp) ?_)
 have hat : ∀ k, k < L.length → (L.map nl).drop k = nl (L.getD k []) :: (L.map nl).drop (k + 1) := fun k hk => by
  rw [yp (by simpa using hk)]
  simp [qh, qd hk]
 have hml : (L.map nl).length = L.length := by simp
 simp only [nl] at hat
 simp (disch := omega) only [rq, simprocAttr, QI, nls]
 refine Zq (ι := Nat) (fun k => ⟨[(11, .int .i64 k), (10, .int .i64 L.length), (9, .list L.length (L.map nl)), (3, .int .i64 (L.take k).flatten.length), (0, .list L.length (L.map nl))], []⟩) (fun k => k ≤ L.length) (fun k => L.length - k) 0 (QA) (by omega) ?_
 intro k hk
 by_cases hlt : k < L.length
 ·have ha := hat k hlt
  have hf := QeI hlt
  have hle := Qjo L (k + 1)
  rw [hf, qm] at hle
  have hl : ((L.take (k + 1)).flatten.length : Int) = (L.take k).flatten.length + (L.getD k []).length := by rw [hf]; simp
  generalize (L.take k).flatten.length = s at *
  generalize L.getD k [] = x at *
  simp (disch := omega) only [rq, simprocAttr, ha, hml]
  exact ⟨k + 1, by omega, by omega, by simp only [hl]; exact QA⟩
 obtain rfl : k = L.length := by omega
 rw [yn]
 have hG' := fun K hK => hG [] L.flatten.length true K h0 h1 hK
 simp (disch := omega) only [rq, simprocAttr]
 refine hG' _ ?_
 simp (disch := omega) only [rq, simprocAttr]
 refine Zq (ι := Nat) (fun k => ⟨[(27, .int .i64 k), (26, .int .i64 L.length), (25, .list L.length (L.map nl)), (6, .own 0 (L.take k).flatten.length)], [⟨t0, 1, (L.take k).flatten.length, ks .i64 (L.take k).flatten, 0⟩]⟩) (fun k => k ≤ L.length) (fun k => L.length - k) 0 (Jw (by simp [Am.look, ks])) (by omega) ?_
 intro k hk
 by_cases hlt : k < L.length
 ·have ha := hat k hlt
  have hf := QeI hlt
  have hle := Qjo L (k + 1)
  rw [hf, qm] at hle
  have hl : (L.take (k + 1)).flatten.length = (L.take k).flatten.length + (L.getD k []).length := by rw [hf]; simp
  have hu : ks .i64 (L.take (k + 1)).flatten = ks .i64 (L.take k).flatten ++ ks .i64 (L.getD k []) := by rw [hf]; simp [ks]
  have hc : (ks .i64 (L.take k).flatten).length = (L.take k).flatten.length := QD _ _
  have hx : (ks .i64 (L.getD k [])).length = (L.getD k []).length := QD _ _
  generalize ks .i64 (L.take k).flatten = cs at *
  generalize (L.take k).flatten.length = s at *
  generalize ks .i64 (L.getD k []) = us at *
  generalize (L.getD k []).length = xl at *
  simp (disch := omega) only [rq, simprocAttr, ha, hml, hc, hx]
  exact ⟨k + 1, by omega, by omega, by rw [hl, hu]; exact QA⟩
 obtain rfl : k = L.length := by omega
 rw [yn]
 simp (disch := omega) only [rq, simprocAttr]
 exact ⟨0, rfl, rfl⟩
def Qkx (P : Prg) (f : Nat) : Prop := ∀ x y : Nat, x ≤ 65535 → y ≤ 65535 → VC P f [.int .u64 x, .int .u64 y] (.tup [.int .u64 0, .int .u64 ((x * y : Nat) : Int)])
theorem QjV {P : Prg} {f : Nat} (bd : Body P f 51 [.tmp 4, .tmp 5] Zh) : Qkx P f := by
 intro x y hx hy
 refine ZR rfl rfl bd ?_
 have hxy : x * y ≤ 65535 * 65535 := Nat.mul_le_mul hx hy
 have hm : (x : Int) * (y : Int) = ((x * y : Nat) : Int) := by simp
 have an : ∀ a : Nat, a ≤ 4294967295 → IntKind.u64.wrap (BitVec.ofInt IntKind.u64.bits (a : Int) &&& BitVec.ofInt IntKind.u64.bits 4294967295).toNat = (a : Int) := by
  intro a ha
  have := Qol a 4294967295 (by omega) (by decide)
  rw [show (4294967295 : Nat) = 2 ^ 32 - 1 from rfl, Nat.and_two_pow_sub_one_eq_mod, Nat.mod_eq_of_lt (by omega)] at this
  exact this
 have sh : ∀ a : Nat, a ≤ 4294967295 → Qan false .u64 (a : Int) 32 = some (.int .u64 0) := by
  intro a ha
  have := Qqk (K := .u64) (n := a) (k := 32) (by decide)
  rw [Nat.div_eq_of_lt (by omega)] at this
  exact this
 have a1 := an x (by omega)
 have a2 := an y (by omega)
 have a3 : IntKind.u64.wrap (BitVec.ofInt IntKind.u64.bits 0 &&& BitVec.ofInt IntKind.u64.bits 4294967295).toNat = 0 := by decide
 have s1 := sh x (by omega)
 have s2 := sh y (by omega)
 have s3 := sh (x * y) (by omega)
 have s4 : Qan false .u64 0 32 = some (.int .u64 0) := sh 0 (by omega)
 generalize x * y = z at *
 simp (disch := omega) only [rq, simprocAttr, Zh, a1, a2, a3, s1, s2, s3, s4, hm, Int.zero_mul, Int.mul_zero, Int.add_zero, Int.zero_add]
theorem QmN {P : Prg} {f f32 f64 : Nat} (bd : Body P f 30 [.tmp 4, .tmp 5] (ZB f32 f64)) (h64 : Qkx P f64) : Qkx P f := by
 intro x y hx hy
 refine ZR rfl rfl bd ?_
 have h := h64 x y hx hy
 generalize x * y = z at *
 simp (disch := omega) only [rq, simprocAttr, ZB]
 refine Qa h ?_
 simp (disch := omega) only [rq, simprocAttr]
def rpL (v : Int) (m c : Nat) : List Int := List.replicate m v ++ List.replicate (c - m) 0
theorem QoE {v : Int} {m c : Nat} (h : m ≤ c) : (rpL v m c).length = c := by simp [rpL]; omega
def QdZ (t : Nat) (P : Prg) (f : Nat) : Prop := ∀ (v : Int) (c : Nat), c ≤ 1000 → VO P f [nl [v], .int .i64 c] (.own 0 c) ⟨t, 1, c, ks .i64 (List.replicate c v), 0⟩
theorem Qd9 {P : Prg} {f fM t0 : Nat} (bd : Body P f 48 [.tmp 4] (QH fM t0)) (hM : Qkx P fM) : QdZ t0 P f := by
 intro v c hc
 refine VO.of_walk (by simp [isDL, Qlu, isD]) (XM _ _) (by simp [okr]) (Ql bd (by simp) ?_)
 have hM' := hM 1 c (by omega) (by omega)
 rw [yQ] at hM'
 have hM2 : VC P fM [.int .u64 1, .int .u64 c] (.tup [.int .u64 0, .int .u64 c]) := hM'
 have e1 : nl [v] = .list 1 [.int .i64 v] := rfl
 have er : Qp [.int .i64 0] c = ks .i64 (List.replicate c 0) := Qnj .i64 c
 have hl : (ks .i64 (List.replicate c 0)).length = c := by simp [QD]
 rw [e1]
 simp (disch := omega) only [rq, simprocAttr, QH]
 refine Qa hM2 ?_
 by_cases h0 : c = 0
 ·subst h0
  simp (disch := omega) only [rq, simprocAttr, er]
  refine Zq (ι := Nat) (fun _ => ⟨[(8, .int .i64 0), (7, .own 0 0)], [⟨t0, 1, 0, [], 0⟩]⟩) (fun _ => True) (fun _ => 0) 0 (Jw (by simp [Am.look, ks])) trivial ?_
  intro _ _
  simp (disch := omega) only [rq, simprocAttr]
  exact ⟨0, rfl, rfl⟩
 ·have hmn : Nat.min 1 c = 1 := q8 (by omega)
  have hst : (1 : Int) < (c : Int) ∨ c = 1 := by omega
  simp (disch := omega) only [rq, simprocAttr, er, hl, hmn]
  refine Zq (ι := Nat) (fun m => ⟨[(8, .int .i64 m), (7, .own 0 c)], [⟨t0, 1, c, ks .i64 (rpL v m c), 0⟩]⟩) (fun m => 1 ≤ m ∧ m ≤ c) (fun m => c - m) 1 ?_ (by omega) ?_
  ·have : [AV.int .i64 v] ++ (ks .i64 (List.replicate c 0)).drop 1 = ks .i64 (rpL v 1 c) := by simp [rpL, ks]
   rw [← this]
   exact QA
  intro m hm
  obtain ⟨hm1, hm2⟩ := hm
  have hkl : (ks .i64 (rpL v m c)).length = c := by rw [QD, QoE hm2]
  by_cases hlt : m < c
  ·obtain ⟨q, hq⟩ : ∃ q, q = Nat.min m (c - m) := ⟨_, rfl⟩
   have hq1 : q ≤ m := by rw [hq]; exact jf _ _
   have hq2 : q ≤ c - m := by rw [hq]; exact Nat.min_le_right _ _
   have hq3 : 1 ≤ q := by rw [hq]; exact Nat.le_min.2 ⟨hm1, by omega⟩
   have hmc : min m c = m := q8 hm2
   have hal : ((ks .i64 (rpL v m c)).take m).all AV.one = true := by
    rw [qR]
    intro x hx
    exact qR.1 (Qlm .i64 (rpL v m c)) x (qG hx)
   have e1 : (rpL v m c).take m = List.replicate m v := by unfold rpL; rw [List.take_left' (by simp)]
   have e2 : (rpL v m c).drop (m + q) = List.replicate (c - (m + q)) 0 := by
    unfold rpL
    rw [List.drop_append, List.drop_of_length_le (by simp), List.nil_append, List.drop_replicate, yq]
    congr 1
    omega
   have hcs : (ks .i64 (rpL v m c)).take m ++ (((ks .i64 (rpL v m c)).take m).take q ++ (ks .i64 (rpL v m c)).drop (m + q)) = ks .i64 (rpL v (m + q) c) := by
    have k1 : ∀ l n, (ks .i64 l).take n = ks .i64 (l.take n) := fun l n => by simp [ks, List.map_take]
    have k2 : ∀ l n, (ks .i64 l).drop n = ks .i64 (l.drop n) := fun l n => by simp [ks, List.map_drop]
    have k3 : ∀ a b, ks .i64 a ++ ks .i64 b = ks .i64 (a ++ b) := fun a b => by simp [ks]
    rw [k1, e1, k1, k2, e2, List.take_replicate, q8 hq1, k3, k3, ← qM, List.replicate_append_replicate]
    rfl
   have hcs2 : (ks .i64 (rpL v m c)).take m ++ ((ks .i64 (rpL v m c)).take m).take q ++ (ks .i64 (rpL v m c)).drop (m + q) = ks .i64 (rpL v (m + q) c) := by rw [qM]; exact hcs
   simp (disch := omega) only [rq, simprocAttr, hkl, h0, yJ, hmc, hal, ← hq, Nat.mul_one, hcs2, hcs]
   refine ⟨m + q, ⟨by omega, by omega⟩, by omega, ?_⟩
   exact QA
  ·obtain rfl : m = c := by omega
   have : rpL v m m = List.replicate m v := by simp [rpL]
   rw [this]
   simp (disch := omega) only [rq, simprocAttr]
   exact ⟨0, rfl, rfl⟩
def Qmf (t : Nat) (P : Prg) (f : Nat) : Prop := ∀ a b : List Int, 0 < a.length + b.length → a.length + b.length ≤ 1000000 → VO P f [nl a, nl b] (.own 0 (a.length + b.length)) ⟨t, 1, a.length + b.length, ks .i64 (a ++ b), 0⟩
theorem Qeb {P : Prg} {f fC t0 t1 : Nat} (bd : Body P f 9 [.tmp 4] (Zp fC t1)) (hC : Qd0 t0 P fC) : Qmf t0 P f := by
 intro a b h0 h1
 refine VO.of_walk (by simp [isDL, Qlu]) (XM _ _) (by simp [okr]) (Ql bd (by simp) ?_)
 have hC' := hC [a, b] (by simp) (by simpa using h0) (by simpa using h1)
 have e1 : nls [a, b] = .list 2 [nl a, nl b] := rfl
 have e2 : [a, b].flatten = a ++ b := by simp
 rw [e1, e2, qm] at hC'
 have ta := QK .i64 a
 have tb := QK .i64 b
 simp only [nl] at hC' ⊢
 simp (disch := omega) only [rq, simprocAttr, Zp]
 refine Qa0.vo_still 1 [0] hC' (by simp [Z6, Zf, frzL, Q6, frzL_T _ ta, frzL_T _ tb]) ?_
 simp (disch := omega) only [rq, simprocAttr, Qe, shr]
 exact ⟨1, rfl, rfl⟩
def okA (r n : Int) : Prop := 1 ≤ r ∧ r ≤ 1048576 ∧ 1 ≤ n ∧ n ≤ 4000 ∧ (QJ (Qw r).toNat n.toNat).length ≤ 1000
def QjB (t : Nat) (P : Prg) (f : Nat) : Prop := ∀ r n : Int, okA r n → VO P f [.int .i64 r, .int .i64 n] (.tup [.own 0 (QJ (Qw r).toNat n.toNat).length, .int .i64 0]) ⟨t, 1, (QJ (Qw r).toNat n.toNat).length, ks .i64 (QJ (Qw r).toNat n.toNat), 0⟩
theorem Qim {P : Prg} {f fC fL fR fB t0 : Nat} (bd : Body P f 39 [.tmp 4, .tmp 5] (ZZ fC fL fR fB t0)) (hC : Qb0 P fC) (hL : Qc9 P fL) (hR : QdZ t0 P fR) (hB : Qmf t0 P fB) : QjB t0 P f := by
 intro r n ⟨a1, a2, a3, a4, a5⟩
 refine VO.of_walk rfl (XM _ _) (by simp [okr, flat]) (Ql bd (by simp) ?_)
 have hlong : 1 ≤ Qw r := by unfold Qw; split <;> omega
 obtain ⟨L, hLe⟩ : ∃ L : Nat, Qw r = L := ⟨(Qw r).toNat, by omega⟩
 obtain ⟨m, rfl⟩ : ∃ m : Nat, n = m := ⟨n.toNat, by omega⟩
 rw [hLe, qt, qt] at a5 ⊢
 rw [Z5] at a5
 obtain ⟨q, hq⟩ : ∃ q, q = (m - 1) / L := ⟨_, rfl⟩
 have hql : (QJ L m).length = q + 1 := by rw [Z5, hq]
 rw [← hq] at a5
 have hcd : ((m : Int) + (L : Int) - 1) / (L : Int) = ((q + 1 : Nat) : Int) := by
  have h1 : (m : Int) + (L : Int) - 1 = ((m - 1 + L : Nat) : Int) := by omega
  rw [h1, ← yY, jb _ (by omega), ← hq]
 have hk : Qhf r m = .tup [.int .i64 ((q + 1 : Nat) : Int), .int .i64 0] := by
  rw [Qhf, qz (by omega), qz (by omega), hLe, hcd, qz (by omega)]
 have hC' := hC r m
 rw [hk] at hC'
 have hL' := hL r
 rw [Qdu, qz (by omega), hLe] at hL'
 have hR' := hR L q (by omega)
 have hB' := hB (List.replicate q (L : Int)) [(m : Int) - ((q * L : Nat) : Int)] (by simp) (by simp; omega)
 have e1 : List.replicate q (L : Int) ++ [(m : Int) - ((q * L : Nat) : Int)] = QJ L m := by unfold QJ; rw [hq]
 rw [e1] at hB'
 have e2 : (List.replicate q (L : Int)).length + [(m : Int) - ((q * L : Nat) : Int)].length = q + 1 := by simp
 rw [e2] at hB'
 have e3 : nl [(L : Int)] = .list 1 [.int .i64 (L : Int)] := rfl
 have e4 : nl [(m : Int) - ((q * L : Nat) : Int)] = .list 1 [.int .i64 ((m : Int) - ((q * L : Nat) : Int))] := rfl
 rw [e3] at hR'
 rw [e4] at hB'
 have tr := QK .i64 (List.replicate q (L : Int))
 have hqL : (q : Int) * (L : Int) = ((q * L : Nat) : Int) := by simp
 have hle : q * L ≤ m := by
  have := Nat.div_mul_le_self (m - 1) L
  rw [← hq] at this
  omega
 simp only [nl, yq] at hB'
 rw [hql]
 generalize ks .i64 (QJ L m) = LL at *
 generalize ks .i64 (List.replicate q (L : Int)) = RR at *
 generalize q * L = w at *
 simp only [Int.natCast_add, Int.cast_ofNat_Int] at hC'
 have hq1 : (q : Int) + 1 - 1 = (q : Int) := by omega
 simp (disch := omega) only [rq, simprocAttr, ZZ]
 refine Qa hC' ?_
 simp (disch := omega) only [rq, simprocAttr]
 refine Qa hL' ?_
 simp (disch := omega) only [rq, simprocAttr, hq1]
 refine Qa0.vo_still 1 [0] hR' (by simp [Z6, Zf, frzL, Q6]) ?_
 simp (disch := omega) only [rq, simprocAttr, Qe, shr, hq1, hqL]
 refine Qa0.vo_still 1 [1, 2] hB' (by simp [Z6, Zf, frzL, Q6, frzL_T _ tr]) ?_
 simp (disch := omega) only [rq, simprocAttr, Qe, shr]
 exact ⟨3, rfl, rfl⟩
def JK (Lc : Nat) (l : List Int) (j : Nat) : List Int := (l.drop (j * Lc)).take Lc
def QbY (t : Nat) (P : Prg) (f : Nat) : Prop := ∀ (k n : Nat) (x r : Int) (l : List Int), 1 ≤ k → k ≤ 1000 → l.length = n * k → okA r n →
 QeW P f [.int .i64 k, .int .i64 x, .int .i64 r, il l] [t] (cnt := (QJ (Qw r).toNat n).length) (fun j => il (JK ((Qw r).toNat * k) l j.1))
theorem J0 {X : Cx} {a : Act} : ∀ i, Rep X (look [] i) (a.tmps.getD i undef) := fun i => by simp only [look, Rep]
theorem QB {X : Cx} {a : Act} {fr : List (Nat × AV)} {j : Nat} {v : AV} (h : Rep X v (a.tmps.getD j undef)) (g : ∀ i, Rep X (look fr i) (a.tmps.getD i undef)) : ∀ i, Rep X (look ((j, v) :: fr) i) (a.tmps.getD i undef) := fun i => by
 simp only [look]
 split
 ·rename_i e; subst e; exact h
 ·exact g i
theorem QpG {N : Nat} {fr : List (Nat × AV)} {a : Act} {W : World} (hd : a.defers = []) (hz : a.tmps.size = N) (h : ∀ i, Rep ⟨W, [], [], fun _ _ => False⟩ (look fr i) (a.tmps.getD i undef)) : Sim ⟨W.heap.size, ⟨W, [], [], fun _ _ => False⟩, N, []⟩ ⟨fr, []⟩ a W :=
 ⟨hd, hz, Below.refl _ _, [], ⟨rfl, by simp, by simp, by simp, fun _ _ h => h.elim, qg _⟩, Moves.refl _, h⟩
theorem Xx {W W' : World} (h : Below W.heap.size W W') : W.grownBy W' none := ⟨h.os, h.tape, h.output, h.size, fun k hk _ => h.block k hk⟩
theorem QjU {k n L j : Nat} {l : List Int} (hl : l.length = n * k) (hn : 1 ≤ n) (hL : 1 ≤ L) (hj : j < (QJ L n).length) :
  ∃ m : Nat, (QJ L n).getD j 0 = m ∧ m ≤ n ∧ min (j * (L * k)) (n * k) = j * (L * k) ∧ j * (L * k) ≤ n * k ∧ min ((j + 1) * (L * k)) (n * k) = j * (L * k) + m * k ∧ JK (L * k) l j = (l.drop (j * (L * k))).take (m * k) ∧ j * (L * k) + m * k ≤ n * k := by
 rw [Z5] at hj
 have g0 : (n - 1) / L * L ≤ n - 1 := Nat.div_mul_le_self _ _
 have g2 : n - 1 < (n - 1) / L * L + L := Nat.lt_div_mul_add (by omega)
 have g1 : j * L ≤ (n - 1) / L * L := qu _ (by omega)
 have e0 : j * (L * k) = j * L * k := by rw [Nat.mul_assoc]
 have e1 : (j + 1) * (L * k) = (j * L + L) * k := by rw [← Nat.mul_assoc, yb, yQ]
 have h3 : j * L * k ≤ n * k := qu _ (by omega)
 by_cases hq : j < (n - 1) / L
 ·have g3 : (j + 1) * L ≤ (n - 1) / L * L := qu _ (by omega)
  rw [yb, yQ] at g3
  have h7 : j * L + L ≤ n := qH g3 (qH g0 (Nat.sub_le _ _))
  have h4 : (j * L + L) * k ≤ n * k := qu _ h7
  refine ⟨L, ?_, by omega, by rw [e0]; exact q8 h3, by rw [e0]; exact h3, by rw [e1, e0, q8 h4, yb], rfl, by rw [e0, ← yb]; exact h4⟩
  unfold QJ
  rw [qh, qj (by simpa using hq), List.getElem?_replicate, qE hq]
  rfl
 ·have hjq : j = (n - 1) / L := by omega
  have h7 : n ≤ j * L + L := by rw [hjq]; generalize (n - 1) / L * L = w at *; omega
  have h8 : n - j * L ≤ L := by omega
  have h4 : n * k ≤ (j * L + L) * k := qu _ h7
  have h5 : j * L * k + (n - j * L) * k = n * k := by rw [← yb]; congr 1; omega
  refine ⟨n - j * L, ?_, Nat.sub_le _ _, by rw [e0]; exact q8 h3, by rw [e0]; exact h3, by rw [e1, e0, Nat.min_eq_right h4, h5], ?_, by rw [e0, h5]; exact qg _⟩
  ·unfold QJ
   rw [qh, qI (by simp; omega)]
   simp only [yq, ← hjq, Nat.sub_self, yu, yy]
   omega
  ·unfold JK
   have h6 : (l.drop (j * (L * k))).length = (n - j * L) * k := by rw [yj, hl, e0]; omega
   rw [qU (by rw [h6]; exact qu _ h8), qU (by rw [h6]; exact qg _)]
theorem QlC {m j : Nat} (h : j < m) : (List.finRange m).take (j + 1) = (List.finRange m).take j ++ [⟨j, h⟩] := by
 rw [qy (by simpa using h)]
 simp
theorem QmO (L n : Nat) : 1 ≤ (QJ L n).length := by rw [Z5]; exact Nat.le_add_left 1 _
set_option maxHeartbeats 1000000 in
theorem QiA {P : Prg} {f fA t0 : Nat} (bd : Body P f 43 [] (Zl fA)) (hA : QjB t0 P fA) : QbY t0 P f := by
 intro k n x r l hk1 hk2 hl hok
 obtain ⟨L, hL⟩ : ∃ L, (Qw r).toNat = L := ⟨_, rfl⟩
 have hL1 : 1 ≤ L := by have := Xt r; omega
 obtain ⟨a1, a2, a3, a4, a5⟩ := hok
 have hn1 : 1 ≤ n := by omega
 have hn2 : n ≤ 4000 := by omega
 have hA' := hA r n ⟨a1, a2, a3, a4, a5⟩
 rw [hL, qt] at hA' a5
 rw [hL]
 refine ⟨fun j => Qct _, fun w C v1 hv1 hex hG => ?_⟩
 have hv1' := hv1
 simp only [Rep] at hv1
 obtain ⟨b, o, vs, hv1e, hat, hvs⟩ := hv1
 simp only [RepL] at hvs
 obtain ⟨u0, q0, rfl, hu0, u1, q1, rfl, hu1, u2, q2, rfl, hu2, u3, q3, rfl, hu3, rfl⟩ := hvs
 have hu0' := hu0
 have hu3' := hu3
 simp only [Rep] at hu0 hu1 hu2
 rw [il] at hu3
 simp only [Rep] at hu3
 obtain ⟨sa, cap, ws, e3, hcap, hws, hwr⟩ := hu3
 rw [hl] at hcap
 obtain ⟨atN, hatN⟩ : ∃ atN : Nat → Nat, ∀ j, atN j = min (j * (L * k)) (n * k) := ⟨_, fun _ => rfl⟩
 obtain ⟨cnt, hcnt⟩ : ∃ cnt, (QJ L n).length = cnt := ⟨_, rfl⟩
 have hnk : n * k ≤ 4000000 := Nat.mul_le_mul hn2 hk2
 rw [hcnt] at hA' a5 ⊢
 have hcnt1 : 1 ≤ cnt := by rw [← hcnt]; exact QmO _ _
 have pf : ∀ j, j < cnt → ∃ m : Nat, (QJ L n).getD j 0 = m ∧ m ≤ n ∧ atN j = j * (L * k) ∧ atN (j + 1) = atN j + m * k ∧ JK (L * k) l j = (l.drop (atN j)).take (m * k) ∧ atN j + m * k ≤ n * k := fun j hj => by
  obtain ⟨m, h1, h2, h3, h4, h5, h6, h7⟩ := QjU (j := j) hl hn1 hL1 (by rw [hcnt]; exact hj)
  refine ⟨m, h1, h2, by rw [hatN]; exact h3, by rw [hatN, hatN, h3]; exact h5, by rw [hatN, h3]; exact h6, by rw [hatN, h3]; exact h7⟩
 have hun : ∀ {W' : World}, (∀ (b k : Nat) (v : Value), ¬ C b k → w.cell? ⟨b, k, none⟩ = some v → W'.cell? ⟨b, k, none⟩ = some v) → ∀ (c : AV) (v : Value), isD c = true → Rep ⟨w, [], [], C⟩ c v → Rep ⟨W', [], [], fun _ _ => False⟩ c v := fun h c v hd hr =>
  Rep.data (X := ⟨w, [], [], C⟩) (Y := ⟨_, [], [], fun _ _ => False⟩) (fun b k v hc ha => ⟨h b k v (fun h => ha (.inl h)) hc, fun h => by
   rcases h with h | ⟨o, x, c, h1, _⟩
   ·exact h.elim
   ·simp at h1⟩) c v hd hr
 have hlit : ∀ {W' : World}, (∀ (b k : Nat) (v : Value), ¬ C b k → w.cell? ⟨b, k, none⟩ = some v → W'.cell? ⟨b, k, none⟩ = some v) → Rep ⟨W', [], [], fun _ _ => False⟩ (.cell [.int .i64 k, .int .i64 x, .int .i64 r, .lit u3]) v1 := fun {W'} h => by
  have h1 : Rep ⟨w, [], [], C⟩ (.cell [.int .i64 k, .int .i64 x, .int .i64 r, .lit u3]) v1 := by
   simp only [Rep]
   exact ⟨b, o, _, hv1e, hat, by simp only [RepL, Rep]; exact ⟨u0, _, rfl, hu0, u1, _, rfl, hu1, u2, _, rfl, hu2, u3, _, rfl, rfl, rfl⟩⟩
  exact hun h _ _ rfl h1
 refine ⟨fun j => .slice (if cap = atN j.1 then sa else sa.map (·.add (atN j.1 * 1))) (atN (j.1 + 1) - atN j.1) (cap - atN j.1), fun j => ?rep, ?seq⟩
 case rep =>
  obtain ⟨m, h1, h2, h3, h4, h5, h6⟩ := pf j.1 j.2
  have g : Held 0 ⟨w, [], [], fun _ _ => False⟩ := ⟨rfl, by simp, by simp, by simp, fun _ _ h => h.elim, yd _⟩
  have e4 : ((atN (j.1 + 1) : Nat) - (atN j.1 : Nat) : Int).toNat = m * k := by omega
  have e5 : (JK (L * k) l j.1).length = m * k := by rw [h5, qX, yj, hl]; omega
  have hs : Qd3 [] 1 (il l) (atN j.1 : Nat) (atN (j.1 + 1) : Nat) = some (il (JK (L * k) l j.1)) := by
   simp only [Qd3, il]
   rw [qE (by omega), qE (by rw [hl]; simp [ks]; omega), e4, e5, h5]
   simp [ks, List.map_take, List.map_drop]
  have hr := Qh9 (X := ⟨w, [], [], fun b k => C b k ∧ b < w.heap.size⟩) (B := w.heap.size) ⟨rfl, by simp, by simp, by simp, fun _ _ h => h.2, qg _⟩ (η := fun _ => .any) (ρ := fun _ => undef) (fun _ => by simp only [Rep]) (sz := 1) (n := l.length) (cs := ks .i32 l) (a := sa) (cap := cap) (m := cap) (by
   rw [← e3]
   exact Rep.data (X := ⟨w, [], [], C⟩) (Y := ⟨w, [], [], fun b k => C b k ∧ b < w.heap.size⟩) (fun b k v hc ha => ⟨hc, fun h => ha (by
    rcases h with h | ⟨o, x, c, h1, _⟩
    ·exact .inl h.1
    ·simp at h1)⟩) _ _ (Qct l) hu3') rfl hs (by omega) (.inl (qg _))
  have hr2 := hr.2.2.2
  simp only [qt] at hr2
  exact Rep.data (X := ⟨w, [], [], fun b k => C b k ∧ b < w.heap.size⟩) (Y := ⟨w, [], [], C⟩) (fun b k v hc ha => ⟨hc, fun h => ha (by
   rcases h with h | ⟨o, x, c, h1, _⟩
   ·exact .inl ⟨h, World.block_lt_of_cell? w _ hc⟩
   ·simp at h1)⟩) _ _ (Qct _) hr2
 case seq =>
  intro ll J Jx W hW hJ hJx hY hJ0
  have hkw : ∀ (b k : Nat) (v : Value), ¬ C b k → w.cell? ⟨b, k, none⟩ = some v → W.cell? ⟨b, k, none⟩ = some v := fun b k v _ hc => (hW.cell (p := ⟨b, k, none⟩) (World.block_lt_of_cell? w _ hc)).trans hc
  obtain ⟨fn, hf, hnm, hN, hrl, hc'⟩ := bd
  obtain ⟨c, hb, hc⟩ := qe.1 hc'
  refine callsIn_of_wp hf hb trivial ?_ rfl
  rw [hN]
  unfold Zl at hc
  obtain ⟨c1, r1, rfl, hc1, hr1⟩ := Qu hc
  obtain ⟨c2, r2, rfl, hc2, hr2⟩ := Qu hr1
  obtain ⟨c3, c4, rfl, hc3, hc4⟩ := Qu hr2
  obtain ⟨c5, rfl, hc5⟩ := Xv hc4
  obtain ⟨c6, rfl, hc6⟩ := Qce hc5
  obtain ⟨d1, s1, rfl, hd1, hs1⟩ := Qu hc6
  obtain ⟨d2, s2, rfl, hd2, hs2⟩ := Qu hs1
  obtain ⟨y1, y2, rfl, hy1, hy2⟩ := Xo hd2
  obtain rfl := X6 hy1
  obtain rfl := QeM hy2
  obtain ⟨d3, d9, rfl, hd3, hd9⟩ := Qu hs2
  obtain ⟨d4, rfl, hd4⟩ := Xv hd3
  obtain ⟨d5, s5, rfl, hd5, hs5⟩ := Qu hd4
  obtain ⟨d6, s6, rfl, hd6, hs6⟩ := Qu hs5
  obtain ⟨s7, d8, rfl, hs7, hd8⟩ := Qu hs6
  obtain ⟨d7, dc, rfl, hd7, hdc⟩ := Qu hs7
  obtain ⟨y3, y4, rfl, hy3, hy4⟩ := Xo hdc
  obtain rfl := Qhn hy3
  obtain rfl := X6 hy4
  obtain ⟨id7, ops, rfl, hm7⟩ := Qbx hd7
  obtain ⟨l5, l3, hops, hm5, hm3⟩ := Qc3 (q1 := [_, _, _, _, _]) hm7
  obtain ⟨oS, l2, rfl, hoS, hm2⟩ := Qc2 hm3
  obtain ⟨oY, l1, rfl, hoY, hm1⟩ := Qc2 hm2
  generalize hyv : (Value.func (.yield ll) #[] #[]) = yv at *
  let a0 : Act := { tmps := #[yv] ++ #[v1] ++ Array.replicate (43 - (#[yv] ++ #[v1]).size) undef, defers := [] }
  show Code.wpIn _ _ _ _ _ a0 _
  have z0 : a0.tmps.size = 43 := by simp [a0]
  have t00 : a0.tmps.getD 0 undef = yv := by simp [a0]
  have t01 : a0.tmps.getD 1 undef = v1 := by simp [a0]
  let C0 : Nat → Nat → Prop := fun b k => C b k ∧ b < W.heap.size
  have g0 : Held W.heap.size ⟨W, [ph2], [none], C0⟩ := by
   have g := (Held.empty (B := W.heap.size) (X := ⟨W, [], [], C0⟩) ⟨rfl, by simp, by simp, by simp, fun _ _ h => h.2, qg _⟩ 1 0).1
   exact g
  have hC0 : ∀ c v, isD c = true → Rep ⟨w, [], [], C⟩ c v → Rep ⟨W, [ph2], [none], C0⟩ c v := fun c v hd hr =>
   Rep.data (X := ⟨w, [], [], C⟩) (Y := ⟨W, [ph2], [none], C0⟩) (fun b k v hc ha => ⟨hkw b k v (fun h => ha (.inl h)) hc, fun h => by
    rcases h with h | ⟨o, x, c, h1, h2, _⟩
    ·exact ha (.inl h.1)
    ·rcases o with _ | o <;> simp at h2⟩) c v hd hr
  let Γ0 : Ctx := ⟨W.heap.size, ⟨W, [ph2], [none], C0⟩, 43, []⟩
  have hs0 : Sim Γ0 ⟨[(0, .lit yv), (1, .cell [.int .i64 k, .int .i64 x, .int .i64 r, il l])], [ph2]⟩ a0 W :=
   ⟨rfl, z0, Below.refl _ _, [none], g0, Moves.refl _, QB (by rw [t00]; simp only [Rep]) (QB (by rw [t01]; exact hC0 _ _ (by simp [isD, isDL, Qct]) hv1') J0)⟩
  have hF0 : Fit P 43 Γ0 := ⟨rfl, fun q cs hq => hC0 _ _ (by simp only [isD]; exact P.gd q cs hq) (hG q cs hq)⟩
  refine wpIn_seq ?_
  have hk0 : ((n * k : Nat) : Int) / (k : Int) = n := by
   rw [Int.natCast_mul, Int.mul_ediv_cancel _ (by omega)]
  have hk3 : ((n * k : Nat) : Int).tdiv (k : Int) = n := by rw [yh (by omega), hk0]
  refine QlO (Q := fun _ st' => st'.ob = [⟨t0, 1, cnt, ks .i64 (QJ L n), 0⟩] ∧ look st'.fr 0 = .lit yv ∧ look st'.fr 3 = .own 0 cnt) hF0 hc1 1 (by rfl) t01 ?_ hs0 ?_
  ·simp only [il]
   simp (disch := omega) only [rq, simprocAttr, hl, hk3, hk0]
   refine ⟨shr 0 (.tup [.own 0 cnt, .int .i64 0]), some (0, ⟨t0, 1, cnt, ks .i64 (QJ L n), 0⟩), ?_, ?_⟩
   ·unfold Zx
    rw [qE rfl]
    exact ⟨ACall.of_vo_at hA' rfl ⟨rfl, rfl⟩, fun o x' e => by cases e; exact ⟨ph2, rfl, by simp [ph2, ph]⟩⟩
   ·simp (disch := omega) only [rq, simprocAttr, shr]
  ·intro st1 a1 W1 ⟨hob1, h10, h13⟩ hs1 t11
   show (Code.seq c2 _).wpIn Fence.wide 4 _ _ a1 W1
   let row : Ob := ⟨t0, 1, cnt, ks .i64 (QJ L n), 0⟩
   have hs1' : Sim Γ0 ⟨[(0, .lit yv), (3, .own 0 cnt)], [row]⟩ a1 W1 := by
    have h : st1 = ⟨st1.fr, [row]⟩ := by rw [← hob1]
    rw [h] at hs1
    exact Jw (M := 1) (by simp [h10, h13]) Γ0 a1 W1 rfl hs1
   refine wpIn_seq ?_
   refine Zz (Q := fun _ st' => st' = ⟨[(5, .int .i64 0), (0, .lit yv), (3, .own 0 cnt)], [row]⟩) hF0 hc2 [(1, v1)] (by simp only [qZ]; rintro _ rfl; exact ⟨rfl, t11⟩) (by simp (disch := omega) only [rq, simprocAttr]) hs1' ?_
   rintro _ a2 W2 rfl hs2 t2
   show (Code.seq c3 _).wpIn Fence.wide 4 _ _ a2 W2
   refine wpIn_seq ?_
   refine Zz (Q := fun _ st' => st' = ⟨[(23, .int .i64 0), (22, .int .i64 cnt), (21, .own 0 cnt), (5, .int .i64 0), (0, .lit yv), (3, .own 0 cnt)], [row]⟩) hF0 hc3 [(1, v1)] (by simp only [qZ]; rintro _ rfl; exact ⟨rfl, t2 _ (by simp)⟩) (by simp (disch := omega) only [rq, simprocAttr, row]) hs2 ?_
   rintro _ a3 W3 rfl hs3 t3
   show (Code.block 0 (.loop _)).wpIn Fence.wide 4 _ _ a3 W3
   obtain ⟨f1, f2, f3, be, f4, f5, f6⟩ := hs3
   have f1' : a3.defers = [] := f1
   have f2' : a3.tmps.size = 43 := f2
   obtain ⟨e, he, hoke⟩ := f4.get (o := 0) (x := row) rfl
   have f21 := f6 21
   simp only [look, Nat.reduceEqDiff, yS, yI, Rep] at f21
   obtain ⟨⟨rw', hrw, _, _, hown⟩, _⟩ := f21
   have hrw' : row = rw' := by simpa using hrw
   subst hrw'
   have hown' := hown rfl
   have he' : be[0]? = some e := he
   simp only [he'] at hown'
   cases e with
   | none => exact absurd hoke.1 (by simp only [row]; omega)
   | some p =>
   obtain ⟨br, capr⟩ := p
   obtain ⟨cur, ⟨frz, hblk, _⟩, hcs, hnc, _, hcl, hcr, hone⟩ := hoke
   simp only [OwnV] at hown'
   have hblk' : W3.heap[br]? = some (.cells cur t0 frz) := hblk
   obtain ⟨sv, hsv⟩ : ∃ sv, sv = Value.slice (some ⟨br, 0, none⟩) cnt capr := ⟨_, rfl⟩
   have hcr' : ∀ {Y : Cx}, RepL Y (ks .i64 (QJ L n)) (cur.toList.take cnt) := fun {Y} => by
    have h := RepL.flat (Y := Y) (by simp [row, ks, flat]) hcr
    have e : row.cs.length = cnt := by simp [row, ks, hcnt]
    rw [e] at h
    exact h
   have hrowR : ∀ {W' : World}, W'.heap[br]? = some (.cells cur t0 frz) → Rep ⟨W', [], [], fun _ _ => False⟩ (.list cnt (ks .i64 (QJ L n))) sv := fun {W'} h => by
    simp only [Rep]
    refine ⟨_, _, cur.toList.take cnt, hsv, hnc, .inr ⟨br, 0, rfl, fun i v hv => ?_⟩, hcr'⟩
    rw [ym] at hv
    split at hv
    ·have hv2 : cur[i]? = some v := by simpa using hv
     refine ⟨⟨by simp [World.cell?, h, hv2], fun h => ?_⟩, hone v (by
      obtain ⟨h1, h2⟩ := qi.1 hv2
      rw [← h2]; simp)⟩
     rcases h with h | ⟨o, x, c, h1, _⟩
     ·exact h.elim
     ·simp at h1
    ·cases hv
   have hJ3 : J [] W3 := hJ _ W W3 none hJ0 (Xx f3) (fun r h => by cases h)
   refine wpIn_block ?_
   refine wpIn_loop (fun a W' => ∃ j, j ≤ cnt ∧ a.defers = [] ∧ a.tmps.size = 43 ∧ a.tmps.getD 0 undef = yv ∧ a.tmps.getD 1 undef = v1 ∧ a.tmps.getD 5 undef = .int .i64 (atN j : Nat) ∧ a.tmps.getD 21 undef = sv ∧ a.tmps.getD 22 undef = .int .i64 cnt ∧ a.tmps.getD 23 undef = .int .i64 j ∧
     W'.heap[br]? = some (.cells cur t0 frz) ∧ (∀ (b k : Nat) (v : Value), ¬ C b k → w.cell? ⟨b, k, none⟩ = some v → W'.cell? ⟨b, k, none⟩ = some v) ∧ J ((List.finRange cnt).take j) W')
    (fun a _ => match a.tmps.getD 23 undef with | .int _ z => cnt - z.toNat | _ => 0) ?_ ?_
   ·refine ⟨0, yd _, f1', f2', ?_, t3 (1, v1) (by simp), ?_, by rw [hsv]; exact hown', ?_, ?_, hblk', ?_, hJ3⟩
    ·have h := f6 0
     simpa [look, Rep] using h
    ·have h := f6 5
     have e0 : atN 0 = 0 := by rw [hatN]; simp
     simpa [look, Rep, e0] using h
    ·have h := f6 22
     simpa [look, Rep] using h
    ·have h := f6 23
     simpa [look, Rep] using h
    ·intro b k v hc hv
     have h := hkw b k v hc hv
     exact (f3.cell (p := ⟨b, k, none⟩) (World.block_lt_of_cell? W _ h)).trans h
   intro a Wj ⟨j, hj, i1, i2, i3, i4, i5, i6, i7, i8, i9, i10, i11⟩
   let ΓW : World → Ctx := fun W' => ⟨W'.heap.size, ⟨W', [], [], fun _ _ => False⟩, 43, []⟩
   have hF : ∀ {W' : World}, (∀ (b k : Nat) (v : Value), ¬ C b k → w.cell? ⟨b, k, none⟩ = some v → W'.cell? ⟨b, k, none⟩ = some v) → Fit P 43 (ΓW W') := fun {W'} h => ⟨rfl, fun q cs hq => hun h _ _ (by simp only [isD]; exact P.gd q cs hq) (hG q cs hq)⟩
   have hsA : Sim (ΓW Wj) ⟨[(0, .lit yv), (1, .cell [.int .i64 k, .int .i64 x, .int .i64 r, .lit u3]), (5, .int .i64 (atN j : Nat)), (21, .list cnt (ks .i64 (QJ L n))), (22, .int .i64 cnt), (23, .int .i64 j)], []⟩ a Wj :=
    QpG i1 i2 (QB (by rw [i3]; simp only [Rep]) (QB (by rw [i4]; exact hlit i10) (QB (by rw [i5]; simp only [Rep]) (QB (by rw [i6]; exact hrowR i9) (QB (by rw [i7]; simp only [Rep]) (QB (by rw [i8]; simp only [Rep]) J0))))))
   have hI : ∀ {qs : List AO} {a : Act}, Qab 1 qs = true → Qab 21 qs = true → a.tmps.getD 1 undef = v1 → a.tmps.getD 21 undef = sv → ∀ p ∈ [(1, v1), (21, sv)], Qab p.1 qs = true ∧ a.tmps.getD p.1 undef = p.2 := fun h1 h2 h3 h4 p hp => by
    simp only [qo, qQ, or_false] at hp
    rcases hp with rfl | rfl
    ·exact ⟨h1, h3⟩
    ·exact ⟨h2, h4⟩
   refine wpIn_seq ?_
   refine Zz (Q := fun _ st' => st' = ⟨[(24, .bool (decide ((j : Int) < cnt))), (0, .lit yv), (1, .cell [.int .i64 k, .int .i64 x, .int .i64 r, .lit u3]), (5, .int .i64 (atN j : Nat)), (21, .list cnt (ks .i64 (QJ L n))), (22, .int .i64 cnt), (23, .int .i64 j)], []⟩) (hF i10) hd1 [(1, v1), (21, sv)] (hI rfl rfl i4 i6) (by simp (disch := omega) only [rq, simprocAttr]) hsA ?_
   rintro _ aB WB rfl hsB tB
   have bW : Below Wj.heap.size Wj WB := hsB.2.2.1
   show (Code.seq (.cond _ .skip (.exit 0)) _).wpIn Fence.wide 4 _ _ aB WB
   have h24 : aB.eval (.tmp 24) = .bool (decide ((j : Int) < cnt)) := by
    obtain ⟨_, _, _, _, _, _, h⟩ := hsB
    have h : Rep _ (.bool _) (aB.tmps.getD 24 undef) := h 24
    simp only [Rep] at h
    exact h
   refine wpIn_seq ?_
   by_cases hjc : j < cnt
   ·have e24 : decide ((j : Int) < cnt) = true := by simp; omega
    rw [e24] at h24 hsB
    obtain ⟨m, p1, p2, p3, p4, p5, p6⟩ := pf j hjc
    have la : (ks .i64 (QJ L n)).drop j = .int .i64 m :: (ks .i64 (QJ L n)).drop (j + 1) := by
     have h := Qj0 (K := .i64) (l := QJ L n) (i := j) (by omega)
     rw [p1, ← QaX] at h
     exact h
    refine wpIn_cond_true h24 (wpIn_skip ?_)
    show (Code.seq (.block 1 (.seq d5 _)) _).wpIn Fence.wide 4 _ _ aB WB
    obtain ⟨mk, hmk⟩ : ∃ mk, m * k = mk := ⟨_, rfl⟩
    rw [hmk] at p4 p5 p6
    have emk : (m : Int) * (k : Int) = mk := by rw [← hmk]; simp
    have e8 : ((atN j : Nat) : Int) + (mk : Int) = ((atN (j + 1) : Nat) : Int) := by omega
    obtain ⟨nk, hnk'⟩ : ∃ nk, n * k = nk := ⟨_, rfl⟩
    rw [hnk'] at p6 hnk hcap hl
    have hm4 : (m : Int) ≤ 4000 := by omega
    refine wpIn_seq (wpIn_block (wpIn_seq ?_))
    refine Zz (Q := fun _ st' => Le 0 st' ⟨[(7, .int .i64 m), (0, .lit yv), (1, .cell [.int .i64 k, .int .i64 x, .int .i64 r, .lit u3]), (5, .int .i64 (atN j : Nat)), (21, .list cnt (ks .i64 (QJ L n))), (22, .int .i64 cnt), (23, .int .i64 j)], []⟩) (hF i10) hd5 [(1, v1), (21, sv)] (hI rfl rfl (tB (1, v1) (by simp)) (tB (21, sv) (by simp)))
     (by simp (disch := omega) only [rq, simprocAttr, la, QD]; exact QA) hsB ?_
    intro st5 a5 W5 hle5 hs5' t5
    have hs5 := hle5 _ _ _ rfl hs5'
    show (Code.seq d6 _).wpIn Fence.wide 4 _ _ a5 W5
    refine wpIn_seq ?_
    refine Zz (Q := fun _ st' => Le 0 st' ⟨[(8, .int .i64 (atN (j + 1) : Nat)), (0, .lit yv), (1, .cell [.int .i64 k, .int .i64 x, .int .i64 r, .lit u3]), (5, .int .i64 (atN j : Nat)), (21, .list cnt (ks .i64 (QJ L n))), (22, .int .i64 cnt), (23, .int .i64 j)], []⟩) (hF i10) hd6 [(1, v1), (21, sv)] (hI rfl rfl (t5 (1, v1) (by simp)) (t5 (21, sv) (by simp)))
     (by simp (disch := omega) only [rq, simprocAttr, emk, e8]; exact QA) hs5 ?_
    intro st6 a6 W6 hle6 hs6' t6
    have hs6 := hle6 _ _ _ rfl hs6'
    show (Code.seq (.seq (.region id7 ops false) _) d8).wpIn Fence.wide 4 _ _ a6 W6
    refine wpIn_seq (wpIn_seq (wpIn_region_list ?_))
    rw [hops]
    refine Z2 l5 _ a6 W6 (Qi ?_ _ _ _ (Z4 (Q := fun _ st' => Le 0 st' ⟨[(33, .lit yv), (0, .lit yv), (35, .lit u3), (36, .int .i64 (atN j : Nat)), (37, .int .i64 (atN (j + 1) : Nat)), (8, .int .i64 (atN (j + 1) : Nat)), (22, .int .i64 cnt), (23, .int .i64 j)], []⟩) (hF i10) hm5 [(1, v1), (21, sv)] (hI rfl rfl (t6 (1, v1) (by simp)) (t6 (21, sv) (by simp)))
     (by simp (disch := omega) only [rq, simprocAttr]; exact QA) hs6))
    rintro _ a7 W7 ⟨rfl, st7, hle7, hs7', t7⟩
    have hs7 := hle7 _ _ _ rfl hs7'
    show wpListIn Fence.wide 4 _ _ _ (oS :: oY :: l1) a7 W7
    have W7b : Below Wj.heap.size Wj W7 := hs7.2.2.1
    have hd7 : a7.defers = [] := hs7.1
    have hz7 : a7.tmps.size = 43 := hs7.2.1
    have f7 : ∀ {i : Nat} {v : Value}, Rep ⟨W7, [], [], fun _ _ => False⟩ (.lit v) (a7.tmps.getD i undef) → a7.tmps.getD i undef = v := fun h => by simpa only [Rep] using h
    have f33 : a7.tmps.getD 33 undef = yv := by obtain ⟨_, _, _, _, _, _, h⟩ := hs7; have h : Rep _ (.lit yv) (a7.tmps.getD 33 undef) := h 33; simpa only [Rep] using h
    have f35 : a7.tmps.getD 35 undef = u3 := by obtain ⟨_, _, _, _, _, _, h⟩ := hs7; have h : Rep _ (.lit u3) (a7.tmps.getD 35 undef) := h 35; simpa only [Rep] using h
    have f8 : a7.tmps.getD 8 undef = .int .i64 (atN (j + 1) : Nat) := by obtain ⟨_, _, _, _, _, _, h⟩ := hs7; have h : Rep _ (.int .i64 _) (a7.tmps.getD 8 undef) := h 8; simpa only [Rep] using h
    have f22 : a7.tmps.getD 22 undef = .int .i64 cnt := by obtain ⟨_, _, _, _, _, _, h⟩ := hs7; have h : Rep _ (.int .i64 _) (a7.tmps.getD 22 undef) := h 22; simpa only [Rep] using h
    have f23 : a7.tmps.getD 23 undef = .int .i64 j := by obtain ⟨_, _, _, _, _, _, h⟩ := hs7; have h : Rep _ (.int .i64 _) (a7.tmps.getD 23 undef) := h 23; simpa only [Rep] using h
    obtain ⟨be7, g7, _, hη, _⟩ := hs7.eta (hF i10).2
    obtain ⟨cS, dS, _, gS⟩ := Q3 hoS
    obtain ⟨tS, eS, opS, uS, zS⟩ := QlV (QeN cS (by intro h; cases h))
    have gS' : oS.guard = none := by
     rcases gS with ⟨h, _⟩ | ⟨_, _, _, _, _, h⟩
     ·exact h
     ·cases h
    have ex : a7.eval (.tmp 35) = .slice sa nk cap := by rw [← hl]; exact f35.trans e3
    have hrun := Qh5 (X := ⟨W7, [], be7, fun _ _ => False⟩) g7 hη opS uS zS ex (l := (atN j : Nat)) (h := (atN (j + 1) : Nat)) (by simp [loA, opd, look]) (by simp [hiA, opd, look]) (by omega) (by omega) (by omega)
    simp only [qt] at hrun
    unfold wpListIn
    rw [qE (by simp [Region.wanted, gS'])]
    unfold Oper.wpIn
    refine ⟨fun _ _ => trivial, ?_⟩
    rw [Qpr, hrun]
    show wpListIn Fence.wide 4 _ _ _ (oY :: l1) (a7.put oS.dst _) W7
    rw [← dS]
    obtain ⟨cY, dY, _, gY⟩ := Q3 hoY
    obtain ⟨cl, opY, calY, argY⟩ := Xw cY
    have gY' : oY.guard = none := by
     rcases gY with ⟨h, _⟩ | ⟨_, _, _, _, _, h⟩
     ·exact h
     ·cases h
    have argY' : cl.args = #[.tmp 38] := q9 argY.symm
    unfold wpListIn
    rw [qE (by simp [Region.wanted, gY'])]
    have hJ7 : J ((List.finRange cnt).take j) W7 := hJ _ Wj W7 none i11 (Xx W7b) (fun r h => by cases h)
    have hlen : ((List.finRange cnt).take j).length < cnt := by simp; omega
    obtain ⟨vj, hvj⟩ : ∃ vj : Value, vj = .slice (if cap = atN j then sa else sa.map (·.add (atN j * 1))) (atN (j + 1) - atN j) (cap - atN j) := ⟨_, rfl⟩
    have hY' := hY ((List.finRange cnt).take j) ⟨j, hjc⟩ W7 hJ7 hlen
    simp only at hY'
    rw [← hvj] at hY' ⊢
    have p38 : (a7.put (some 38) vj).tmps.getD 38 undef = vj := by simp [Act.put, hz7]
    have p33 : (a7.put (some 38) vj).tmps.getD 33 undef = .func (.yield ll) #[] #[] := by rw [Zu (by simp), f33]; exact hyv.symm
    refine Qb3 opY calY argY' p33 p38 hY' ?_
    rw [← dY]
    have z8 : ∀ bb : Bool, ((a7.put (some 38) vj).put (some 39) (.bool bb)).tmps.size = 43 := fun bb => by rw [J1, J1]; exact hz7
    have p39 : ∀ bb : Bool, ((a7.put (some 38) vj).put (some 39) (.bool bb)).tmps.getD 39 undef = .bool bb := fun bb => by simp [Act.put, hz7]
    have pO : ∀ (bb : Bool) (i : Nat), i ≠ 38 → i ≠ 39 → ((a7.put (some 38) vj).put (some 39) (.bool bb)).tmps.getD i undef = a7.tmps.getD i undef := fun bb i h1 h2 => by
     rw [Zu (by simpa using fun h => h2 h.symm), Zu (by simpa using fun h => h1 h.symm)]
    have d8' : ∀ bb : Bool, ((a7.put (some 38) vj).put (some 39) (.bool bb)).defers = [] := fun bb => by rw [Xn, Xn]; exact hd7
    have hI3 : ∀ {qs : List AO} {a : Act}, Qab 0 qs = true → Qab 1 qs = true → Qab 21 qs = true → a.tmps.getD 0 undef = yv → a.tmps.getD 1 undef = v1 → a.tmps.getD 21 undef = sv → ∀ p ∈ [(0, yv), (1, v1), (21, sv)], Qab p.1 qs = true ∧ a.tmps.getD p.1 undef = p.2 := fun h1 h2 h3 h4 h5 h6 p hp => by
     simp only [qo, qQ, or_false] at hp
     rcases hp with rfl | rfl | rfl
     ·exact ⟨h1, h4⟩
     ·exact ⟨h2, h5⟩
     ·exact ⟨h3, h6⟩
    have f0 : a7.tmps.getD 0 undef = yv := by obtain ⟨_, _, _, _, _, _, h⟩ := hs7; have h : Rep _ (.lit yv) (a7.tmps.getD 0 undef) := h 0; simpa only [Rep] using h
    have q0 : ∀ bb : Bool, _ := fun bb => (pO bb 0 (by omega) (by omega)).trans f0
    have q1 : ∀ bb : Bool, _ := fun bb => (pO bb 1 (by omega) (by omega)).trans (t7 (1, v1) (by simp))
    have q21 : ∀ bb : Bool, _ := fun bb => (pO bb 21 (by omega) (by omega)).trans (t7 (21, sv) (by simp))
    rintro e W8 (⟨rfl, hJ8, hK8⟩ | ⟨rfl, hX8⟩)
    ·refine ⟨true, rfl, ?_⟩
     have hbr7 : W7.heap[br]? = some (.cells cur t0 frz) := (W7b.block br (qi.1 i9).1).trans i9
     have hbr8 : W8.heap[br]? = some (.cells cur t0 frz) := (hK8.1 br cur t0 frz hbr7 (by simp)).trans hbr7
     have hk8 : ∀ (b k : Nat) (v : Value), ¬ C b k → w.cell? ⟨b, k, none⟩ = some v → W8.cell? ⟨b, k, none⟩ = some v := fun b k v hc hv => by
      have h1 := i10 b k v hc hv
      exact hK8.2 b k v hc ((W7b.cell (p := ⟨b, k, none⟩) (World.block_lt_of_cell? Wj _ h1)).trans h1)
     have hs8 : Sim (ΓW W8) ⟨[(39, .bool true), (8, .int .i64 (atN (j + 1) : Nat)), (22, .int .i64 cnt), (23, .int .i64 j)], []⟩ ((a7.put (some 38) vj).put (some 39) (.bool true)) W8 :=
      QpG (d8' true) (z8 true) (QB (by rw [p39]; simp only [Rep]) (QB (by rw [pO true 8 (by omega) (by omega), f8]; simp only [Rep]) (QB (by rw [pO true 22 (by omega) (by omega), f22]; simp only [Rep]) (QB (by rw [pO true 23 (by omega) (by omega), f23]; simp only [Rep]) J0))))
     refine Qi ?_ _ _ _ (Z4 (Q := fun _ st' => Le 0 st' ⟨[(40, .bool false), (8, .int .i64 (atN (j + 1) : Nat)), (22, .int .i64 cnt), (23, .int .i64 j)], []⟩) (hF hk8) hm1 [(0, yv), (1, v1), (21, sv)] (hI3 rfl rfl rfl (q0 true) (q1 true) (q21 true))
      (by simp (disch := omega) only [rq, simprocAttr, qT]; exact QA) hs8)
     rintro _ a9 W9 ⟨rfl, st9, hle9, hs9', t9⟩
     have hs9 := hle9 _ _ _ rfl hs9'
     show (Code.cond _ .ret .skip).wpIn Fence.wide 4 _ _ a9 W9
     have h40 : a9.eval (.tmp 40) = .bool false := by obtain ⟨_, _, _, _, _, _, h⟩ := hs9; have h : Rep _ (.bool _) (a9.tmps.getD 40 undef) := h 40; simp only [Rep] at h; exact h
     refine wpIn_cond_false h40 (wpIn_skip ?_)
     show d8.wpIn Fence.wide 4 _ _ a9 W9
     refine Zz (Q := fun _ st' => Le 0 st' ⟨[(5, .int .i64 (atN (j + 1) : Nat)), (22, .int .i64 cnt), (23, .int .i64 j)], []⟩) (hF hk8) hd8 [(0, yv), (1, v1), (21, sv)] (hI3 rfl rfl rfl (t9 (0, yv) (by simp)) (t9 (1, v1) (by simp)) (t9 (21, sv) (by simp)))
      (by simp (disch := omega) only [rq, simprocAttr]; exact QA) hs9 ?_
     intro stA aA WA hleA hsA' tA
     have hsA2 := hleA _ _ _ rfl hsA'
     show d9.wpIn Fence.wide 4 _ _ aA WA
     refine Zz (Q := fun _ st' => Le 0 st' ⟨[(5, .int .i64 (atN (j + 1) : Nat)), (22, .int .i64 cnt), (23, .int .i64 ((j + 1 : Nat) : Int))], []⟩) (hF hk8) hd9 [(0, yv), (1, v1), (21, sv)] (hI3 rfl rfl rfl (tA (0, yv) (by simp)) (tA (1, v1) (by simp)) (tA (21, sv) (by simp)))
      (by simp (disch := omega) only [rq, simprocAttr]; exact QA) hsA2 ?_
     intro stC aC WC hleC hsC' tC
     have hsC := hleC _ _ _ rfl hsC'
     have WCb : Below W8.heap.size W8 WC := hsC.2.2.1
     obtain ⟨h1, h2, _, _, _, _, hC⟩ := hsC
     have c5 : aC.tmps.getD 5 undef = .int .i64 (atN (j + 1) : Nat) := by have h : Rep _ (.int .i64 _) (aC.tmps.getD 5 undef) := hC 5; simpa only [Rep] using h
     have c22 : aC.tmps.getD 22 undef = .int .i64 cnt := by have h : Rep _ (.int .i64 _) (aC.tmps.getD 22 undef) := hC 22; simpa only [Rep] using h
     have c23 : aC.tmps.getD 23 undef = .int .i64 ((j + 1 : Nat) : Int) := by have h : Rep _ (.int .i64 _) (aC.tmps.getD 23 undef) := hC 23; simpa only [Rep] using h
     refine ⟨⟨j + 1, by omega, h1, h2, tC (0, yv) (by simp), tC (1, v1) (by simp), c5, tC (21, sv) (by simp), c22, c23, (WCb.block br (qi.1 hbr8).1).trans hbr8, fun b k v hc hv => ?_, ?_⟩, ?_⟩
     ·have h := hk8 b k v hc hv
      exact (WCb.cell (p := ⟨b, k, none⟩) (World.block_lt_of_cell? W8 _ h)).trans h
     ·rw [QlC hjc]
      exact hJ _ W8 WC none hJ8 (Xx WCb) (fun r h => by cases h)
     ·simp only [c23, i8, qt]
      omega
    ·refine ⟨false, rfl, ?_⟩
     have hs8 : Sim (ΓW W8) ⟨[(39, .bool false)], []⟩ ((a7.put (some 38) vj).put (some 39) (.bool false)) W8 :=
      QpG (d8' false) (z8 false) (QB (by rw [p39]; simp only [Rep]) J0)
     let P0 : Prg := ⟨P.prog, [], fun _ _ h => by cases h⟩
     refine Qi ?_ _ _ _ (Z4 (P := P0) (N := 43) (Γ := ΓW W8) (Q := fun _ st' => Le 0 st' ⟨[(40, .bool true)], []⟩) ⟨rfl, fun _ _ h => by cases h⟩ hm1 [] (fun p hp => by cases hp)
      (by simp (disch := omega) only [rq, simprocAttr, yi]; exact QA) hs8)
     rintro _ a9 W9 ⟨rfl, st9, hle9, hs9', t9⟩
     have hs9 := hle9 _ _ _ rfl hs9'
     show (Code.cond _ .ret .skip).wpIn Fence.wide 4 _ _ a9 W9
     have h40 : a9.eval (.tmp 40) = .bool true := by obtain ⟨_, _, _, _, _, _, h⟩ := hs9; have h : Rep _ (.bool _) (a9.tmps.getD 40 undef) := h 40; simp only [Rep] at h; exact h
     refine wpIn_cond_true h40 (wpIn_ret ?_)
     have hX9 := hJx _ W8 W9 none hX8 (Xx hs9.2.2.1) (fun r h => by cases h)
     exact ⟨hs9.1, .tuple #[], results_none (q9 hrl) _ _ _, ⟨_, rfl⟩, .inr ⟨_, trivial, hX9⟩⟩
   ·have e24 : decide ((j : Int) < cnt) = false := by simp; omega
    rw [e24] at h24
    refine wpIn_cond_false h24 (wpIn_exit ?_)
    have hjc' : j = cnt := by omega
    rw [hjc', qU (by simp)] at i11
    have hJB : J (List.finRange cnt) WB := hJ _ Wj WB none i11 (Xx bW) (fun r h => by cases h)
    have hdB : aB.defers = [] := hsB.1
    exact ⟨hdB, .tuple #[], results_none (q9 hrl) _ _ _, ⟨_, rfl⟩, .inl ⟨_, rfl, hJB⟩⟩
def QbZ (g : Nat) (P : Prg) (f : Nat) : Prop := ∀ (c x r : Int) (l : List Int), VC P f [clA c x r l] (.fn (.func g) [] [.cell [.int .i64 c, .int .i64 x, .int .i64 r, il l]])
theorem Qkg {P : Prg} {f g t0 : Nat} (b : Body P f 4 [.tmp 2] (Jt g t0)) : QbZ g P f := by
 intro c x r l
 refine QT 1 (by simp [isDL, isD, Qct, clA]) (by simp [isD, isDL, Qct]) (Ql b (by simp) ?_)
 simp (disch := omega) only [rq, simprocAttr, Jt, clA, il]
 simp [Z6, Zf, frzL, Q6, isDL, isD, frzL_T _ (QK .i32 _)]
def Xr (c r : Int) (l : List Int) : List (List Int) := (List.range (QJ (Qw r).toNat (l.length / c.toNat)).length).map (JK ((Qw r).toNat * c.toNat) l)
theorem Qm8 {c x r : Int} {l : List Int} (h : Qm9 c x r l = 0) : ∃ k n : Nat, c = k ∧ 1 ≤ k ∧ k ≤ 1000 ∧ l.length = n * k ∧ okA r n ∧ l.length ≤ 4000 := by
 unfold Qm9 at h
 split at h
 ·cases h
 rename_i h1
 split at h
 ·cases h
 rename_i h2
 split at h
 ·cases h
 rename_i h3
 have h3' : Qn5 c x r (l.length / c) = 0 := by simpa using h3
 have h2' : (l.length : Int) % c = 0 := by simpa using h2
 obtain ⟨k, rfl⟩ : ∃ k : Nat, c = k := ⟨c.toNat, by omega⟩
 have e1 : (l.length : Int) / (k : Int) = ((l.length / k : Nat) : Int) := by simp
 have e2 : l.length % k = 0 := by exact_mod_cast h2'
 rw [e1] at h3'
 have e3 := Nat.div_add_mod l.length k
 rw [e2, yA, Nat.mul_comm] at e3
 unfold Qn5 at h3'
 split at h3'
 ·cases h3'
 rename_i a1
 split at h3'
 ·cases h3'
 rename_i a2
 split at h3'
 ·cases h3'
 rename_i a3
 split at h3'
 ·cases h3'
 rename_i a4
 obtain ⟨n, hn⟩ : ∃ n, l.length / k = n := ⟨_, rfl⟩
 rw [hn] at e3 a2 a3 a4
 have a5 : Qhe k x = 0 := by simpa using a1
 have a6 : Qke r n = 0 := by simpa using a4
 rcases Qhd (k : Int) x with h4 | ⟨_, h5, h6, h7⟩
 ·omega
 have hle : n * k ≤ 4000 := by
  have h8 : (n : Int) ≤ 4000 / (k : Int) := by omega
  have h9 := Int.mul_le_of_le_ediv (a := (n : Int)) (b := 4000) (c := (k : Int)) (by omega) h8
  have h10 : ((n * k : Nat) : Int) ≤ 4000 := by rw [Int.natCast_mul]; exact h9
  omega
 have hn4 : n ≤ 4000 := qH (ja n (by omega)) hle
 refine ⟨k, n, rfl, by omega, by omega, e3.symm, ?_, by omega⟩
 unfold Qke at a6
 split at a6
 ·cases a6
 split at a6
 ·cases a6
 split at a6
 ·cases a6
 rename_i b1 b2 b3
 refine ⟨by omega, by omega, by omega, by omega, ?_⟩
 have hlong : 1 ≤ Qw r := Xt r
 obtain ⟨L, hLe⟩ : ∃ L : Nat, Qw r = L := ⟨(Qw r).toNat, by omega⟩
 rw [hLe, qt, qt, Z5]
 rw [hLe] at b3
 have h1 : (n : Int) + (L : Int) - 1 = ((n - 1 + L : Nat) : Int) := by omega
 rw [h1, ← yY, jb _ (by omega)] at b3
 omega
def Qda : List Int := List.replicate 16 0
theorem RepL.split {X : Cx} : ∀ {cs bs : List AV} {vs : List Value}, RepL X (cs ++ bs) vs → ∃ us ws, vs = us ++ ws ∧ RepL X cs us ∧ RepL X bs ws
 | [], bs, vs, h => ⟨[], vs, rfl, by simp [RepL], h⟩
 | a :: cs, bs, vs, h => by
  simp only [qW, RepL] at h
  obtain ⟨v, rest, rfl, h1, h2⟩ := h
  obtain ⟨us, ws, rfl, h3, h4⟩ := RepL.split h2
  exact ⟨v :: us, ws, rfl, by simp only [RepL]; exact ⟨v, us, rfl, h1, h3⟩, h4⟩
def ph3 : Ob := ⟨1, 1, 0, [], 0⟩
theorem Held.fill {B : Nat} {w : World} {ob : List Ob} {be : List (Option (Nat × Nat))} {C : Nat → Nat → Prop} {o : Nat} (g : Held B ⟨w, ob, be, C⟩) (ho : ob[o]? = some ph2) :
  Held B ⟨w, ob.set o ph3, be.set o none, C⟩ ∧ Moves ⟨w, ob, be, C⟩ ⟨w, ob.set o ph3, be.set o none, C⟩ := by
 have hol : o < ob.length := (qb.1 ho).1
 have hlen : be.length = ob.length := g.len
 have hav : ∀ b k, (Cx.mk w (ob.set o ph3) (be.set o none) C).av b k → (Cx.mk w ob be C).av b k := by
  rintro b k (h | ⟨o', x, c, h1, h2, h3⟩)
  ·exact .inl h
  ·simp only [qq] at h1 h2
   by_cases e : o = o'
   ·subst e; simp [hlen, hol] at h2
   ·simp [e] at h1 h2
    exact .inr ⟨o', x, c, h1, h2, h3⟩
 have m : Moves ⟨w, ob, be, C⟩ ⟨w, ob.set o ph3, be.set o none, C⟩ := by
  refine ⟨fun b k v hc ha => ⟨hc, fun h => ha (hav b k h)⟩, fun o' x hx => ?_, fun b hb hf => ⟨rfl, fun o' c h => ?_⟩⟩
  ·by_cases e : o = o'
   ·subst e
    have hx' : ob[o]? = some x := hx
    rw [ho] at hx'; cases hx'
    exact ⟨ph3, by simp [hol], qg _, fun h => absurd rfl h⟩
   ·exact ⟨x, by simp only [qq, e, yS]; exact hx, qg _, fun h => ⟨h, fun _ => by simp only [qq, e, yS]⟩⟩
  ·simp only [qq] at h
   by_cases e : o = o'
   ·subst e; simp [hlen, hol] at h
   ·simp [e] at h; exact hf o' c h
 refine ⟨⟨by simp [hlen], fun o' x e' hx he => ?_, fun o1 o2 b c c' q1 q2 => ?_, fun o1 b c q => ?_, g.bnd, g.size⟩, m⟩
 ·simp only [qq] at hx he
  by_cases e : o = o'
  ·subst e
   simp [hlen, hol] at hx he
   subst hx; subst he
   exact ⟨rfl, rfl⟩
  ·simp [e] at hx he
   exact (g.ok o' x e' hx he).move m fun _ _ _ => rfl
 ·simp only [qq] at q1 q2
  by_cases e : o = o1
  ·subst e; simp [hlen, hol] at q1
  ·by_cases e2 : o = o2
   ·subst e2; simp [hlen, hol] at q2
   ·simp [e] at q1; simp [e2] at q2
    exact g.inj o1 o2 b c c' q1 q2
 ·simp only [qq] at q
  by_cases e : o = o1
  ·subst e; simp [hlen, hol] at q
  ·simp [e] at q; exact g.base o1 b c q
theorem ACall.fill {P : Prg} {f : FuncId} {avs : List AV} {r : AV} {ob : List Ob} {o : Nat} (ho : ob[o]? = some ph2) (h : ACall P f avs ob (fun r' ob' => r' = r ∧ ob' = ob)) : ACall P f avs ob (fun r' ob' => r' = r ∧ ob' = ob.set o ph3) := by
 obtain ⟨hE, h⟩ := h
 refine ⟨hE, fun B w be C vs g hG hr => (h B w be C vs g hG hr).mono ?_⟩
 rintro e w' ⟨v, r', ob', be', rfl, hb, hh, hm, hv, rfl, rfl⟩
 obtain ⟨g1, m1⟩ := hh.fill ho
 exact ⟨v, r', _, _, rfl, hb, g1, hm.trans m1, Rep.move m1 _ _ hv, rfl, rfl⟩
theorem XN.own {P : Prg} {B : Nat} {Q : Exit → St → Prop} {f : FuncId} {avs : List AV} {r : AV} {ob : List Ob} (o : Nat) (he : Enters P f) (h : ∀ ob', ob'[o]? = some ph2 → ACall P f avs ob' (fun r' ob'' => r' = r ∧ ob'' = ob')) (ho : ob[o]? = some ph2)
  {xs : List It} {fr : List (Nat × AV)} {dst : Option Nat} (hK : XU P B xs Q ⟨QQ fr dst r, ob.set o ph3⟩) : XN P B false 0 f avs xs Q fr ob dst := by
 refine XN.at (r := r) o ph3 he (fun ob' h' => ACall.fill h' (h ob' h')) ho (by decide) ?_
 simp only [app, qE (qb.1 ho).1]
 exact hK
theorem callE.vo {P : Prg} {B k : Nat} {Q : Exit → St → Prop} {f : FuncId} {ds : List AV} {r : AV} {x : Ob} (h : VO P f ds r x) {ob : List Ob} (o : Nat) (ho : ob[o]? = some ph2) {xs : List It} {fr : List (Nat × AV)} {dst : Option Nat} (hK : XU P B xs Q ⟨QQ fr dst (shr o r), ob.set o x⟩) : XN P B true k f ds xs Q fr ob dst := by
 have hl : o < ob.length := (qb.1 ho).1
 have ha : app ob (some (o, x)) = ob.set o x := by simp [app, hl]
 refine ⟨shr o r, some (o, x), ?_, by rw [ha]; exact hK⟩
 unfold Zx
 rw [qE rfl]
 refine ⟨ACall.of_vo_at h ho ⟨rfl, by rw [ha]⟩, fun o' y e => ?_⟩
 cases e
 exact ⟨ph2, ho, by simp [ph2, ph]⟩
def QhQ : Int → List Int → Prop
 | _, [] => True
 | m, n :: l => 5 ≤ n ∧ n ≤ m ∧ QhQ (m - n) l
instance decSk : ∀ (m : Int) (l : List Int), Decidable (QhQ m l)
 | _, [] => isTrue trivial
 | m, n :: l => by
  unfold QhQ
  have := decSk (m - n) l
  exact inferInstance
def skN (l : List Int) : Int := if l.length = 0 ∨ 1000 < l.length then 8 else if QhQ 100000 l then 0 else 8
def skL (m : Int) (l : List Int) : Nat → Int
 | 0 => m
 | k + 1 => skL m l k - l.getD k 0
theorem Qmz (l : List Int) : ∀ (m : Int) , QhQ m l ↔ ∀ k, k < l.length → 5 ≤ l.getD k 0 ∧ l.getD k 0 ≤ skL m l k := by
 induction l with
 | nil => intro m; simp [QhQ]
 | cons n l ih =>
  intro m
  have e : ∀ k, skL m (n :: l) (k + 1) = skL (m - n) l k := fun k => by
   induction k with
   | zero => simp [skL]
   | succ k ih2 =>
    show skL m (n :: l) (k + 1) - (n :: l).getD (k + 1) 0 = skL (m - n) l k - l.getD k 0
    rw [ih2]; rfl
  rw [QhQ, ih]
  constructor
  ·rintro ⟨h1, h2, h3⟩ k hk
   match k with
   | 0 => exact ⟨h1, h2⟩
   | k + 1 =>
    rw [e]
    exact h3 k (by simpa using hk)
  ·intro h
   refine ⟨(h 0 (by simp)).1, (h 0 (by simp)).2, fun k hk => ?_⟩
   have := h (k + 1) (by simpa using hk)
   rw [e] at this
   exact this
def Jf (P : Prg) (f : Nat) : Prop := ∀ l : List Int, l.length ≤ 1000000 → (∀ v ∈ l, -9223372036854775808 ≤ v ∧ v ≤ 9223372036854775807) → VC P f [QL l] (.int .i64 (skN l))
theorem Qh7 {P : Prg} {f : Nat} (bd : Body P f 31 [.tmp 2] Zc) : Jf P f := by
 intro l hl hv
 refine ZR (by simp [isDL, Xh]) rfl bd ?_
 by_cases h1 : l.length = 0 ∨ 1000 < l.length
 ·have e8 : skN l = 8 := by rw [skN, qE h1]
  rw [e8]
  rcases h1 with h1 | h1
  ·simp (disch := omega) only [rq, simprocAttr, Zc, QL]
  ·by_cases h0 : l.length = 0
   ·omega
   ·simp (disch := omega) only [rq, simprocAttr, Zc, QL]
 have e8 : skN l = if QhQ 100000 l then 0 else 8 := by rw [skN, qz h1]
 rw [e8]
 clear e8
 have hiff := Qmz l 100000
 have kl : (ks .i64 l).length = l.length := QD _ _
 have h0 : ¬ l.length = 0 := by omega
 simp (disch := omega) only [rq, simprocAttr, Zc, QL]
 refine Zq (ι := Nat) (fun k => ⟨[(16, .int .i64 k), (15, .int .i64 l.length), (14, .list l.length (ks .i64 l)), (3, .int .i64 (skL 100000 l k))], []⟩) (fun k => k ≤ l.length ∧ (∀ j, j < k → 5 ≤ l.getD j 0 ∧ l.getD j 0 ≤ skL 100000 l j) ∧ 0 ≤ skL 100000 l k ∧ skL 100000 l k ≤ 100000) (fun k => l.length - k) 0 (Jw (by simp [Am.look, skL])) ⟨by omega, by omega, by simp [skL], by simp [skL]⟩ ?_
 rintro k ⟨hk, ha, hb, hc⟩
 by_cases hlt : k < l.length
 ·have e1 : (ks .i64 l).drop k = .int .i64 (l.getD k 0) :: (ks .i64 l).drop (k + 1) := by
   have h := Qj0 (K := .i64) (l := l) (i := k) hlt
   rw [← QaX] at h
   exact h
  have hr := hv (l.getD k 0) (by rw [qh, qd hlt]; exact yf _)
  have hs : skL 100000 l (k + 1) = skL 100000 l k - l.getD k 0 := rfl
  by_cases g1 : l.getD k 0 < 5
  ·have hn : ¬ QhQ 100000 l := fun h => by have := (hiff.1 h k hlt).1; omega
   rw [qz hn]
   generalize l.getD k 0 = v at *
   simp (disch := omega) only [rq, simprocAttr, e1, kl]
  ·by_cases g2 : skL 100000 l k < l.getD k 0
   ·have hn : ¬ QhQ 100000 l := fun h => by have := (hiff.1 h k hlt).2; omega
    rw [qz hn]
    generalize l.getD k 0 = v at *
    simp (disch := omega) only [rq, simprocAttr, e1, kl]
   ·have ha' : ∀ j, j < k + 1 → 5 ≤ l.getD j 0 ∧ l.getD j 0 ≤ skL 100000 l j := fun j hj => by
     by_cases e : j = k
     ·subst e; omega
     ·exact ha j (by omega)
    generalize l.getD k 0 = v at *
    generalize skL 100000 l k = m at *
    simp (disch := omega) only [rq, simprocAttr, e1, kl]
    refine ⟨k + 1, ⟨by omega, ha', by omega, by omega⟩, by omega, ?_⟩
    simp only [hs]
    exact QA
 ·have ek : k = l.length := by omega
  subst ek
  rw [qE (hiff.2 ha)]
  simp (disch := omega) only [rq, simprocAttr]
def hdA (f c b r n : Int) : AV := .agg [.int .i64 f, .int .i64 c, .int .i64 b, .int .i64 r, .int .i64 n]
def shP (f c b r n : Int) : Prop := (b = 8 ∨ b = 16 ∨ b = 24) ∧ (f = 1 ∨ f = 2) ∧ 1 ≤ c ∧ c ≤ 6 ∧ 1 ≤ r ∧ r ≤ 1048576 ∧ 1 ≤ n
instance decShP (f c b r n : Int) : Decidable (shP f c b r n) := by unfold shP; exact inferInstance
def J8 (P : Prg) (g : Nat) : Prop := ∀ f c b r n : Int, VC P g [hdA f c b r n] (.bool (decide (shP f c b r n)))
theorem Qfv {P : Prg} {g t0 : Nat} (bd : Body P g 44 [.tmp 2] (Qr t0)) : J8 P g := by
 intro f c b r n
 refine ZR rfl rfl bd ?_
 by_cases hb : b = 8 ∨ b = 16 ∨ b = 24
 case neg =>
  have hn : decide (shP f c b r n) = false := decide_eq_false fun h => hb h.1
  rw [hn]
  simp (disch := omega) only [rq, simprocAttr, Qr, hdA]
 by_cases hf : f = 1 ∨ f = 2
 case neg =>
  have hn : decide (shP f c b r n) = false := decide_eq_false fun h => hf h.2.1
  rw [hn]
  rcases hb with rfl | rfl | rfl <;> simp (disch := omega) only [rq, simprocAttr, Qr, hdA]
 by_cases hc1 : 1 ≤ c
 case neg =>
  have hn : decide (shP f c b r n) = false := decide_eq_false fun h => hc1 h.2.2.1
  rw [hn]
  rcases hb with rfl | rfl | rfl <;> rcases hf with rfl | rfl <;> simp (disch := omega) only [rq, simprocAttr, Qr, hdA]
 by_cases hc2 : c ≤ 6
 case neg =>
  have hn : decide (shP f c b r n) = false := decide_eq_false fun h => hc2 h.2.2.2.1
  rw [hn]
  rcases hb with rfl | rfl | rfl <;> rcases hf with rfl | rfl <;> simp (disch := omega) only [rq, simprocAttr, Qr, hdA]
 by_cases hr1 : 1 ≤ r
 case neg =>
  have hn : decide (shP f c b r n) = false := decide_eq_false fun h => hr1 h.2.2.2.2.1
  rw [hn]
  rcases hb with rfl | rfl | rfl <;> rcases hf with rfl | rfl <;> simp (disch := omega) only [rq, simprocAttr, Qr, hdA]
 by_cases hr2 : r ≤ 1048576
 case neg =>
  have hn : decide (shP f c b r n) = false := decide_eq_false fun h => hr2 h.2.2.2.2.2.1
  rw [hn]
  rcases hb with rfl | rfl | rfl <;> rcases hf with rfl | rfl <;> simp (disch := omega) only [rq, simprocAttr, Qr, hdA]
 by_cases hn1 : 1 ≤ n
 case neg =>
  have hn : decide (shP f c b r n) = false := decide_eq_false fun h => hn1 h.2.2.2.2.2.2
  rw [hn]
  rcases hb with rfl | rfl | rfl <;> rcases hf with rfl | rfl <;> simp (disch := omega) only [rq, simprocAttr, Qr, hdA]
 have hn : decide (shP f c b r n) = true := decide_eq_true ⟨hb, hf, hc1, hc2, hr1, hr2, hn1⟩
 rw [hn]
 rcases hb with rfl | rfl | rfl <;> rcases hf with rfl | rfl <;> simp (disch := omega) only [rq, simprocAttr, Qr, hdA]
def Qjp (c r n : Int) : Prop := n ≤ 4000 / c ∧ Qke r n = 0
instance decFitP (c r n : Int) : Decidable (Qjp c r n) := by unfold Qjp; exact inferInstance
theorem QlR {r n : Int} (h : Qke r n = 0) : ∃ k : Int, Qhf r n = .tup [.int .i64 k, .int .i64 0] ∧ 0 ≤ k ∧ k ≤ 1000 := by
 unfold Qke at h
 unfold Qhf
 split at h
 ·cases h
 rename_i a1
 split at h
 ·cases h
 rename_i a2
 split at h
 ·cases h
 rename_i a3
 rw [qz a1, qz a2, qz a3]
 have := Xt r
 exact ⟨_, rfl, jg (by omega) (by omega), by omega⟩
def Qmd (P : Prg) (g : Nat) : Prop := ∀ f c b r n : Int, 1 ≤ c → c ≤ 6 → VC P g [hdA f c b r n] (.bool (decide (Qjp c r n)))
theorem Qiq {P : Prg} {g fC t0 : Nat} (bd : Body P g 25 [.tmp 2] (Zd fC t0)) (hC : Qb0 P fC) : Qmd P g := by
 intro f c b r n c1 c2
 refine ZR rfl rfl bd ?_
 have hC' := hC r n
 have q0 : ¬ c = 0 := by omega
 have q1 : (4000 : Int).tdiv c = 4000 / c := yh (by omega)
 have q2 : 0 ≤ 4000 / c := jg (by omega) (by omega)
 have q3 : 4000 / c ≤ 4000 := yX _ (by omega)
 by_cases h1 : n ≤ 4000 / c
 case neg =>
  have hn : decide (Qjp c r n) = false := decide_eq_false fun h => h1 h.1
  rw [hn]
  generalize hQ : 4000 / c = Q at *
  have hw : IntKind.i64.wrap Q = Q := JY (by omega) (by omega)
  simp (disch := omega) only [rq, simprocAttr, Zd, hdA, q1, hQ, hw]
 by_cases h2 : Qke r n = 0
 ·have hn : decide (Qjp c r n) = true := decide_eq_true ⟨h1, h2⟩
  rw [hn]
  obtain ⟨k, e, k1, k2⟩ := QlR h2
  rw [e] at hC'
  generalize hQ : 4000 / c = Q at *
  have hw : IntKind.i64.wrap Q = Q := JY (by omega) (by omega)
  simp (disch := omega) only [rq, simprocAttr, Zd, hdA, q1, hQ, hw]
  refine Qa hC' ?_
  simp (disch := omega) only [rq, simprocAttr]
 ·have hn : decide (Qjp c r n) = false := decide_eq_false fun h => h2 h.2
  rw [hn]
  obtain ⟨k, e⟩ := Qm7 r n
  rw [e] at hC'
  generalize hQ : 4000 / c = Q at *
  have hw : IntKind.i64.wrap Q = Q := JY (by omega) (by omega)
  generalize Qke r n = E at *
  simp (disch := omega) only [rq, simprocAttr, Zd, hdA, q1, hQ, hw]
  refine Qa hC' ?_
  simp (disch := omega) only [rq, simprocAttr]
def hdN (f c b r n : Int) : Int := if shP f c b r n ∧ Qjp c r n then 0 else 8
def Jg (P : Prg) (g : Nat) : Prop := ∀ f c b r n : Int, VC P g [hdA f c b r n] (.int .i64 (hdN f c b r n))
theorem Qg1 {P : Prg} {g fS fF t0 : Nat} (bd : Body P g 11 [.tmp 2] (Q5 fS fF t0)) (hS : J8 P fS) (hF : Qmd P fF) : Jg P g := by
 intro f c b r n
 refine ZR rfl rfl bd ?_
 have hS' := hS f c b r n
 by_cases h1 : shP f c b r n
 case neg =>
  have e : hdN f c b r n = 8 := by rw [hdN, qz fun h => h1 h.1]
  rw [decide_eq_false h1] at hS'
  rw [e]
  rw [hdA] at hS' ⊢
  simp (disch := omega) only [rq, simprocAttr, Q5]
  refine Qa hS' ?_
  simp (disch := omega) only [rq, simprocAttr]
 have hF' := hF f c b r n h1.2.2.1 h1.2.2.2.1
 rw [decide_eq_true h1] at hS'
 by_cases h2 : Qjp c r n
 ·have e : hdN f c b r n = 0 := by rw [hdN, qE ⟨h1, h2⟩]
  rw [decide_eq_true h2] at hF'
  rw [e]
  rw [hdA] at hS' hF' ⊢
  simp (disch := omega) only [rq, simprocAttr, Q5]
  iterate 2 (refine Qa (by assumption) ?_; simp (disch := omega) only [rq, simprocAttr])
 ·have e : hdN f c b r n = 8 := by rw [hdN, qz fun h => h2 h.2]
  rw [decide_eq_false h2] at hF'
  rw [e]
  rw [hdA] at hS' hF' ⊢
  simp (disch := omega) only [rq, simprocAttr, Q5]
  iterate 2 (refine Qa (by assumption) ?_; simp (disch := omega) only [rq, simprocAttr])
def hdP (f c b r n : Nat) : Nat → List UInt8
 | 0 => [84, 84, 65, 49]
 | 1 => [84, 84, 65, 49] ++ leB f 2
 | 2 => [84, 84, 65, 49] ++ leB f 2 ++ leB c 2
 | 3 => [84, 84, 65, 49] ++ leB f 2 ++ leB c 2 ++ leB b 2
 | 4 => [84, 84, 65, 49] ++ leB f 2 ++ leB c 2 ++ leB b 2 ++ leB r 4
 | _ => [84, 84, 65, 49] ++ leB f 2 ++ leB c 2 ++ leB b 2 ++ leB r 4 ++ leB n 4
def hdB (f c b r n : Nat) : List UInt8 := QpH (hdP f c b r n 5)
theorem Qlx (f c b r n : Int) : hdN f c b r n = 0 ∨ hdN f c b r n = 8 := by unfold hdN; split <;> simp
def Qga (P : Prg) (f : Nat) : Prop := ∀ r : Int, 1 ≤ r → r ≤ 1048576 → VC P f [.int .i64 r] (.int .i64 (Qw r))
theorem QjT {P : Prg} {f : Nat} (bd : Body P f 7 [.tmp 2] Q1) : Qga P f := by
 intro r h1 h2
 refine ZR rfl rfl bd ?_
 have h3 : (256 * r).tdiv 245 = 256 * r / 245 := yh (by omega)
 have hX : 1 ≤ 256 * r / 245 := by omega
 have hl : Qw r = 256 * r / 245 := by unfold Qw; rw [qz (by omega)]
 rw [hl]
 by_cases hx : 1 < 256 * r / 245
 ·simp (disch := omega) only [rq, simprocAttr, Q1, h3]
 ·have hy : 256 * r / 245 = 1 := by omega
  rw [hy] at h3 hl ⊢
  simp (disch := omega) only [rq, simprocAttr, Q1, h3, hy]
def QpN (r : Int) (m : Nat) : Prop := 1 ≤ r ∧ r ≤ 1048576 ∧ 1 ≤ m ∧ m ≤ 4000
def QbW (P : Prg) (f : Nat) : Prop := ∀ (r : Int) (m : Nat), QpN r m → VC P f [.int .i64 r, .int .i64 m] (QL (QJ (Qw r).toNat m))
theorem Qif {P : Prg} {f fL t0 : Nat} (bd : Body P f 22 [.tmp 4] (Zm fL t0)) (hL : Qga P fL) : QbW P f := by
 intro r m ⟨o1, o2, o3, o4⟩
 refine QT 1 rfl (Xh _) (Ql bd (by simp) ?_)
 have hL' := hL r o1 o2
 have p1 := Xt r
 have p2 := Qjh (r := r) o2
 generalize Qw r = Li at *
 obtain ⟨L, rfl⟩ : ∃ L : Nat, Li = L := ⟨Li.toNat, by omega⟩
 rw [qt]
 have g1 : (m - 1) / L * L ≤ m - 1 := Nat.div_mul_le_self _ _
 have g2 : m - 1 < ((m - 1) / L + 1) * L := by
  have := Nat.lt_div_mul_add (a := m - 1) (b := L) (by omega)
  rw [yb, yQ]; omega
 rw [yb, yQ] at g2
 have g3 : (m - 1) / L ≤ m - 1 := Nat.div_le_self _ _
 have ll := Z5 L m
 have lf : QJ L m = List.replicate ((m - 1) / L) (L : Int) ++ [(m : Int) - ((m - 1) / L * L : Nat)] := rfl
 have tl := QK .i64 (QJ L m)
 rw [QL, ll]
 generalize hq : (m - 1) / L = q at *
 simp (disch := omega) only [rq, simprocAttr, Zm]
 refine Zq (ι := Option Nat) (fun i => match i with
   | some k => ⟨[(6, .int .i64 ((m : Int) - (k * L : Nat))), (5, .own 0 k), (0, .int .i64 r)], [⟨t0, 1, k, ks .i64 (List.replicate k (L : Int)), 0⟩]⟩
   | none => ⟨[(6, .int .i64 ((m : Int) - (q * L + L : Nat))), (5, .own 0 (q + 1)), (0, .int .i64 r)], [⟨t0, 1, q + 1, ks .i64 (QJ L m), 0⟩]⟩)
  (fun i => match i with | some k => k ≤ q | none => True) (fun i => match i with | some k => q - k + 1 | none => 0) (some 0)
  (by simp only [Nat.zero_mul]; exact Le.trans (Qmi 5 t0 1 (by omega) rfl) (QA)) (by simp) ?_
 intro i hi
 cases i with
 | some k =>
  simp only at hi
  dsimp only
  have g4 : k * L ≤ q * L := qu L hi
  have lr : (List.replicate k (L : Int)).length = k := by simp
  have lk : (ks .i64 (List.replicate k (L : Int))).length = k := by rw [QD, lr]
  by_cases hk : k < q
  ·have g5 : (k + 1) * L ≤ q * L := qu L (by omega)
   rw [yb, yQ] at g5
   have hmn : (k + 1) * L = k * L + L := by rw [yb, yQ]
   generalize k * L = kL at *
   generalize q * L = qL at *
   simp (disch := omega) only [rq, simprocAttr]
   refine Qa hL' ?_
   simp (disch := omega) only [rq, simprocAttr, QnS, QmF, lr]
   refine Qa hL' ?_
   simp (disch := omega) only [rq, simprocAttr]
   have ef : (m : Int) - (kL : Int) - (L : Int) = (m : Int) - ((kL + L : Nat) : Int) := by omega
   rw [ef, ← hmn]
   exact ⟨some (k + 1), by simp only; omega, by simp only; omega, Qb1 [_] (by simp [QK]) (by simp [Am.look, Zf, frzL, Q6])⟩
  ·obtain rfl : k = q := by omega
   have hcat : ks .i64 (List.replicate k (L : Int)) ++ [.int .i64 ((m : Int) - (k * L : Nat))] = ks .i64 (QJ L m) := by rw [lf]; simp [ks]
   generalize k * L = kL at *
   simp (disch := omega) only [rq, simprocAttr]
   refine Qa hL' ?_
   simp (disch := omega) only [rq, simprocAttr, lk, hcat]
   refine Qa hL' ?_
   simp (disch := omega) only [rq, simprocAttr]
   have ef : (m : Int) - (kL : Int) - (L : Int) = (m : Int) - ((kL : Int) + (L : Int)) := by omega
   rw [ef]
   exact ⟨none, trivial, by simp only; omega, Qb1 [_] (by simp [QK]) (by simp [Am.look, Zf, frzL, Q6])⟩
 | none =>
  dsimp only
  simp (disch := omega) only [rq, simprocAttr]
  simp [Z6, Zf, frzL, Q6, frzL_T _ tl]
def Qn4 (f c b r n : Int) : AV := if hdN f c b r n = 0 then .tup [QL (QJ (Qw r).toNat n.toNat), .int .i64 0] else .tup [.list 0 [], .int .i64 8]
theorem Qn1 (f c b r n : Int) : isD (Qn4 f c b r n) = true := by unfold Qn4; split <;> simp [isD, isDL, Xh]
theorem Qnp {f c b r n : Int} (h : hdN f c b r n = 0) : ∃ m : Nat, n = m ∧ okA r m := by
 unfold hdN at h
 split at h
 case isFalse => cases h
 rename_i h1
 obtain ⟨⟨a1, a2, a3, a4, a5, a6, a7⟩, b1, b2⟩ := h1
 have q3 : 4000 / c ≤ 4000 := yX _ (by omega)
 obtain ⟨m, rfl⟩ : ∃ m : Nat, n = m := ⟨n.toNat, by omega⟩
 refine ⟨m, rfl, by omega, by omega, by omega, by omega, ?_⟩
 unfold Qke at b2
 rw [qz (by omega), qz (by omega)] at b2
 split at b2
 ·cases b2
 rename_i b3
 have hlong : 1 ≤ Qw r := Xt r
 obtain ⟨L, hLe⟩ : ∃ L : Nat, Qw r = L := ⟨(Qw r).toNat, by omega⟩
 rw [hLe, qt, qt, Z5]
 rw [hLe] at b3
 have h1 : (m : Int) + (L : Int) - 1 = ((m - 1 + L : Nat) : Int) := by omega
 rw [h1, ← yY, jb _ (by omega)] at b3
 omega
def Qck (P : Prg) (g : Nat) : Prop := ∀ f c b r n : Int, VC P g [hdA f c b r n] (Qn4 f c b r n)
theorem Qfw {P : Prg} {g fC fL t0 ti : Nat} (bd : Body P g 17 [.tmp 2, .tmp 3] (Zb fC fL t0)) (hC : Jg P fC) (hL : QjB ti P fL) : Qck P g := by
 intro f c b r n
 refine QT 1 rfl (Qn1 _ _ _ _ _) (Ql bd (by simp) ?_)
 have hC' := hC f c b r n
 rw [hdA] at hC' ⊢
 rcases Qlx f c b r n with h | h
 ·rw [h] at hC'
  rw [Qn4, qE h]
  obtain ⟨m, rfl, hok⟩ := Qnp h
  have hL' := hL r m hok
  have tl := QK .i64 (QJ (Qw r).toNat m)
  rw [qt] at hL' ⊢
  rw [QL]
  generalize QJ (Qw r).toNat m = LL at *
  simp (disch := omega) only [rq, simprocAttr, Zb]
  refine Qa hC' ?_
  simp (disch := omega) only [rq, simprocAttr]
  refine Qa0.vo hL' ?_
  simp (disch := omega) only [rq, simprocAttr, shr]
  simp [Z6, Zf, frzL, Q6, frzL_T _ tl]
 ·rw [h] at hC'
  rw [Qn4, qz (by omega)]
  simp (disch := omega) only [rq, simprocAttr, Zb]
  refine Qa hC' ?_
  simp (disch := omega) only [rq, simprocAttr]
  simp [Z6, Zf, frzL, Q6]
def Qmb (P : Prg) (f : Nat) : Prop := ∀ s t : List UInt8, s.length ≤ 1000000 → t.length ≤ 1000000 → VC P f [.str s, .str t] (.bool (s.take t.length == t))
theorem QgC {P : Prg} {f : Nat} (bd : Body P f 18 [.tmp 4] Qj) : Qmb P f := by
 intro s t hs ht
 refine ZR rfl rfl bd ?_
 by_cases h : t.length ≤ s.length
 ·have hs1 : Qgy .eql (s.take t.length) t = some (.bool (s.take t.length == t)) := rfl
  simp (disch := omega) only [rq, simprocAttr, Qj, hs1]
 ·have : (s.take t.length == t) = false := yx.2 fun e => by
   have := congrArg List.length e
   rw [qX] at this
   omega
  rw [this]
  simp (disch := omega) only [rq, simprocAttr, Qj]
def QjA (P : Prg) (f : Nat) : Prop := ∀ s t : List UInt8, s.length ≤ 1000000 → t.length ≤ 1000000 → VC P f [bs s, bs t] (.bool (s.take t.length == t))
theorem QdF {P : Prg} {f fE : Nat} (bd : Body P f 18 [.tmp 4] (Zi fE)) (hE : Qf7 P fE) : QjA P f := by
 intro s t hs ht
 refine ZR (by simp [isDL, Qaq]) rfl bd ?_
 by_cases h : t.length ≤ s.length
 ·have hE' := hE (s.take t.length) t
  have hl : (s.take t.length).length = t.length := by rw [qX]; omega
  have hu : (u8 s).take t.length = u8 (s.take t.length) := Qnz _ _
  rw [bs, bs, hl] at hE'
  simp only [bs]
  simp (disch := omega) only [rq, simprocAttr, Zi, hu, yJ]
  refine Qa hE' ?_
  simp (disch := omega) only [rq, simprocAttr]
 ·have : (s.take t.length == t) = false := yx.2 fun e => by
   have := congrArg List.length e
   rw [qX] at this
   omega
  rw [this]
  simp only [bs]
  simp (disch := omega) only [rq, simprocAttr, Zi]
def Qoq (b : List UInt8) : Prop := b.length ≤ 1000000 ∧ (b.take 3 == [73, 68, 51]) = false ∧ (b.take 8 == [65, 80, 69, 84, 65, 71, 69, 88]) = false
def XQ (P : Prg) (f : Nat) : Prop := ∀ b, Qoq b → VC P f [bs b] (.tup [.int .i64 0, .int .i64 6])
theorem QgZ {P : Prg} {f fH fV fS fE t0 : Nat} (bd : Body P f 78 [.tmp 2, .tmp 3] (XA fH fV fS fE t0)) (hH : QjA P fH) : XQ P f := by
 intro b ⟨h1, h2, h3⟩
 refine ZR (by simp [isDL, Qaq]) rfl bd ?_
 have hH' := hH b [73, 68, 51] h1 (by simp)
 rw [show ([73, 68, 51] : List UInt8).length = 3 from rfl, h2] at hH'
 have hH2 : VC P fH [.list b.length (u8 b), .list 3 [.int .u8 73, .int .u8 68, .int .u8 51]] (.bool false) := hH'
 simp only [bs]
 simp (disch := omega) only [rq, simprocAttr, XA]
 refine ZW 1 [0] hH2 (by simp [Z6, Zf, frzL, Q6, isDL, isD, frzL_T _ (Qls b)]) ?_
 simp (disch := omega) only [rq, simprocAttr, Qe]
theorem Ql9 {P : Prg} {f fH fT fN fE t0 t1 : Nat} (bd : Body P f 43 [.tmp 2, .tmp 3] (JX fH fT fN fE t0 t1)) (hH : QjA P fH) : XQ P f := by
 intro b ⟨h1, h2, h3⟩
 refine ZR (by simp [isDL, Qaq]) rfl bd ?_
 have hH' := hH b [65, 80, 69, 84, 65, 71, 69, 88] h1 (by simp)
 rw [show ([65, 80, 69, 84, 65, 71, 69, 88] : List UInt8).length = 8 from rfl, h3] at hH'
 have hH2 : VC P fH [.list b.length (u8 b), .list 8 [.int .u8 65, .int .u8 80, .int .u8 69, .int .u8 84, .int .u8 65, .int .u8 71, .int .u8 69, .int .u8 88]] (.bool false) := hH'
 simp only [bs]
 simp (disch := omega) only [rq, simprocAttr, JX]
 refine ZW 1 [0] hH2 (by simp [Z6, Zf, frzL, Q6, isDL, isD, frzL_T _ (Qls b)]) ?_
 simp (disch := omega) only [rq, simprocAttr, Qe]
theorem QjI {P : Prg} {f fI fA : Nat} (bd : Body P f 19 [.tmp 2, .tmp 3] (Js fI fA)) (hI : XQ P fI) (hA : XQ P fA) : XQ P f := by
 intro b h
 refine ZR (by simp [isDL, Qaq]) rfl bd ?_
 have hI' := hI b h
 have hA' := hA b h
 rw [bs] at hI' hA' ⊢
 simp (disch := omega) only [rq, simprocAttr, Js]
 iterate 2 (refine Qa (by assumption) ?_; simp (disch := omega) only [rq, simprocAttr])
def QiT (g : Nat) (P : Prg) (f : Nat) : Prop := ∀ b : List UInt8, VC P f [bs b] (.fn (.func g) [] [.cell [bs b]])
theorem QjH {P : Prg} {f g t0 : Nat} (bd : Body P f 4 [.tmp 2] (Jr g t0)) : QiT g P f := by
 intro b
 refine QT 1 (by simp [isDL, Qaq]) (by simp [isD, isDL, Qaq]) (Ql bd (by simp) ?_)
 have tb := Qls b
 simp (disch := omega) only [rq, simprocAttr, Jr, bs]
 simp [Z6, Zf, frzL, Q6, frzL_T _ tb]
theorem Qh0 {P : Prg} {f fS : Nat} (bd : Body P f 35 [] (ZM fS)) (hS : XQ P fS) {b : List UInt8} (h : Qoq b) : ACall P f [.any, .cell [bs b]] [] (fun _ _ => True) := by
 refine Ql bd (by simp) ?_
 have hS' := hS b h
 rw [bs] at hS' ⊢
 simp (disch := omega) only [rq, simprocAttr, ZM]
 refine Zq (ι := Unit) (fun _ => ⟨[(3, .int .i64 0), (1, .cell [.list b.length (u8 b)])], []⟩) (fun _ => True) (fun _ => 0) () (QA) trivial ?_
 intro _ _
 have hub : (u8 b).take b.length = u8 b := qU (by rw [Qgw]; omega)
 simp (disch := omega) only [rq, simprocAttr, List.drop_zero, yJ, Int.sub_zero, hub]
 refine Qa hS' ?_
 simp (disch := omega) only [rq, simprocAttr]
def XB (fT t0 t1 : Nat) : RC0 := ⟨[.reg [zs 2 (.alloc t0 [.int .i64 0]), zs 3 (.alloc t1 [.int .i64 0])], .reg [zs 4 (.alloc t0 [.int .i64 0]), zu (.store 1 (.tmp 4) (.const (.int .i64 0)))]], 8, .reg [zm 7 0, zq 8 fT [(.tmp 7)]], .seq (.reg [zl 17 4, zw 1 2 17, zu (.store 1 (.tmp 3) (.const (.int .i64 0)))]) (.ret)⟩
def Qgc (P : Prg) (f : Nat) : Prop := ∀ b, Qoq b → VC P f [bs b] (.tup [.int .i64 0, .int .i64 0])
theorem Qh1 {P : Prg} {f fT g fS t0 t1 : Nat} (bd : Qmj P f 18 [.cell 2 t0, .cell 3 t1] (XB fT t0 t1)) (hT : QiT g P fT) (bG : Body P g 35 [] (ZM fS)) (hS : XQ P fS) (h0 : Xp P t0 = some none) (h1 : Xp P t1 = some none) : Qgc P f := by
 intro b h
 refine Ju (by simp [isDL, Qaq]) rfl (ACall.of_rangeN bd (by simp) ?_)
 have hT' := hT b
 have hI := Qh0 bG hS h
 have hc : isDL [bs b] = true := by simp [isDL, Qaq]
 rw [bs] at hT' hI hc ⊢
 simp (disch := omega) only [rq, simprocAttr, XB, Qmr, Qnw, Qj2, QnY, QgV, QoU]
 refine Qa hT' ?_
 simp (disch := omega) only [rq, simprocAttr, QgV]
 refine ⟨g, _, fun j => j.elim0, rfl, bG.ent, hc, Qlr hc hI, ?_⟩
 simp (disch := omega) only [rq, simprocAttr, Z8, h0, h1, QM]
def pcs (c : UInt8) : List UInt8 → List (List UInt8)
 | [] => [[]]
 | b :: l => if b = c then [] :: pcs c l else match pcs c l with | [] => [[b]] | p :: r => (b :: p) :: r
theorem Qez (c : UInt8) : ∀ s, pcs c s ≠ []
 | [] => by simp [pcs]
 | b :: l => by unfold pcs; split <;> (try split) <;> simp
theorem Qlw (b c : UInt8) (l : List UInt8) : Lib.index (b :: l) [c] = if b = c then 0 else if Lib.index l [c] = -1 then -1 else Lib.index l [c] + 1 := by
 show (if [c].isPrefixOf (b :: l) then 0 else if Lib.index l [c] == -1 then -1 else Lib.index l [c] + 1) = _
 have e : [c].isPrefixOf (b :: l) = decide (b = c) := by
  simp only [List.isPrefixOf, Bool.and_true]
  by_cases h : b = c
  ·simp [h]
  ·simp [h]
   exact fun h' => h h'.symm
 rw [e]
 by_cases h : b = c <;> simp [h]
theorem JJ (c : UInt8) : ∀ s, (Lib.index s [c] = -1 ∧ pcs c s = [s]) ∨ ∃ i : Nat, Lib.index s [c] = i ∧ i < s.length ∧ pcs c s = s.take i :: pcs c (s.drop (i + 1))
 | [] => .inl ⟨rfl, rfl⟩
 | b :: l => by
  rw [Qlw]
  by_cases h : b = c
  ·refine .inr ⟨0, by simp [h], by simp, ?_⟩
   simp [pcs, h]
  ·rw [qz h]
   rcases JJ c l with ⟨h1, h2⟩ | ⟨i, h1, h2, h3⟩
   ·refine .inl ⟨by rw [qE h1], ?_⟩
    rw [pcs, qz h, h2]
   ·refine .inr ⟨i + 1, by rw [h1, qz (by omega)]; omega, by simp; omega, ?_⟩
    rw [pcs, qz h, h3]
    simp
def QdY (c : UInt8) (ty : Nat) (P : Prg) (f : Nat) : Prop := Qor P f ty [c] (pcs c)
section
variable {br cap ty : Nat}
def ΓS (br cap ty : Nat) (W : World) (r : List UInt8) (N : Nat) : Ctx := ⟨0, ⟨W, [bx ty r], [some (br, cap)], fun _ _ => False⟩, N, []⟩
theorem QpF {N : Nat} {fr : List (Nat × AV)} {a : Act} {W : World} {r : List UInt8} (hb : ZS W br cap ty r) (hd : a.defers = []) (hz : a.tmps.size = N) (h : ∀ i, Rep ⟨W, [bx ty r], [some (br, cap)], fun _ _ => False⟩ (look fr i) (a.tmps.getD i undef)) : Sim (ΓS br cap ty W r N) ⟨fr, [bx ty r]⟩ a W := by
 refine ⟨hd, hz, Below.refl _ _, [some (br, cap)], ⟨rfl, fun o x e hx he => ?_, fun o o' b c c' h1 h2 => ?_, fun _ _ _ _ => yd _, fun _ _ h => h.elim, yd _⟩, Moves.refl _, h⟩
 ·rcases o with _ | o
  ·simp only [ΓS, yu, qc] at hx he
   subst hx he
   obtain ⟨cur, q1, q2, q3, q4, q5, q6⟩ := hb
   refine ⟨cur, ⟨(0, 0), q1, .inl rfl⟩, by simp [bx, q2], q3, q4, rfl, ?_, q6⟩
   simp only [bx, qn, qJ]
   rw [q5]
   simp only [RepL, Rep]
   exact ⟨_, _, rfl, rfl, rfl⟩
  ·simp [ΓS] at hx
 ·rcases o with _ | o <;> rcases o' with _ | o'
  ·rfl
  all_goals simp [ΓS] at h1 h2
theorem Qbl {N : Nat} {fr : List (Nat × AV)} {a : Act} {W W' : World} {r r' : List UInt8} (hb : ZS W br cap ty r) (h : Sim (ΓS br cap ty W r N) ⟨fr, [bx ty r']⟩ a W') :
  Qnt br cap ty W W' ∧ ZS W' br cap ty r' ∧ (∀ (b k : Nat) (v : Value), b ≠ br → W.cell? ⟨b, k, none⟩ = some v → W'.cell? ⟨b, k, none⟩ = some v) := by
 obtain ⟨_, _, bel, be, g, m, _⟩ := h
 have hbe : be[0]? = some (some (br, cap)) := by
  obtain ⟨y, hy, _, hyp⟩ := m.ob 0 (bx ty r) rfl
  have hy' : [bx ty r'][0]? = some y := hy
  simp only [yu, qc] at hy'
  subst hy'
  exact (hyp (by simp [bx])).2 rfl
 have hbox : ZS W' br cap ty r' := Held.boxAt g rfl hbe
 have hblk : ∀ k, k < W.heap.size → k ≠ br → W'.heap[k]? = W.heap[k]? := fun k hk hne => (m.blk k hk fun o c he => by
  rcases o with _ | o
  ·simp only [ΓS, yu, qc, yc] at he
   exact hne he.1.symm
  ·simp [ΓS] at he).1
 refine ⟨⟨some br, ⟨bel.os, bel.tape, bel.output, bel.size, fun k hk hne => hblk k hk fun e => hne (by rw [e])⟩, fun q e => by cases e; exact ⟨rfl, ⟨r, hb⟩, ⟨r', hbox⟩⟩⟩, hbox, fun b k v hne hc => ?_⟩
 rw [World.cell?_of_block (w := W) (hblk b (World.block_lt_of_cell? W _ hc) hne)]
 exact hc
end
noncomputable def Qp4 (br cap ty : Nat) (W : World) : Nat := by
 classical exact if h : ∃ r, ZS W br cap ty r then (Classical.choose h).length else 0
theorem Ql0 {br cap ty : Nat} {W : World} {r : List UInt8} (h : ZS W br cap ty r) : Qp4 br cap ty W = r.length := by
 unfold Qp4
 have h' : ∃ r, ZS W br cap ty r := ⟨r, h⟩
 rw [dif_pos h', (Classical.choose_spec h').uniq h]
set_option maxHeartbeats 1000000 in
theorem Qb4 {P : Prg} {f fD fX : Nat} {c : UInt8} {ty : Nat} (bd : Body P f 52 [] (QV fD fX)) (hX : S_StrIndex P fX) : QdY c ty P f := by
 intro s w C v1 v3 br cap hsl hv1 hv3 hbx hCbr hex hG ll J Jx W hW hJ hJx hY hJ0
 obtain ⟨cnt, hcnt⟩ : ∃ cnt, (pcs c s).length = cnt := ⟨_, rfl⟩
 have hbr0 : br < w.heap.size := hbx.lt
 have hne : ∀ {b k : Nat}, ¬ C b k → b ≠ br := fun h e => h (e ▸ hCbr _)
 obtain ⟨KC, hKC⟩ : ∃ KC : World → Prop, ∀ W', KC W' = ∀ (b k : Nat) (v : Value), ¬ C b k → w.cell? ⟨b, k, none⟩ = some v → W'.cell? ⟨b, k, none⟩ = some v := ⟨_, fun _ => rfl⟩
 have hkw : KC W := by rw [hKC]; exact fun b k v _ hc => (hW.cell (p := ⟨b, k, none⟩) (World.block_lt_of_cell? w _ hc)).trans hc
 have hKs : ∀ {A B : World}, KC A → (∀ (b k : Nat) (v : Value), b ≠ br → A.cell? ⟨b, k, none⟩ = some v → B.cell? ⟨b, k, none⟩ = some v) → KC B := fun {A B} h1 h2 => by
  rw [hKC] at h1 ⊢
  exact fun b k v hc hv => h2 b k v (hne hc) (h1 b k v hc hv)
 have hun : ∀ {W' : World} {r : List UInt8}, KC W' → ∀ (c : AV) (v : Value), isD c = true → Rep ⟨w, [], [], C⟩ c v → Rep ⟨W', [bx ty r], [some (br, cap)], fun _ _ => False⟩ c v := fun {W' r} h c v hd hr =>
  Rep.data (X := ⟨w, [], [], C⟩) (Y := ⟨W', [bx ty r], [some (br, cap)], fun _ _ => False⟩) (fun b k v hc ha => ⟨by rw [hKC] at h; exact h b k v (fun h => ha (.inl h)) hc, fun h => by
   rcases h with h | ⟨o, x, c, h1, h2, _⟩
   ·exact h.elim
   ·rcases o with _ | o
    ·simp only [yu, qc, yc] at h2
     exact hne (fun h => ha (.inl h)) h2.1.symm
    ·simp at h2⟩) c v hd hr
 obtain ⟨fn, hf, hnm, hN, hrl, hc'⟩ := bd
 obtain ⟨cc, hb, hc⟩ := qe.1 hc'
 refine callsIn_of_wp hf hb trivial ?_ rfl
 rw [hN]
 unfold QV at hc
 obtain ⟨c1, r1, rfl, hc1, hr1⟩ := Qu hc
 obtain ⟨d0, dA, rfl, hd0, hdA⟩ := Qu hc1
 obtain ⟨y1, y2, rfl, hy1, hy2⟩ := Xo hdA
 obtain rfl := X6 hy2
 obtain ⟨c2, d9, rfl, hc2, hd9⟩ := Qu hr1
 obtain ⟨c3, rfl, hc3⟩ := Xv hc2
 obtain ⟨c4, rfl, hc4⟩ := Qce hc3
 obtain ⟨c5, rfl, hc5⟩ := Xv hc4
 obtain ⟨d1, s1, rfl, hd1, hs1⟩ := Qu hc5
 obtain ⟨s2, s3, rfl, hs2, hs3⟩ := Qu hs1
 obtain ⟨d2, dB, rfl, hd2, hdB⟩ := Qu hs2
 obtain ⟨y3, y4, rfl, hy3, hy4⟩ := Xo hdB
 obtain rfl := QeM hy3
 obtain rfl := X6 hy4
 obtain ⟨d3, s4, rfl, hd3, hs4⟩ := Qu hs3
 obtain ⟨s5, d5, rfl, hs5, hd5⟩ := Qu hs4
 obtain ⟨d4, dC, rfl, hd4, hdC⟩ := Qu hs5
 obtain ⟨y5, y6, rfl, hy5, hy6⟩ := Xo hdC
 obtain rfl := Qhn hy5
 obtain rfl := X6 hy6
 obtain ⟨id4, ops4, rfl, hm4⟩ := Qbx hd4
 obtain ⟨l2, l3, hops4, hm2, hm3⟩ := Qc3 (q1 := [_, _]) hm4
 obtain ⟨oY, l1, rfl, hoY, hm1⟩ := Qc2 hm3
 obtain ⟨id9, ops9, rfl, hm9⟩ := Qbx hd9
 obtain ⟨k2, k3, hops9, hk2, hk3⟩ := Qc3 (q1 := [_, _]) hm9
 obtain ⟨oZ, k1, rfl, hoZ, hk1⟩ := Qc2 hk3
 have hk1' : k1 = [] := by
  cases k1 with
  | nil => rfl
  | cons a b => simp [qP, qe] at hk1
 subst hk1'
 obtain ⟨v2, hv2⟩ : ∃ v2, v2 = Value.pointer (some ⟨br, 0, none⟩) := ⟨_, rfl⟩
 rw [← hv2]
 obtain ⟨yv, hyv⟩ : ∃ yv, yv = (Value.func (.yield ll) #[] #[]) := ⟨_, rfl⟩
 rw [← hyv]
 let a0 : Act := { tmps := #[yv] ++ #[v1, v2, v3] ++ Array.replicate (52 - (#[yv] ++ #[v1, v2, v3]).size) undef, defers := [] }
 show Code.wpIn _ _ _ _ _ a0 _
 let SL : Act → Prop := fun a => a.defers = [] ∧ a.tmps.size = 52 ∧ a.tmps.getD 0 undef = yv ∧ a.tmps.getD 1 undef = v1 ∧ a.tmps.getD 2 undef = v2 ∧ a.tmps.getD 3 undef = v3
 have hSL0 : SL a0 := ⟨rfl, by simp [a0], by simp [a0], by simp [a0], by simp [a0], by simp [a0]⟩
 let I4 : List (Nat × Value) := [(0, yv), (1, v1), (2, v2), (3, v3)]
 have hI : ∀ {qs : List AO} {a : Act}, (Qab 0 qs && Qab 1 qs && Qab 2 qs && Qab 3 qs) = true → SL a → ∀ p ∈ I4, Qab p.1 qs = true ∧ a.tmps.getD p.1 undef = p.2 := fun h1 h2 p hp => by
  simp only [qf] at h1
  obtain ⟨_, _, e0, e1, e2, e3⟩ := h2
  simp only [I4, qo, qQ, or_false] at hp
  rcases hp with rfl | rfl | rfl | rfl
  ·exact ⟨h1.1.1.1, e0⟩
  ·exact ⟨h1.1.1.2, e1⟩
  ·exact ⟨h1.1.2, e2⟩
  ·exact ⟨h1.2, e3⟩
 let base : List (Nat × AV) := [(0, .lit yv), (1, .cell [.str [c]]), (2, .ref 0 1 0), (3, .cell [.int .i64 0])]
 have hrep : ∀ {W' : World} {r : List UInt8} {a : Act}, KC W' → SL a → ∀ i, Rep ⟨W', [bx ty r], [some (br, cap)], fun _ _ => False⟩ (look base i) (a.tmps.getD i undef) := fun {W' r a} hk h => by
  obtain ⟨_, _, e0, e1, e2, e3⟩ := h
  refine Jk (by rw [e0]; simp only [Rep]) (Jk (by rw [e1]; exact hun hk _ _ rfl hv1) (Jk ?_ (Jk (by rw [e3]; exact hun hk _ _ rfl hv3) Qk1)))
  rw [e2, hv2]
  simp only [Rep]
  exact ⟨⟨bx ty r, rfl, by simp [bx], qg _, fun _ => ⟨br, cap, rfl, rfl⟩⟩, rfl⟩
 have hslN : ∀ {W' : World} {r r' : List UInt8} {fr : List (Nat × AV)} {a : Act} {W2 : World}, Sim (ΓS br cap ty W' r 52) ⟨fr, [bx ty r']⟩ a W2 → (∀ p ∈ I4, a.tmps.getD p.1 undef = p.2) → SL a := fun h1 h2 =>
  ⟨h1.1, h1.2.1, h2 (0, yv) (by simp [I4]), h2 (1, v1) (by simp [I4]), h2 (2, v2) (by simp [I4]), h2 (3, v3) (by simp [I4])⟩
 have hF : ∀ {W' : World} {r : List UInt8}, KC W' → Fit P 52 (ΓS br cap ty W' r 52) := fun {W' r} h => ⟨rfl, fun q cs hq => hun h _ _ (by simp only [isD]; exact P.gd q cs hq) (hG q cs hq)⟩
 have hbW : ZS W br cap ty s := hbx.same (hW.block br hbr0)
 refine wpIn_seq (wpIn_seq ?_)
 refine Zz (Q := fun _ st' => Le 1 st' ⟨(11, .bool false) :: base, [bx ty s]⟩) (hF hkw) hd0 I4 (hI rfl hSL0) (by simp (maxSteps := 4000000) (disch := omega) only [rq, simprocAttr, base, bx]; exact QA) (QpF hbW hSL0.1 hSL0.2.1 (hrep hkw hSL0)) ?_
 intro st0 a1 W1 hle1 hs1' t1
 have hs1 := hle1 _ _ _ rfl hs1'
 have hSL1 := hslN hs1 t1
 obtain ⟨q1, hbW1, hk1c⟩ := Qbl hbW hs1
 have hkW1 := hKs hkw hk1c
 have hJ1 := hJ _ _ _ hJ0 q1
 show (Code.cond _ y1 .skip).wpIn Fence.wide 4 _ _ a1 W1
 have h11 : a1.eval (.tmp 11) = .bool false := by
  obtain ⟨_, _, _, _, _, _, h⟩ := hs1
  have h : Rep _ (.bool _) (a1.tmps.getD 11 undef) := h 11
  simp only [Rep] at h
  exact h
 refine wpIn_cond_false h11 (wpIn_skip ?_)
 show (Code.seq (.block 2 _) _).wpIn Fence.wide 4 _ _ a1 W1
 refine wpIn_seq (wpIn_block ?_)
 refine wpIn_loop (fun a W' => ∃ (j : Nat) (r : List UInt8), j < cnt ∧ SL a ∧ KC W' ∧ ZS W' br cap ty r ∧ r.length ≤ s.length ∧ pcs c r = (pcs c s).drop j ∧ J ((List.finRange (pcs c s).length).take j) W') (fun _ W' => Qp4 br cap ty W') ?_ ?_
 ·exact ⟨0, s, by rw [← hcnt]; exact List.length_pos_iff.2 (Qez c s), hSL1, hkW1, hbW1, qg _, rfl, hJ1⟩
 intro a Wj ⟨j, r, hj, sl, kc, hb, hrs, hp, hJj⟩
 have hX' := hX r [c] (by omega)
 have getB : ∀ {fr : List (Nat × AV)} {r' : List UInt8} {W' W2 : World} {a : Act} {i : Nat} {b : Bool}, Sim (ΓS br cap ty W' r 52) ⟨fr, [bx ty r']⟩ a W2 → look fr i = .bool b → a.eval (.tmp i) = .bool b := fun {fr r' W' W2 a i b} h e => by
  obtain ⟨_, _, _, _, _, _, h⟩ := h
  have h := h i
  simp only [e, Rep] at h
  exact h
 have fin : ∀ (k : Nat) (hk : k < cnt), (List.finRange (pcs c s).length).take (k + 1) = (List.finRange (pcs c s).length).take k ++ [⟨k, by rw [hcnt]; exact hk⟩] := fun k hk => by
  rw [qy (by simpa [hcnt] using hk)]
  simp
 show (Code.block 3 _).wpIn Fence.wide 4 _ _ a Wj
 refine wpIn_block (wpIn_seq ?_)
 refine Zz (Q := fun _ st' => Le 1 st' ⟨(7, .int .i64 (Lib.index r [c])) :: base, [bx ty r]⟩) (hF kc) hd1 I4 (hI rfl sl) (by simp (maxSteps := 4000000) (disch := omega) only [rq, simprocAttr, base, bx]; refine Qa hX' ?_; simp (maxSteps := 4000000) (disch := omega) only [rq, simprocAttr]; exact QA) (QpF hb sl.1 sl.2.1 (hrep kc sl)) ?_
 intro st1 aA WA hleA hsA' tA
 have hsA := hleA _ _ _ rfl hsA'
 have slA := hslN hsA tA
 show (Code.seq (.seq d2 _) _).wpIn Fence.wide 4 _ _ aA WA
 refine wpIn_seq (wpIn_seq ?_)
 refine Zz (Q := fun _ st' => Le 1 st' ⟨(33, .bool (decide (Lib.index r [c] < 0))) :: (7, .int .i64 (Lib.index r [c])) :: base, [bx ty r]⟩) (hF kc) hd2 I4 (hI rfl slA) (by simp (maxSteps := 4000000) (disch := omega) only [rq, simprocAttr, base, bx]; exact QA) hsA ?_
 intro st2 aB WB hleB hsB' tB
 have hsB := hleB _ _ _ rfl hsB'
 have slB := hslN hsB tB
 obtain ⟨qB, hbB, hkB⟩ := Qbl hb hsB
 have kcB := hKs kc hkB
 have hJB := hJ _ _ _ hJj qB
 have h33 := getB hsB (i := 33) rfl
 show (Code.cond _ (.exit 2) .skip).wpIn Fence.wide 4 _ _ aB WB
 rcases JJ c r with ⟨e1, e2⟩ | ⟨i, e1, e2, e3⟩
 ·rw [e1] at h33
  refine wpIn_cond_true h33 (wpIn_exit ?_)
  show (Code.region id9 ops9 false).wpIn Fence.wide 4 _ _ aB WB
  have hLj : (pcs c s).drop j = [r] := by rw [← hp, e2]
  have hj1 : j + 1 = cnt := by have := congrArg List.length hLj; rw [yj, hcnt] at this; simp at this; omega
  have hgj : (pcs c s)[j]'(by omega) = r := by
   have : (pcs c s)[j]? = some r := by have h := congrArg (·[0]?) hLj; simpa using h
   exact (qb.1 this).2
  refine wpIn_region_list ?_
  rw [hops9]
  refine Z2 k2 _ aB WB (Qi ?_ _ _ _ (Z4 (Q := fun _ st' => Le 1 st' ⟨[(49, .lit yv), (50, .str r)], [bx ty r]⟩) (hF kc) hk2 [] (fun p hp => by cases hp) (by simp (maxSteps := 4000000) (disch := omega) only [rq, simprocAttr, base, bx]; exact QA) hsB))
  rintro _ a7 W7 ⟨rfl, st7, hle7, hs7', _⟩
  have hs7 := hle7 _ _ _ rfl hs7'
  obtain ⟨q7, hb7, hk7⟩ := Qbl hb hs7
  have hJ7 := hJ _ _ _ hJj q7
  show wpListIn Fence.wide 4 _ _ _ [oZ] a7 W7
  have hd7 : a7.defers = [] := hs7.1
  have hz7 : a7.tmps.size = 52 := hs7.2.1
  have f49 : a7.tmps.getD 49 undef = yv := by obtain ⟨_, _, _, _, _, _, h⟩ := hs7; have h : Rep _ (.lit yv) (a7.tmps.getD 49 undef) := h 49; simpa only [Rep] using h
  have f50 : a7.tmps.getD 50 undef = .string ⟨r.toArray⟩ := by obtain ⟨_, _, _, _, _, _, h⟩ := hs7; have h : Rep _ (.str r) (a7.tmps.getD 50 undef) := h 50; simpa only [Rep] using h
  obtain ⟨cY, dY, _, gY⟩ := Q3 hoZ
  obtain ⟨cl, opY, calY, argY⟩ := Xw cY
  have gY' : oZ.guard = none := by
   rcases gY with ⟨h, _⟩ | ⟨_, _, _, _, _, h⟩
   ·exact h
   ·cases h
  have argY' : cl.args = #[.tmp 50] := q9 argY.symm
  have hY' := hY ((List.finRange (pcs c s).length).take j) ⟨j, by omega⟩ W7 hJ7 (by simp; omega)
  simp only [Fin.getElem_fin, hgj] at hY'
  unfold wpListIn
  rw [qE (by simp [Region.wanted, gY'])]
  refine Qb3 opY calY argY' (f49.trans hyv) f50 hY' ?_
  rintro e W8 (⟨rfl, hJ8, _⟩ | ⟨rfl, hX8⟩)
  ·refine ⟨true, rfl, ?_⟩
   refine ⟨by rw [Xn]; exact hd7, .tuple #[], results_none (q9 hrl) _ _ _, ⟨_, rfl⟩, .inl ⟨_, rfl, ?_⟩⟩
   have h1 := fin j hj
   rw [hj1, qU (by simp; omega)] at h1
   rw [h1]
   exact hJ8
  ·refine ⟨false, rfl, ?_⟩
   exact ⟨by rw [Xn]; exact hd7, .tuple #[], results_none (q9 hrl) _ _ _, ⟨_, rfl⟩, .inr ⟨_, trivial, hX8⟩⟩
 ·rw [e1, decide_eq_false (by omega)] at h33
  refine wpIn_cond_false h33 (wpIn_skip ?_)
  show (Code.seq d3 _).wpIn Fence.wide 4 _ _ aB WB
  have hLj : (pcs c s).drop j = r.take i :: pcs c (r.drop (i + 1)) := by rw [← hp, e3]
  have hj1 : j + 1 < cnt := by
   have := congrArg List.length hLj
   rw [yj, hcnt] at this
   have h2 := List.length_pos_iff.2 (Qez c (r.drop (i + 1)))
   simp only [qn] at this
   omega
  have hgj : (pcs c s)[j]'(by omega) = r.take i := by
   have : (pcs c s)[j]? = some (r.take i) := by have h := congrArg (·[0]?) hLj; simpa using h
   exact (qb.1 this).2
  have hdj : pcs c (r.drop (i + 1)) = (pcs c s).drop (j + 1) := by
   have h := congrArg (List.drop 1) hLj
   rw [List.drop_drop] at h
   simpa using h.symm
  rw [e1] at hsB
  refine wpIn_seq ?_
  refine Zz (Q := fun _ st' => Le 1 st' ⟨(8, .str (r.take i)) :: (7, .int .i64 i) :: base, [bx ty r]⟩) (hF kc) hd3 I4 (hI rfl slB) (by simp (maxSteps := 4000000) (disch := omega) only [rq, simprocAttr, base, bx]; exact QA) hsB ?_
  intro st3 aC WC hleC hsC' tC
  have hsC := hleC _ _ _ rfl hsC'
  have slC := hslN hsC tC
  show (Code.seq (.seq (.region id4 ops4 false) _) d5).wpIn Fence.wide 4 _ _ aC WC
  refine wpIn_seq (wpIn_seq (wpIn_region_list ?_))
  rw [hops4]
  refine Z2 l2 _ aC WC (Qi ?_ _ _ _ (Z4 (Q := fun _ st' => Le 1 st' ⟨(39, .lit yv) :: (40, .str (r.take i)) :: (7, .int .i64 i) :: base, [bx ty r]⟩) (hF kc) hm2 I4 (hI rfl slC) (by simp (maxSteps := 4000000) (disch := omega) only [rq, simprocAttr, base, bx]; exact QA) hsC))
  rintro _ a7 W7 ⟨rfl, st7, hle7, hs7', t7⟩
  have hs7 := hle7 _ _ _ rfl hs7'
  have sl7 := hslN hs7 t7
  obtain ⟨q7, hb7, hk7⟩ := Qbl hb hs7
  have kc7 := hKs kc hk7
  have hJ7 := hJ _ _ _ hJj q7
  show wpListIn Fence.wide 4 _ _ _ (oY :: l1) a7 W7
  have hd7 : a7.defers = [] := hs7.1
  have hz7 : a7.tmps.size = 52 := hs7.2.1
  have f39 : a7.tmps.getD 39 undef = yv := by obtain ⟨_, _, _, _, _, _, h⟩ := hs7; have h : Rep _ (.lit yv) (a7.tmps.getD 39 undef) := h 39; simpa only [Rep] using h
  have f40 : a7.tmps.getD 40 undef = .string ⟨(r.take i).toArray⟩ := by obtain ⟨_, _, _, _, _, _, h⟩ := hs7; have h : Rep _ (.str (r.take i)) (a7.tmps.getD 40 undef) := h 40; simpa only [Rep] using h
  have f7 : a7.tmps.getD 7 undef = .int .i64 i := by obtain ⟨_, _, _, _, _, _, h⟩ := hs7; have h : Rep _ (.int .i64 i) (a7.tmps.getD 7 undef) := h 7; simpa only [Rep] using h
  obtain ⟨cY, dY, _, gY⟩ := Q3 hoY
  obtain ⟨cl, opY, calY, argY⟩ := Xw cY
  have gY' : oY.guard = none := by
   rcases gY with ⟨h, _⟩ | ⟨_, _, _, _, _, h⟩
   ·exact h
   ·cases h
  have argY' : cl.args = #[.tmp 40] := q9 argY.symm
  have hY' := hY ((List.finRange (pcs c s).length).take j) ⟨j, by omega⟩ W7 hJ7 (by simp; omega)
  simp only [Fin.getElem_fin, hgj] at hY'
  unfold wpListIn
  rw [qE (by simp [Region.wanted, gY'])]
  refine Qb3 opY calY argY' (f39.trans hyv) f40 hY' ?_
  rw [← dY]
  have p41 : ∀ bb : Bool, (a7.put (some 41) (.bool bb)).tmps.getD 41 undef = .bool bb := fun bb => by simp [Act.put, hz7]
  have pO : ∀ (bb : Bool) (i : Nat), i ≠ 41 → (a7.put (some 41) (.bool bb)).tmps.getD i undef = a7.tmps.getD i undef := fun bb i h => Zu (by simpa using fun h' => h h'.symm)
  have slY : ∀ bb : Bool, SL (a7.put (some 41) (.bool bb)) := fun bb => by
   obtain ⟨g1, g2, g3, g4, g5, g6⟩ := sl7
   exact ⟨by rw [Xn]; exact g1, by rw [J1]; exact g2, by rw [pO bb 0 (by omega)]; exact g3, by rw [pO bb 1 (by omega)]; exact g4, by rw [pO bb 2 (by omega)]; exact g5, by rw [pO bb 3 (by omega)]; exact g6⟩
  rintro e W8 (⟨rfl, hJ8, hK8⟩ | ⟨rfl, hX8⟩)
  ·refine ⟨true, rfl, ?_⟩
   have hb8 : ZS W8 br cap ty r := hK8.1 r hb7
   have kc8 : KC W8 := by
    rw [hKC] at kc7 ⊢
    exact fun b k v hc hv => hK8.2 b k v hc (kc7 b k v hc hv)
   have hs8 : Sim (ΓS br cap ty W8 r 52) ⟨(41, .bool true) :: (7, .int .i64 i) :: base, [bx ty r]⟩ (a7.put (some 41) (.bool true)) W8 :=
    QpF hb8 (slY true).1 (slY true).2.1 (Jk (by rw [p41]; simp only [Rep]) (Jk (by rw [pO true 7 (by omega), f7]; simp only [Rep]) (hrep kc8 (slY true))))
   refine Qi ?_ _ _ _ (Z4 (Q := fun _ st' => Le 1 st' ⟨(42, .bool false) :: (7, .int .i64 i) :: base, [bx ty r]⟩) (hF kc8) hm1 I4 (hI rfl (slY true)) (by simp (maxSteps := 4000000) (disch := omega) only [rq, simprocAttr, base, bx, qT]; exact QA) hs8)
   rintro _ a9 W9 ⟨rfl, st9, hle9, hs9', t9⟩
   have hs9 := hle9 _ _ _ rfl hs9'
   have sl9 := hslN hs9 t9
   show (Code.cond _ .ret .skip).wpIn Fence.wide 4 _ _ a9 W9
   refine wpIn_cond_false (getB hs9 (i := 42) rfl) (wpIn_skip ?_)
   show d5.wpIn Fence.wide 4 _ _ a9 W9
   have hl1 : r.length - (i + 1) ≤ s.length := by omega
   refine Zz (Q := fun _ st' => Le 1 st' ⟨base, [bx ty (r.drop (i + 1))]⟩) (hF kc8) hd5 I4 (hI rfl sl9) (by simp (maxSteps := 4000000) (disch := omega) only [rq, simprocAttr, base, bx]; exact QA) hs9 ?_
   intro stD aD WD hleD hsD' tD
   have hsD := hleD _ _ _ rfl hsD'
   have slD := hslN hsD tD
   obtain ⟨qD, hbD, hkD⟩ := Qbl hb8 hsD
   have hJD := hJ _ _ _ hJ8 qD
   refine ⟨⟨j + 1, r.drop (i + 1), hj1, slD, hKs kc8 hkD, hbD, by rw [yj]; omega, hdj, ?_⟩, ?_⟩
   ·rw [fin j hj]
    exact hJD
   ·rw [Ql0 hb, Ql0 hbD, yj]
    omega
  ·refine ⟨false, rfl, ?_⟩
   have hz8 : (a7.put (some 41) (.bool false)).tmps.size = 52 := (slY false).2.1
   let P0 : Prg := ⟨P.prog, [], fun _ _ h => by cases h⟩
   have hs8 : Sim ⟨W8.heap.size, ⟨W8, [], [], fun _ _ => False⟩, 52, []⟩ ⟨[(41, .bool false)], []⟩ (a7.put (some 41) (.bool false)) W8 :=
    ⟨(slY false).1, hz8, Below.refl _ _, [], ⟨rfl, by simp, by simp, by simp, fun _ _ h => h.elim, qg _⟩, Moves.refl _, Jk (by rw [p41]; simp only [Rep]) Qk1⟩
   refine Qi ?_ _ _ _ (Z4 (P := P0) (N := 52) (Γ := ⟨W8.heap.size, ⟨W8, [], [], fun _ _ => False⟩, 52, []⟩) (Q := fun _ st' => Le 0 st' ⟨[(42, .bool true)], []⟩) ⟨rfl, fun _ _ h => by cases h⟩ hm1 [] (fun p hp => by cases hp)
    (by simp (maxSteps := 4000000) (disch := omega) only [rq, simprocAttr, yi]; exact QA) hs8)
   rintro _ a9 W9 ⟨rfl, st9, hle9, hs9', t9⟩
   have hs9 := hle9 _ _ _ rfl hs9'
   show (Code.cond _ .ret .skip).wpIn Fence.wide 4 _ _ a9 W9
   have h42 : a9.eval (.tmp 42) = .bool true := by obtain ⟨_, _, _, _, _, _, h⟩ := hs9; have h : Rep _ (.bool _) (a9.tmps.getD 42 undef) := h 42; simp only [Rep] at h; exact h
   refine wpIn_cond_true h42 (wpIn_ret ?_)
   have b9 : Below W8.heap.size W8 W9 := hs9.2.2.1
   have hX9 := hJx _ W8 W9 hX8 ⟨none, ⟨b9.os, b9.tape, b9.output, b9.size, fun k hk _ => b9.block k hk⟩, fun q e => by cases e⟩
   exact ⟨hs9.1, .tuple #[], results_none (q9 hrl) _ _ _, ⟨_, rfl⟩, .inr ⟨_, trivial, hX9⟩⟩
def Ze (c : UInt8) : List (List UInt8) → List UInt8
 | [] => []
 | [p] => p
 | p :: q :: r => p ++ c :: Ze c (q :: r)
theorem QeG (c : UInt8) (p : List UInt8) {L : List (List UInt8)} (h : L ≠ []) : Ze c (p :: L) = p ++ c :: Ze c L := by
 cases L with
 | nil => exact absurd rfl h
 | cons q r => rfl
theorem J4 (c : UInt8) : ∀ s, Ze c (pcs c s) = s
 | [] => rfl
 | b :: l => by
  have ih := J4 c l
  unfold pcs
  split
  ·rename_i h
   rw [QeG c [] (Qez c l), ih, h]
   rfl
  ·split
   ·rename_i h; exact absurd h (Qez c l)
   ·rename_i p r h
    rw [h] at ih
    cases r with
    | nil => simp only [Ze] at ih ⊢; rw [ih]
    | cons q r => simp only [Ze] at ih ⊢; rw [qW, ih]
theorem Qja {c : UInt8} : ∀ {p : List UInt8}, c ∉ p → pcs c p = [p]
 | [], _ => rfl
 | b :: p, h => by
  simp only [qo, not_or] at h
  rw [pcs, qz fun e => h.1 e.symm, Qja h.2]
theorem Qle {c : UInt8} : ∀ {p : List UInt8} (s : List UInt8), c ∉ p → pcs c (p ++ c :: s) = p :: pcs c s
 | [], s, _ => by simp [pcs]
 | b :: p, s, h => by
  simp only [qo, not_or] at h
  rw [qW, pcs, qz fun e => h.1 e.symm, Qle s h.2]
theorem Qbo {c : UInt8} : ∀ {L : List (List UInt8)}, L ≠ [] → (∀ p ∈ L, c ∉ p) → pcs c (Ze c L) = L
 | [], h, _ => absurd rfl h
 | [p], _, h => Qja (h p (by simp))
 | p :: q :: r, _, h => by
  rw [Ze, Qle _ (h p (by simp)), Qbo (by simp) fun x hx => h x (qN _ hx)]
theorem Qbw (c : UInt8) : ∀ (n : Nat) (s : List UInt8), s.length < n → Lib.countFrom [c] n s + 1 = (pcs c s).length
 | 0, _, h => by omega
 | n + 1, s, h => by
  unfold Lib.countFrom
  rcases JJ c s with ⟨h1, h2⟩ | ⟨i, h1, h2, h3⟩
  ·rw [h1, h2]; rfl
  ·have h4 := Qbw c n (s.drop (i + 1)) (by rw [yj]; omega)
   rw [h1, h3, qz (by simp)]
   simp only [qt, qn, qJ, qY]
   omega
theorem Qeu (c : UInt8) : ∀ (k : Nat) (s : List UInt8), k + 1 = (pcs c s).length → Lib.splitK [c] 0 k s = pcs c s
 | 0, s, h => by
  rcases JJ c s with ⟨h1, h2⟩ | ⟨i, h1, h2, h3⟩
  ·rw [h2]; rfl
  ·have := List.length_pos_iff.2 (Qez c (s.drop (i + 1)))
   rw [h3] at h
   simp only [qn] at h
   omega
 | k + 1, s, h => by
  unfold Lib.splitK
  rcases JJ c s with ⟨h1, h2⟩ | ⟨i, h1, h2, h3⟩
  ·rw [h2] at h; simp at h
  ·rw [h1, h3, qz (by simp)]
   rw [h3] at h
   simp only [qn] at h
   simp only [qt, qn, qJ, qY, yA]
   rw [Qeu c k _ (by omega)]
theorem QgA (c : UInt8) (s : List UInt8) : Lib.split s [c] = pcs c s :=
 Qeu c _ s (Qbw c _ s (by omega))
theorem Qcb (b : UInt8) (l t : List UInt8) : Lib.index (b :: l) t = if t.isPrefixOf (b :: l) then 0 else if Lib.index l t == -1 then -1 else Lib.index l t + 1 := rfl
theorem Qm6 : ∀ (s t : List UInt8) (a b : List UInt8), t ≠ [] → Lib.cut s t = (a, b, true) → s = a ++ t ++ b := by
 have key : ∀ (s t : List UInt8), t ≠ [] → 0 ≤ Lib.index s t → s = s.take (Lib.index s t).toNat ++ t ++ s.drop ((Lib.index s t).toNat + t.length) := by
  intro s t ht
  induction s with
  | nil =>
   intro h
   exfalso
   have : Lib.index [] t = -1 := by
    show (if t.isEmpty then (0 : Int) else -1) = -1
    cases t with
    | nil => exact absurd rfl ht
    | cons a b => rfl
   omega
  | cons b l ih =>
   intro h
   rw [Qcb] at h ⊢
   split
   ·rename_i hp
    obtain ⟨r, hr⟩ := List.isPrefixOf_iff_prefix.1 hp
    simp only [Int.toNat_zero, List.take_zero, List.nil_append, qY]
    rw [← hr]
    simp
   ·rename_i hp
    rw [qz hp] at h
    split
    ·rename_i h1; rw [qE h1] at h; omega
    ·rename_i h1
     rw [qz h1] at h
     have h2 : Lib.index l t ≠ -1 := by simpa using h1
     have h3 := Lib.index_ge l t
     have e : (Lib.index l t + 1).toNat = (Lib.index l t).toNat + 1 := by omega
     rw [e, List.take_succ_cons, show (Lib.index l t).toNat + 1 + t.length = ((Lib.index l t).toNat + t.length) + 1 by omega, List.drop_succ_cons, qW, qW, ← ih (by omega)]
 intro s t a b ht h
 unfold Lib.cut at h
 split at h
 ·rename_i h0
  cases h
  exact key s t ht h0
 ·cases h
theorem Qog : ∀ (p s : List UInt8) (x : UInt8) (t : List UInt8), x ∉ p → Lib.cut (p ++ (x :: t) ++ s) (x :: t) = (p, s, true) := by
 have key : ∀ (p s : List UInt8) (x : UInt8) (t : List UInt8), x ∉ p → Lib.index (p ++ (x :: t) ++ s) (x :: t) = p.length := by
  intro p s x t
  induction p with
  | nil =>
   intro _
   show Lib.index (x :: (t ++ s)) (x :: t) = 0
   rw [Qcb, qE (List.isPrefixOf_iff_prefix.2 ⟨s, by simp⟩)]
  | cons b p ih =>
   intro h
   simp only [qo, not_or] at h
   rw [qW, qW, Qcb, qz (by simp [List.isPrefixOf, h.1]), ih h.2, qz (by simp)]
   simp
 intro p s x t h
 unfold Lib.cut
 rw [key p s x t h, qE (by omega)]
 simp only [qt]
 rw [qM, List.take_left, ← qM, show p.length + (x :: t).length = (p ++ (x :: t)).length by simp, List.drop_left]
def Qb2 (s : List UInt8) : Option Int := match Lib.atoiAll s with | .ok v => if Lib.itoa v = s then some v else none | _ => none
def Qdp (s : List UInt8) : Int := match Lib.atoiAll s with | .ok v => v | Lib.NumEnd.syntax => 0 | .range => Lib.atoiSat s
theorem QgO {s : List UInt8} {v : Int} (h : Qb2 s = some v) : Lib.itoa v = s := by
 unfold Qb2 at h
 split at h
 ·split at h
  ·rename_i e; cases h; exact e
  ·cases h
 ·cases h
theorem Qcd (u : Nat) : ∀ b ∈ Lib.decDigits u, 48 ≤ b.toNat ∧ b.toNat ≤ 57 := by
 induction u using Nat.strongRecOn with
 | _ u ih =>
  intro b hb
  have e : ∀ k, k < 10 → (UInt8.ofNat (48 + k)).toNat = 48 + k := fun k hk => by simp; omega
  rw [Lib.decDigits] at hb
  split at hb
  ·rename_i h
   simp only [qZ] at hb
   rw [hb, e u h]
   omega
  ·rcases qp.1 hb with hb | hb
   ·exact ih (u / 10) (by omega) b hb
   ·simp only [qZ] at hb
    rw [hb, e (u % 10) (by omega)]
    omega
theorem QmQ (v : Int) (b : UInt8) (h : b ∈ Lib.itoa v) : b.toNat = 45 ∨ 48 ≤ b.toNat ∧ b.toNat ≤ 57 := by
 unfold Lib.itoa at h
 split at h
 ·rcases qo.1 h with rfl | h
  ·exact .inl rfl
  ·exact .inr (Qcd _ b h)
 ·exact .inr (Qcd _ b h)
theorem Qfs {v : Int} {b : UInt8} (h : b.toNat ≠ 45 ∧ (b.toNat < 48 ∨ 57 < b.toNat)) : b ∉ Lib.itoa v := fun hm => by
 have := QmQ v b hm
 omega
theorem QgL : ∀ (l1 l2 : List UInt8) (a : Nat), Lib.parseUint10 a (l1 ++ l2) = match Lib.parseUint10 a l1 with | .ok b => Lib.parseUint10 b l2 | Lib.NumEnd.syntax => Lib.NumEnd.syntax | .range => .range
 | [], l2, a => rfl
 | c :: l1, l2, a => by
  have h := QgL l1 l2 (a * 10 + (c.toNat - 48))
  rw [qW]
  simp only [Lib.parseUint10]
  split
  ·split
   ·rfl
   ·split
    ·rfl
    ·exact h
  ·rfl
theorem Qlf (u : Nat) (h : u < 9223372036854775808) : Lib.parseUint10 0 (Lib.decDigits u) = .ok u := by
 induction u using Nat.strongRecOn with
 | _ u ih =>
  have e : ∀ k, k < 10 → (UInt8.ofNat (48 + k)).toNat = 48 + k := fun k hk => by simp; omega
  rw [Lib.decDigits]
  split
  ·rename_i h
   simp only [Lib.parseUint10, e u h]
   rw [qE (by omega), qz (by omega), qz (by omega)]
   congr 1
   omega
  ·rw [QgL, ih (u / 10) (by omega) (by omega)]
   simp only [Lib.parseUint10, e (u % 10) (by omega)]
   rw [qE (by omega), qz (by omega), qz (by omega)]
   congr 1
   omega
theorem Qo9 (u : Nat) : Lib.decDigits u ≠ [] := by
 rw [Lib.decDigits]
 split <;> simp
theorem Jl {v : Int} (h0 : 0 ≤ v) (h1 : v < 9223372036854775808) : Qb2 (Lib.itoa v) = some v := by
 obtain ⟨u, rfl⟩ : ∃ u : Nat, v = u := ⟨v.toNat, by omega⟩
 have e : Lib.itoa (u : Int) = Lib.decDigits u := Lib.itoa_nonneg u
 have ha : Lib.atoiAll (Lib.decDigits u) = .ok (u : Int) := by
  have hd := Qcd u
  have hp := Qlf u (by omega)
  have hn := Qo9 u
  unfold Lib.atoiAll
  split
  ·rename_i h; exact absurd h hn
  ·rename_i c r h
   have hc := hd c (by rw [h]; simp)
   rw [qz (by omega)]
   have hm : Lib.parseMag (Lib.decDigits u) = .ok u := by unfold Lib.parseMag; rw [qz hn, hp]
   simp only [← h, hm]
   rw [qz (by omega), qz (by omega), qz (by omega)]
 unfold Qb2
 rw [e, ha]
 simp only [e, yI]
structure Rp where
 f : Int
 c : Int
 b : Int
 r : Int
 n : Int
 m : Int
 l : List Int
 e : Int
 p : Int
 q : Int
 g : Int
def Rp.av (x : Rp) : AV := .agg [.int .i64 x.f, .int .i64 x.c, .int .i64 x.b, .int .i64 x.r, .int .i64 x.n, .int .i64 x.m, QL x.l, .int .i64 x.e, .int .u8 x.p, .int .i64 x.q, .int .i64 x.g]
def Rp.zero : Rp := ⟨0, 0, 0, 0, 0, 0, [], 0, 0, 0, 0⟩
def Qew (x : Rp) : Prop := hdN x.f x.c x.b x.r x.n = 0 ∧ skN x.l = 0 ∧ (QJ (Qw x.r).toNat x.n.toNat).length = x.l.length ∧ 22 ≤ x.m ∧ x.m ≤ 100000 ∧ 0 ≤ x.e ∧ x.e ≤ 99 ∧ 0 ≤ x.p ∧ x.p ≤ 6 ∧ 0 ≤ x.q ∧ x.q < x.l.length ∧ 0 ≤ x.g ∧ x.g ≤ 12000
instance decRpOk (x : Rp) : Decidable (Qew x) := by unfold Qew; exact inferInstance
def wF1 : List UInt8 := [102, 111, 114, 109, 97, 116]
def wC1 : List UInt8 := [99, 104, 97, 110, 110, 101, 108, 115]
def wB1 : List UInt8 := [98, 105, 116, 115]
def wR1 : List UInt8 := [114, 97, 116, 101]
def wN1 : List UInt8 := [99, 111, 117, 110, 116]
def wF2 : List UInt8 := [102, 114, 97, 109, 101, 115]
def wF3 : List UInt8 := [102, 111, 117, 110, 100]
def ln1 (x : Rp) : List UInt8 := Ze 32 [wF1, Lib.itoa x.f, wC1, Lib.itoa x.c, wB1, Lib.itoa x.b, wR1, Lib.itoa x.r, wN1, Lib.itoa x.n]
def ln2 (x : Rp) : List UInt8 := Ze 32 [wF2, Lib.itoa x.m] ++ [58, 32] ++ Ze 32 (x.l.map Lib.itoa)
def ln3 (x : Rp) : List UInt8 := [102, 111, 117, 110, 100, 32] ++ Ze 32 [Lib.itoa x.e, Lib.itoa x.p, Lib.itoa x.q, Lib.itoa x.g]
def txt (x : Rp) : List UInt8 := Ze 10 [ln1 x, ln2 x, ln3 x, []]
def Qdq : List (List UInt8) → List (List UInt8) → Option (List Int)
 | [], [] => some []
 | w :: ws, p :: q :: ps => if p = w then match Qb2 q with | some v => (Qdq ws ps).map (v :: ·) | none => none else none
 | _, _ => none
def QcP (s : List UInt8) : Option (List Int) := (pcs 32 s).mapM Qb2
def rdQ (s : List UInt8) : Rp × Bool :=
 match pcs 10 s with
 | [a, b, d, []] =>
  match Qdq [wF1, wC1, wB1, wR1, wN1] (pcs 32 a) with
  | some [f, c, bb, r, n] =>
   match Lib.cut b [58, 32] with
   | (w, all, true) =>
    match Qdq [wF2] (pcs 32 w) with
    | some [m] =>
     match QcP all with
     | some l =>
      if d.take 6 = [102, 111, 117, 110, 100, 32] then
       match QcP (d.drop 6) with
       | some [e, p, q, g] => if 0 ≤ p ∧ p ≤ 6 then (⟨f, c, bb, r, n, m, l, e, p, q, g⟩, true) else (⟨f, c, bb, r, n, m, l, 0, 0, 0, 0⟩, false)
       | _ => (⟨f, c, bb, r, n, m, l, 0, 0, 0, 0⟩, false)
      else (⟨f, c, bb, r, n, m, l, 0, 0, 0, 0⟩, false)
     | none => (⟨f, c, bb, r, n, m, [], 0, 0, 0, 0⟩, false)
    | _ => (⟨f, c, bb, r, n, 0, [], 0, 0, 0, 0⟩, false)
   | _ => (⟨f, c, bb, r, n, 0, [], 0, 0, 0, 0⟩, false)
  | _ => (Rp.zero, false)
 | _ => (Rp.zero, false)
def rdO (s : List UInt8) : Option Rp := if (rdQ s).2 = true then some (rdQ s).1 else none
theorem QgQ : ∀ {L : List (List UInt8)} {l : List Int}, L.mapM Qb2 = some l → L = l.map Lib.itoa
 | [], l, h => by simp at h; subst h; rfl
 | p :: L, l, h => by
  simp only [qP, qx, qk, qe, qc] at h
  obtain ⟨v, hv, r, hr, rfl⟩ := h
  rw [qC, QgO hv, ← QgQ hr]
theorem QeD {s : List UInt8} {l : List Int} (h : QcP s = some l) : s = Ze 32 (l.map Lib.itoa) := by
 rw [← QgQ h, J4]
theorem QgN : ∀ {l : List Int}, (∀ v ∈ l, 0 ≤ v ∧ v < 9223372036854775808) → (l.map Lib.itoa).mapM Qb2 = some l
 | [], _ => rfl
 | v :: l, h => by
  simp only [qC, qP, Jl (h v (by simp)).1 (h v (by simp)).2, QgN fun u hu => h u (qN _ hu), qx, qk, yW]
theorem QgW {l : List Int} (hl : l ≠ []) (h : ∀ v ∈ l, 0 ≤ v ∧ v < 9223372036854775808) : QcP (Ze 32 (l.map Lib.itoa)) = some l := by
 unfold QcP
 rw [Qbo (by simpa using hl) (fun p hp => by
  obtain ⟨v, _, rfl⟩ := qV.1 hp
  exact Qfs (by decide)), QgN h]
theorem JL : ∀ {ws ps : List (List UInt8)} {vs : List Int}, Qdq ws ps = some vs → ps = (List.zipWith (fun w v => [w, Lib.itoa v]) ws vs).flatten ∧ vs.length = ws.length
 | [], [], vs, h => by simp only [Qdq, qc] at h; subst h; exact ⟨rfl, rfl⟩
 | w :: ws, p :: q :: ps, vs, h => by
  simp only [Qdq] at h
  split at h
  case isFalse => cases h
  rename_i e
  split at h
  case h_2 => cases h
  rename_i v hv
  obtain ⟨r, hr, rfl⟩ := qa.1 h
  obtain ⟨h1, h2⟩ := JL hr
  rw [e, ← QgO hv]
  exact ⟨by simp [← h1], by simp [h2]⟩
 | [], p :: ps, vs, h => by simp [Qdq] at h
 | w :: ws, [], vs, h => by simp [Qdq] at h
 | w :: ws, [p], vs, h => by simp [Qdq] at h
theorem QoF {s : List UInt8} {x : Rp} (h : rdO s = some x) : txt x = s := by
 unfold rdO at h
 split at h
 case isFalse => cases h
 rename_i hy
 cases h
 generalize hq : rdQ s = y at hy ⊢
 unfold rdQ at hq
 split at hq
 case h_2 => subst hq; cases hy
 rename_i a b d h10
 split at hq
 case h_2 => subst hq; cases hy
 rename_i f c bb r n h1
 split at hq
 case h_2 => subst hq; cases hy
 rename_i w all hcut
 split at hq
 case h_2 => subst hq; cases hy
 rename_i m h2
 split at hq
 case h_2 => subst hq; cases hy
 rename_i l h3
 split at hq
 case isFalse => subst hq; cases hy
 rename_i hf
 split at hq
 case h_2 => subst hq; cases hy
 rename_i e p q g h4
 split at hq
 case isFalse => subst hq; cases hy
 subst hq
 have e1 := (JL h1).1
 have e2 := (JL h2).1
 have e3 := QeD h3
 have e4 := QeD h4
 have c1 := J4 32 a
 have c2 := J4 32 w
 have c3 := Qm6 _ _ _ _ (by simp) hcut
 rw [e1] at c1
 rw [e2] at c2
 have hs := J4 10 s
 rw [h10] at hs
 rw [← hs]
 unfold txt
 have k1 : ln1 ⟨f, c, bb, r, n, m, l, e, p, q, g⟩ = a := by rw [← c1]; rfl
 have k2 : ln2 ⟨f, c, bb, r, n, m, l, e, p, q, g⟩ = b := by rw [c3, ← c2, e3]; rfl
 have k3 : ln3 ⟨f, c, bb, r, n, m, l, e, p, q, g⟩ = d := by
  have : d = d.take 6 ++ d.drop 6 := (yr 6 d).symm
  rw [this, hf, e4]
  rfl
 rw [k1, k2, k3]
theorem QkA {c : UInt8} (h : c = 10 ∨ c = 32 ∨ c = 58) : c ∉ wF1 ∧ c ∉ wC1 ∧ c ∉ wB1 ∧ c ∉ wR1 ∧ c ∉ wN1 ∧ c ∉ wF2 ∧ c ∉ wF3 := by
 rcases h with rfl | rfl | rfl <;> decide
theorem J5 {c b : UInt8} : ∀ {L : List (List UInt8)}, b ∈ Ze c L → b = c ∨ ∃ p ∈ L, b ∈ p
 | [], h => by simp [Ze] at h
 | [p], h => .inr ⟨p, by simp, h⟩
 | p :: q :: r, h => by
  rw [Ze] at h
  rcases qp.1 h with h | h
  ·exact .inr ⟨p, by simp, h⟩
  ·rcases qo.1 h with h | h
   ·exact .inl h
   ·rcases J5 h with h | ⟨x, hx, h⟩
    ·exact .inl h
    ·exact .inr ⟨x, qN _ hx, h⟩
theorem Qi4 : ∀ {l : List Int} {m : Int}, QhQ m l → ∀ v ∈ l, 5 ≤ v ∧ v ≤ m := by
 intro l
 induction l with
 | nil => intro m _ v hv; cases hv
 | cons a l ih =>
  intro m h v hv
  simp only [QhQ] at h
  rcases qo.1 hv with rfl | hv
  ·exact ⟨h.1, h.2.1⟩
  ·have := ih h.2.2 v hv
   omega
theorem Qfc {l : List Int} (h : skN l = 0) : l ≠ [] ∧ l.length ≤ 1000 ∧ ∀ v ∈ l, 5 ≤ v ∧ v ≤ 100000 := by
 unfold skN at h
 split at h
 ·cases h
 rename_i h1
 split at h
 ·rename_i h2
  exact ⟨fun e => h1 (.inl (by rw [e]; rfl)), by omega, fun v hv => Qi4 h2 v hv⟩
 ·cases h
theorem QeH {f c b r n : Int} (h : hdN f c b r n = 0) : shP f c b r n ∧ Qjp c r n := by
 unfold hdN at h
 split at h
 ·assumption
 ·cases h
theorem Qjm {f c b r n : Int} (h : hdN f c b r n = 0) : 1 ≤ n ∧ n ≤ 4000 := by
 obtain ⟨⟨_, _, h1, h2, _, _, h3⟩, h4, _⟩ := QeH h
 have : (4000 : Int) / c ≤ 4000 := yX _ (by omega)
 exact ⟨h3, by omega⟩
theorem Qi1 {x : Rp} (h : Qew x) : rdO (txt x) = some x := by
 obtain ⟨h1, h2, h3, h4, h5, h6, h7, h8, h9, h10, h11, h12, h13⟩ := h
 obtain ⟨k1, k2, k3⟩ := Qfc h2
 obtain ⟨⟨s1, s2, s3, s4, s5, s6, s7⟩, _⟩ := QeH h1
 have s8 := Qjm h1
 have w10 := QkA (c := 10) (.inl rfl)
 have w32 := QkA (c := 32) (.inr (.inl rfl))
 have w58 := QkA (c := 58) (.inr (.inr rfl))
 have nl : ∀ v, (10 : UInt8) ∉ Lib.itoa v := fun v => Qfs (by decide)
 have ns : ∀ v, (32 : UInt8) ∉ Lib.itoa v := fun v => Qfs (by decide)
 have nc : ∀ v, (58 : UInt8) ∉ Lib.itoa v := fun v => Qfs (by decide)
 have p10 : pcs 10 (txt x) = [ln1 x, ln2 x, ln3 x, []] := by
  refine Qbo (by simp) fun p hp => ?_
  simp only [qo, qQ, or_false] at hp
  rcases hp with rfl | rfl | rfl | rfl
  ·intro hm
   rcases J5 hm with hm | ⟨p, hp, hm⟩
   ·exact absurd hm (by decide)
   ·simp only [qo, qQ, or_false] at hp
    rcases hp with rfl | rfl | rfl | rfl | rfl | rfl | rfl | rfl | rfl | rfl
    ·exact w10.1 hm
    ·exact nl _ hm
    ·exact w10.2.1 hm
    ·exact nl _ hm
    ·exact w10.2.2.1 hm
    ·exact nl _ hm
    ·exact w10.2.2.2.1 hm
    ·exact nl _ hm
    ·exact w10.2.2.2.2.1 hm
    ·exact nl _ hm
  ·intro hm
   unfold ln2 at hm
   rcases qp.1 hm with hm | hm
   ·rcases qp.1 hm with hm | hm
    ·rcases J5 hm with hm | ⟨p, hp, hm⟩
     ·exact absurd hm (by decide)
     ·simp only [qo, qQ, or_false] at hp
      rcases hp with rfl | rfl
      ·exact w10.2.2.2.2.2.1 hm
      ·exact nl _ hm
    ·exact absurd hm (by decide)
   ·rcases J5 hm with hm | ⟨p, hp, hm⟩
    ·exact absurd hm (by decide)
    ·obtain ⟨v, _, rfl⟩ := qV.1 hp
     exact nl _ hm
  ·intro hm
   unfold ln3 at hm
   rcases qp.1 hm with hm | hm
   ·exact absurd hm (by decide)
   ·rcases J5 hm with hm | ⟨p, hp, hm⟩
    ·exact absurd hm (by decide)
    ·simp only [qo, qQ, or_false] at hp
     rcases hp with rfl | rfl | rfl | rfl <;> exact nl _ hm
  ·simp
 have q1 : pcs 32 (ln1 x) = [wF1, Lib.itoa x.f, wC1, Lib.itoa x.c, wB1, Lib.itoa x.b, wR1, Lib.itoa x.r, wN1, Lib.itoa x.n] := by
  refine Qbo (by simp) fun p hp => ?_
  simp only [qo, qQ, or_false] at hp
  rcases hp with rfl | rfl | rfl | rfl | rfl | rfl | rfl | rfl | rfl | rfl
  ·exact w32.1
  ·exact ns _
  ·exact w32.2.1
  ·exact ns _
  ·exact w32.2.2.1
  ·exact ns _
  ·exact w32.2.2.2.1
  ·exact ns _
  ·exact w32.2.2.2.2.1
  ·exact ns _
 have q2 : pcs 32 (Ze 32 [wF2, Lib.itoa x.m]) = [wF2, Lib.itoa x.m] := by
  refine Qbo (by simp) fun p hp => ?_
  simp only [qo, qQ, or_false] at hp
  rcases hp with rfl | rfl
  ·exact w32.2.2.2.2.2.1
  ·exact ns _
 have q3 : Lib.cut (ln2 x) [58, 32] = (Ze 32 [wF2, Lib.itoa x.m], Ze 32 (x.l.map Lib.itoa), true) := by
  refine Qog _ _ 58 [32] fun hm => ?_
  rcases J5 hm with hm | ⟨p, hp, hm⟩
  ·exact absurd hm (by decide)
  ·simp only [qo, qQ, or_false] at hp
   rcases hp with rfl | rfl
   ·exact w58.2.2.2.2.2.1 hm
   ·exact nc _ hm
 have big : ∀ v ∈ x.l, 0 ≤ v ∧ v < 9223372036854775808 := fun v hv => by have := k3 v hv; omega
 have hlen : (x.l.length : Int) ≤ 1000 := by omega
 have m1 : Qdq [wF1, wC1, wB1, wR1, wN1] (pcs 32 (ln1 x)) = some [x.f, x.c, x.b, x.r, x.n] := by
  rw [q1]
  simp only [Qdq, yI, Jl (v := x.f) (by omega) (by omega), Jl (v := x.c) (by omega) (by omega), Jl (v := x.b) (by omega) (by omega), Jl (v := x.r) (by omega) (by omega), Jl (v := x.n) (by omega) (by omega), qS]
 have m2 : Qdq [wF2] (pcs 32 (Ze 32 [wF2, Lib.itoa x.m])) = some [x.m] := by
  rw [q2]
  simp only [Qdq, yI, Jl (v := x.m) (by omega) (by omega), qS]
 have m3 : QcP (Ze 32 (x.l.map Lib.itoa)) = some x.l := QgW k1 big
 have d3 : (ln3 x).drop 6 = Ze 32 ([x.e, x.p, x.q, x.g].map Lib.itoa) := rfl
 have m4 : QcP ((ln3 x).drop 6) = some [x.e, x.p, x.q, x.g] := by
  rw [d3]
  refine QgW (by simp) fun v hv => ?_
  simp only [qo, qQ, or_false] at hv
  rcases hv with rfl | rfl | rfl | rfl <;> omega
 have d4 : (ln3 x).take 6 = [102, 111, 117, 110, 100, 32] := rfl
 have hr : rdQ (txt x) = (x, true) := by
  unfold rdQ
  simp only [p10, m1, q3, m2, m3, d4, m4, yI]
  rw [qE ⟨h8, h9⟩]
 unfold rdO
 rw [hr]
 rfl
theorem QnB {x y : Rp} (hx : Qew x) (hy : Qew y) (h : txt x = txt y) : x = y := by
 have h1 := Qi1 hx
 rw [h, Qi1 hy] at h1
 cases h1
 rfl
theorem QmK (s : List UInt8) : -9223372036854775808 ≤ Qdp s ∧ Qdp s ≤ 9223372036854775807 := by
 unfold Qdp
 split
 ·rename_i h; exact Lib.atoiAll_bounds h
 ·omega
 ·exact Lib.atoiSat_bounds s
def Qc8 (P : Prg) (f : Nat) : Prop := ∀ s : List UInt8, s.length ≤ 1000000 → VC P f [.str s] (.tup [.int .i64 (Qdp s), .bool (Qb2 s).isSome])
theorem QgR {P : Prg} {f fA fI : Nat} (bd : Body P f 20 [.tmp 2, .tmp 3] (Xz fA fI)) (hA : S_Atoi P fA) (hI : S_Itoa P fI) : Qc8 P f := by
 intro s hs
 refine ZR rfl rfl bd ?_
 simp (maxSteps := 4000000) (disch := omega) only [rq, simprocAttr, Xz]
 refine hA s _ _ hs (fun v hv => ?_) (fun t p hv => ?_) (fun t p hv => ?_)
 ·obtain ⟨b1, b2⟩ := Lib.atoiAll_bounds hv
  have hI' := hI v b1 b2
  have e1 : Qdp s = v := by unfold Qdp; rw [hv]
  have e2 : (Qb2 s).isSome = (Lib.itoa v == s) := by
   unfold Qb2
   rw [hv]
   by_cases h : Lib.itoa v = s <;> simp [h]
  have hs1 : Qgy .eql (Lib.itoa v) s = some (.bool (Lib.itoa v == s)) := rfl
  rw [e1, e2]
  simp (maxSteps := 4000000) (disch := omega) only [rq, simprocAttr]
  refine Qa hI' ?_
  simp (maxSteps := 4000000) (disch := omega) only [rq, simprocAttr, hs1]
 ·have e1 : Qdp s = 0 := by unfold Qdp; rw [hv]
  have e2 : (Qb2 s).isSome = false := by unfold Qb2; rw [hv]; rfl
  rw [e1, e2]
  simp (maxSteps := 4000000) (disch := omega) only [rq, simprocAttr]
 ·have e1 : Qdp s = Lib.atoiSat s := by unfold Qdp; rw [hv]
  have e2 : (Qb2 s).isSome = false := by unfold Qb2; rw [hv]; rfl
  rw [e1, e2]
  simp (maxSteps := 4000000) (disch := omega) only [rq, simprocAttr]
def J9 (P : Prg) (f : Nat) : Prop := ∀ s t : List UInt8, s.length ≤ 1000000 → t.length ≤ 1000000 → VC P f [.str s, .str t] (if s.take t.length = t then .tup [.str (s.drop t.length), .bool true] else .tup [.str s, .bool false])
theorem QgD {P : Prg} {f fH : Nat} (bd : Body P f 15 [.tmp 4, .tmp 5] (Qt fH)) (hH : Qmb P fH) : J9 P f := by
 intro s t hs ht
 refine ZR rfl (by split <;> rfl) bd ?_
 have hH' := hH s t hs ht
 by_cases h : s.take t.length = t
 ·have hl : t.length ≤ s.length := by have := congrArg List.length h; rw [qX] at this; omega
  rw [beq_iff_eq.2 h] at hH'
  rw [qE h]
  simp (maxSteps := 4000000) (disch := omega) only [rq, simprocAttr, Qt]
  refine Qa hH' ?_
  simp (maxSteps := 4000000) (disch := omega) only [rq, simprocAttr]
 ·rw [yx.2 h] at hH'
  rw [qz h]
  simp (maxSteps := 4000000) (disch := omega) only [rq, simprocAttr, Qt]
  refine Qa hH' ?_
  simp (maxSteps := 4000000) (disch := omega) only [rq, simprocAttr]
theorem Qb5 {P : Prg} {f fH : Nat} (bd : Body P f 11 [.tmp 4, .tmp 5] (QY fH)) (hH : J9 P fH) : J9 P f := by
 intro s t hs ht
 refine ZR rfl (by split <;> rfl) bd ?_
 have hH' := hH s t hs ht
 by_cases h : s.take t.length = t
 ·rw [qE h] at hH' ⊢
  simp (maxSteps := 4000000) (disch := omega) only [rq, simprocAttr, QY]
  refine Qa hH' ?_
  simp (maxSteps := 4000000) (disch := omega) only [rq, simprocAttr]
 ·rw [qz h] at hH' ⊢
  simp (maxSteps := 4000000) (disch := omega) only [rq, simprocAttr, QY]
  refine Qa hH' ?_
  simp (maxSteps := 4000000) (disch := omega) only [rq, simprocAttr]
def Qcj (t0 t1 : Nat) (c : UInt8) (P : Prg) (f : Nat) : Prop := ∃ g, Enters P g ∧ QdY c t0 P g ∧ ∀ (s : List UInt8) (x0 x1 x2 : Ob) (K : AV → List Ob → Prop), K (.fn (.func g) [] [.cell [.str [c]], .ref 3 1 0, .cell [.int .i64 0]]) [x0, x1, x2, bx t0 s, ⟨t0, 1, 1, [.str [c]], 1⟩, ⟨t1, 1, 1, [.int .i64 0], 1⟩] → ACall P f [.str s, .str [c]] [x0, x1, x2] K
def Qa8 (t0 t1 : Nat) (c : UInt8) (P : Prg) (f : Nat) : Prop := ∃ g, Enters P g ∧ QdY c t0 P g ∧ ∀ (s : List UInt8) (x0 x1 x2 : Ob) (K : AV → List Ob → Prop), K (.fn (.func g) [] [.cell [.str [c]], .ref 3 1 0, .cell [.int .i64 0]]) [x0, x1, x2, bx t0 s, ⟨t0, 1, 1, [.str [c]], 1⟩, ⟨t1, 1, 1, [.int .i64 0], 1⟩] → ACall P f [.str s, .str [c], .int .i64 0] [x0, x1, x2] K
theorem QcN {P : Prg} {f g t0 t1 fD fX : Nat} {c : UInt8} (bd : Body P f 8 [.tmp 6] (ZD g t0 t1)) (bG : Body P g 52 [] (QV fD fX)) (hX : S_StrIndex P fX) : Qa8 t0 t1 c P f := by
 refine ⟨g, bG.ent, Qb4 bG hX, fun s x0 x1 x2 K hK => ?_⟩
 refine ACall.of_cut 1 bd (by simp) ?_
 simp (maxSteps := 4000000) (disch := omega) only [rq, simprocAttr, Qof, ZD]
 refine ⟨⟨[(4, .cell [.str [c]]), (3, .ref 3 1 0), (5, .cell [.int .i64 0])], _⟩, Le.still [4, 5] 1 (by simp [Am.look, Zf, frzL, Q6, isDL, isD]), ?_⟩
 simp (maxSteps := 4000000) (disch := omega) only [rq, simprocAttr, Qof, Qe]
 exact hK
theorem QcO {P : Prg} {f fS t0 t1 : Nat} {c : UInt8} (bd : Body P f 8 [.tmp 4] (ZE fS)) (hS : Qa8 t0 t1 c P fS) : Qcj t0 t1 c P f := by
 obtain ⟨g, h1, h2, h3⟩ := hS
 refine ⟨g, h1, h2, fun s x0 x1 x2 K hK => Ql bd (by simp) ?_⟩
 simp (maxSteps := 4000000) (disch := omega) only [rq, simprocAttr, ZE]
 refine h3 s x0 x1 x2 _ ?_
 simp (maxSteps := 4000000) (disch := omega) only [rq, simprocAttr]
 exact hK
def Qfm (s : List UInt8) : AV := match QcP s with | some l => .tup [QL l, .bool true] | none => .tup [.list 0 [], .bool false]
theorem Qlt (s : List UInt8) : isD (Qfm s) = true := by unfold Qfm; split <;> simp [isD, isDL, Xh]
def Qmc (P : Prg) (f : Nat) : Prop := ∀ s : List UInt8, s.length ≤ 1000000 → VC P f [.str s] (Qfm s)
theorem Qcr {α β : Type} {f : α → Option β} : ∀ {l : List α} {x : α}, x ∈ l → f x = none → l.mapM f = none
 | a :: l, x, hx, h => by
  rw [qP]
  rcases qo.1 hx with rfl | hx
  ·rw [h]; rfl
  ·rw [Qcr hx h]; cases f a <;> rfl
theorem Qdt {α β : Type} {f : α → Option β} {g : α → β} : ∀ {l : List α}, (∀ x ∈ l, f x = some (g x)) → l.mapM f = some (l.map g)
 | [], _ => rfl
 | a :: l, h => by
  rw [qP, h a (by simp), Qdt fun x hx => h x (qN _ hx)]
  rfl
theorem Qlh {s : List UInt8} {v : Int} (h : Qb2 s = some v) : Qdp s = v := by
 unfold Qb2 at h
 unfold Qdp
 split at h
 ·rename_i h1
  rw [h1]
  split at h
  ·cases h; rfl
  ·cases h
 ·cases h
theorem Qfh (c : UInt8) : ∀ s : List UInt8, (pcs c s).length ≤ s.length + 1
 | [] => by simp [pcs]
 | b :: l => by
  have := Qfh c l
  unfold pcs
  split
  ·simp; omega
  ·split
   ·simp
   ·rename_i h; rw [h] at this; simp at this ⊢; omega
theorem Qbn (c : UInt8) : ∀ (s : List UInt8), ∀ p ∈ pcs c s, p.length ≤ s.length
 | [], p, hp => by simp [pcs] at hp; simp [hp]
 | b :: l, p, hp => by
  have ih := Qbn c l
  unfold pcs at hp
  split at hp
  ·rcases qo.1 hp with rfl | hp
   ·simp
   ·have := ih p hp; simp; omega
  ·split at hp
   ·simp at hp; simp [hp]
   ·rename_i q r h
    rw [h] at ih
    rcases qo.1 hp with rfl | hp
    ·have := ih q (by simp); simp; omega
    ·have := ih p (qN _ hp); simp; omega
theorem QmY {α β : Type} (L : List α) (f : α → β) : (List.finRange L.length).map (fun x => f L[x]) = L.map f := by
 apply List.ext_getElem <;> simp
theorem Qfo {P : Prg} {f fS fN t0 t1 t2 u1 : Nat} (bd : Qer P f 23 [.cell 2 t0, .cell 3 t1] (Xd fS fN t0 t1 t2)) {u0 : Nat} (hS : Qcj u0 u1 32 P fS) (hN : Qc8 P fN) (ht0 : Xp P t0 = some none) (ht1 : Xp P t1 = some none) : Qmc P f := by
 intro s hs
 refine QT 2 (by simp [isDL, isD]) (Qlt s) (ACall.of_rangeS bd (by simp) ?_)
 obtain ⟨g, gE, gI, gK⟩ := hS
 simp (maxSteps := 4000000) (disch := omega) only [rq, simprocAttr, Xd, QkB, Qmq, Qj1, QnX, QeF, QnZ]
 refine gK s _ _ _ _ ?_
 simp (maxSteps := 4000000) (disch := omega) only [rq, simprocAttr, QeF]
 let L := pcs 32 s
 let val : Fin L.length → Int := fun x => Qdp L[x]
 let G : List (Fin L.length) → Prop := fun pre => ∀ x ∈ pre, (Qb2 L[x]).isSome = true
 refine ⟨g, 3, u0, [32], s, pcs 32, [(9, .fn (.func g) [] [.cell [.str [32]], .ref 3 1 0, .cell [.int .i64 0]]), (2, .ref 0 1 0), (3, .ref 1 1 0), (4, .ref 2 1 0)], G,
  fun pre => [⟨t0, 1, 1, [.emp true], 0⟩, ⟨t1, 1, 1, [.bool false], 0⟩, ⟨t0, 1, 1, [.own 6 pre.length], 0⟩, bx u0 [], ⟨u0, 1, 1, [.str [32]], 1⟩, ⟨u1, 1, 1, [.int .i64 0], 1⟩, ⟨t2, 1, pre.length, ks .i64 (pre.map val), 0⟩], fun x hx => (by cases hx), ?_, rfl, gE, hs, gI, by decide, by decide, rfl, fun pre => by simp, ?_, ?_⟩
 ·refine Le.trans (Le.virtC 2 0 t2 1 (by decide) rfl rfl) (QA)
 ·intro pre x r hG hpl
  have hx : x.1 < L.length := x.2
  have hLx : L[x].length ≤ 1000000 := qH (Qbn 32 s _ (yf x.2)) hs
  have hLl : pre.length ≤ 1000001 := by have := Qfh 32 s; omega
  have hN' := hN L[x] hLx
  show wpC P 23 7 _ _ ⟨QQ (QQ _ (some 10) (.str L[x])) (some 5) (.str L[x]), _⟩
  have hval : val x = Qdp L[x] := rfl
  have hmem : L[x] ∈ L := yf x.2
  have hGx : (Qb2 L[x]).isSome = true → G (pre ++ [x]) := fun h y hy => by
   rcases qp.1 hy with hy | hy
   ·exact hG y hy
   ·simp only [qZ] at hy; rw [hy]; exact h
  have hnone : Qb2 L[x] = none → QcP s = none := fun h => Qcr hmem h
  generalize L[x] = w at *
  have hpm : (ks .i64 (pre.map val)).length = pre.length := by simp [ks]
  cases ho : Qb2 w with
  | none =>
   rw [ho] at hN'
   have hr : Qfm s = .tup [.list 0 [], .bool false] := by unfold Qfm; rw [hnone ho]
   simp (maxSteps := 4000000) (disch := omega) only [rq, simprocAttr, bx]
   refine Qa hN' ?_
   simp (maxSteps := 4000000) (disch := omega) only [rq, simprocAttr, yi, Option.isSome_none]
   refine ⟨[⟨t0, 1, 1, [.emp true], 0⟩, ⟨t1, 1, 1, [.bool false], 0⟩, ⟨t0, 1, 1, [.own 6 pre.length], 0⟩, bx u0 [], ⟨u0, 1, 1, [.str [32]], 1⟩, ⟨u1, 1, 1, [.int .i64 0], 1⟩, ⟨t2, 1, pre.length, ks .i64 (pre.map val), 0⟩], by simp, Jw (by simp), fun r' => ?_⟩
   simp (maxSteps := 4000000) (disch := omega) only [rq, simprocAttr, Z8, ht0, ht1, QM]
   rw [hr]
   simp [Z6, Zf, frzL, Q6]
  | some v =>
   rw [ho] at hN'
   simp (maxSteps := 4000000) (disch := omega) only [rq, simprocAttr, bx]
   refine Qa hN' ?_
   simp (maxSteps := 4000000) (disch := omega) only [rq, simprocAttr, qT, Option.isSome_some, hpm]
   have e1 : ks .i64 ((pre ++ [x]).map val) = ks .i64 (pre.map val) ++ [.int .i64 (Qdp w)] := by simp [ks, hval]
   rw [e1]
   refine ⟨hGx (by rw [ho]; rfl), ?_⟩
   refine Le.low (ob := [_, _, _, _, _, _, _]) (J := [_]) (by simp) ?_ (by simp)
   refine Low.cons rfl (Low.cons rfl (Low.cons rfl (Low.cons rfl (Low.cons rfl (Low.cons rfl (Low.cons ?_ Low.nil))))))
   exact lowL_D _ (by rw [← e1]; exact XM _ _)
 ·intro hG r
  have hall : QcP s = some (L.map Qdp) := by
   refine Qdt fun p hp => ?_
   obtain ⟨i, hi, rfl⟩ := yD.1 hp
   have h := hG ⟨i, hi⟩ (List.mem_finRange _)
   obtain ⟨v, hv⟩ := y7.1 h
   have hv' : Qb2 (pcs 32 s)[i] = some v := hv
   rw [hv', Qlh hv']
  have hfm : (List.finRange L.length).map val = L.map Qdp := QmY L Qdp
  have hr : Qfm s = .tup [QL (L.map Qdp), .bool true] := by unfold Qfm; rw [hall]
  rw [hr, ← hfm]
  have tl : isTL (ks .i64 ((List.finRange (pcs 32 s).length).map val)) = true := QK _ _
  show wpC P 23 7 _ _ _
  have hcl : (pcs 32 s).length = L.length := rfl
  simp (maxSteps := 4000000) (disch := omega) only [rq, simprocAttr, bx, QL, yO, List.length_finRange, hcl]
  simp (maxSteps := 4000000) (disch := omega) only [rq, simprocAttr, Z8, ht0, ht1, QM]
  simp [Z6, Zf, frzL, Q6, frzL_T _ tl]
  rfl
theorem QhZ {L : List (List UInt8)} {i : Nat} (h : i < L.length) : (L.map AV.str).drop i = .str (L.getD i []) :: (L.map AV.str).drop (i + 1) := by
 rw [yp (by simpa using h)]
 simp [h]
def Qky (ps : List (List UInt8)) (n : Nat) : List Int := (List.range n).map fun k => Qdp (ps.getD (2 * k + 1) [])
def Qij (ws ps : List (List UInt8)) (k : Nat) : Prop := ps.getD (2 * k) [] = ws.getD k [] ∧ (Qb2 (ps.getD (2 * k + 1) [])).isSome = true
theorem Qlj (p q : List UInt8) (ps : List (List UInt8)) (n : Nat) : Qky (p :: q :: ps) (n + 1) = Qdp q :: Qky ps n := by
 unfold Qky
 rw [List.range_succ_eq_map, qC, y0]
 simp only [List.cons.injEq]
 exact ⟨by simp, ye fun k _ => by
  show Qdp ((p :: q :: ps).getD (2 * (k + 1) + 1) []) = _
  rw [show 2 * (k + 1) + 1 = (2 * k + 1) + 1 + 1 by omega, yo, yo]⟩
theorem QeE {w p q : List UInt8} {ws ps : List (List UInt8)} {k : Nat} : Qij (w :: ws) (p :: q :: ps) (k + 1) ↔ Qij ws ps k := by
 unfold Qij
 rw [show 2 * (k + 1) + 1 = (2 * k + 1) + 1 + 1 by omega, show 2 * (k + 1) = (2 * k) + 1 + 1 by omega, yo, yo, yo, yo, yo]
theorem Qje : ∀ {ws ps : List (List UInt8)}, ps.length = 2 * ws.length → (∀ k, k < ws.length → Qij ws ps k) → Qdq ws ps = some (Qky ps ws.length)
 | [], [], _, _ => rfl
 | [], p :: ps, h, _ => by simp at h
 | w :: ws, [], h, _ => by simp at h
 | w :: ws, [p], h, _ => by simp at h; omega
 | w :: ws, p :: q :: ps, h, hk => by
  obtain ⟨h1, h2⟩ := hk 0 (by simp)
  have h1 : p = w := h1
  have h2 : (Qb2 q).isSome = true := h2
  obtain ⟨v, hv⟩ := y7.1 h2
  simp only [Qdq, h1, hv, yI]
  rw [Qje (ws := ws) (ps := ps) (by simp at h; omega) fun k hk' => QeE.1 (hk (k + 1) (by simp; omega)), qn, Qlj, Qlh hv]
  rfl
theorem Qjd : ∀ {ws ps : List (List UInt8)} {k : Nat}, k < ws.length → ¬ Qij ws ps k → Qdq ws ps = none
 | [], _, k, h, _ => by simp at h
 | w :: ws, [], k, h, _ => rfl
 | w :: ws, [p], k, h, _ => rfl
 | w :: ws, p :: q :: ps, k, h, hk => by
  simp only [Qdq]
  split
  ·rename_i h1
   split
   ·rename_i v hv
    cases k with
    | zero => exact absurd ⟨h1, by show (Qb2 q).isSome = true; rw [hv]; rfl⟩ hk
    | succ k =>
     rw [Qjd (k := k) (by simp at h; omega) fun h' => hk (QeE.2 h')]
     rfl
   ·rfl
  ·rfl
theorem Qjc : ∀ {ws ps : List (List UInt8)}, ps.length ≠ 2 * ws.length → Qdq ws ps = none
 | [], [], h => absurd rfl h
 | [], p :: ps, _ => rfl
 | w :: ws, [], _ => rfl
 | w :: ws, [p], _ => rfl
 | w :: ws, p :: q :: ps, h => by
  simp only [Qdq]
  split
  ·split
   ·rw [Qjc (by simp at h; omega)]
    rfl
   ·rfl
  ·rfl
def Qou (ws : List (List UInt8)) (s : List UInt8) : AV := match Qdq ws (pcs 32 s) with | some l => .tup [QL l, .bool true] | none => .tup [.list 0 [], .bool false]
theorem QmS (ws : List (List UInt8)) (s : List UInt8) : isD (Qou ws s) = true := by unfold Qou; split <;> simp [isD, isDL, Xh]
theorem QmR (l : List (List UInt8)) : isD (strL l) = true := by
 have hD : ∀ l : List (List UInt8), isDL (l.map AV.str) = true := fun l => by
  induction l with
  | nil => rfl
  | cons a l ih => simp only [qC, isDL, isD, ih]; rfl
 simp only [strL, isD]; exact hD _
theorem QgX : ∀ l : List (List UInt8), isTL (l.map AV.str) = true
 | [] => rfl
 | a :: l => by simp [isTL, isT, QgX l]
theorem QmH (c : UInt8) (s : List UInt8) (i : Nat) : ((pcs c s).getD i []).length ≤ s.length := by
 rw [qh]
 cases h : (pcs c s)[i]? with
 | none => simp
 | some p => exact Qbn c s p (qK h)
def QiV (P : Prg) (f : Nat) : Prop := ∀ (s : List UInt8) (ws : List (List UInt8)), s.length ≤ 1000000 → ws.length ≤ 1000 → VC P f [.str s, strL ws] (Qou ws s)
theorem Qik {P : Prg} {f fS fN t0 : Nat} (bd : Body P f 54 [.tmp 4, .tmp 5] (ZY fS fN t0)) (hS : S_SplitS P fS) (hN : Qc8 P fN) : QiV P f := by
 intro s ws hs hw
 refine QT 1 (by simp [isDL, isD, QmR]) (QmS ws s) (Ql bd (by simp) ?_)
 have hS' := hS s [32] hs (by simp)
 rw [QgA, strL] at hS'
 have hpl := Qfh 32 s
 have hN' : ∀ i, VC P fN [.str ((pcs 32 s).getD i [])] _ := fun i => hN _ (qH (QmH 32 s i) hs)
 have hA : Qou ws s = match Qdq ws (pcs 32 s) with | some l => .tup [QL l, .bool true] | none => .tup [.list 0 [], .bool false] := rfl
 generalize pcs 32 s = ps at *
 have lw : (ws.map AV.str).length = ws.length := by simp
 have lp : (ps.map AV.str).length = ps.length := by simp
 by_cases h0 : ps.length = 2 * ws.length
 case neg =>
  rw [hA, Qjc h0]
  simp (maxSteps := 4000000) (disch := omega) only [rq, simprocAttr, ZY, strL]
  refine Qa hS' ?_
  simp (maxSteps := 4000000) (disch := omega) only [rq, simprocAttr]
  simp [Z6, Zf, frzL, Q6]
 simp (maxSteps := 4000000) (disch := omega) only [rq, simprocAttr, ZY, strL]
 refine Qa hS' ?_
 simp (maxSteps := 4000000) (disch := omega) only [rq, simprocAttr]
 refine Zq (ι := Nat) (fun i => ⟨[(22, .int .i64 i), (21, .int .i64 ws.length), (20, .list ws.length (ws.map .str)), (7, .own 0 i), (6, .list ps.length (ps.map .str))], [⟨t0, 1, i, ks .i64 (Qky ps i), 0⟩]⟩)
  (fun i => i ≤ ws.length ∧ ∀ k, k < i → Qij ws ps k) (fun i => ws.length - i) 0 (Le.trans (Qmi 7 t0 1 (by decide) rfl) (QA)) ⟨yd _, fun k h => by omega⟩ ?_
 intro i ⟨hi, hk⟩
 have lv : (ks .i64 (Qky ps i)).length = i := by simp [ks, Qky]
 by_cases hi2 : i < ws.length
 ·have a1 := QhZ (L := ws) hi2
  have a2 := QhZ (L := ps) (i := 2 * i + 1) (by omega)
  have a3 := QhZ (L := ps) (i := 2 * i) (by omega)
  have t1 : (2 * (i : Int) + 1).toNat = 2 * i + 1 := by omega
  have t2 : (2 * (i : Int)).toNat = 2 * i := by omega
  by_cases hok : Qij ws ps i
  ·obtain ⟨k1, k2⟩ := hok
   have hN2 := hN' (2 * i + 1)
   rw [k2] at hN2
   have hse : Qgy .neq (ps.getD (2 * i) []) (ws.getD i []) = some (.bool false) := by
    show some (AV.bool (!(ps.getD (2 * i) [] == ws.getD i []))) = _
    rw [beq_iff_eq.2 k1]
    rfl
   have e1 : ks .i64 (Qky ps (i + 1)) = ks .i64 (Qky ps i) ++ [.int .i64 (Qdp (ps.getD (2 * i + 1) []))] := by simp [ks, Qky, List.range_succ]
   simp (maxSteps := 4000000) (disch := omega) only [rq, simprocAttr, a1, a2, t1]
   refine Qa hN2 ?_
   simp (maxSteps := 4000000) (disch := omega) only [rq, simprocAttr, qT, a3, t2, hse, lv]
   refine ⟨i + 1, ⟨by omega, fun k hk' => ?_⟩, by omega, ?_⟩
   ·rcases Nat.lt_succ_iff_lt_or_eq.1 hk' with h | h
    ·exact hk k h
    ·rw [h]; exact ⟨k1, k2⟩
   ·rw [e1]
    exact Qb1 [_] (by simp only [qZ]; rintro o rfl; rw [← e1]; exact QK _ _) (by simp [Am.look, Zf, frzL, Q6, strL, frzL_T _ (QgX _)])
  ·rw [hA, Qjd hi2 hok]
   have hN2 := hN' (2 * i + 1)
   cases k2 : (Qb2 (ps.getD (2 * i + 1) [])).isSome with
   | false =>
    rw [k2] at hN2
    simp (maxSteps := 4000000) (disch := omega) only [rq, simprocAttr, a1, a2, t1]
    refine Qa hN2 ?_
    simp (maxSteps := 4000000) (disch := omega) only [rq, simprocAttr, yi]
    simp [Z6, Zf, frzL, Q6]
   | true =>
    rw [k2] at hN2
    have hse : Qgy .neq (ps.getD (2 * i) []) (ws.getD i []) = some (.bool true) := by
     show some (AV.bool (!(ps.getD (2 * i) [] == ws.getD i []))) = _
     rw [yx.2 fun h => hok ⟨h, k2⟩]
     rfl
    simp (maxSteps := 4000000) (disch := omega) only [rq, simprocAttr, a1, a2, t1]
    refine Qa hN2 ?_
    simp (maxSteps := 4000000) (disch := omega) only [rq, simprocAttr, qT, a3, t2, hse]
    simp [Z6, Zf, frzL, Q6]
 ·obtain rfl : i = ws.length := by omega
  rw [hA, Qje h0 hk]
  simp (maxSteps := 4000000) (disch := omega) only [rq, simprocAttr]
  simp [Z6, Zf, frzL, Q6, QL, frzL_T _ (QK .i64 (Qky ps ws.length))]
  simp [Qky]
def rpB (x : Rp) : Prop := x.l.length ≤ 1000000 ∧ (∀ v ∈ x.l, -9223372036854775808 ≤ v ∧ v ≤ 9223372036854775807) ∧ 0 ≤ x.p ∧ x.p ≤ 255
def rpN (x : Rp) : Int := if Qew x then 0 else 8
theorem Qcs (x : Rp) : isD x.av = true := by simp [Rp.av, isD, isDL, Xh]
def Jv (P : Prg) (f : Nat) : Prop := ∀ x : Rp, rpB x → VC P f [x.av] (.int .i64 (rpN x))
theorem Qil {P : Prg} {f fF fC t0 t1 : Nat} (bd : Body P f 63 [.tmp 2] (Qm fF fC t0 t1)) (hF : Qck P fF) (hC : Jf P fC) : Jv P f := by
 intro x ⟨b1, b2, b3, b4⟩
 refine ZR (by simp [isDL, Qcs]) rfl bd ?_
 have hF' := hF x.f x.c x.b x.r x.n
 have hC' := hC x.l b1 b2
 have no : ∀ p : Prop, ¬ p → (Qew x → p) → rpN x = 8 := fun p hp h => qz fun hx => hp (h hx)
 rw [hdA] at hF'
 rw [QL] at hC'
 have kl := Qnp (f := x.f) (c := x.c) (b := x.b) (r := x.r) (n := x.n)
 have hcl : hdN x.f x.c x.b x.r x.n = 0 → (QJ (Qw x.r).toNat x.n.toNat).length ≤ 1000 := fun h => by
  obtain ⟨m, e, h1⟩ := kl h
  rw [e, qt]
  have := h1.2.2.2.2
  rwa [qt] at this
 by_cases h1 : hdN x.f x.c x.b x.r x.n = 0
 case neg =>
  rw [no _ h1 fun h => h.1]
  rw [Qn4, qz h1] at hF'
  simp (maxSteps := 4000000) (disch := omega) only [rq, simprocAttr, Qm, Rp.av, QL]
  refine Qa hF' ?_
  simp (maxSteps := 4000000) (disch := omega) only [rq, simprocAttr]
 have hcl' := hcl h1
 rw [Qn4, qE h1, QL] at hF'
 have rok : Qew x ↔ (skN x.l = 0 ∧ (QJ (Qw x.r).toNat x.n.toNat).length = x.l.length ∧ 22 ≤ x.m ∧ x.m ≤ 100000 ∧ 0 ≤ x.e ∧ x.e ≤ 99 ∧ 0 ≤ x.p ∧ x.p ≤ 6 ∧ 0 ≤ x.q ∧ x.q < x.l.length ∧ 0 ≤ x.g ∧ x.g ≤ 12000) := ⟨fun h => h.2, fun h => ⟨h1, h⟩⟩
 generalize QJ (Qw x.r).toNat x.n.toNat = Ls at *
 by_cases h2 : skN x.l = 0
 case neg =>
  rw [no _ h2 fun h => h.2.1]
  simp (maxSteps := 4000000) (disch := omega) only [rq, simprocAttr, Qm, Rp.av, QL]
  iterate 2 (refine Qa (by assumption) ?_; simp (maxSteps := 4000000) (disch := omega) only [rq, simprocAttr])
 rw [h2] at hC'
 by_cases h3 : Ls.length = x.l.length
 case neg =>
  rw [no _ h3 fun h => (rok.1 h).2.1]
  simp (maxSteps := 4000000) (disch := omega) only [rq, simprocAttr, Qm, Rp.av, QL]
  iterate 2 (refine Qa (by assumption) ?_; simp (maxSteps := 4000000) (disch := omega) only [rq, simprocAttr])
 have fin : (22 ≤ x.m ∧ x.m ≤ 100000 ∧ 0 ≤ x.e ∧ x.e ≤ 99 ∧ 0 ≤ x.p ∧ x.p ≤ 6 ∧ 0 ≤ x.q ∧ x.q < x.l.length ∧ 0 ≤ x.g ∧ x.g ≤ 12000) → rpN x = 0 := fun h => qE (rok.2 ⟨h2, h3, h⟩)
 have bad : ¬ (22 ≤ x.m ∧ x.m ≤ 100000 ∧ 0 ≤ x.e ∧ x.e ≤ 99 ∧ 0 ≤ x.p ∧ x.p ≤ 6 ∧ 0 ≤ x.q ∧ x.q < x.l.length ∧ 0 ≤ x.g ∧ x.g ≤ 12000) → rpN x = 8 := fun h => qz fun hx => h (rok.1 hx).2.2
 by_cases h4 : 22 ≤ x.m
 case neg =>
  rw [bad fun h => h4 h.1]
  simp (maxSteps := 4000000) (disch := omega) only [rq, simprocAttr, Qm, Rp.av, QL]
  iterate 2 (refine Qa (by assumption) ?_; simp (maxSteps := 4000000) (disch := omega) only [rq, simprocAttr])
 by_cases h5 : x.m ≤ 100000
 case neg =>
  rw [bad fun h => h5 h.2.1]
  simp (maxSteps := 4000000) (disch := omega) only [rq, simprocAttr, Qm, Rp.av, QL]
  iterate 2 (refine Qa (by assumption) ?_; simp (maxSteps := 4000000) (disch := omega) only [rq, simprocAttr])
 by_cases h6 : 0 ≤ x.e
 case neg =>
  rw [bad fun h => h6 h.2.2.1]
  simp (maxSteps := 4000000) (disch := omega) only [rq, simprocAttr, Qm, Rp.av, QL]
  iterate 2 (refine Qa (by assumption) ?_; simp (maxSteps := 4000000) (disch := omega) only [rq, simprocAttr])
 by_cases h7 : x.e ≤ 99
 case neg =>
  rw [bad fun h => h7 h.2.2.2.1]
  simp (maxSteps := 4000000) (disch := omega) only [rq, simprocAttr, Qm, Rp.av, QL]
  iterate 2 (refine Qa (by assumption) ?_; simp (maxSteps := 4000000) (disch := omega) only [rq, simprocAttr])
 by_cases h8 : x.p ≤ 6
 case neg =>
  rw [bad fun h => h8 h.2.2.2.2.2.1]
  simp (maxSteps := 4000000) (disch := omega) only [rq, simprocAttr, Qm, Rp.av, QL]
  iterate 2 (refine Qa (by assumption) ?_; simp (maxSteps := 4000000) (disch := omega) only [rq, simprocAttr])
 by_cases h9 : 0 ≤ x.q
 case neg =>
  rw [bad fun h => h9 h.2.2.2.2.2.2.1]
  simp (maxSteps := 4000000) (disch := omega) only [rq, simprocAttr, Qm, Rp.av, QL]
  iterate 2 (refine Qa (by assumption) ?_; simp (maxSteps := 4000000) (disch := omega) only [rq, simprocAttr])
 by_cases h10 : x.q < x.l.length
 case neg =>
  rw [bad fun h => h10 h.2.2.2.2.2.2.2.1]
  simp (maxSteps := 4000000) (disch := omega) only [rq, simprocAttr, Qm, Rp.av, QL]
  iterate 2 (refine Qa (by assumption) ?_; simp (maxSteps := 4000000) (disch := omega) only [rq, simprocAttr])
 by_cases h11 : 0 ≤ x.g
 case neg =>
  rw [bad fun h => h11 h.2.2.2.2.2.2.2.2.1]
  simp (maxSteps := 4000000) (disch := omega) only [rq, simprocAttr, Qm, Rp.av, QL]
  iterate 2 (refine Qa (by assumption) ?_; simp (maxSteps := 4000000) (disch := omega) only [rq, simprocAttr])
 by_cases h12 : x.g ≤ 12000
 case neg =>
  rw [bad fun h => h12 h.2.2.2.2.2.2.2.2.2]
  simp (maxSteps := 4000000) (disch := omega) only [rq, simprocAttr, Qm, Rp.av, QL]
  iterate 2 (refine Qa (by assumption) ?_; simp (maxSteps := 4000000) (disch := omega) only [rq, simprocAttr])
 rw [fin ⟨h4, h5, h6, h7, b3, h8, h9, h10, h11, h12⟩]
 simp (maxSteps := 4000000) (disch := omega) only [rq, simprocAttr, Qm, Rp.av, QL]
 iterate 2 (refine Qa (by assumption) ?_; simp (maxSteps := 4000000) (disch := omega) only [rq, simprocAttr])
def rc (f c b r n m : Int) (L : AV) (e p q g : Int) : List AV := [.int .i64 f, .int .i64 c, .int .i64 b, .int .i64 r, .int .i64 n, .int .i64 m, L, .int .i64 e, .int .u8 p, .int .i64 q, .int .i64 g]
def Rp.cs (x : Rp) : List AV := rc x.f x.c x.b x.r x.n x.m (QL x.l) x.e x.p x.q x.g
def Qop (P : Prg) (f : Nat) : Prop := ∀ s : List UInt8, s.length ≤ 1000000 → VC P f [.str s] (.tup [(rdQ s).1.av, .bool (rdQ s).2])
theorem QlQ (s t : List UInt8) : (Lib.cut s t).1.length ≤ s.length ∧ (Lib.cut s t).2.1.length ≤ s.length := by
 unfold Lib.cut
 split
 ·exact ⟨by simp only [qX]; omega, by simp only [yj]; omega⟩
 ·exact ⟨qg _, yd _⟩
theorem QjX {P : Prg} {f fS fN fC fM fX t0 t1 : Nat} (bd : Body P f 140 [.cell 2 t0, .tmp 3] (Zo fS fN fC fM fX t0 t1)) (hS : S_SplitS P fS) (hN : QiV P fN) (hC : S_StrCut P fC) (hM : Qmc P fM) (hX : J9 P fX) (ht : Xp P t0 = some (some 11)) : Qop P f := by
 intro s hs
 refine QT 1 rfl (by simp [isD, isDL, Qcs]) (Ql bd (by simp) ?_)
 have hS' := hS s [10] hs (by simp)
 rw [QgA, strL] at hS'
 have hpp := Qbn 10 s
 have hR : rdQ s = rdQ s := rfl
 conv at hR => rhs; unfold rdQ
 generalize pcs 10 s = ps at *
 by_cases hl : ps.length = 4
 case neg =>
  have hR' : rdQ s = (Rp.zero, false) := by
   rw [hR]
   split
   ·exact absurd rfl hl
   ·rfl
  rw [hR']
  by_cases h0 : ps.length < 4
  ·have : ¬ (ps.length : Int) = 4 := by omega
   simp (maxSteps := 4000000) (disch := omega) only [rq, simprocAttr, Zo]
   refine Qa hS' ?_
   simp (maxSteps := 4000000) (disch := omega) only [rq, simprocAttr]
   simp (maxSteps := 4000000) (disch := omega) only [rq, simprocAttr, Z8, ht, QM]
   simp [Z6, Zf, frzL, Q6, Rp.av, Rp.zero, QL, ks]
  ·simp (maxSteps := 4000000) (disch := omega) only [rq, simprocAttr, Zo]
   refine Qa hS' ?_
   simp (maxSteps := 4000000) (disch := omega) only [rq, simprocAttr]
   simp (maxSteps := 4000000) (disch := omega) only [rq, simprocAttr, Z8, ht, QM]
   simp [Z6, Zf, frzL, Q6, Rp.av, Rp.zero, QL, ks]
 match ps, hl with
 | [a, b, d, e4], _ =>
  have la : a.length ≤ 1000000 := qH (hpp a (by simp)) hs
  have lb : b.length ≤ 1000000 := qH (hpp b (by simp)) hs
  have ld : d.length ≤ 1000000 := qH (hpp d (by simp)) hs
  simp only [qn, qJ, qC, yR, qY, Nat.reduceAdd] at hS'
  by_cases h4 : e4 = []
  case neg =>
   have hR' : rdQ s = (Rp.zero, false) := by
    rw [hR]
    split
    ·rename_i h; simp at h; exact absurd h.2.2.2 h4
    ·rfl
   have hse : Qgy .neq e4 [] = some (.bool true) := by
    show some (AV.bool (!(e4 == []))) = _
    rw [yx.2 h4]
    rfl
   rw [hR']
   simp (maxSteps := 4000000) (disch := omega) only [rq, simprocAttr, Zo]
   refine Qa hS' ?_
   simp (maxSteps := 4000000) (disch := omega) only [rq, simprocAttr, hse]
   simp (maxSteps := 4000000) (disch := omega) only [rq, simprocAttr, Z8, ht, QM]
   simp [Z6, Zf, frzL, Q6, Rp.av, Rp.zero, QL, ks]
  subst h4
  simp only at hR
  have hN1 := hN a [wF1, wC1, wB1, wR1, wN1] la (by simp)
  have hC1 := hC b [58, 32] lb
  have hX1 := hX d [102, 111, 117, 110, 100, 32] ld (by simp)
  have hcl := QlQ b [58, 32]
  unfold Qou at hN1
  simp only [strL, qn, qJ, qC, yR, qY, Nat.reduceAdd, wF1, wC1, wB1, wR1, wN1] at hN1 hR
  have hse : Qgy .neq [] [] = some (.bool false) := rfl
  simp (maxSteps := 4000000) (disch := omega) only [rq, simprocAttr, Zo]
  refine Qa hS' ?_
  simp (maxSteps := 4000000) (disch := omega) only [rq, simprocAttr, hse]
  cases h1 : Qdq [[102, 111, 114, 109, 97, 116], [99, 104, 97, 110, 110, 101, 108, 115], [98, 105, 116, 115], [114, 97, 116, 101], [99, 111, 117, 110, 116]] (pcs 32 a) with
  | none =>
   rw [h1] at hN1 hR
   rw [hR]
   refine ZW 1 [2] hN1 (by simp [Z6, Zf, frzL, Q6, isDL, isD]) ?_
   simp (maxSteps := 4000000) (disch := omega) only [rq, simprocAttr, Qe, yi]
   simp (maxSteps := 4000000) (disch := omega) only [rq, simprocAttr, Z8, ht, QM]
   simp [Z6, Zf, frzL, Q6, Rp.av, Rp.zero, QL, ks]
  | some vs =>
   have hvl := (JL h1).2
   rw [h1] at hN1 hR
   match vs, hvl with
   | [f, c, bb, r, n], _ =>
    simp only at hR hN1
    rw [QL] at hN1
    simp only [ks, qn, qJ, qC, yR, qY, Nat.reduceAdd] at hN1
    refine ZW 1 [2] hN1 (by simp [Z6, Zf, frzL, Q6, isDL, isD]) ?_
    simp (maxSteps := 4000000) (disch := omega) only [rq, simprocAttr, Qe, qT]
    rcases hcut : Lib.cut b [58, 32] with ⟨w, all, fd⟩
    rw [hcut] at hC1 hR hcl
    have lw : w.length ≤ 1000000 := qH hcl.1 lb
    have lal : all.length ≤ 1000000 := qH hcl.2 lb
    simp only at hC1 hR
    cases fd with
    | false =>
     simp only at hR
     rw [hR]
     refine Qa hC1 ?_
     simp (maxSteps := 4000000) (disch := omega) only [rq, simprocAttr, yi]
     simp (maxSteps := 4000000) (disch := omega) only [rq, simprocAttr, Z8, ht, QM]
     simp [Z6, Zf, frzL, Q6, Rp.av, QL, ks]
    | true =>
     simp only at hR
     have hN2 := hN w [wF2] lw (by simp)
     have hM1 := hM all lal
     unfold Qou at hN2
     unfold Qfm at hM1
     simp only [strL, qn, qJ, qC, yR, qY, wF2] at hN2 hR
     refine Qa hC1 ?_
     simp (maxSteps := 4000000) (disch := omega) only [rq, simprocAttr, qT]
     cases h2 : Qdq [[102, 114, 97, 109, 101, 115]] (pcs 32 w) with
     | none =>
      rw [h2] at hN2 hR
      rw [hR]
      refine ZW 1 [3] hN2 (by simp [Z6, Zf, frzL, Q6, isDL, isD]) ?_
      simp (maxSteps := 4000000) (disch := omega) only [rq, simprocAttr, Qe, yi]
      simp (maxSteps := 4000000) (disch := omega) only [rq, simprocAttr, Z8, ht, QM]
      simp [Z6, Zf, frzL, Q6, Rp.av, QL, ks]
     | some ms =>
      have hml := (JL h2).2
      rw [h2] at hN2 hR
      match ms, hml with
      | [m], _ =>
       simp only at hR hN2
       rw [QL] at hN2
       simp only [ks, qn, qJ, qC, yR, qY] at hN2
       refine ZW 1 [3] hN2 (by simp [Z6, Zf, frzL, Q6, isDL, isD]) ?_
       simp (maxSteps := 4000000) (disch := omega) only [rq, simprocAttr, Qe, qT]
       cases h3 : QcP all with
       | none =>
        rw [h3] at hM1 hR
        rw [hR]
        refine Qa hM1 ?_
        simp (maxSteps := 4000000) (disch := omega) only [rq, simprocAttr, yi]
        simp (maxSteps := 4000000) (disch := omega) only [rq, simprocAttr, Z8, ht, QM]
        simp [Z6, Zf, frzL, Q6, Rp.av, QL, ks]
       | some l =>
        rw [h3] at hM1 hR
        simp only [QL] at hM1
        simp only at hR
        refine Qa hM1 ?_
        simp (maxSteps := 4000000) (disch := omega) only [rq, simprocAttr, qT]
        by_cases h5 : d.take 6 = [102, 111, 117, 110, 100, 32]
        case neg =>
         rw [qz h5] at hR
         rw [qz (by simpa using h5)] at hX1
         rw [hR]
         refine Qa hX1 ?_
         simp (maxSteps := 4000000) (disch := omega) only [rq, simprocAttr, yi]
         simp (maxSteps := 4000000) (disch := omega) only [rq, simprocAttr, Z8, ht, QM]
         simp [Z6, Zf, frzL, Q6, Rp.av, QL, frzL_T _ (QK .i64 l)]
        rw [qE h5] at hR
        rw [qE (by simpa using h5)] at hX1
        have hM2 := hM (d.drop 6) (by rw [yj]; omega)
        unfold Qfm at hM2
        simp only [qn, qJ, qY, Nat.reduceAdd] at hX1
        refine Qa hX1 ?_
        simp (maxSteps := 4000000) (disch := omega) only [rq, simprocAttr, qT]
        cases h6 : QcP (d.drop 6) with
        | none =>
         rw [h6] at hM2 hR
         rw [hR]
         refine Qa hM2 ?_
         simp (maxSteps := 4000000) (disch := omega) only [rq, simprocAttr, yi]
         simp (maxSteps := 4000000) (disch := omega) only [rq, simprocAttr, Z8, ht, QM]
         simp [Z6, Zf, frzL, Q6, Rp.av, QL, frzL_T _ (QK .i64 l)]
        | some fs =>
         rw [h6] at hM2 hR
         by_cases h7 : fs.length = 4
         case neg =>
          have hR' : rdQ s = (⟨f, c, bb, r, n, m, l, 0, 0, 0, 0⟩, false) := by
           rw [hR]
           split
           ·rename_i h; cases h; exact absurd rfl h7
           ·rfl
          rw [hR']
          simp only [QL] at hM2
          by_cases h8 : fs.length < 4
          ·have : ¬ (fs.length : Int) = 4 := by omega
           refine Qa hM2 ?_
           simp (maxSteps := 4000000) (disch := omega) only [rq, simprocAttr, qT]
           simp (maxSteps := 4000000) (disch := omega) only [rq, simprocAttr, Z8, ht, QM]
           simp [Z6, Zf, frzL, Q6, Rp.av, QL, frzL_T _ (QK .i64 l)]
          ·refine Qa hM2 ?_
           simp (maxSteps := 4000000) (disch := omega) only [rq, simprocAttr, qT]
           simp (maxSteps := 4000000) (disch := omega) only [rq, simprocAttr, Z8, ht, QM]
           simp [Z6, Zf, frzL, Q6, Rp.av, QL, frzL_T _ (QK .i64 l)]
         match fs, h7 with
         | [e, p, q, g], _ =>
          simp only at hR hM2
          rw [QL] at hM2
          simp only [ks, qn, qJ, qC, yR, qY, Nat.reduceAdd] at hM2
          by_cases h8 : 0 ≤ p
          case neg =>
           rw [qz fun h => h8 h.1] at hR
           rw [hR]
           refine Qa hM2 ?_
           simp (maxSteps := 4000000) (disch := omega) only [rq, simprocAttr, qT]
           simp (maxSteps := 4000000) (disch := omega) only [rq, simprocAttr, Z8, ht, QM]
           simp [Z6, Zf, frzL, Q6, Rp.av, QL, frzL_T _ (QK .i64 l)]
          by_cases h9 : p ≤ 6
          case neg =>
           rw [qz fun h => h9 h.2] at hR
           rw [hR]
           refine Qa hM2 ?_
           simp (maxSteps := 4000000) (disch := omega) only [rq, simprocAttr, qT]
           simp (maxSteps := 4000000) (disch := omega) only [rq, simprocAttr, Z8, ht, QM]
           simp [Z6, Zf, frzL, Q6, Rp.av, QL, frzL_T _ (QK .i64 l)]
          rw [qE ⟨h8, h9⟩] at hR
          rw [hR]
          refine Qa hM2 ?_
          simp (maxSteps := 4000000) (disch := omega) only [rq, simprocAttr, qT]
          simp (maxSteps := 4000000) (disch := omega) only [rq, simprocAttr, Z8, ht, QM]
          simp [Z6, Zf, frzL, Q6, Rp.av, QL, frzL_T _ (QK .i64 l)]
theorem QmJ {s : List UInt8} {v : Int} (h : Qb2 s = some v) : -9223372036854775808 ≤ v ∧ v ≤ 9223372036854775807 := by
 have := QmK s
 rw [Qlh h] at this
 exact this
theorem Qbr : ∀ {L : List (List UInt8)} {l : List Int}, L.mapM Qb2 = some l → l.length = L.length ∧ ∀ v ∈ l, -9223372036854775808 ≤ v ∧ v ≤ 9223372036854775807
 | [], l, h => by simp at h; subst h; exact ⟨rfl, fun v hv => by cases hv⟩
 | p :: L, l, h => by
  simp only [qP, qx, qk, qe, qc] at h
  obtain ⟨v, hv, r, hr, rfl⟩ := h
  obtain ⟨h1, h2⟩ := Qbr hr
  refine ⟨by simp [h1], fun u hu => ?_⟩
  rcases qo.1 hu with rfl | hu
  ·exact QmJ hv
  ·exact h2 u hu
theorem Qk5 {s : List UInt8} (hs : s.length ≤ 999999) (h : (rdQ s).2 = true) : rpB (rdQ s).1 := by
 have hpp := Qbn 10 s
 generalize hq : rdQ s = y at h ⊢
 unfold rdQ at hq
 split at hq
 case h_2 => subst hq; cases h
 rename_i a b d h10
 have lb : b.length ≤ 999999 := qH (hpp b (by rw [h10]; simp)) hs
 split at hq
 case h_2 => subst hq; cases h
 rename_i f c bb r n h1
 split at hq
 case h_2 => subst hq; cases h
 rename_i w all hcut
 have hcl := (QlQ b [58, 32]).2
 rw [hcut] at hcl
 split at hq
 case h_2 => subst hq; cases h
 rename_i m h2
 split at hq
 case h_2 => subst hq; cases h
 rename_i l h3
 split at hq
 case isFalse => subst hq; cases h
 split at hq
 case h_2 => subst hq; cases h
 rename_i e p q g h4
 split at hq
 case isFalse => subst hq; cases h
 rename_i hp
 subst hq
 obtain ⟨k1, k2⟩ := Qbr h3
 have := Qfh 32 all
 exact ⟨by simp only at hcl ⊢; omega, k2, hp.1, by simp only; omega⟩
def QiW (P : Prg) (f : Nat) : Prop := ∀ s : List UInt8, s.length ≤ 999999 → (∀ x, Qew x → txt x = s → VC P f [.str s] (.tup [x.av, .int .i64 0])) ∧ ((¬ ∃ x, Qew x ∧ txt x = s) → VC P f [.str s] (.tup [Rp.zero.av, .int .i64 12]))
theorem QjZ {P : Prg} {f fR fC t0 : Nat} (bd : Body P f 20 [.cell 2 t0, .tmp 3] (ZO fR fC t0)) (hR : Qop P fR) (hC : Jv P fC) (ht : Xp P t0 = some (some 11)) : QiW P f := by
 intro s hs
 have hR' := hR s (by omega)
 refine ⟨fun x hx htx => ?_, fun hno => ?_⟩
 ·refine QT 1 rfl (by simp [isD, isDL, Qcs]) (Ql bd (by simp) ?_)
  have h1 : rdO s = some x := by rw [← htx]; exact Qi1 hx
  unfold rdO at h1
  split at h1
  case isFalse => cases h1
  rename_i h2
  have hb := Qk5 hs h2
  cases h1
  have hC' := hC _ hb
  have e0 : rpN (rdQ s).1 = 0 := qE hx
  rw [e0] at hC'
  rw [h2] at hR'
  generalize (rdQ s).1 = x at *
  rw [Rp.av, QL] at hR' hC' ⊢
  simp (maxSteps := 4000000) (disch := omega) only [rq, simprocAttr, ZO]
  refine Qa hR' ?_
  simp (maxSteps := 4000000) (disch := omega) only [rq, simprocAttr, qT]
  refine Qa hC' ?_
  simp (maxSteps := 4000000) (disch := omega) only [rq, simprocAttr]
  simp (maxSteps := 4000000) (disch := omega) only [rq, simprocAttr, Z8, ht, QM]
  simp [Z6, Zf, frzL, Q6, frzL_T _ (QK .i64 x.l)]
 ·refine QT 1 rfl (by simp [isD, isDL, Qcs]) (Ql bd (by simp) ?_)
  cases h2 : (rdQ s).2 with
  | false =>
   rw [h2] at hR'
   generalize (rdQ s).1 = x at *
   rw [Rp.av, QL] at hR'
   simp (maxSteps := 4000000) (disch := omega) only [rq, simprocAttr, ZO]
   refine Qa hR' ?_
   simp (maxSteps := 4000000) (disch := omega) only [rq, simprocAttr, yi]
   simp (maxSteps := 4000000) (disch := omega) only [rq, simprocAttr, Z8, ht, QM]
   simp [Z6, Zf, frzL, Q6, Rp.av, Rp.zero, QL, ks]
  | true =>
   have hb := Qk5 hs h2
   have hC' := hC _ hb
   have hrd : rdO s = some (rdQ s).1 := by unfold rdO; rw [qE h2]
   have e8 : rpN (rdQ s).1 = 8 := qz fun hx => hno ⟨_, hx, QoF hrd⟩
   rw [e8] at hC'
   rw [h2] at hR'
   generalize (rdQ s).1 = x at *
   rw [Rp.av, QL] at hR' hC'
   simp (maxSteps := 4000000) (disch := omega) only [rq, simprocAttr, ZO]
   refine Qa hR' ?_
   simp (maxSteps := 4000000) (disch := omega) only [rq, simprocAttr, qT]
   refine Qa hC' ?_
   simp (maxSteps := 4000000) (disch := omega) only [rq, simprocAttr]
   simp (maxSteps := 4000000) (disch := omega) only [rq, simprocAttr, Z8, ht, QM]
   simp [Z6, Zf, frzL, Q6, Rp.av, Rp.zero, QL, ks]
def Qme (tB : Nat) (P : Prg) (f : Nat) : Prop := ∀ (ob : List Ob) (p : Nat) (c0 c : AV) (K : AV → List Ob → Prop), (c0 = .lit (.pointer none) ∨ c0 = .ref p 1 0) → ob[p]? = some ⟨tB, 2, 1, [c0, c], 0⟩ → K (.tup []) (ob.set p ⟨tB, 2, 1, [.ref p 1 0, c], 0⟩) → ACall P f [.ref p 1 0] ob K
section
open Go.Shelf Go.Proofs
theorem QoR {P : Prg} {tB fC : Nat} (hN : CopyNew P.prog tB fC) (hO : CopyOld P.prog fC) (hE : Enters P fC) : Qme tB P fC := fun ob p c0 c K h0 hp hK => by
 rcases h0 with rfl | rfl
 ·exact ACall.copy_fresh hN hE hp hK
 ·refine ACall.copy_used hO hE hp ?_
  have e : ob.set p ⟨tB, 2, 1, [.ref p 1 0, c], 0⟩ = ob := by
   apply yl
   intro i
   rw [qq]
   split
   ·rename_i e; subst e; split
    ·exact hp.symm
    ·rename_i h; exact absurd (qb.1 hp).1 h
   ·rfl
  rw [e] at hK
  exact hK
end
def Qjz (tB tb : Nat) (P : Prg) (f : Nat) : Prop := ∀ (x0 x1 x2 : Ob) (rest : List Ob) (c0 : AV) (l s : List UInt8) (K : AV → List Ob → Prop), (c0 = .lit (.pointer none) ∨ c0 = .ref 3 1 0) → l.length + s.length ≤ 1000000 →
 K (.tup [.int .i64 s.length, .lit .nilIface]) (x0 :: x1 :: x2 :: ⟨tB, 2, 1, [.ref 3 1 0, .own 4 (l.length + s.length)], 0⟩ :: ⟨tb, 1, l.length + s.length, u8 (l ++ s), 0⟩ :: rest) →
 ACall P f [.ref 3 1 0, .str s] (x0 :: x1 :: x2 :: ⟨tB, 2, 1, [c0, .own 4 l.length], 0⟩ :: ⟨tb, 1, l.length, u8 l, 0⟩ :: rest) K
theorem QdG {P : Prg} {f fC tb tB : Nat} (bd : Body P f 19 [.tmp 4, .tmp 5] (QE fC tb)) (hC : Qme tB P fC) : Qjz tB tb P f := by
 intro x0 x1 x2 rest c0 l s K h0 hl hK
 refine Ql bd (by simp) ?_
 simp (maxSteps := 4000000) (disch := omega) only [rq, simprocAttr, QE]
 refine hC _ 3 c0 _ _ h0 rfl ?_
 simp (maxSteps := 4000000) (disch := omega) only [rq, simprocAttr]
 exact hK
def Xg (w : List UInt8) (l : List Int) : List UInt8 := w ++ (l.map fun n => 32 :: Lib.itoa n).flatten
theorem Ji (w : List UInt8) : ∀ l : List Int, (∀ v ∈ l, -9223372036854775808 ≤ v ∧ v ≤ 9223372036854775807) → (Xg w l).length ≤ w.length + 22 * l.length := by
 intro l
 unfold Xg
 rw [qm]
 induction l with
 | nil => intro _; simp
 | cons n l ih =>
  intro h
  have h1 := ih fun v hv => h v (qN _ hv)
  have h2 := Lib.itoa_length_le n (h n (by simp)).1 (h n (by simp)).2
  simp only [qC, List.flatten_cons, qm, qn]
  omega
theorem QmA (w : List UInt8) (l : List Int) (n : Int) : Xg w (l ++ [n]) = Xg w l ++ (32 :: Lib.itoa n) := by simp [Xg]
def Qoo (tB tb ti : Nat) (P : Prg) (f : Nat) : Prop := ∀ (x0 x1 x2 : Ob) (rest : List Ob) (c0 : AV) (l w : List UInt8) (A : AV) (ns : List Int) (K : AV → List Ob → Prop), (c0 = .lit (.pointer none) ∨ c0 = .ref 3 1 0) →
 (A = QL ns ∨ ∃ j, A = .own (j + 5) ns.length ∧ rest[j]? = some ⟨ti, 1, ns.length, ks .i64 ns, 0⟩) → (∀ v ∈ ns, -9223372036854775808 ≤ v ∧ v ≤ 9223372036854775807) → l.length + w.length + 22 * ns.length ≤ 1000000 →
 (K (.tup []) (x0 :: x1 :: x2 :: ⟨tB, 2, 1, [.ref 3 1 0, .own 4 (l ++ Xg w ns).length], 0⟩ :: ⟨tb, 1, (l ++ Xg w ns).length, u8 (l ++ Xg w ns), 0⟩ :: rest)) →
 ACall P f [.str w, A, .ref 3 1 0] (x0 :: x1 :: x2 :: ⟨tB, 2, 1, [c0, .own 4 l.length], 0⟩ :: ⟨tb, 1, l.length, u8 l, 0⟩ :: rest) K
theorem Qll {P : Prg} {f fW fI tB tb ti : Nat} (bd : Body P f 20 [] (ZN fW fI)) (hW : Qjz tB tb P fW) (hI : S_Itoa P fI) : Qoo tB tb ti P f := by
 intro x0 x1 x2 rest c0 l w A ns K h0 hA hb hl hK
 refine Ql bd (by simp) ?_
 have hlen : ∀ i, i ≤ ns.length → (l ++ Xg w (ns.take i)).length + 22 ≤ 1000000 + 22 := fun i hi => by
  have h1 := Ji w (ns.take i) fun v hv => hb v (qG hv)
  have h2 : (ns.take i).length ≤ i := by simp; omega
  rw [qm]
  omega
 have stp : ∀ i (hi : i < ns.length), l ++ Xg w (ns.take (i + 1)) = (l ++ Xg w (ns.take i)) ++ (32 :: Lib.itoa ns[i]) := fun i hi => by
  rw [qy hi, QmA, qM]
 have hit : ∀ i (hi : i < ns.length), S_Itoa P fI → VC P fI [.int .i64 ns[i]] (.str (Lib.itoa ns[i])) := fun i hi h => h _ (hb _ (yf hi)).1 (hb _ (yf hi)).2
 let S : Nat → List Ob := fun i => x0 :: x1 :: x2 :: ⟨tB, 2, 1, [.ref 3 1 0, .own 4 (l ++ Xg w (ns.take i)).length], 0⟩ :: ⟨tb, 1, (l ++ Xg w (ns.take i)).length, u8 (l ++ Xg w (ns.take i)), 0⟩ :: rest
 have hnl : ns.length ≤ 1000000 := by omega
 have s0 : Xg w (ns.take 0) = w := by simp [Xg]
 have hw : l.length + w.length ≤ 1000000 := by omega
 rcases hA with rfl | ⟨j, rfl, hj⟩
 ·simp (maxSteps := 4000000) (disch := omega) only [rq, simprocAttr, ZN, QL]
  refine hW x0 x1 x2 rest c0 l w _ h0 hw ?_
  simp (maxSteps := 4000000) (disch := omega) only [rq, simprocAttr]
  refine Zq (ι := Nat) (fun i => ⟨[(11, .int .i64 i), (10, .int .i64 ns.length), (9, .list ns.length (ks .i64 ns)), (2, .ref 3 1 0)], S i⟩) (fun i => i ≤ ns.length) (fun i => ns.length - i) 0
   (by simp only [S, s0, qm]; exact QA) (yd _) ?_
  intro i hi
  by_cases hi2 : i < ns.length
  ·have hI' := hit i hi2 hI
   have la : (ks .i64 ns).drop i = .int .i64 ns[i] :: (ks .i64 ns).drop (i + 1) := by
    have h := Qj0 (K := .i64) (l := ns) (i := i) hi2
    rw [← QaX] at h
    simpa [qh, hi2] using h
   have hil := Lib.itoa_length_le ns[i] (hb _ (yf hi2)).1 (hb _ (yf hi2)).2
   have hst := stp i hi2
   have hL := hlen i hi
   have hL1 := hlen (i + 1) hi2
   rw [hst, qm, qn] at hL1
   have hS1 : S (i + 1) = x0 :: x1 :: x2 :: ⟨tB, 2, 1, [.ref 3 1 0, .own 4 ((l ++ Xg w (ns.take i)).length + (32 :: Lib.itoa ns[i]).length)], 0⟩ :: ⟨tb, 1, (l ++ Xg w (ns.take i)).length + (32 :: Lib.itoa ns[i]).length, u8 ((l ++ Xg w (ns.take i)) ++ (32 :: Lib.itoa ns[i])), 0⟩ :: rest := by
    simp only [S]
    rw [hst, @List.length_append _ (l ++ Xg w (ns.take i))]
   have hS0 : S i = x0 :: x1 :: x2 :: ⟨tB, 2, 1, [.ref 3 1 0, .own 4 (l ++ Xg w (ns.take i)).length], 0⟩ :: ⟨tb, 1, (l ++ Xg w (ns.take i)).length, u8 (l ++ Xg w (ns.take i)), 0⟩ :: rest := rfl
   rw [hS0]
   generalize l ++ Xg w (ns.take i) = m at *
   simp (maxSteps := 4000000) (disch := omega) only [rq, simprocAttr, la, QD]
   refine Qa hI' ?_
   have hsa : Qgy .add [32] (Lib.itoa ns[i]) = some (.str (32 :: Lib.itoa ns[i])) := by
    simp only [Qgy]
    rw [qE (by simp; omega)]
    rfl
   simp (maxSteps := 4000000) (disch := omega) only [rq, simprocAttr, hsa]
   refine hW x0 x1 x2 rest _ m _ _ (.inr rfl) (by simp only [qn]; omega) ?_
   simp (maxSteps := 4000000) (disch := omega) only [rq, simprocAttr]
   refine ⟨i + 1, hi2, by omega, ?_⟩
   rw [hS1]
   exact QA
  ·obtain rfl : i = ns.length := by omega
   simp (maxSteps := 4000000) (disch := omega) only [rq, simprocAttr]
   simp only [S, yn]
   exact hK
 ·have hj5 : ∀ a b c d e : Ob, (a :: b :: c :: d :: e :: rest)[j + 5]? = some ⟨ti, 1, ns.length, ks .i64 ns, 0⟩ := fun a b c d e => hj
  simp (maxSteps := 4000000) (disch := omega) only [rq, simprocAttr, ZN]
  refine hW x0 x1 x2 rest c0 l w _ h0 hw ?_
  simp (maxSteps := 4000000) (disch := omega) only [rq, simprocAttr, hj5]
  refine Zq (ι := Nat) (fun i => ⟨[(11, .int .i64 i), (10, .int .i64 ns.length), (9, .own (j + 5) ns.length), (2, .ref 3 1 0)], S i⟩) (fun i => i ≤ ns.length) (fun i => ns.length - i) 0
   (by simp only [S, s0, qm]; exact QA) (yd _) ?_
  intro i hi
  by_cases hi2 : i < ns.length
  ·have hI' := hit i hi2 hI
   have la : (ks .i64 ns).drop i = .int .i64 ns[i] :: (ks .i64 ns).drop (i + 1) := by
    have h := Qj0 (K := .i64) (l := ns) (i := i) hi2
    rw [← QaX] at h
    simpa [qh, hi2] using h
   have hil := Lib.itoa_length_le ns[i] (hb _ (yf hi2)).1 (hb _ (yf hi2)).2
   have hst := stp i hi2
   have hL := hlen i hi
   have hL1 := hlen (i + 1) hi2
   rw [hst, qm, qn] at hL1
   have hS1 : S (i + 1) = x0 :: x1 :: x2 :: ⟨tB, 2, 1, [.ref 3 1 0, .own 4 ((l ++ Xg w (ns.take i)).length + (32 :: Lib.itoa ns[i]).length)], 0⟩ :: ⟨tb, 1, (l ++ Xg w (ns.take i)).length + (32 :: Lib.itoa ns[i]).length, u8 ((l ++ Xg w (ns.take i)) ++ (32 :: Lib.itoa ns[i])), 0⟩ :: rest := by
    simp only [S]
    rw [hst, @List.length_append _ (l ++ Xg w (ns.take i))]
   have hS0 : S i = x0 :: x1 :: x2 :: ⟨tB, 2, 1, [.ref 3 1 0, .own 4 (l ++ Xg w (ns.take i)).length], 0⟩ :: ⟨tb, 1, (l ++ Xg w (ns.take i)).length, u8 (l ++ Xg w (ns.take i)), 0⟩ :: rest := rfl
   rw [hS0]
   generalize l ++ Xg w (ns.take i) = m at *
   simp (maxSteps := 4000000) (disch := omega) only [rq, simprocAttr, hj5, la, QD]
   refine Qa hI' ?_
   have hsa : Qgy .add [32] (Lib.itoa ns[i]) = some (.str (32 :: Lib.itoa ns[i])) := by
    simp only [Qgy]
    rw [qE (by simp; omega)]
    rfl
   simp (maxSteps := 4000000) (disch := omega) only [rq, simprocAttr, hsa]
   refine hW x0 x1 x2 rest _ m _ _ (.inr rfl) (by simp only [qn]; omega) ?_
   simp (maxSteps := 4000000) (disch := omega) only [rq, simprocAttr]
   refine ⟨i + 1, hi2, by omega, ?_⟩
   rw [hS1]
   exact QA
  ·obtain rfl : i = ns.length := by omega
   simp (maxSteps := 4000000) (disch := omega) only [rq, simprocAttr]
   simp only [S, yn]
   exact hK
def Qmg (tB tb : Nat) (P : Prg) (f : Nat) : Prop := ∀ (ob : List Ob) (p o : Nat) (c : AV) (l : List UInt8) (K : AV → List Ob → Prop), ob[p]? = some ⟨tB, 2, 1, [c, .own o l.length], 0⟩ → ob[o]? = some ⟨tb, 1, l.length, u8 l, 0⟩ → l ≠ [] → K (.str l) (ob.set o ⟨tb, 1, l.length, u8 l, fzAll + l.length⟩) → ACall P f [.ref p 1 0] ob K
section
open Go.Shelf Go.Proofs
theorem QoS {P : Prg} {ρ : Ren} (L : Lays.n169 P.prog ρ) (X5 : Builder.Extra P.prog ρ) (hE : Enters P (ρ.f 169)) : Qmg (ρ.t 72) (ρ.t 5) P (ρ.f 169) := fun ob p o c l K hp ho h0 hK => ACall.bld_string L X5 hE hp ho h0 hK
end
theorem Qg2 : ∀ {l : List Int}, l ≠ [] → (l.map fun n => 32 :: Lib.itoa n).flatten = 32 :: Ze 32 (l.map Lib.itoa)
 | [], h => absurd rfl h
 | [n], _ => by simp [Ze]
 | n :: k :: l, _ => by
  have h := Qg2 (l := k :: l) (by simp)
  rw [qC, List.flatten_cons, h, qC (a := n), QeG 32 _ (by simp)]
  simp
def Qi6 (x : Rp) : List UInt8 := Xg wF1 [x.f] ++ Xg (32 :: wC1) [x.c] ++ Xg (32 :: wB1) [x.b] ++ Xg (32 :: wR1) [x.r] ++ Xg (32 :: wN1) [x.n] ++ Xg (10 :: wF2) [x.m] ++ Xg [58] x.l ++ Xg (10 :: wF3) [x.e, x.p, x.q, x.g] ++ [10]
theorem QnK {x : Rp} (h : x.l ≠ []) : Qi6 x = txt x := by
 unfold Qi6 txt ln1 ln2 ln3
 simp only [Xg, Qg2 h, Ze, qC, yR, List.flatten_cons, List.flatten_nil, yN, qM, qW, List.nil_append, wF1, wC1, wB1, wR1, wN1, wF2, wF3]
def QhY (x : Rp) : AV := if Qew x then .tup [.str (txt x), .int .i64 0] else .tup [.str [], .int .i64 8]
def Qgb (P : Prg) (f : Nat) : Prop := ∀ x : Rp, rpB x → VC P f [x.av] (QhY x)
theorem QjY {P : Prg} {f fC g fW fS t0 t1 t2 t3 t4 tb : Nat} (bd : Body P f 70 [.tmp 2, .tmp 3] (Xk fC g fW fS t0 t1 t2 t3 t4)) (hC : Jv P fC) (hY : Qoo t3 tb t4 P g) (hW : Qjz t3 tb P fW) (hS : Qmg t3 tb P fS) : Qgb P f := by
 intro x hb
 have hC' := hC x hb
 refine QT 1 (by simp [isDL, Qcs]) (by unfold QhY; split <;> rfl) (ACall.of_cuts [false, false, true, false, false, true] bd (by simp) ?_)
 by_cases hx : Qew x
 case neg =>
  have e1 : rpN x = 8 := qz hx
  have e2 : QhY x = .tup [.str [], .int .i64 8] := qz hx
  rw [e1] at hC'
  rw [e2]
  rw [Rp.av, QL] at hC' ⊢
  simp (maxSteps := 4000000) (disch := omega) only [rq, simprocAttr, Qac, Xk]
  refine Qa hC' ?_
  simp (maxSteps := 4000000) (disch := omega) only [rq, simprocAttr, Qac]
  simp [Z6, Zf, frzL, Q6]
 have e1 : rpN x = 0 := qE hx
 have e2 : QhY x = .tup [.str (txt x), .int .i64 0] := qE hx
 rw [e1] at hC'
 obtain ⟨h1, h2, h3, h4, h5, h6, h7, h8, h9, h10, h11, h12, h13⟩ := hx
 obtain ⟨k1, k2, k3⟩ := Qfc h2
 obtain ⟨⟨s1, s2, s3, s4, s5, s6, s7⟩, _⟩ := QeH h1
 have s8 := Qjm h1
 rw [e2, ← QnK k1]
 have one : ∀ {v : Int}, -9223372036854775808 ≤ v ∧ v ≤ 9223372036854775807 → ∀ u ∈ [v], -9223372036854775808 ≤ u ∧ u ≤ 9223372036854775807 := fun {v} h u hu => by simp only [qZ] at hu; rw [hu]; exact h
 have four : ∀ u ∈ [x.e, x.p, x.q, x.g], -9223372036854775808 ≤ u ∧ u ≤ 9223372036854775807 := fun u hu => by
  simp only [qo, qQ, or_false] at hu
  rcases hu with rfl | rfl | rfl | rfl <;> omega
 have lbig : ∀ u ∈ x.l, -9223372036854775808 ≤ u ∧ u ≤ 9223372036854775807 := fun u hu => by have := k3 u hu; omega
 obtain ⟨m1, e1, b1⟩ : ∃ m : List UInt8, m = [] ++ Xg wF1 [x.f] ∧ m.length ≤ 40 := ⟨_, rfl, by have := Ji wF1 [x.f] (one (by omega)); simp [wF1] at this ⊢; omega⟩
 obtain ⟨m2, e2, b2⟩ : ∃ m : List UInt8, m = m1 ++ Xg (32 :: wC1) [x.c] ∧ m.length ≤ 80 := ⟨_, rfl, by have := Ji (32 :: wC1) [x.c] (one (by omega)); simp [wC1] at this ⊢; omega⟩
 obtain ⟨m3, e3, b3⟩ : ∃ m : List UInt8, m = m2 ++ Xg (32 :: wB1) [x.b] ∧ m.length ≤ 120 := ⟨_, rfl, by have := Ji (32 :: wB1) [x.b] (one (by omega)); simp [wB1] at this ⊢; omega⟩
 obtain ⟨m4, e4, b4⟩ : ∃ m : List UInt8, m = m3 ++ Xg (32 :: wR1) [x.r] ∧ m.length ≤ 160 := ⟨_, rfl, by have := Ji (32 :: wR1) [x.r] (one (by omega)); simp [wR1] at this ⊢; omega⟩
 obtain ⟨m5, e5, b5⟩ : ∃ m : List UInt8, m = m4 ++ Xg (32 :: wN1) [x.n] ∧ m.length ≤ 200 := ⟨_, rfl, by have := Ji (32 :: wN1) [x.n] (one (by omega)); simp [wN1] at this ⊢; omega⟩
 obtain ⟨m6, e6, b6⟩ : ∃ m : List UInt8, m = m5 ++ Xg (10 :: wF2) [x.m] ∧ m.length ≤ 240 := ⟨_, rfl, by have := Ji (10 :: wF2) [x.m] (one (by omega)); simp [wF2] at this ⊢; omega⟩
 obtain ⟨m7, e7, b7⟩ : ∃ m : List UInt8, m = m6 ++ Xg [58] x.l ∧ m.length ≤ 23000 := ⟨_, rfl, by have := Ji [58] x.l lbig; simp at this ⊢; omega⟩
 obtain ⟨m8, e8, b8⟩ : ∃ m : List UInt8, m = m7 ++ Xg (10 :: wF3) [x.e, x.p, x.q, x.g] ∧ m.length ≤ 24000 := ⟨_, rfl, by have := Ji (10 :: wF3) [x.e, x.p, x.q, x.g] four; simp [wF3] at this ⊢; omega⟩
 have e9 : Qi6 x = m8 ++ [10] := by rw [e8, e7, e6, e5, e4, e3, e2, e1]; simp [Qi6]
 rw [e9]
 rw [Rp.av, QL] at hC' ⊢
 simp (maxSteps := 4000000) (disch := omega) only [rq, simprocAttr, Qac, Xk]
 refine Qa hC' ?_
 simp (maxSteps := 4000000) (disch := omega) only [rq, simprocAttr, Qac]
 refine Qi0 ⟨[(1, .cell [.int .i64 x.f, .int .i64 x.c, .int .i64 x.b, .int .i64 x.r, .int .i64 x.n, .int .i64 x.m, .list x.l.length (ks .i64 x.l), .int .i64 x.e, .int .u8 x.p, .int .i64 x.q, .int .i64 x.g])], _⟩ (Le.still [0] 1 (by simp [Am.look, Zf, frzL, Q6, isDL, isD, XM, frzL_T _ (QK .i64 x.l)])) ?_
 simp (maxSteps := 4000000) (disch := omega) only [rq, simprocAttr, Qac, Qe]
 refine Qi0 ⟨[(1, .cell [.int .i64 x.f, .int .i64 x.c, .int .i64 x.b, .int .i64 x.r, .int .i64 x.n, .int .i64 x.m, .list x.l.length (ks .i64 x.l), .int .i64 x.e, .int .u8 x.p, .int .i64 x.q, .int .i64 x.g]), (5, .ref 1 1 0), (6, .ref 2 1 0), (7, .ref 3 1 0)], _⟩ (Le.trans (Le.virtC 3 1 tb 1 (by decide) rfl rfl) (Jw (by simp [Am.look, QQ]))) ?_
 simp (maxSteps := 4000000) (disch := omega) only [rq, simprocAttr, Qac]
 refine hY _ _ _ [_] _ [] wF1 _ [x.f] _ (.inl rfl) (.inr ⟨0, rfl, rfl⟩) (one (by omega)) (by simp [wF1]) ?_
 rw [← e1]
 simp (maxSteps := 4000000) (disch := omega) only [rq, simprocAttr, Qac]
 refine hY _ _ _ [_, _] _ m1 (32 :: wC1) _ [x.c] _ (.inr rfl) (.inr ⟨1, rfl, rfl⟩) (one (by omega)) (by simp [wC1]; omega) ?_
 rw [← e2]
 simp (maxSteps := 4000000) (disch := omega) only [rq, simprocAttr, Qac]
 refine hY _ _ _ [_, _, _] _ m2 (32 :: wB1) _ [x.b] _ (.inr rfl) (.inr ⟨2, rfl, rfl⟩) (one (by omega)) (by simp [wB1]; omega) ?_
 rw [← e3]
 simp (maxSteps := 4000000) (disch := omega) only [rq, simprocAttr, Qac]
 refine hY _ _ _ [_, _, _, _] _ m3 (32 :: wR1) _ [x.r] _ (.inr rfl) (.inr ⟨3, rfl, rfl⟩) (one (by omega)) (by simp [wR1]; omega) ?_
 rw [← e4]
 simp (maxSteps := 4000000) (disch := omega) only [rq, simprocAttr, Qac]
 refine hY _ _ _ [_, _, _, _, _] _ m4 (32 :: wN1) _ [x.n] _ (.inr rfl) (.inr ⟨4, rfl, rfl⟩) (one (by omega)) (by simp [wN1]; omega) ?_
 rw [← e5]
 simp (maxSteps := 4000000) (disch := omega) only [rq, simprocAttr, Qac]
 refine hY _ _ _ [_, _, _, _, _, _] _ m5 (10 :: wF2) _ [x.m] _ (.inr rfl) (.inr ⟨5, rfl, rfl⟩) (one (by omega)) (by simp [wF2]; omega) ?_
 rw [← e6]
 simp (maxSteps := 4000000) (disch := omega) only [rq, simprocAttr, Qac]
 refine hY _ _ _ [_, _, _, _, _, _] _ m6 [58] _ x.l _ (.inr rfl) (.inl rfl) lbig (by simp; omega) ?_
 rw [← e7]
 simp (maxSteps := 4000000) (disch := omega) only [rq, simprocAttr, Qac]
 refine hY _ _ _ [_, _, _, _, _, _, _] _ m7 (10 :: wF3) _ [x.e, x.p, x.q, x.g] _ (.inr rfl) (.inr ⟨6, rfl, rfl⟩) four (by simp [wF3]; omega) ?_
 rw [← e8]
 simp (maxSteps := 4000000) (disch := omega) only [rq, simprocAttr, Qac]
 refine hW _ _ _ [_, _, _, _, _, _, _] _ m8 [10] _ (.inr rfl) (by simp; omega) ?_
 simp (maxSteps := 4000000) (disch := omega) only [rq, simprocAttr, Qac]
 refine hS _ 3 4 (.ref 3 1 0) (m8 ++ [10]) _ (by simp) (by simp) (by simp) ?_
 simp (maxSteps := 4000000) (disch := omega) only [rq, simprocAttr, Qac]
 simp [Z6, Zf, frzL, Q6]
theorem QgJ {P : Prg} {g t0 : Nat} (bd : Body P g 51 [.tmp 2] (Qf t0)) : J8 P g := by
 intro f c b r n
 refine ZR rfl rfl bd ?_
 by_cases hf : f = 1 ∨ f = 2
 case neg =>
  have hn : decide (shP f c b r n) = false := decide_eq_false fun h => hf h.2.1
  rw [hn]
  simp (maxSteps := 4000000) (disch := omega) only [rq, simprocAttr, Qf, hdA]
 by_cases hc1 : 1 ≤ c
 case neg =>
  have hn : decide (shP f c b r n) = false := decide_eq_false fun h => hc1 h.2.2.1
  rw [hn]
  rcases hf with rfl | rfl <;> simp (maxSteps := 4000000) (disch := omega) only [rq, simprocAttr, Qf, hdA]
 by_cases hc2 : c ≤ 6
 case neg =>
  have hn : decide (shP f c b r n) = false := decide_eq_false fun h => hc2 h.2.2.2.1
  rw [hn]
  rcases hf with rfl | rfl <;> simp (maxSteps := 4000000) (disch := omega) only [rq, simprocAttr, Qf, hdA]
 by_cases hb : b = 8 ∨ b = 16 ∨ b = 24
 case neg =>
  have hn : decide (shP f c b r n) = false := decide_eq_false fun h => hb h.1
  rw [hn]
  rcases hf with rfl | rfl <;> simp (maxSteps := 4000000) (disch := omega) only [rq, simprocAttr, Qf, hdA]
 by_cases hr1 : 1 ≤ r
 case neg =>
  have hn : decide (shP f c b r n) = false := decide_eq_false fun h => hr1 h.2.2.2.2.1
  rw [hn]
  rcases hb with rfl | rfl | rfl <;> rcases hf with rfl | rfl <;> simp (maxSteps := 4000000) (disch := omega) only [rq, simprocAttr, Qf, hdA]
 by_cases hr2 : r ≤ 1048576
 case neg =>
  have hn : decide (shP f c b r n) = false := decide_eq_false fun h => hr2 h.2.2.2.2.2.1
  rw [hn]
  rcases hb with rfl | rfl | rfl <;> rcases hf with rfl | rfl <;> simp (maxSteps := 4000000) (disch := omega) only [rq, simprocAttr, Qf, hdA]
 by_cases hn1 : 1 ≤ n
 case neg =>
  have hn : decide (shP f c b r n) = false := decide_eq_false fun h => hn1 h.2.2.2.2.2.2
  rw [hn]
  rcases hb with rfl | rfl | rfl <;> rcases hf with rfl | rfl <;> simp (maxSteps := 4000000) (disch := omega) only [rq, simprocAttr, Qf, hdA]
 have hn : decide (shP f c b r n) = true := decide_eq_true ⟨hb, hf, hc1, hc2, hr1, hr2, hn1⟩
 rw [hn]
 rcases hb with rfl | rfl | rfl <;> rcases hf with rfl | rfl <;> simp (maxSteps := 4000000) (disch := omega) only [rq, simprocAttr, Qf, hdA]
theorem Qjt {r : Int} {m : Nat} (h1 : 1 ≤ r) (h2 : r ≤ 1048576) (h3 : 1 ≤ m) (h4 : m ≤ 4000) : Qke r m = 0 ↔ (QJ (Qw r).toNat m).length ≤ 1000 := by
 unfold Qke
 rw [qz (by omega), qz (by omega)]
 have p1 := Xt r
 obtain ⟨L, hL⟩ : ∃ L : Nat, Qw r = L := ⟨(Qw r).toNat, by omega⟩
 rw [hL, qt, Z5]
 rw [hL] at p1
 have e1 : (m : Int) + (L : Int) - 1 = ((m - 1 + L : Nat) : Int) := by omega
 rw [e1, ← yY, jb _ (by omega)]
 split
 ·constructor
  ·intro h; cases h
  ·intro h; omega
 ·exact ⟨fun _ => by omega, fun _ => rfl⟩
def Qf9 (P : Prg) (g : Nat) : Prop := ∀ f c b r n : Int, shP f c b r n → VC P g [hdA f c b r n] (.bool (decide (¬ Qjp c r n)))
theorem QjS {P : Prg} {g fS t0 : Nat} (bd : Body P g 18 [.tmp 2] (Q0 fS t0)) (hS : QbW P fS) : Qf9 P g := by
 intro f c b r n ⟨_, _, c1, c2, r1, r2, n1⟩
 refine Ju rfl rfl (ACall.of_cut 1 bd (by simp) ?_)
 have q0 : ¬ c = 0 := by omega
 have q1 : (4000 : Int).tdiv c = 4000 / c := yh (by omega)
 have q2 : 0 ≤ 4000 / c := jg (by omega) (by omega)
 have q3 : 4000 / c ≤ 4000 := yX _ (by omega)
 by_cases h1 : n ≤ 4000 / c
 case neg =>
  have hn : decide (¬ Qjp c r n) = true := decide_eq_true fun h => h1 h.1
  rw [hn]
  generalize hQ : 4000 / c = Q at *
  have hw : IntKind.i64.wrap Q = Q := JY (by omega) (by omega)
  simp (maxSteps := 4000000) (disch := omega) only [rq, simprocAttr, Qof, Q0, hdA]
  refine ⟨⟨[(1, .cell [.int .i64 f, .int .i64 c, .int .i64 b, .int .i64 r, .int .i64 n])], []⟩, Qb1 [] (by simp) (by simp [Am.look, Zf, frzL, Q6, isDL, isD]), ?_⟩
  simp (maxSteps := 4000000) (disch := omega) only [rq, simprocAttr, Qof, q1, hQ, hw]
 obtain ⟨m, rfl⟩ : ∃ m : Nat, n = m := ⟨n.toNat, by omega⟩
 have h4 : (m : Int) ≤ 4000 := Int.le_trans h1 q3
 have m1 : 1 ≤ m := by clear h1 q1 q2 q3; omega
 have m2 : m ≤ 4000 := by clear h1 q1 q2 q3; omega
 have hS' := hS r m ⟨r1, r2, m1, m2⟩
 have hcl := Qjt (r := r) (m := m) r1 r2 m1 m2
 have hn : decide (¬ Qjp c r m) = decide (1000 < (QJ (Qw r).toNat m).length) := by
  apply decide_eq_decide.2
  unfold Qjp
  rw [hcl]
  constructor
  ·intro h; have : ¬ (QJ (Qw r).toNat m).length ≤ 1000 := fun h' => h ⟨h1, h'⟩; omega
  ·intro h h'; omega
 rw [hn]
 rw [QL] at hS'
 generalize QJ (Qw r).toNat m = Ls at *
 generalize hQ : 4000 / c = Q at *
 have hw : IntKind.i64.wrap Q = Q := JY (by omega) (by omega)
 simp (maxSteps := 4000000) (disch := omega) only [rq, simprocAttr, Qof, Q0, hdA]
 refine ⟨⟨[(1, .cell [.int .i64 f, .int .i64 c, .int .i64 b, .int .i64 r, .int .i64 m])], []⟩, Qb1 [] (by simp) (by simp [Am.look, Zf, frzL, Q6, isDL, isD]), ?_⟩
 by_cases h2 : 1000 < Ls.length
 ·rw [decide_eq_true h2]
  simp (maxSteps := 4000000) (disch := omega) only [rq, simprocAttr, Qof, q1, hQ, hw]
  refine QR hS' ?_
  simp (maxSteps := 4000000) (disch := omega) only [rq, simprocAttr]
 ·rw [decide_eq_false h2]
  simp (maxSteps := 4000000) (disch := omega) only [rq, simprocAttr, Qof, q1, hQ, hw]
  refine QR hS' ?_
  simp (maxSteps := 4000000) (disch := omega) only [rq, simprocAttr]
theorem Qig {P : Prg} {g fS fM t0 : Nat} (bd : Body P g 10 [.tmp 2] (QG fS fM t0)) (hS : J8 P fS) (hM : Qf9 P fM) : Jg P g := by
 intro f c b r n
 refine ZR rfl rfl bd ?_
 have hS' := hS f c b r n
 by_cases h1 : shP f c b r n
 case neg =>
  have e : hdN f c b r n = 8 := qz fun h => h1 h.1
  rw [decide_eq_false h1] at hS'
  rw [e]
  rw [hdA] at hS' ⊢
  simp (maxSteps := 4000000) (disch := omega) only [rq, simprocAttr, QG]
  refine Qa hS' ?_
  simp (maxSteps := 4000000) (disch := omega) only [rq, simprocAttr, yi]
 have hM' := hM f c b r n h1
 rw [decide_eq_true h1] at hS'
 by_cases h2 : Qjp c r n
 ·have e : hdN f c b r n = 0 := qE ⟨h1, h2⟩
  rw [decide_eq_false (fun h => h h2)] at hM'
  rw [e]
  rw [hdA] at hS' hM' ⊢
  simp (maxSteps := 4000000) (disch := omega) only [rq, simprocAttr, QG]
  refine Qa hS' ?_
  simp (maxSteps := 4000000) (disch := omega) only [rq, simprocAttr, qT]
  refine Qa hM' ?_
  simp (maxSteps := 4000000) (disch := omega) only [rq, simprocAttr]
 ·have e : hdN f c b r n = 8 := qz fun h => h2 h.2
  rw [decide_eq_true h2] at hM'
  rw [e]
  rw [hdA] at hS' hM' ⊢
  simp (maxSteps := 4000000) (disch := omega) only [rq, simprocAttr, QG]
  refine Qa hS' ?_
  simp (maxSteps := 4000000) (disch := omega) only [rq, simprocAttr, qT]
  refine Qa hM' ?_
  simp (maxSteps := 4000000) (disch := omega) only [rq, simprocAttr]
theorem Qdi : ∀ {l : List Int} {m : Int}, 0 ≤ m → (QhQ m l ↔ (∀ v ∈ l, 5 ≤ v) ∧ l.sum ≤ m)
 | [], m, h => by simp [QhQ, h]
 | a :: l, m, h => by
  simp only [QhQ, qo, forall_eq_or_imp, List.sum_cons]
  constructor
  ·rintro ⟨h1, h2, h3⟩
   have := (Qdi (l := l) (m := m - a) (by omega)).1 h3
   exact ⟨⟨h1, this.1⟩, by omega⟩
  ·rintro ⟨⟨h1, h2⟩, h3⟩
   have hs : 0 ≤ l.sum := by
    clear h3
    induction l with
    | nil => simp
    | cons b l ih => have := ih fun v hv => h2 v (qN _ hv); have := h2 b (by simp); simp; omega
   exact ⟨h1, by omega, (Qdi (l := l) (m := m - a) (by omega)).2 ⟨h2, by omega⟩⟩
theorem Qgx : ∀ (l : List Int) (a : Int), (l ++ [a]).sum = l.sum + a
 | [], a => by simp
 | b :: l, a => by rw [qW, List.sum_cons, Qgx l a, List.sum_cons]; omega
theorem QkK : ∀ {l : List Int}, (∀ v ∈ l, 5 ≤ v ∧ v ≤ 100000) → 0 ≤ l.sum ∧ l.sum ≤ 100000 * (l.length : Int)
 | [], _ => by simp
 | a :: l, h => by
  have h1 := QkK (l := l) fun v hv => h v (qN _ hv)
  have h2 := h a (by simp)
  simp only [List.sum_cons, qn]
  omega
theorem Qie {P : Prg} {f : Nat} (bd : Body P f 39 [.tmp 2] QF) : Jf P f := by
 intro l hl hb
 refine ZR (by simp [isDL, Xh]) rfl bd ?_
 by_cases h0 : l.length = 0 ∨ 1000 < l.length
 ·have e : skN l = 8 := qE h0
  rw [e]
  by_cases h1 : l.length < 1
  ·simp (maxSteps := 4000000) (disch := omega) only [rq, simprocAttr, QF, QL]
  ·simp (maxSteps := 4000000) (disch := omega) only [rq, simprocAttr, QF, QL]
 have hN : skN l = if QhQ 100000 l then 0 else 8 := qz h0
 simp (maxSteps := 4000000) (disch := omega) only [rq, simprocAttr, QF, QL]
 refine Zq (ι := Nat) (fun i => ⟨[(4, .int .i64 i), (3, .int .i64 (l.take i).sum), (0, .list l.length (ks .i64 l))], []⟩) (fun i => i ≤ l.length ∧ ∀ v ∈ l.take i, 5 ≤ v ∧ v ≤ 100000) (fun i => l.length - i) 0
  (QA) ⟨yd _, by simp⟩ ?_
 intro i ⟨hi, hv⟩
 have hsb := QkK hv
 have htl : (l.take i).length = i := by simp; omega
 rw [htl] at hsb
 by_cases hi2 : i < l.length
 ·have la : (ks .i64 l).drop i = .int .i64 l[i] :: (ks .i64 l).drop (i + 1) := by
   have h := Qj0 (K := .i64) (l := l) (i := i) hi2
   rw [← QaX] at h
   simpa [qh, hi2] using h
  have hs1 : (l.take (i + 1)).sum = (l.take i).sum + l[i] := by rw [qy hi2, Qgx]
  have hmem : l[i] ∈ l := yf hi2
  have hv0 : ∀ u ∈ l.take (i + 1), u ∈ l.take i ∨ u = l[i] := fun u hu => by
   rw [qy hi2] at hu
   rcases qp.1 hu with hu | hu
   ·exact .inl hu
   ·exact .inr (by simpa using hu)
  generalize l[i] = v at *
  by_cases h1 : 5 ≤ v
  case neg =>
   have e : skN l = 8 := by rw [hN, qz fun h => h1 (((Qdi (by omega)).1 h).1 v hmem)]
   rw [e]
   simp (maxSteps := 4000000) (disch := omega) only [rq, simprocAttr, la, QD]
  by_cases h2 : v ≤ 100000
  case neg =>
   have e : skN l = 8 := by rw [hN, qz fun h => h2 (Qi4 h v hmem).2]
   rw [e]
   simp (maxSteps := 4000000) (disch := omega) only [rq, simprocAttr, la, QD]
  have hv1 : ∀ u ∈ l.take (i + 1), 5 ≤ u ∧ u ≤ 100000 := fun u hu => by
   rcases hv0 u hu with hu | rfl
   ·exact hv u hu
   ·exact ⟨h1, h2⟩
  generalize (l.take i).sum = S at *
  simp (maxSteps := 4000000) (disch := omega) only [rq, simprocAttr, la, QD]
  refine ⟨i + 1, ⟨by omega, hv1⟩, by omega, ?_⟩
  rw [hs1]
  exact QA
 ·obtain rfl : i = l.length := by omega
  rw [yn] at *
  by_cases h3 : l.sum ≤ 100000
  ·have e : skN l = 0 := by rw [hN, qE ((Qdi (by omega)).2 ⟨fun v h => (hv v h).1, h3⟩)]
   rw [e]
   simp (maxSteps := 4000000) (disch := omega) only [rq, simprocAttr]
  ·have e : skN l = 8 := by rw [hN, qz fun h => h3 ((Qdi (by omega)).1 h).2]
   rw [e]
   simp (maxSteps := 4000000) (disch := omega) only [rq, simprocAttr]
def QiU (P : Prg) (f : Nat) : Prop := ∀ a b : List Int, a.length ≤ 1000000 → b.length ≤ 1000000 → VC P f [QL a, QL b] (.bool (decide (a = b)))
theorem Qji {l : List Int} {i : Nat} (h : i < l.length) : (ks .i64 l).drop i = .int .i64 l[i] :: (ks .i64 l).drop (i + 1) := by
 have h1 := Qj0 (K := .i64) (l := l) (i := i) h
 rw [← QaX] at h1
 simpa [qh, h] using h1
theorem Qid {P : Prg} {f : Nat} (bd : Body P f 26 [.tmp 4] Qv) : QiU P f := by
 intro a b ha hb
 refine ZR (by simp [isDL, Xh]) rfl bd ?_
 by_cases h0 : a.length = b.length
 case neg =>
  have e : decide (a = b) = false := decide_eq_false fun h => h0 (by rw [h])
  have h1 : ¬ (a.length : Int) = b.length := by omega
  rw [e]
  by_cases h2 : a.length < b.length
  ·simp (maxSteps := 4000000) (disch := omega) only [rq, simprocAttr, Qv, QL]
  ·simp (maxSteps := 4000000) (disch := omega) only [rq, simprocAttr, Qv, QL]
 simp (maxSteps := 4000000) (disch := omega) only [rq, simprocAttr, Qv, QL]
 refine Zq (ι := Nat) (fun i => ⟨[(5, .int .i64 i), (0, .list a.length (ks .i64 a)), (1, .list b.length (ks .i64 b))], []⟩) (fun i => i ≤ a.length ∧ a.take i = b.take i) (fun i => a.length - i) 0
  (QA) ⟨yd _, by simp⟩ ?_
 intro i ⟨hi, ht⟩
 by_cases hi2 : i < a.length
 ·have la := Qji hi2
  have lb := Qji (l := b) (i := i) (by omega)
  have ea : a.take (i + 1) = a.take i ++ [a[i]] := qy hi2
  have eb : b.take (i + 1) = b.take i ++ [b[i]'(by omega)] := qy (by omega)
  by_cases h1 : a[i] = b[i]'(by omega)
  ·have ht1 : a.take (i + 1) = b.take (i + 1) := by rw [ea, eb, ht, h1]
   generalize a[i] = u at *
   generalize b[i]'(by omega) = v at *
   subst h1
   simp (maxSteps := 4000000) (disch := omega) only [rq, simprocAttr, la, lb, QD]
   exact ⟨i + 1, ⟨by omega, ht1⟩, by omega, QA⟩
  ·have e : decide (a = b) = false := decide_eq_false fun h => h1 (by subst h; rfl)
   rw [e]
   generalize a[i] = u at *
   generalize b[i]'(by omega) = v at *
   rcases Int.lt_or_gt_of_ne h1 with h2 | h2
   ·simp (maxSteps := 4000000) (disch := omega) only [rq, simprocAttr, la, lb, QD]
   ·simp (maxSteps := 4000000) (disch := omega) only [rq, simprocAttr, la, lb, QD]
 ·obtain rfl : i = a.length := by omega
  rw [yn, h0, yn] at ht
  have e : decide (a = b) = true := decide_eq_true ht
  rw [e]
  simp (maxSteps := 4000000) (disch := omega) only [rq, simprocAttr]
def QmV (x : Rp) : AV := .agg [.int .i64 x.f, .int .i64 x.c, .int .i64 x.b, .int .i64 x.r, .int .i64 x.n, .int .i64 x.m, QL x.l]
def QoY (x y : Rp) : Bool := decide (x.f = y.f ∧ x.c = y.c ∧ x.b = y.b ∧ x.r = y.r ∧ x.n = y.n)
def Qn0 (x y : Rp) : Bool := QoY x y && (decide (x.m = y.m) && decide (x.l = y.l))
def Qn7 (x y : Rp) : Bool := decide (x.e = y.e ∧ x.p = y.p ∧ x.q = y.q ∧ x.g = y.g)
theorem QoX (x y : Rp) : (decide (x.f = y.f) && (decide (x.c = y.c) && (decide (x.b = y.b) && (decide (x.r = y.r) && decide (x.n = y.n))))) = QoY x y := by
 unfold QoY
 simp only [Bool.decide_and]
theorem Qo2 (x y : Rp) : (decide (x.e = y.e) && (decide (x.p = y.p) && (decide (x.q = y.q) && decide (x.g = y.g)))) = Qn7 x y := by
 unfold Qn7
 simp only [Bool.decide_and]
def Qf8 (P : Prg) (f : Nat) : Prop := ∀ x y : Rp, x.l.length ≤ 1000000 → y.l.length ≤ 1000000 → VC P f [QmV x, QmV y] (.bool (Qn0 x y))
theorem QjR {P : Prg} {f fI t0 : Nat} (bd : Body P f 24 [.tmp 4] (Qx fI t0)) (hI : QiU P fI) : Qf8 P f := by
 intro x y hx hy
 refine ZR (by simp [isDL, QmV, isD, Xh]) rfl bd ?_
 have hI' := hI x.l y.l hx hy
 rw [QL, QL] at hI'
 have hb := QoX x y
 unfold Qn0
 rcases h1 : QoY x y with _ | _
 ·rw [h1] at hb
  simp (maxSteps := 4000000) (disch := omega) only [rq, simprocAttr, Qx, QmV, QL, QlG, hb]
 ·rw [h1] at hb
  by_cases h2 : x.m = y.m
  ·rw [decide_eq_true h2]
   simp (maxSteps := 4000000) (disch := omega) only [rq, simprocAttr, Qx, QmV, QL, QlG, hb]
   refine Qa hI' ?_
   simp (maxSteps := 4000000) (disch := omega) only [rq, simprocAttr]
  ·rw [decide_eq_false h2]
   rcases Int.lt_or_gt_of_ne h2 with h3 | h3
   ·simp (maxSteps := 4000000) (disch := omega) only [rq, simprocAttr, Qx, QmV, QL, QlG, hb]
   ·simp (maxSteps := 4000000) (disch := omega) only [rq, simprocAttr, Qx, QmV, QL, QlG, hb]
def Qc7 (P : Prg) (f : Nat) : Prop := ∀ x y : Rp, x.l.length ≤ 1000000 → y.l.length ≤ 1000000 → VC P f [x.av, y.av] (.bool (Qn0 x y && Qn7 x y))
theorem QjQ {P : Prg} {f fI t0 : Nat} (bd : Body P f 17 [.tmp 4] (QZ fI t0)) (hI : Qf8 P fI) : Qc7 P f := by
 intro x y hx hy
 refine ZR (by simp [isDL, Qcs]) rfl bd ?_
 have hI' := hI x y hx hy
 rw [QmV, QmV, QL, QL] at hI'
 have hb := Qo2 x y
 rcases h1 : Qn0 x y with _ | _
 ·rw [h1] at hI'
  simp (maxSteps := 4000000) (disch := omega) only [rq, simprocAttr, QZ, Rp.av, QL]
  refine Qa hI' ?_
  simp (maxSteps := 4000000) (disch := omega) only [rq, simprocAttr]
 ·rw [h1] at hI'
  simp (maxSteps := 4000000) (disch := omega) only [rq, simprocAttr, QZ, Rp.av, QL]
  refine Qa hI' ?_
  rcases h2 : Qn7 x y with _ | _
  ·rw [h2] at hb
   simp (maxSteps := 4000000) (disch := omega) only [rq, simprocAttr, QlG, hb]
  ·rw [h2] at hb
   simp (maxSteps := 4000000) (disch := omega) only [rq, simprocAttr, QlG, hb]
theorem QpS {x y : Rp} : (Qn0 x y && Qn7 x y) = true ↔ x = y := by
 rcases x with ⟨f, c, b, r, n, m, l, e, p, q, g⟩
 rcases y with ⟨f', c', b', r', n', m', l', e', p', q', g'⟩
 simp only [Qn0, QoY, Qn7, ← Bool.decide_and, ql, Rp.mk.injEq]
 constructor
 ·rintro ⟨⟨⟨h1, h2, h3, h4, h5⟩, h6, h7⟩, h8, h9, h10, h11⟩
  exact ⟨h1, h2, h3, h4, h5, h6, h7, h8, h9, h10, h11⟩
 ·rintro ⟨h1, h2, h3, h4, h5, h6, h7, h8, h9, h10, h11⟩
  exact ⟨⟨⟨h1, h2, h3, h4, h5⟩, h6, h7⟩, h8, h9, h10, h11⟩
end Go.Am
