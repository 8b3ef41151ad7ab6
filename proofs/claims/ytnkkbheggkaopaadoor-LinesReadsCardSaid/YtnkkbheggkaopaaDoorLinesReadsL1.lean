/- What the functions that the law reaches return, for every program that has their code; the conditions stand in each statement. -/
import Derived.Lib.ItoaLen
import Derived.Test.YtnkkbheggkaopaaDoorLinesReadsD1
set_option linter.unusedSectionVars false
set_option linter.unusedSimpArgs false
set_option linter.unusedVariables false
namespace Go.Am
open Go.RowKit
def QkV (b : Int) : Int := if b = 8 then 128 else if b = 16 then 32768 else if b = 24 then 8388608 else 0
def il (l : List Int) : AV := .list l.length (ks .i32 l)
def QG (r : Int) : Int := if 256 * r / 245 < 1 then 1 else 256 * r / 245
theorem XU (r : Int) : 1 ≤ QG r := by unfold QG; split <;> omega
theorem Qfd {r : Int} (h : r ≤ 1048576) : QG r ≤ 1095654 := by unfold QG; split <;> omega
def Qbi (r : Int) : AV := if r < 1 ∨ 1048576 < r then .tup [.int .i64 0, .int .i64 2] else .tup [.int .i64 (QG r), .int .i64 0]
def QaY (P : Prg) (f : Nat) : Prop := ∀ r : Int, VC P f [.int .i64 r] (Qbi r)
theorem Qia (r : Int) : isD (Qbi r) = true := by unfold Qbi; split <;> rfl
theorem QdJ {P : Prg} {f : Nat} (b : Body P f 14 [.tmp 2, .tmp 3] Zb) : QaY P f := by
 intro r
 refine Z5 rfl (Qia r) b ?_
 by_cases h1 : r < 1
 ·simp (disch := omega) only [rq, simprocAttr, Zb, Qbi, true_or]
 by_cases h2 : 1048576 < r
 ·simp (disch := omega) only [rq, simprocAttr, Zb, Qbi, or_true]
 have h3 : 1 ≤ 256 * r / 245 := by omega
 simp (disch := omega) only [rq, simprocAttr, Zb, Qbi, or_self, QG]
 rw [show (if (1 : Int) < 256 * r / 245 then 256 * r / 245 else 1) = 256 * r / 245 by split <;> omega]
def w32 (x : Int) : Int := IntKind.i32.wrap x
structure Qkh where
 sh : Int
 tp : List Int
 ps : List Int
def Qkj (i : Nat) : Int := if i = 0 then 4 else if i < 4 then 2 else 1
def sgn (x : Int) : Int := if x < 0 then -1 else if 0 < x then 1 else 0
def QkJ (x : Qkh) (w : Int) (k : Nat) : Int := w32 (x.tp.getD k 0 + Qkj k * sgn (x.ps.getD k 0) * sgn w)
def QjJ (x : Qkh) (w : Int) (k : Nat) : List Int := (List.range 16).map fun i => if i < k then QkJ x w i else x.tp.getD i 0
def lf (x : Qkh) (w : Int) (k : Nat) : Qkh := { x with tp := QjJ x w k }
theorem Qg4 {K : IntKind} {l : List Int} {i : Nat} (h : i < l.length) : (ks K l).drop i = .int K (l.getD i 0) :: ks K (l.drop (i + 1)) := by
 rw [Qjg h]; simp [qg, qc h]
def cnt (c k i : Nat) : Nat := if k < i % c then i / c + 1 else i / c
theorem ZZ (os : List Ob) {xs : List Ob} {fr fr' : List (Nat × AV)} (h : ∀ o ∈ os, isTL o.cs = true)
  (hfr : ∀ p ∈ fr', p.2 = .any ∨ Zh (fun o => decide (o < os.length)) (fun o => decide (os.length ≤ o)) (os ++ xs) 2 [look fr p.1] = some [p.2]) : Le 0 ⟨fr, os ++ xs⟩ ⟨fr', os⟩ := by
 refine Le.drop os.length 2 (by omega) rfl hfr ?_
 intro i y hy
 have hi : i < os.length := by
  rcases yM i os.length with h | h
  ·exact h
  ·rw [qY h] at hy; cases hy
 refine ⟨y.cs, by rw [qi hi]; exact hy, ?_⟩
 simp only [Zh]
 exact frzL_T _ (h y (qC hy))
theorem Qix (K : IntKind) : ∀ n : Nat, Ql [.int K 0] n = ks K (List.replicate n 0)
 | 0 => rfl
 | n + 1 => by rw [Ql, Qix K n]; simp [ks, List.replicate_succ]
def Qd0 (r n : Int) : AV := if r < 1 ∨ 1048576 < r then .tup [.int .i64 0, .int .i64 2] else if n < 1 ∨ 4000 < n then .tup [.int .i64 0, .int .i64 2] else if 1000 < (n + QG r - 1) / QG r then .tup [.int .i64 0, .int .i64 4] else .tup [.int .i64 ((n + QG r - 1) / QG r), .int .i64 0]
theorem Qi6 (r n : Int) : isD (Qd0 r n) = true := by unfold Qd0; split <;> (try split) <;> (try split) <;> rfl
def Qag (P : Prg) (f : Nat) : Prop := ∀ r n : Int, VC P f [.int .i64 r, .int .i64 n] (Qd0 r n)
theorem QcD {P : Prg} {f fL : Nat} (b : Body P f 32 [.tmp 4, .tmp 5] (ZV fL)) (hL : QaY P fL) : Qag P f := by
 intro r n
 refine Z5 rfl (Qi6 _ _) b ?_
 have hL' := hL r
 simp (disch := omega) only [rq, simprocAttr, ZV]
 refine Qa hL' ?_
 by_cases h1 : r < 1 ∨ 1048576 < r
 ·have e1 : Qbi r = .tup [.int .i64 0, .int .i64 2] := by rw [Qbi, qF h1]
  have e2 : Qd0 r n = .tup [.int .i64 0, .int .i64 2] := by rw [Qd0, qF h1]
  simp (disch := omega) only [rq, simprocAttr, e1, e2]
 have e1 : Qbi r = .tup [.int .i64 (QG r), .int .i64 0] := by rw [Qbi, qt h1]
 have p1 := XU r
 have p2 := Qfd (r := r) (by omega)
 by_cases h2 : n < 1
 ·have e2 : Qd0 r n = .tup [.int .i64 0, .int .i64 2] := by rw [Qd0, qt h1, qF (.inl h2)]
  simp (disch := omega) only [rq, simprocAttr, e1, e2]
 by_cases h3 : 4000 < n
 ·have e2 : Qd0 r n = .tup [.int .i64 0, .int .i64 2] := by rw [Qd0, qt h1, qF (.inr h3)]
  simp (disch := omega) only [rq, simprocAttr, e1, e2]
 have e2 : Qd0 r n = if 1000 < (n + QG r - 1) / QG r then .tup [.int .i64 0, .int .i64 4] else .tup [.int .i64 ((n + QG r - 1) / QG r), .int .i64 0] := by
  rw [Qd0, qt h1, qt (by omega)]
 generalize QG r = L at *
 have q0 : (n + L - 1).tdiv L = (n + L - 1) / L := yf (by omega)
 have q1 : 0 ≤ (n + L - 1) / L := je (by omega) (by omega)
 have q2 : (n + L - 1) / L ≤ n + L - 1 := yW _ (by omega)
 generalize hq : (n + L - 1) / L = Q at *
 by_cases h4 : 1000 < Q
 ·rw [qF h4] at e2
  simp (disch := omega) only [rq, simprocAttr, e1, q0, hq, e2]
 ·rw [qt h4] at e2
  simp (disch := omega) only [rq, simprocAttr, e1, q0, hq, e2]
def QhK (r n : Int) : Int := if r < 1 ∨ 1048576 < r then 2 else if n < 1 ∨ 4000 < n then 2 else if 1000 < (n + QG r - 1) / QG r then 4 else 0
theorem Qim (r n : Int) : ∃ k : Int, Qd0 r n = .tup [.int .i64 k, .int .i64 (QhK r n)] := by
 unfold Qd0 QhK
 split
 ·exact ⟨_, rfl⟩
 split
 ·exact ⟨_, rfl⟩
 split
 ·exact ⟨_, rfl⟩
 ·exact ⟨_, rfl⟩
def ZD (L n : Nat) : List Int := List.replicate ((n - 1) / L) (L : Int) ++ [(n : Int) - ((n - 1) / L * L : Nat)]
theorem XX (L n : Nat) : (ZD L n).length = (n - 1) / L + 1 := by simp [ZD]
theorem Qh0 (k : Nat) (a : Int) : List.replicate k a ++ [a] = List.replicate (k + 1) a := by rw [List.replicate_succ']
def QD (l : List Int) : AV := .list l.length (ks .i64 l)
theorem ZM (l : List Int) : isD (QD l) = true := by simp [QD, isD, Xg]
def leB (n : Nat) : Nat → List UInt8
 | 0 => []
 | k + 1 => UInt8.ofNat (n % 256) :: leB (n / 256) k
def Qjz (c b r : Int) : Prop := 1 ≤ c ∧ c ≤ 6 ∧ QkV b ≠ 0 ∧ 1 ≤ r ∧ r ≤ 1048576
instance (c b r : Int) : Decidable (Qjz c b r) := by unfold Qjz; exact inferInstance
theorem QkM {K : IntKind} {n k : Nat} (hk : k ≤ K.bits) : Jp false K (n : Int) (k : Int) = some (.int K ((n / 2 ^ k : Nat) : Int)) := by
 have h3 : ¬ ((k : Int) < 0) := by omega
 have h5 : min k K.bits = k := by omega
 have h6 : (n : Int).fdiv (2 ^ k) = ((n / 2 ^ k : Nat) : Int) := by
  rw [Int.fdiv_eq_ediv_of_nonneg _ (Int.pow_nonneg (by decide))]
  simp [jc, Int.natCast_pow]
 simp only [Jp, qt h3, qW, yU, qN, h5, h6]
def QkY (c : Nat) : Nat := (c / 2) ^^^ (if c % 2 = 1 then 3988292384 else 0)
def QkH : Nat → Nat → Nat
 | 0, c => c
 | k + 1, c => QkH k (QkY c)
def Qk0 (s b : Nat) : Nat := QkH 8 (s ^^^ b)
def QkZ (s : Nat) (l : List UInt8) : Nat := l.foldl (fun s b => Qk0 s b.toNat) s
def nB (N : Nat) : Nat := (N + 7) / 8
def bO (t o N : Nat) : Ob := ⟨t, 2, 1, [.own o (nB N), .int .i64 N], 0⟩
def bY (t N V : Nat) : Ob := ⟨t, 1, nB N, u8 (leB V (nB N)), 0⟩
theorem Qib (V n : Nat) : isDL (u8 (leB V n)) = true := Qi7 _
theorem Low.put {ob : List Ob} (h : Low ob.length ob) {t t0 o p N V N' : Nat} (ho : o < ob.length) : Low ob.length (QiM ob o p (bY t0 N V) (bO t o N')) := by
 unfold QiM
 refine (h.set ?_).set ?_
 ·exact lowL_D _ (Qib _ _)
 ·simp [bO, lowL, Jg, ho]
theorem Low.drop {ob : List Ob} (h : Low ob.length ob) {t t0 o p N V : Nat} (ho : o < ob.length) {M : Nat} (hM : M ≤ ob.length) {J : List Ob} {fr fr' : List (Nat × AV)}
  (hfr : ∀ q ∈ fr', q.2 = .any ∨ (q.2 = Am.look fr q.1 ∧ Jg ob.length q.2 = true)) :
  Le M ⟨fr, QiM ob o p (bY t0 N V) (bO t o N) ++ J⟩ ⟨fr', QiM ob o p (bY t0 N V) (bO t o N)⟩ := by
 have hl : (QiM ob o p (bY t0 N V) (bO t o N)).length = ob.length := QhP
 refine Le.low (by omega) (by rw [hl]; exact h.put ho) ?_
 rw [hl]
 exact hfr
def N32 (v : List Nat) : Prop := ∀ x ∈ v, x < 4294967296
def QkL (p : List UInt8) : Nat := 4294967295 - QkZ 4294967295 p
theorem N32.take {v : List Nat} (h : N32 v) (i : Nat) : N32 (v.take i) := fun x hx => h x (qu hx)
theorem N32.getD {v : List Nat} (h : N32 v) (i : Nat) : v.getD i 0 < 4294967296 := by
 rw [qg]
 cases hx : v[i]? with
 | none => simp
 | some x => exact h x (qC hx)
def Qkm (p : List UInt8) : List UInt8 := p ++ leB (QkL p) 4
def emL : List AV → List AV
 | [] => []
 | .emp _ :: l => .list 0 [] :: emL l
 | a :: l => a :: emL l
theorem Qfx {X : Cx} : ∀ (l : List AV) (vs : List Value), RepL X l vs → RepL X (emL l) vs
 | [], _, h => h
 | a :: l, vs, h => by
  simp only [RepL] at h
  obtain ⟨v, rest, e, g1, g2⟩ := h
  have h2 := Qfx l rest g2
  cases a with
  | emp z =>
   simp only [emL, RepL]
   refine ⟨v, rest, e, ?_, h2⟩
   simp only [Rep] at g1 ⊢
   obtain ⟨a, e, _⟩ := g1
   exact ⟨a, 0, [], e, qh _, .inl rfl, by simp [RepL]⟩
  | _ => simp only [emL, RepL]; exact ⟨v, rest, e, g1, h2⟩
theorem VC.emp {P : Prg} {f : FuncId} (avs : List AV) {r : AV} (h : VC P f (emL avs) r) (hd : isDL avs = true) : VC P f avs r :=
 ⟨h.1, hd, h.2.2.1, fun w C vs hC hG hr => h.2.2.2 w C vs hC hG (Qfx _ _ hr)⟩
def nl (l : List Int) : AV := .list l.length (ks .i64 l)
theorem Qg9 (l : List Int) : isD (nl l) = true := by simp [nl, isD, Xg]
def nls (L : List (List Int)) : AV := .list L.length (L.map nl)
theorem Qfe : ∀ L : List (List Int), isDL (L.map nl) = true
 | [] => rfl
 | l :: L => by simp [isDL, Qg9, Qfe L]
def QbC (t : Nat) (P : Prg) (f : Nat) : Prop := ∀ L : List (List Int), L.length ≤ 1000000 → 0 < L.flatten.length → L.flatten.length ≤ 1000000 → VO P f [nls L] (.own 0 L.flatten.length) ⟨t, 1, L.flatten.length, ks .i64 L.flatten, 0⟩
theorem grow_nilI {P : Prg} {f t : Nat} {ρ : Go.Shelf.Ren} (L : Go.Proofs.Lays8.n4 P.prog ρ) (hf : ρ.f 4 = f) (ht : ρ.t 25 = t) (h25 : (P.prog.info? t).map (fun i => (i.zero, i.size, i.bytes)) = some (some (.int .i64 0), 1, 8)) : ∀ (ob : List Ob) (n : Nat) (z : Bool) (K : AV → List Ob → Prop), 0 < n → n ≤ 1000000 → K (.own ob.length 0) (ob ++ [⟨t, 1, 0, [], 0⟩]) → ACall P f [.emp z, .int .i64 n] ob K := by
 intro ob n z K h1 h2 hK
 subst hf; subst ht
 exact ACall.grow_nilI (by omega) L h25 h1 (by omega) hK
def Qce (t : Nat) (P : Prg) (f : Nat) : Prop := ∀ (ob : List Ob) (n : Nat) (z : Bool) (K : AV → List Ob → Prop), 0 < n → n ≤ 1000000 → K (.own ob.length 0) (ob ++ [⟨t, 1, 0, [], 0⟩]) → ACall P f [.emp z, .int .i64 n] ob K
theorem Qca {L : List (List Int)} {k : Nat} (h : k < L.length) : (L.take (k + 1)).flatten = (L.take k).flatten ++ L.getD k [] := by
 rw [qx h, List.flatten_append, qg, qc h]
 simp
theorem Qfg (L : List (List Int)) (k : Nat) : (L.take k).flatten.length ≤ L.flatten.length := by
 conv => rhs; rw [← qX k L, List.flatten_append, qm]
 omega
theorem QbL {P : Prg} {f fG t0 : Nat} (bd : Body P f 36 [.tmp 2] (QY fG t0)) (hG : Qce t0 P fG) : QbC t0 P f := by
 intro L hL h0 h1
 refine VO.of_walk (by simp [isDL, isD, nls, Qfe]) (Xg _ _) (by simp [okr]) (Qi bd (by simp) ?_)
 have hat : ∀ k, k < L.length → (L.map nl).drop k = nl (L.getD k []) :: (L.map nl).drop (k + 1) := fun k hk => by
  rw [yA (by simpa using hk)]
  simp [qg, qc hk]
 have hml : (L.map nl).length = L.length := by simp
 simp only [nl] at hat
 simp (disch := omega) only [rq, simprocAttr, QY, nls]
 refine Zg (ι := Nat) (fun k => ⟨[(11, .int .i64 k), (10, .int .i64 L.length), (9, .list L.length (L.map nl)), (3, .int .i64 (L.take k).flatten.length), (0, .list L.length (L.map nl))], []⟩) (fun k => k ≤ L.length) (fun k => L.length - k) 0 (QJ) (by omega) ?_
 intro k hk
 by_cases hlt : k < L.length
 ·have ha := hat k hlt
  have hf := Qca hlt
  have hle := Qfg L (k + 1)
  rw [hf, qm] at hle
  have hl : ((L.take (k + 1)).flatten.length : Int) = (L.take k).flatten.length + (L.getD k []).length := by rw [hf]; simp
  generalize (L.take k).flatten.length = s at *
  generalize L.getD k [] = x at *
  simp (disch := omega) only [rq, simprocAttr, ha, hml]
  exact ⟨k + 1, by omega, by omega, by simp only [hl]; exact QJ⟩
 obtain rfl : k = L.length := by omega
 rw [yb]
 have hG' := fun K hK => hG [] L.flatten.length true K h0 h1 hK
 simp (disch := omega) only [rq, simprocAttr]
 refine hG' _ ?_
 simp (disch := omega) only [rq, simprocAttr]
 refine Zg (ι := Nat) (fun k => ⟨[(27, .int .i64 k), (26, .int .i64 L.length), (25, .list L.length (L.map nl)), (6, .own 0 (L.take k).flatten.length)], [⟨t0, 1, (L.take k).flatten.length, ks .i64 (L.take k).flatten, 0⟩]⟩) (fun k => k ≤ L.length) (fun k => L.length - k) 0 (XI (by simp [Am.look, ks])) (by omega) ?_
 intro k hk
 by_cases hlt : k < L.length
 ·have ha := hat k hlt
  have hf := Qca hlt
  have hle := Qfg L (k + 1)
  rw [hf, qm] at hle
  have hl : (L.take (k + 1)).flatten.length = (L.take k).flatten.length + (L.getD k []).length := by rw [hf]; simp
  have hu : ks .i64 (L.take (k + 1)).flatten = ks .i64 (L.take k).flatten ++ ks .i64 (L.getD k []) := by rw [hf]; simp [ks]
  have hc : (ks .i64 (L.take k).flatten).length = (L.take k).flatten.length := Qw _ _
  have hx : (ks .i64 (L.getD k [])).length = (L.getD k []).length := Qw _ _
  generalize ks .i64 (L.take k).flatten = cs at *
  generalize (L.take k).flatten.length = s at *
  generalize ks .i64 (L.getD k []) = us at *
  generalize (L.getD k []).length = xl at *
  simp (disch := omega) only [rq, simprocAttr, ha, hml, hc, hx]
  exact ⟨k + 1, by omega, by omega, by rw [hl, hu]; exact QJ⟩
 obtain rfl : k = L.length := by omega
 rw [yb]
 simp (disch := omega) only [rq, simprocAttr]
 exact ⟨0, rfl, rfl⟩
def Qga (P : Prg) (f : Nat) : Prop := ∀ x y : Nat, x ≤ 65535 → y ≤ 65535 → VC P f [.int .u64 x, .int .u64 y] (.tup [.int .u64 0, .int .u64 ((x * y : Nat) : Int)])
theorem QfO {P : Prg} {f : Nat} (bd : Body P f 51 [.tmp 4, .tmp 5] Zz) : Qga P f := by
 intro x y hx hy
 refine Z5 rfl rfl bd ?_
 have hxy : x * y ≤ 65535 * 65535 := Nat.mul_le_mul hx hy
 have hm : (x : Int) * (y : Int) = ((x * y : Nat) : Int) := by simp
 have an : ∀ a : Nat, a ≤ 4294967295 → IntKind.u64.wrap (BitVec.ofInt IntKind.u64.bits (a : Int) &&& BitVec.ofInt IntKind.u64.bits 4294967295).toNat = (a : Int) := by
  intro a ha
  have := Qjn a 4294967295 (by omega) (by decide)
  rw [show (4294967295 : Nat) = 2 ^ 32 - 1 from rfl, Nat.and_two_pow_sub_one_eq_mod, Nat.mod_eq_of_lt (by omega)] at this
  exact this
 have sh : ∀ a : Nat, a ≤ 4294967295 → Jp false .u64 (a : Int) 32 = some (.int .u64 0) := by
  intro a ha
  have := QkM (K := .u64) (n := a) (k := 32) (by decide)
  rw [Nat.div_eq_of_lt (by omega)] at this
  exact this
 have a1 := an x (by omega)
 have a2 := an y (by omega)
 have a3 : IntKind.u64.wrap (BitVec.ofInt IntKind.u64.bits 0 &&& BitVec.ofInt IntKind.u64.bits 4294967295).toNat = 0 := by decide
 have s1 := sh x (by omega)
 have s2 := sh y (by omega)
 have s3 := sh (x * y) (by omega)
 have s4 : Jp false .u64 0 32 = some (.int .u64 0) := sh 0 (by omega)
 generalize x * y = z at *
 simp (disch := omega) only [rq, simprocAttr, Zz, a1, a2, a3, s1, s2, s3, s4, hm, Int.zero_mul, Int.mul_zero, Int.add_zero, Int.zero_add]
theorem Qh5 {P : Prg} {f f32 f64 : Nat} (bd : Body P f 30 [.tmp 4, .tmp 5] (ZT f32 f64)) (h64 : Qga P f64) : Qga P f := by
 intro x y hx hy
 refine Z5 rfl rfl bd ?_
 have h := h64 x y hx hy
 generalize x * y = z at *
 simp (disch := omega) only [rq, simprocAttr, ZT]
 refine Qa h ?_
 simp (disch := omega) only [rq, simprocAttr]
def rpL (v : Int) (m c : Nat) : List Int := List.replicate m v ++ List.replicate (c - m) 0
theorem QjB {v : Int} {m c : Nat} (h : m ≤ c) : (rpL v m c).length = c := by simp [rpL]; omega
def QbB (t : Nat) (P : Prg) (f : Nat) : Prop := ∀ (v : Int) (c : Nat), c ≤ 1000 → VO P f [nl [v], .int .i64 c] (.own 0 c) ⟨t, 1, c, ks .i64 (List.replicate c v), 0⟩
theorem QbK {P : Prg} {f fM t0 : Nat} (bd : Body P f 48 [.tmp 4] (QX fM t0)) (hM : Qga P fM) : QbB t0 P f := by
 intro v c hc
 refine VO.of_walk (by simp [isDL, Qg9, isD]) (Xg _ _) (by simp [okr]) (Qi bd (by simp) ?_)
 have hM' := hM 1 c (by omega) (by omega)
 rw [ja] at hM'
 have hM2 : VC P fM [.int .u64 1, .int .u64 c] (.tup [.int .u64 0, .int .u64 c]) := hM'
 have e1 : nl [v] = .list 1 [.int .i64 v] := rfl
 have er : Ql [.int .i64 0] c = ks .i64 (List.replicate c 0) := Qix .i64 c
 have hl : (ks .i64 (List.replicate c 0)).length = c := by simp [Qw]
 rw [e1]
 simp (disch := omega) only [rq, simprocAttr, QX]
 refine Qa hM2 ?_
 by_cases h0 : c = 0
 ·subst h0
  simp (disch := omega) only [rq, simprocAttr, er]
  refine Zg (ι := Nat) (fun _ => ⟨[(8, .int .i64 0), (7, .own 0 0)], [⟨t0, 1, 0, [], 0⟩]⟩) (fun _ => True) (fun _ => 0) 0 (XI (by simp [Am.look, ks])) trivial ?_
  intro _ _
  simp (disch := omega) only [rq, simprocAttr]
  exact ⟨0, rfl, rfl⟩
 ·have hmn : Nat.min 1 c = 1 := yh (by omega)
  have hst : (1 : Int) < (c : Int) ∨ c = 1 := by omega
  simp (disch := omega) only [rq, simprocAttr, er, hl, hmn]
  refine Zg (ι := Nat) (fun m => ⟨[(8, .int .i64 m), (7, .own 0 c)], [⟨t0, 1, c, ks .i64 (rpL v m c), 0⟩]⟩) (fun m => 1 ≤ m ∧ m ≤ c) (fun m => c - m) 1 ?_ (by omega) ?_
  ·have : [AV.int .i64 v] ++ (ks .i64 (List.replicate c 0)).drop 1 = ks .i64 (rpL v 1 c) := by simp [rpL, ks]
   rw [← this]
   exact QJ
  intro m hm
  obtain ⟨hm1, hm2⟩ := hm
  have hkl : (ks .i64 (rpL v m c)).length = c := by rw [Qw, QjB hm2]
  by_cases hlt : m < c
  ·obtain ⟨q, hq⟩ : ∃ q, q = Nat.min m (c - m) := ⟨_, rfl⟩
   have hq1 : q ≤ m := by rw [hq]; exact jf _ _
   have hq2 : q ≤ c - m := by rw [hq]; exact Nat.min_le_right _ _
   have hq3 : 1 ≤ q := by rw [hq]; exact Nat.le_min.2 ⟨hm1, by omega⟩
   have hmc : min m c = m := yh hm2
   have hal : ((ks .i64 (rpL v m c)).take m).all AV.one = true := by
    rw [qR]
    intro x hx
    exact qR.1 (QjL .i64 (rpL v m c)) x (qu hx)
   have e1 : (rpL v m c).take m = List.replicate m v := by unfold rpL; rw [List.take_left' (by simp)]
   have e2 : (rpL v m c).drop (m + q) = List.replicate (c - (m + q)) 0 := by
    unfold rpL
    rw [List.drop_append, List.drop_of_length_le (by simp), List.nil_append, List.drop_replicate, yy]
    congr 1
    omega
   have hcs : (ks .i64 (rpL v m c)).take m ++ (((ks .i64 (rpL v m c)).take m).take q ++ (ks .i64 (rpL v m c)).drop (m + q)) = ks .i64 (rpL v (m + q) c) := by
    have k1 : ∀ l n, (ks .i64 l).take n = ks .i64 (l.take n) := fun l n => by simp [ks, List.map_take]
    have k2 : ∀ l n, (ks .i64 l).drop n = ks .i64 (l.drop n) := fun l n => by simp [ks, List.map_drop]
    have k3 : ∀ a b, ks .i64 a ++ ks .i64 b = ks .i64 (a ++ b) := fun a b => by simp [ks]
    rw [k1, e1, k1, k2, e2, List.take_replicate, yh hq1, k3, k3, ← qH, List.replicate_append_replicate]
    rfl
   have hcs2 : (ks .i64 (rpL v m c)).take m ++ ((ks .i64 (rpL v m c)).take m).take q ++ (ks .i64 (rpL v m c)).drop (m + q) = ks .i64 (rpL v (m + q) c) := by rw [qH]; exact hcs
   simp (disch := omega) only [rq, simprocAttr, hkl, h0, Nat.sub_zero, hmc, hal, ← hq, Nat.mul_one, hcs2, hcs]
   refine ⟨m + q, ⟨by omega, by omega⟩, by omega, ?_⟩
   exact QJ
  ·obtain rfl : m = c := by omega
   have : rpL v m m = List.replicate m v := by simp [rpL]
   rw [this]
   simp (disch := omega) only [rq, simprocAttr]
   exact ⟨0, rfl, rfl⟩
def QhE (t : Nat) (P : Prg) (f : Nat) : Prop := ∀ a b : List Int, 0 < a.length + b.length → a.length + b.length ≤ 1000000 → VO P f [nl a, nl b] (.own 0 (a.length + b.length)) ⟨t, 1, a.length + b.length, ks .i64 (a ++ b), 0⟩
theorem QbM {P : Prg} {f fC t0 t1 : Nat} (bd : Body P f 9 [.tmp 4] (ZK fC t1)) (hC : QbC t0 P fC) : QhE t0 P f := by
 intro a b h0 h1
 refine VO.of_walk (by simp [isDL, Qg9]) (Xg _ _) (by simp [okr]) (Qi bd (by simp) ?_)
 have hC' := hC [a, b] (by simp) (by simpa using h0) (by simpa using h1)
 have e1 : nls [a, b] = .list 2 [nl a, nl b] := rfl
 have e2 : [a, b].flatten = a ++ b := by simp
 rw [e1, e2, qm] at hC'
 have ta := Qy .i64 a
 have tb := Qy .i64 b
 simp only [nl] at hC' ⊢
 simp (disch := omega) only [rq, simprocAttr, ZK]
 refine JD.vo_still 1 [0] hC' (by simp [ZQ, Zh, frzL, Q7, frzL_T _ ta, frzL_T _ tb]) ?_
 simp (disch := omega) only [rq, simprocAttr, Qj, shr]
 exact ⟨1, rfl, rfl⟩
def okA (r n : Int) : Prop := 1 ≤ r ∧ r ≤ 1048576 ∧ 1 ≤ n ∧ n ≤ 4000 ∧ (ZD (QG r).toNat n.toNat).length ≤ 1000
def QhG (t : Nat) (P : Prg) (f : Nat) : Prop := ∀ r n : Int, okA r n → VO P f [.int .i64 r, .int .i64 n] (.tup [.own 0 (ZD (QG r).toNat n.toNat).length, .int .i64 0]) ⟨t, 1, (ZD (QG r).toNat n.toNat).length, ks .i64 (ZD (QG r).toNat n.toNat), 0⟩
theorem QeA {P : Prg} {f fC fL fR fB t0 : Nat} (bd : Body P f 39 [.tmp 4, .tmp 5] (Xj fC fL fR fB t0)) (hC : Qag P fC) (hL : QaY P fL) (hR : QbB t0 P fR) (hB : QhE t0 P fB) : QhG t0 P f := by
 intro r n ⟨a1, a2, a3, a4, a5⟩
 refine VO.of_walk rfl (Xg _ _) (by simp [okr, flat]) (Qi bd (by simp) ?_)
 have hlong : 1 ≤ QG r := by unfold QG; split <;> omega
 obtain ⟨L, hLe⟩ : ∃ L : Nat, QG r = L := ⟨(QG r).toNat, by omega⟩
 obtain ⟨m, rfl⟩ : ∃ m : Nat, n = m := ⟨n.toNat, by omega⟩
 rw [hLe, qN, qN] at a5 ⊢
 rw [XX] at a5
 obtain ⟨q, hq⟩ : ∃ q, q = (m - 1) / L := ⟨_, rfl⟩
 have hql : (ZD L m).length = q + 1 := by rw [XX, hq]
 rw [← hq] at a5
 have hcd : ((m : Int) + (L : Int) - 1) / (L : Int) = ((q + 1 : Nat) : Int) := by
  have h1 : (m : Int) + (L : Int) - 1 = ((m - 1 + L : Nat) : Int) := by omega
  rw [h1, ← jc, Nat.add_div_right _ (by omega), ← hq]
 have hk : Qd0 r m = .tup [.int .i64 ((q + 1 : Nat) : Int), .int .i64 0] := by
  rw [Qd0, qt (by omega), qt (by omega), hLe, hcd, qt (by omega)]
 have hC' := hC r m
 rw [hk] at hC'
 have hL' := hL r
 rw [Qbi, qt (by omega), hLe] at hL'
 have hR' := hR L q (by omega)
 have hB' := hB (List.replicate q (L : Int)) [(m : Int) - ((q * L : Nat) : Int)] (by simp) (by simp; omega)
 have e1 : List.replicate q (L : Int) ++ [(m : Int) - ((q * L : Nat) : Int)] = ZD L m := by unfold ZD; rw [hq]
 rw [e1] at hB'
 have e2 : (List.replicate q (L : Int)).length + [(m : Int) - ((q * L : Nat) : Int)].length = q + 1 := by simp
 rw [e2] at hB'
 have e3 : nl [(L : Int)] = .list 1 [.int .i64 (L : Int)] := rfl
 have e4 : nl [(m : Int) - ((q * L : Nat) : Int)] = .list 1 [.int .i64 ((m : Int) - ((q * L : Nat) : Int))] := rfl
 rw [e3] at hR'
 rw [e4] at hB'
 have tr := Qy .i64 (List.replicate q (L : Int))
 have hqL : (q : Int) * (L : Int) = ((q * L : Nat) : Int) := by simp
 have hle : q * L ≤ m := by
  have := Nat.div_mul_le_self (m - 1) L
  rw [← hq] at this
  omega
 simp only [nl, yy] at hB'
 rw [hql]
 generalize ks .i64 (ZD L m) = LL at *
 generalize ks .i64 (List.replicate q (L : Int)) = RR at *
 generalize q * L = w at *
 simp only [Int.natCast_add, Int.cast_ofNat_Int] at hC'
 have hq1 : (q : Int) + 1 - 1 = (q : Int) := by omega
 simp (disch := omega) only [rq, simprocAttr, Xj]
 refine Qa hC' ?_
 simp (disch := omega) only [rq, simprocAttr]
 refine Qa hL' ?_
 simp (disch := omega) only [rq, simprocAttr, hq1]
 refine JD.vo_still 1 [0] hR' (by simp [ZQ, Zh, frzL, Q7]) ?_
 simp (disch := omega) only [rq, simprocAttr, Qj, shr, hq1, hqL]
 refine JD.vo_still 1 [1, 2] hB' (by simp [ZQ, Zh, frzL, Q7, frzL_T _ tr]) ?_
 simp (disch := omega) only [rq, simprocAttr, Qj, shr]
 exact ⟨3, rfl, rfl⟩
theorem RepL.split {X : Cx} : ∀ {cs bs : List AV} {vs : List Value}, RepL X (cs ++ bs) vs → ∃ us ws, vs = us ++ ws ∧ RepL X cs us ∧ RepL X bs ws
 | [], bs, vs, h => ⟨[], vs, rfl, by simp [RepL], h⟩
 | a :: cs, bs, vs, h => by
  simp only [qP, RepL] at h
  obtain ⟨v, rest, rfl, h1, h2⟩ := h
  obtain ⟨us, ws, rfl, h3, h4⟩ := RepL.split h2
  exact ⟨v :: us, ws, rfl, by simp only [RepL]; exact ⟨v, us, rfl, h1, h3⟩, h4⟩
def ph3 : Ob := ⟨1, 1, 0, [], 0⟩
theorem Held.fill {B : Nat} {w : World} {ob : List Ob} {be : List (Option (Nat × Nat))} {C : Nat → Nat → Prop} {o : Nat} (g : Held B ⟨w, ob, be, C⟩) (ho : ob[o]? = some ph2) :
  Held B ⟨w, ob.set o ph3, be.set o none, C⟩ ∧ Moves ⟨w, ob, be, C⟩ ⟨w, ob.set o ph3, be.set o none, C⟩ := by
 have hol : o < ob.length := (qb.1 ho).1
 have hlen : be.length = ob.length := g.len
 have hav : ∀ b k, (Cx.mk w (ob.set o ph3) (be.set o none) C).av b k → (Cx.mk w ob be C).av b k := by
  rintro b k (h | ⟨o', x, c, h1, h2, h3⟩)
  ·exact .inl h
  ·simp only [qp] at h1 h2
   by_cases e : o = o'
   ·subst e; simp [hlen, hol] at h2
   ·simp [e] at h1 h2
    exact .inr ⟨o', x, c, h1, h2, h3⟩
 have m : Moves ⟨w, ob, be, C⟩ ⟨w, ob.set o ph3, be.set o none, C⟩ := by
  refine ⟨fun b k v hc ha => ⟨hc, fun h => ha (hav b k h)⟩, fun o' x hx => ?_, fun b hb hf => ⟨rfl, fun o' c h => ?_⟩⟩
  ·by_cases e : o = o'
   ·subst e
    have hx' : ob[o]? = some x := hx
    rw [ho] at hx'; cases hx'
    exact ⟨ph3, by simp [hol], qh _, fun h => absurd rfl h⟩
   ·exact ⟨x, by simp only [qp, e, yU]; exact hx, qh _, fun h => ⟨h, fun _ => by simp only [qp, e, yU]⟩⟩
  ·simp only [qp] at h
   by_cases e : o = o'
   ·subst e; simp [hlen, hol] at h
   ·simp [e] at h; exact hf o' c h
 refine ⟨⟨by simp [hlen], fun o' x e' hx he => ?_, fun o1 o2 b c c' q1 q2 => ?_, fun o1 b c q => ?_, g.bnd, g.size⟩, m⟩
 ·simp only [qp] at hx he
  by_cases e : o = o'
  ·subst e
   simp [hlen, hol] at hx he
   subst hx; subst he
   exact ⟨rfl, rfl⟩
  ·simp [e] at hx he
   exact (g.ok o' x e' hx he).move m fun _ _ _ => rfl
 ·simp only [qp] at q1 q2
  by_cases e : o = o1
  ·subst e; simp [hlen, hol] at q1
  ·by_cases e2 : o = o2
   ·subst e2; simp [hlen, hol] at q2
   ·simp [e] at q1; simp [e2] at q2
    exact g.inj o1 o2 b c c' q1 q2
 ·simp only [qp] at q
  by_cases e : o = o1
  ·subst e; simp [hlen, hol] at q
  ·simp [e] at q; exact g.base o1 b c q
theorem ACall.fill {P : Prg} {f : FuncId} {avs : List AV} {r : AV} {ob : List Ob} {o : Nat} (ho : ob[o]? = some ph2) (h : ACall P f avs ob (fun r' ob' => r' = r ∧ ob' = ob)) : ACall P f avs ob (fun r' ob' => r' = r ∧ ob' = ob.set o ph3) := by
 obtain ⟨hE, h⟩ := h
 refine ⟨hE, fun B w be C vs g hG hr => (h B w be C vs g hG hr).mono ?_⟩
 rintro e w' ⟨v, r', ob', be', rfl, hb, hh, hm, hv, rfl, rfl⟩
 obtain ⟨g1, m1⟩ := hh.fill ho
 exact ⟨v, r', _, _, rfl, hb, g1, hm.trans m1, Rep.move m1 _ _ hv, rfl, rfl⟩
theorem Xh.own {P : Prg} {B : Nat} {Q : Exit → St → Prop} {f : FuncId} {avs : List AV} {r : AV} {ob : List Ob} (o : Nat) (he : Enters P f) (h : ∀ ob', ob'[o]? = some ph2 → ACall P f avs ob' (fun r' ob'' => r' = r ∧ ob'' = ob')) (ho : ob[o]? = some ph2)
  {xs : List It} {fr : List (Nat × AV)} {dst : Option Nat} (hK : Xs P B xs Q ⟨Q3 fr dst r, ob.set o ph3⟩) : Xh P B false 0 f avs xs Q fr ob dst := by
 refine Xh.at (r := r) o ph3 he (fun ob' h' => ACall.fill h' (h ob' h')) ho (by decide) ?_
 simp only [app, qF (qb.1 ho).1]
 exact hK
theorem callE.vo {P : Prg} {B k : Nat} {Q : Exit → St → Prop} {f : FuncId} {ds : List AV} {r : AV} {x : Ob} (h : VO P f ds r x) {ob : List Ob} (o : Nat) (ho : ob[o]? = some ph2) {xs : List It} {fr : List (Nat × AV)} {dst : Option Nat} (hK : Xs P B xs Q ⟨Q3 fr dst (shr o r), ob.set o x⟩) : Xh P B true k f ds xs Q fr ob dst := by
 have hl : o < ob.length := (qb.1 ho).1
 have ha : app ob (some (o, x)) = ob.set o x := by simp [app, hl]
 refine ⟨shr o r, some (o, x), ?_, by rw [ha]; exact hK⟩
 unfold Z7
 rw [qF rfl]
 refine ⟨ACall.of_vo_at h ho ⟨rfl, by rw [ha]⟩, fun o' y e => ?_⟩
 cases e
 exact ⟨ph2, ho, by simp [ph2, ph]⟩
def Qea : Int → List Int → Prop
 | _, [] => True
 | m, n :: l => 5 ≤ n ∧ n ≤ m ∧ Qea (m - n) l
instance decSk : ∀ (m : Int) (l : List Int), Decidable (Qea m l)
 | _, [] => isTrue trivial
 | m, n :: l => by
  unfold Qea
  have := decSk (m - n) l
  exact inferInstance
def skN (l : List Int) : Int := if l.length = 0 ∨ 1000 < l.length then 8 else if Qea 100000 l then 0 else 8
def skL (m : Int) (l : List Int) : Nat → Int
 | 0 => m
 | k + 1 => skL m l k - l.getD k 0
theorem QhV (l : List Int) : ∀ (m : Int) , Qea m l ↔ ∀ k, k < l.length → 5 ≤ l.getD k 0 ∧ l.getD k 0 ≤ skL m l k := by
 induction l with
 | nil => intro m; simp [Qea]
 | cons n l ih =>
  intro m
  have e : ∀ k, skL m (n :: l) (k + 1) = skL (m - n) l k := fun k => by
   induction k with
   | zero => simp [skL]
   | succ k ih2 =>
    show skL m (n :: l) (k + 1) - (n :: l).getD (k + 1) 0 = skL (m - n) l k - l.getD k 0
    rw [ih2]; rfl
  rw [Qea, ih]
  constructor
  ·rintro ⟨h1, h2, h3⟩ k hk
   match k with
   | 0 => exact ⟨h1, h2⟩
   | k + 1 =>
    rw [e]
    exact h3 k (by simpa using hk)
  ·intro h
   refine ⟨(h 0 (by simp)).1, (h 0 (by simp)).2, fun k hk => ?_⟩
   have := h (k + 1) (by simpa using hk)
   rw [e] at this
   exact this
def Xq (P : Prg) (f : Nat) : Prop := ∀ l : List Int, l.length ≤ 1000000 → (∀ v ∈ l, -9223372036854775808 ≤ v ∧ v ≤ 9223372036854775807) → VC P f [QD l] (.int .i64 (skN l))
theorem Qej {P : Prg} {f : Nat} (bd : Body P f 31 [.tmp 2] Zl) : Xq P f := by
 intro l hl hv
 refine Z5 (by simp [isDL, ZM]) rfl bd ?_
 by_cases h1 : l.length = 0 ∨ 1000 < l.length
 ·have e8 : skN l = 8 := by rw [skN, qF h1]
  rw [e8]
  rcases h1 with h1 | h1
  ·simp (disch := omega) only [rq, simprocAttr, Zl, QD]
  ·by_cases h0 : l.length = 0
   ·omega
   ·simp (disch := omega) only [rq, simprocAttr, Zl, QD]
 have e8 : skN l = if Qea 100000 l then 0 else 8 := by rw [skN, qt h1]
 rw [e8]
 clear e8
 have hiff := QhV l 100000
 have kl : (ks .i64 l).length = l.length := Qw _ _
 have h0 : ¬ l.length = 0 := by omega
 simp (disch := omega) only [rq, simprocAttr, Zl, QD]
 refine Zg (ι := Nat) (fun k => ⟨[(16, .int .i64 k), (15, .int .i64 l.length), (14, .list l.length (ks .i64 l)), (3, .int .i64 (skL 100000 l k))], []⟩) (fun k => k ≤ l.length ∧ (∀ j, j < k → 5 ≤ l.getD j 0 ∧ l.getD j 0 ≤ skL 100000 l j) ∧ 0 ≤ skL 100000 l k ∧ skL 100000 l k ≤ 100000) (fun k => l.length - k) 0 (XI (by simp [Am.look, skL])) ⟨by omega, by omega, by simp [skL], by simp [skL]⟩ ?_
 rintro k ⟨hk, ha, hb, hc⟩
 by_cases hlt : k < l.length
 ·have e1 : (ks .i64 l).drop k = .int .i64 (l.getD k 0) :: (ks .i64 l).drop (k + 1) := by
   have h := Qg4 (K := .i64) (l := l) (i := k) hlt
   rw [← JB] at h
   exact h
  have hr := hv (l.getD k 0) (by rw [qg, qc hlt]; exact q8 _)
  have hs : skL 100000 l (k + 1) = skL 100000 l k - l.getD k 0 := rfl
  by_cases g1 : l.getD k 0 < 5
  ·have hn : ¬ Qea 100000 l := fun h => by have := (hiff.1 h k hlt).1; omega
   rw [qt hn]
   generalize l.getD k 0 = v at *
   simp (disch := omega) only [rq, simprocAttr, e1, kl]
  ·by_cases g2 : skL 100000 l k < l.getD k 0
   ·have hn : ¬ Qea 100000 l := fun h => by have := (hiff.1 h k hlt).2; omega
    rw [qt hn]
    generalize l.getD k 0 = v at *
    simp (disch := omega) only [rq, simprocAttr, e1, kl]
   ·have ha' : ∀ j, j < k + 1 → 5 ≤ l.getD j 0 ∧ l.getD j 0 ≤ skL 100000 l j := fun j hj => by
     by_cases e : j = k
     ·subst e; omega
     ·exact ha j (by omega)
    generalize l.getD k 0 = v at *
    generalize skL 100000 l k = m at *
    simp (disch := omega) only [rq, simprocAttr, e1, kl]
    refine ⟨k + 1, ⟨by omega, ha', by omega, by omega⟩, by omega, ?_⟩
    simp only [hs]
    exact QJ
 ·have ek : k = l.length := by omega
  subst ek
  rw [qF (hiff.2 ha)]
  simp (disch := omega) only [rq, simprocAttr]
def hdA (f c b r n : Int) : AV := .agg [.int .i64 f, .int .i64 c, .int .i64 b, .int .i64 r, .int .i64 n]
def shP (f c b r n : Int) : Prop := (b = 8 ∨ b = 16 ∨ b = 24) ∧ (f = 1 ∨ f = 2) ∧ 1 ≤ c ∧ c ≤ 6 ∧ 1 ≤ r ∧ r ≤ 1048576 ∧ 1 ≤ n
instance decShP (f c b r n : Int) : Decidable (shP f c b r n) := by unfold shP; exact inferInstance
def Je (P : Prg) (g : Nat) : Prop := ∀ f c b r n : Int, VC P g [hdA f c b r n] (.bool (decide (shP f c b r n)))
theorem QcI {P : Prg} {g t0 : Nat} (bd : Body P g 44 [.tmp 2] (Qr t0)) : Je P g := by
 intro f c b r n
 refine Z5 rfl rfl bd ?_
 by_cases hb : b = 8 ∨ b = 16 ∨ b = 24
 case neg =>
  have hn : decide (shP f c b r n) = false := decide_eq_false fun h => hb h.1
  rw [hn]
  simp (disch := omega) only [rq, simprocAttr, Qr, hdA]
 by_cases hf : f = 1 ∨ f = 2
 case neg =>
  have hn : decide (shP f c b r n) = false := decide_eq_false fun h => hf h.2.1
  rw [hn]
  rcases hb with rfl | rfl | rfl <;> simp (disch := omega) only [rq, simprocAttr, Qr, hdA]
 by_cases hc1 : 1 ≤ c
 case neg =>
  have hn : decide (shP f c b r n) = false := decide_eq_false fun h => hc1 h.2.2.1
  rw [hn]
  rcases hb with rfl | rfl | rfl <;> rcases hf with rfl | rfl <;> simp (disch := omega) only [rq, simprocAttr, Qr, hdA]
 by_cases hc2 : c ≤ 6
 case neg =>
  have hn : decide (shP f c b r n) = false := decide_eq_false fun h => hc2 h.2.2.2.1
  rw [hn]
  rcases hb with rfl | rfl | rfl <;> rcases hf with rfl | rfl <;> simp (disch := omega) only [rq, simprocAttr, Qr, hdA]
 by_cases hr1 : 1 ≤ r
 case neg =>
  have hn : decide (shP f c b r n) = false := decide_eq_false fun h => hr1 h.2.2.2.2.1
  rw [hn]
  rcases hb with rfl | rfl | rfl <;> rcases hf with rfl | rfl <;> simp (disch := omega) only [rq, simprocAttr, Qr, hdA]
 by_cases hr2 : r ≤ 1048576
 case neg =>
  have hn : decide (shP f c b r n) = false := decide_eq_false fun h => hr2 h.2.2.2.2.2.1
  rw [hn]
  rcases hb with rfl | rfl | rfl <;> rcases hf with rfl | rfl <;> simp (disch := omega) only [rq, simprocAttr, Qr, hdA]
 by_cases hn1 : 1 ≤ n
 case neg =>
  have hn : decide (shP f c b r n) = false := decide_eq_false fun h => hn1 h.2.2.2.2.2.2
  rw [hn]
  rcases hb with rfl | rfl | rfl <;> rcases hf with rfl | rfl <;> simp (disch := omega) only [rq, simprocAttr, Qr, hdA]
 have hn : decide (shP f c b r n) = true := decide_eq_true ⟨hb, hf, hc1, hc2, hr1, hr2, hn1⟩
 rw [hn]
 rcases hb with rfl | rfl | rfl <;> rcases hf with rfl | rfl <;> simp (disch := omega) only [rq, simprocAttr, Qr, hdA]
def Qfh (c r n : Int) : Prop := n ≤ 4000 / c ∧ QhK r n = 0
instance decFitP (c r n : Int) : Decidable (Qfh c r n) := by unfold Qfh; exact inferInstance
theorem Qhp {r n : Int} (h : QhK r n = 0) : ∃ k : Int, Qd0 r n = .tup [.int .i64 k, .int .i64 0] ∧ 0 ≤ k ∧ k ≤ 1000 := by
 unfold QhK at h
 unfold Qd0
 split at h
 ·cases h
 rename_i a1
 split at h
 ·cases h
 rename_i a2
 split at h
 ·cases h
 rename_i a3
 rw [qt a1, qt a2, qt a3]
 have := XU r
 exact ⟨_, rfl, je (by omega) (by omega), by omega⟩
def QhC (P : Prg) (g : Nat) : Prop := ∀ f c b r n : Int, 1 ≤ c → c ≤ 6 → VC P g [hdA f c b r n] (.bool (decide (Qfh c r n)))
theorem QeE {P : Prg} {g fC t0 : Nat} (bd : Body P g 25 [.tmp 2] (Zm fC t0)) (hC : Qag P fC) : QhC P g := by
 intro f c b r n c1 c2
 refine Z5 rfl rfl bd ?_
 have hC' := hC r n
 have q0 : ¬ c = 0 := by omega
 have q1 : (4000 : Int).tdiv c = 4000 / c := yf (by omega)
 have q2 : 0 ≤ 4000 / c := je (by omega) (by omega)
 have q3 : 4000 / c ≤ 4000 := yW _ (by omega)
 by_cases h1 : n ≤ 4000 / c
 case neg =>
  have hn : decide (Qfh c r n) = false := decide_eq_false fun h => h1 h.1
  rw [hn]
  generalize hQ : 4000 / c = Q at *
  have hw : IntKind.i64.wrap Q = Q := X3 (by omega) (by omega)
  simp (disch := omega) only [rq, simprocAttr, Zm, hdA, q1, hQ, hw]
 by_cases h2 : QhK r n = 0
 ·have hn : decide (Qfh c r n) = true := decide_eq_true ⟨h1, h2⟩
  rw [hn]
  obtain ⟨k, e, k1, k2⟩ := Qhp h2
  rw [e] at hC'
  generalize hQ : 4000 / c = Q at *
  have hw : IntKind.i64.wrap Q = Q := X3 (by omega) (by omega)
  simp (disch := omega) only [rq, simprocAttr, Zm, hdA, q1, hQ, hw]
  refine Qa hC' ?_
  simp (disch := omega) only [rq, simprocAttr]
 ·have hn : decide (Qfh c r n) = false := decide_eq_false fun h => h2 h.2
  rw [hn]
  obtain ⟨k, e⟩ := Qim r n
  rw [e] at hC'
  generalize hQ : 4000 / c = Q at *
  have hw : IntKind.i64.wrap Q = Q := X3 (by omega) (by omega)
  generalize QhK r n = E at *
  simp (disch := omega) only [rq, simprocAttr, Zm, hdA, q1, hQ, hw]
  refine Qa hC' ?_
  simp (disch := omega) only [rq, simprocAttr]
def hdN (f c b r n : Int) : Int := if shP f c b r n ∧ Qfh c r n then 0 else 8
def Xr (P : Prg) (g : Nat) : Prop := ∀ f c b r n : Int, VC P g [hdA f c b r n] (.int .i64 (hdN f c b r n))
theorem QdP {P : Prg} {g fS fF t0 : Nat} (bd : Body P g 11 [.tmp 2] (Zc fS fF t0)) (hS : Je P fS) (hF : QhC P fF) : Xr P g := by
 intro f c b r n
 refine Z5 rfl rfl bd ?_
 have hS' := hS f c b r n
 by_cases h1 : shP f c b r n
 case neg =>
  have e : hdN f c b r n = 8 := by rw [hdN, qt fun h => h1 h.1]
  rw [decide_eq_false h1] at hS'
  rw [e]
  rw [hdA] at hS' ⊢
  simp (disch := omega) only [rq, simprocAttr, Zc]
  refine Qa hS' ?_
  simp (disch := omega) only [rq, simprocAttr]
 have hF' := hF f c b r n h1.2.2.1 h1.2.2.2.1
 rw [decide_eq_true h1] at hS'
 by_cases h2 : Qfh c r n
 ·have e : hdN f c b r n = 0 := by rw [hdN, qF ⟨h1, h2⟩]
  rw [decide_eq_true h2] at hF'
  rw [e]
  rw [hdA] at hS' hF' ⊢
  simp (disch := omega) only [rq, simprocAttr, Zc]
  iterate 2 (refine Qa (by assumption) ?_; simp (disch := omega) only [rq, simprocAttr])
 ·have e : hdN f c b r n = 8 := by rw [hdN, qt fun h => h2 h.2]
  rw [decide_eq_false h2] at hF'
  rw [e]
  rw [hdA] at hS' hF' ⊢
  simp (disch := omega) only [rq, simprocAttr, Zc]
  iterate 2 (refine Qa (by assumption) ?_; simp (disch := omega) only [rq, simprocAttr])
def hdP (f c b r n : Nat) : Nat → List UInt8
 | 0 => [84, 84, 65, 49]
 | 1 => [84, 84, 65, 49] ++ leB f 2
 | 2 => [84, 84, 65, 49] ++ leB f 2 ++ leB c 2
 | 3 => [84, 84, 65, 49] ++ leB f 2 ++ leB c 2 ++ leB b 2
 | 4 => [84, 84, 65, 49] ++ leB f 2 ++ leB c 2 ++ leB b 2 ++ leB r 4
 | _ => [84, 84, 65, 49] ++ leB f 2 ++ leB c 2 ++ leB b 2 ++ leB r 4 ++ leB n 4
def hdB (f c b r n : Nat) : List UInt8 := Qkm (hdP f c b r n 5)
theorem Qhb (f c b r n : Int) : hdN f c b r n = 0 ∨ hdN f c b r n = 8 := by unfold hdN; split <;> simp
def Qc4 (P : Prg) (f : Nat) : Prop := ∀ r : Int, 1 ≤ r → r ≤ 1048576 → VC P f [.int .i64 r] (.int .i64 (QG r))
theorem QfN {P : Prg} {f : Nat} (bd : Body P f 7 [.tmp 2] QV) : Qc4 P f := by
 intro r h1 h2
 refine Z5 rfl rfl bd ?_
 have h3 : (256 * r).tdiv 245 = 256 * r / 245 := yf (by omega)
 have hX : 1 ≤ 256 * r / 245 := by omega
 have hl : QG r = 256 * r / 245 := by unfold QG; rw [qt (by omega)]
 rw [hl]
 by_cases hx : 1 < 256 * r / 245
 ·simp (disch := omega) only [rq, simprocAttr, QV, h3]
 ·have hy : 256 * r / 245 = 1 := by omega
  rw [hy] at h3 hl ⊢
  simp (disch := omega) only [rq, simprocAttr, QV, h3, hy]
def Qkp (r : Int) (m : Nat) : Prop := 1 ≤ r ∧ r ≤ 1048576 ∧ 1 ≤ m ∧ m ≤ 4000
def Qaf (P : Prg) (f : Nat) : Prop := ∀ (r : Int) (m : Nat), Qkp r m → VC P f [.int .i64 r, .int .i64 m] (QD (ZD (QG r).toNat m))
theorem Qeu {P : Prg} {f fL t0 : Nat} (bd : Body P f 22 [.tmp 4] (Zd fL t0)) (hL : Qc4 P fL) : Qaf P f := by
 intro r m ⟨o1, o2, o3, o4⟩
 refine QZ 1 rfl (ZM _) (Qi bd (by simp) ?_)
 have hL' := hL r o1 o2
 have p1 := XU r
 have p2 := Qfd (r := r) o2
 generalize QG r = Li at *
 obtain ⟨L, rfl⟩ : ∃ L : Nat, Li = L := ⟨Li.toNat, by omega⟩
 rw [qN]
 have g1 : (m - 1) / L * L ≤ m - 1 := Nat.div_mul_le_self _ _
 have g2 : m - 1 < ((m - 1) / L + 1) * L := by
  have := Nat.lt_div_mul_add (a := m - 1) (b := L) (by omega)
  rw [yk, ja]; omega
 rw [yk, ja] at g2
 have g3 : (m - 1) / L ≤ m - 1 := Nat.div_le_self _ _
 have ll := XX L m
 have lf : ZD L m = List.replicate ((m - 1) / L) (L : Int) ++ [(m : Int) - ((m - 1) / L * L : Nat)] := rfl
 have tl := Qy .i64 (ZD L m)
 rw [QD, ll]
 generalize hq : (m - 1) / L = q at *
 simp (disch := omega) only [rq, simprocAttr, Zd]
 refine Zg (ι := Option Nat) (fun i => match i with
   | some k => ⟨[(6, .int .i64 ((m : Int) - (k * L : Nat))), (5, .own 0 k), (0, .int .i64 r)], [⟨t0, 1, k, ks .i64 (List.replicate k (L : Int)), 0⟩]⟩
   | none => ⟨[(6, .int .i64 ((m : Int) - (q * L + L : Nat))), (5, .own 0 (q + 1)), (0, .int .i64 r)], [⟨t0, 1, q + 1, ks .i64 (ZD L m), 0⟩]⟩)
  (fun i => match i with | some k => k ≤ q | none => True) (fun i => match i with | some k => q - k + 1 | none => 0) (some 0)
  (by simp only [Nat.zero_mul]; exact Le.trans (QeW 5 t0 1 (by omega) rfl) (QJ)) (by simp) ?_
 intro i hi
 cases i with
 | some k =>
  simp only at hi
  dsimp only
  have g4 : k * L ≤ q * L := qK L hi
  have lr : (List.replicate k (L : Int)).length = k := by simp
  have lk : (ks .i64 (List.replicate k (L : Int))).length = k := by rw [Qw, lr]
  by_cases hk : k < q
  ·have g5 : (k + 1) * L ≤ q * L := qK L (by omega)
   rw [yk, ja] at g5
   have hmn : (k + 1) * L = k * L + L := by rw [yk, ja]
   generalize k * L = kL at *
   generalize q * L = qL at *
   simp (disch := omega) only [rq, simprocAttr]
   refine Qa hL' ?_
   simp (disch := omega) only [rq, simprocAttr, QiX, Qh0, lr]
   refine Qa hL' ?_
   simp (disch := omega) only [rq, simprocAttr]
   have ef : (m : Int) - (kL : Int) - (L : Int) = (m : Int) - ((kL + L : Nat) : Int) := by omega
   rw [ef, ← hmn]
   exact ⟨some (k + 1), by simp only; omega, by simp only; omega, ZZ [_] (by simp [Qy]) (by simp [Am.look, Zh, frzL, Q7])⟩
  ·obtain rfl : k = q := by omega
   have hcat : ks .i64 (List.replicate k (L : Int)) ++ [.int .i64 ((m : Int) - (k * L : Nat))] = ks .i64 (ZD L m) := by rw [lf]; simp [ks]
   generalize k * L = kL at *
   simp (disch := omega) only [rq, simprocAttr]
   refine Qa hL' ?_
   simp (disch := omega) only [rq, simprocAttr, lk, hcat]
   refine Qa hL' ?_
   simp (disch := omega) only [rq, simprocAttr]
   have ef : (m : Int) - (kL : Int) - (L : Int) = (m : Int) - ((kL : Int) + (L : Int)) := by omega
   rw [ef]
   exact ⟨none, trivial, by simp only; omega, ZZ [_] (by simp [Qy]) (by simp [Am.look, Zh, frzL, Q7])⟩
 | none =>
  dsimp only
  simp (disch := omega) only [rq, simprocAttr]
  simp [ZQ, Zh, frzL, Q7, frzL_T _ tl]
def Qi8 (f c b r n : Int) : AV := if hdN f c b r n = 0 then .tup [QD (ZD (QG r).toNat n.toNat), .int .i64 0] else .tup [.list 0 [], .int .i64 8]
theorem Qi5 (f c b r n : Int) : isD (Qi8 f c b r n) = true := by unfold Qi8; split <;> simp [isD, isDL, ZM]
theorem QiF {f c b r n : Int} (h : hdN f c b r n = 0) : ∃ m : Nat, n = m ∧ okA r m := by
 unfold hdN at h
 split at h
 case isFalse => cases h
 rename_i h1
 obtain ⟨⟨a1, a2, a3, a4, a5, a6, a7⟩, b1, b2⟩ := h1
 have q3 : 4000 / c ≤ 4000 := yW _ (by omega)
 obtain ⟨m, rfl⟩ : ∃ m : Nat, n = m := ⟨n.toNat, by omega⟩
 refine ⟨m, rfl, by omega, by omega, by omega, by omega, ?_⟩
 unfold QhK at b2
 rw [qt (by omega), qt (by omega)] at b2
 split at b2
 ·cases b2
 rename_i b3
 have hlong : 1 ≤ QG r := XU r
 obtain ⟨L, hLe⟩ : ∃ L : Nat, QG r = L := ⟨(QG r).toNat, by omega⟩
 rw [hLe, qN, qN, XX]
 rw [hLe] at b3
 have h1 : (m : Int) + (L : Int) - 1 = ((m - 1 + L : Nat) : Int) := by omega
 rw [h1, ← jc, Nat.add_div_right _ (by omega)] at b3
 omega
def Qax (P : Prg) (g : Nat) : Prop := ∀ f c b r n : Int, VC P g [hdA f c b r n] (Qi8 f c b r n)
theorem QcJ {P : Prg} {g fC fL t0 ti : Nat} (bd : Body P g 17 [.tmp 2, .tmp 3] (Zp fC fL t0)) (hC : Xr P fC) (hL : QhG ti P fL) : Qax P g := by
 intro f c b r n
 refine QZ 1 rfl (Qi5 _ _ _ _ _) (Qi bd (by simp) ?_)
 have hC' := hC f c b r n
 rw [hdA] at hC' ⊢
 rcases Qhb f c b r n with h | h
 ·rw [h] at hC'
  rw [Qi8, qF h]
  obtain ⟨m, rfl, hok⟩ := QiF h
  have hL' := hL r m hok
  have tl := Qy .i64 (ZD (QG r).toNat m)
  rw [qN] at hL' ⊢
  rw [QD]
  generalize ZD (QG r).toNat m = LL at *
  simp (disch := omega) only [rq, simprocAttr, Zp]
  refine Qa hC' ?_
  simp (disch := omega) only [rq, simprocAttr]
  refine JD.vo hL' ?_
  simp (disch := omega) only [rq, simprocAttr, shr]
  simp [ZQ, Zh, frzL, Q7, frzL_T _ tl]
 ·rw [h] at hC'
  rw [Qi8, qt (by omega)]
  simp (disch := omega) only [rq, simprocAttr, Zp]
  refine Qa hC' ?_
  simp (disch := omega) only [rq, simprocAttr]
  simp [ZQ, Zh, frzL, Q7]
def QhA (P : Prg) (f : Nat) : Prop := ∀ s t : List UInt8, s.length ≤ 1000000 → t.length ≤ 1000000 → VC P f [.str s, .str t] (.bool (s.take t.length == t))
theorem Qds {P : Prg} {f : Nat} (bd : Body P f 18 [.tmp 4] Qp) : QhA P f := by
 intro s t hs ht
 refine Z5 rfl rfl bd ?_
 by_cases h : t.length ≤ s.length
 ·have hs1 : QbJ .eql (s.take t.length) t = some (.bool (s.take t.length == t)) := rfl
  simp (disch := omega) only [rq, simprocAttr, Qp, hs1]
 ·have : (s.take t.length == t) = false := yH.2 fun e => by
   have := congrArg List.length e
   rw [yd] at this
   omega
  rw [this]
  simp (disch := omega) only [rq, simprocAttr, Qp]
def pcs (c : UInt8) : List UInt8 → List (List UInt8)
 | [] => [[]]
 | b :: l => if b = c then [] :: pcs c l else match pcs c l with | [] => [[b]] | p :: r => (b :: p) :: r
theorem QdB (c : UInt8) : ∀ s, pcs c s ≠ []
 | [] => by simp [pcs]
 | b :: l => by unfold pcs; split <;> (try split) <;> simp
theorem Qha (b c : UInt8) (l : List UInt8) : Lib.index (b :: l) [c] = if b = c then 0 else if Lib.index l [c] = -1 then -1 else Lib.index l [c] + 1 := by
 show (if [c].isPrefixOf (b :: l) then 0 else if Lib.index l [c] == -1 then -1 else Lib.index l [c] + 1) = _
 have e : [c].isPrefixOf (b :: l) = decide (b = c) := by
  simp only [List.isPrefixOf, Bool.and_true]
  by_cases h : b = c
  ·simp [h]
  ·simp [h]
   exact fun h' => h h'.symm
 rw [e]
 by_cases h : b = c <;> simp [h]
theorem XS (c : UInt8) : ∀ s, (Lib.index s [c] = -1 ∧ pcs c s = [s]) ∨ ∃ i : Nat, Lib.index s [c] = i ∧ i < s.length ∧ pcs c s = s.take i :: pcs c (s.drop (i + 1))
 | [] => .inl ⟨rfl, rfl⟩
 | b :: l => by
  rw [Qha]
  by_cases h : b = c
  ·refine .inr ⟨0, by simp [h], by simp, ?_⟩
   simp [pcs, h]
  ·rw [qt h]
   rcases XS c l with ⟨h1, h2⟩ | ⟨i, h1, h2, h3⟩
   ·refine .inl ⟨by rw [qF h1], ?_⟩
    rw [pcs, qt h, h2]
   ·refine .inr ⟨i + 1, by rw [h1, qt (by omega)]; omega, by simp; omega, ?_⟩
    rw [pcs, qt h, h3]
    simp
def QbA (c : UInt8) (ty : Nat) (P : Prg) (f : Nat) : Prop := Qjs P f ty [c] (pcs c)
section
variable {br cap ty : Nat}
def ΓS (br cap ty : Nat) (W : World) (r : List UInt8) (N : Nat) : Ctx := ⟨0, ⟨W, [bx ty r], [some (br, cap)], fun _ _ => False⟩, N, []⟩
theorem Qkk {N : Nat} {fr : List (Nat × AV)} {a : Act} {W : World} {r : List UInt8} (hb : ZG W br cap ty r) (hd : a.defers = []) (hz : a.tmps.size = N) (h : ∀ i, Rep ⟨W, [bx ty r], [some (br, cap)], fun _ _ => False⟩ (look fr i) (a.tmps.getD i undef)) : Sim (ΓS br cap ty W r N) ⟨fr, [bx ty r]⟩ a W := by
 refine ⟨hd, hz, Below.refl _ _, [some (br, cap)], ⟨rfl, fun o x e hx he => ?_, fun o o' b c c' h1 h2 => ?_, fun _ _ _ _ => yi _, fun _ _ h => h.elim, yi _⟩, Moves.refl _, h⟩
 ·rcases o with _ | o
  ·simp only [ΓS, yF, qd] at hx he
   subst hx he
   obtain ⟨cur, q1, q2, q3, q4, q5, q6⟩ := hb
   refine ⟨cur, ⟨(0, 0), q1, .inl rfl⟩, by simp [bx, q2], q3, q4, rfl, ?_, q6⟩
   simp only [bx, qn, qT]
   rw [q5]
   simp only [RepL, Rep]
   exact ⟨_, _, rfl, rfl, rfl⟩
  ·simp [ΓS] at hx
 ·rcases o with _ | o <;> rcases o' with _ | o'
  ·rfl
  all_goals simp [ΓS] at h1 h2
theorem JY {N : Nat} {fr : List (Nat × AV)} {a : Act} {W W' : World} {r r' : List UInt8} (hb : ZG W br cap ty r) (h : Sim (ΓS br cap ty W r N) ⟨fr, [bx ty r']⟩ a W') :
  QiJ br cap ty W W' ∧ ZG W' br cap ty r' ∧ (∀ (b k : Nat) (v : Value), b ≠ br → W.cell? ⟨b, k, none⟩ = some v → W'.cell? ⟨b, k, none⟩ = some v) := by
 obtain ⟨_, _, bel, be, g, m, _⟩ := h
 have hbe : be[0]? = some (some (br, cap)) := by
  obtain ⟨y, hy, _, hyp⟩ := m.ob 0 (bx ty r) rfl
  have hy' : [bx ty r'][0]? = some y := hy
  simp only [yF, qd] at hy'
  subst hy'
  exact (hyp (by simp [bx])).2 rfl
 have hbox : ZG W' br cap ty r' := Held.boxAt g rfl hbe
 have hblk : ∀ k, k < W.heap.size → k ≠ br → W'.heap[k]? = W.heap[k]? := fun k hk hne => (m.blk k hk fun o c he => by
  rcases o with _ | o
  ·simp only [ΓS, yF, qd, yZ] at he
   exact hne he.1.symm
  ·simp [ΓS] at he).1
 refine ⟨⟨some br, ⟨bel.os, bel.tape, bel.output, bel.size, fun k hk hne => hblk k hk fun e => hne (by rw [e])⟩, fun q e => by cases e; exact ⟨rfl, ⟨r, hb⟩, ⟨r', hbox⟩⟩⟩, hbox, fun b k v hne hc => ?_⟩
 rw [World.cell?_of_block (w := W) (hblk b (World.block_lt_of_cell? W _ hc) hne)]
 exact hc
end
noncomputable def Qkz (br cap ty : Nat) (W : World) : Nat := by
 classical exact if h : ∃ r, ZG W br cap ty r then (Classical.choose h).length else 0
theorem Qhw {br cap ty : Nat} {W : World} {r : List UInt8} (h : ZG W br cap ty r) : Qkz br cap ty W = r.length := by
 unfold Qkz
 have h' : ∃ r, ZG W br cap ty r := ⟨r, h⟩
 rw [dif_pos h', (Classical.choose_spec h').uniq h]
set_option maxHeartbeats 1000000 in
theorem Qai {P : Prg} {f fD fX : Nat} {c : UInt8} {ty : Nat} (bd : Body P f 52 [] (QO fD fX)) (hX : S_StrIndex P fX) : QbA c ty P f := by
 intro s w C v1 v3 br cap hsl hv1 hv3 hbx hCbr hex hG ll J Jx W hW hJ hJx hY hJ0
 obtain ⟨cnt, hcnt⟩ : ∃ cnt, (pcs c s).length = cnt := ⟨_, rfl⟩
 have hbr0 : br < w.heap.size := hbx.lt
 have hne : ∀ {b k : Nat}, ¬ C b k → b ≠ br := fun h e => h (e ▸ hCbr _)
 obtain ⟨KC, hKC⟩ : ∃ KC : World → Prop, ∀ W', KC W' = ∀ (b k : Nat) (v : Value), ¬ C b k → w.cell? ⟨b, k, none⟩ = some v → W'.cell? ⟨b, k, none⟩ = some v := ⟨_, fun _ => rfl⟩
 have hkw : KC W := by rw [hKC]; exact fun b k v _ hc => (hW.cell (p := ⟨b, k, none⟩) (World.block_lt_of_cell? w _ hc)).trans hc
 have hKs : ∀ {A B : World}, KC A → (∀ (b k : Nat) (v : Value), b ≠ br → A.cell? ⟨b, k, none⟩ = some v → B.cell? ⟨b, k, none⟩ = some v) → KC B := fun {A B} h1 h2 => by
  rw [hKC] at h1 ⊢
  exact fun b k v hc hv => h2 b k v (hne hc) (h1 b k v hc hv)
 have hun : ∀ {W' : World} {r : List UInt8}, KC W' → ∀ (c : AV) (v : Value), isD c = true → Rep ⟨w, [], [], C⟩ c v → Rep ⟨W', [bx ty r], [some (br, cap)], fun _ _ => False⟩ c v := fun {W' r} h c v hd hr =>
  Rep.data (X := ⟨w, [], [], C⟩) (Y := ⟨W', [bx ty r], [some (br, cap)], fun _ _ => False⟩) (fun b k v hc ha => ⟨by rw [hKC] at h; exact h b k v (fun h => ha (.inl h)) hc, fun h => by
   rcases h with h | ⟨o, x, c, h1, h2, _⟩
   ·exact h.elim
   ·rcases o with _ | o
    ·simp only [yF, qd, yZ] at h2
     exact hne (fun h => ha (.inl h)) h2.1.symm
    ·simp at h2⟩) c v hd hr
 obtain ⟨fn, hf, hnm, hN, hrl, hc'⟩ := bd
 obtain ⟨cc, hb, hc⟩ := qe.1 hc'
 refine callsIn_of_wp hf hb trivial ?_ rfl
 rw [hN]
 unfold QO at hc
 obtain ⟨c1, r1, rfl, hc1, hr1⟩ := Zk hc
 obtain ⟨d0, dA, rfl, hd0, hdA⟩ := Zk hc1
 obtain ⟨y1, y2, rfl, hy1, hy2⟩ := Qau hdA
 obtain rfl := Qat hy2
 obtain ⟨c2, d9, rfl, hc2, hd9⟩ := Zk hr1
 obtain ⟨c3, rfl, hc3⟩ := Qbr hc2
 obtain ⟨c4, rfl, hc4⟩ := Qf6 hc3
 obtain ⟨c5, rfl, hc5⟩ := Qbr hc4
 obtain ⟨d1, s1, rfl, hd1, hs1⟩ := Zk hc5
 obtain ⟨s2, s3, rfl, hs2, hs3⟩ := Zk hs1
 obtain ⟨d2, dB, rfl, hd2, hdB⟩ := Zk hs2
 obtain ⟨y3, y4, rfl, hy3, hy4⟩ := Qau hdB
 obtain rfl := Qf7 hy3
 obtain rfl := Qat hy4
 obtain ⟨d3, s4, rfl, hd3, hs4⟩ := Zk hs3
 obtain ⟨s5, d5, rfl, hs5, hd5⟩ := Zk hs4
 obtain ⟨d4, dC, rfl, hd4, hdC⟩ := Zk hs5
 obtain ⟨y5, y6, rfl, hy5, hy6⟩ := Qau hdC
 obtain rfl := Qhv hy5
 obtain rfl := Qat hy6
 obtain ⟨id4, ops4, rfl, hm4⟩ := Qbq hd4
 obtain ⟨l2, l3, hops4, hm2, hm3⟩ := QcB (q1 := [_, _]) hm4
 obtain ⟨oY, l1, rfl, hoY, hm1⟩ := Qfb hm3
 obtain ⟨id9, ops9, rfl, hm9⟩ := Qbq hd9
 obtain ⟨k2, k3, hops9, hk2, hk3⟩ := QcB (q1 := [_, _]) hm9
 obtain ⟨oZ, k1, rfl, hoZ, hk1⟩ := Qfb hk3
 have hk1' : k1 = [] := by
  cases k1 with
  | nil => rfl
  | cons a b => simp [qM, qe] at hk1
 subst hk1'
 obtain ⟨v2, hv2⟩ : ∃ v2, v2 = Value.pointer (some ⟨br, 0, none⟩) := ⟨_, rfl⟩
 rw [← hv2]
 obtain ⟨yv, hyv⟩ : ∃ yv, yv = (Value.func (.yield ll) #[] #[]) := ⟨_, rfl⟩
 rw [← hyv]
 let a0 : Act := { tmps := #[yv] ++ #[v1, v2, v3] ++ Array.replicate (52 - (#[yv] ++ #[v1, v2, v3]).size) undef, defers := [] }
 show Code.wpIn _ _ _ _ _ a0 _
 let SL : Act → Prop := fun a => a.defers = [] ∧ a.tmps.size = 52 ∧ a.tmps.getD 0 undef = yv ∧ a.tmps.getD 1 undef = v1 ∧ a.tmps.getD 2 undef = v2 ∧ a.tmps.getD 3 undef = v3
 have hSL0 : SL a0 := ⟨rfl, by simp [a0], by simp [a0], by simp [a0], by simp [a0], by simp [a0]⟩
 let I4 : List (Nat × Value) := [(0, yv), (1, v1), (2, v2), (3, v3)]
 have hI : ∀ {qs : List AO} {a : Act}, (QdG 0 qs && QdG 1 qs && QdG 2 qs && QdG 3 qs) = true → SL a → ∀ p ∈ I4, QdG p.1 qs = true ∧ a.tmps.getD p.1 undef = p.2 := fun h1 h2 p hp => by
  simp only [qf] at h1
  obtain ⟨_, _, e0, e1, e2, e3⟩ := h2
  simp only [I4, qq, yc, or_false] at hp
  rcases hp with rfl | rfl | rfl | rfl
  ·exact ⟨h1.1.1.1, e0⟩
  ·exact ⟨h1.1.1.2, e1⟩
  ·exact ⟨h1.1.2, e2⟩
  ·exact ⟨h1.2, e3⟩
 let base : List (Nat × AV) := [(0, .lit yv), (1, .cell [.str [c]]), (2, .ref 0 1 0), (3, .cell [.int .i64 0])]
 have hrep : ∀ {W' : World} {r : List UInt8} {a : Act}, KC W' → SL a → ∀ i, Rep ⟨W', [bx ty r], [some (br, cap)], fun _ _ => False⟩ (look base i) (a.tmps.getD i undef) := fun {W' r a} hk h => by
  obtain ⟨_, _, e0, e1, e2, e3⟩ := h
  refine Xw (by rw [e0]; simp only [Rep]) (Xw (by rw [e1]; exact hun hk _ _ rfl hv1) (Xw ?_ (Xw (by rw [e3]; exact hun hk _ _ rfl hv3) QgE)))
  rw [e2, hv2]
  simp only [Rep]
  exact ⟨⟨bx ty r, rfl, by simp [bx], qh _, fun _ => ⟨br, cap, rfl, rfl⟩⟩, rfl⟩
 have hslN : ∀ {W' : World} {r r' : List UInt8} {fr : List (Nat × AV)} {a : Act} {W2 : World}, Sim (ΓS br cap ty W' r 52) ⟨fr, [bx ty r']⟩ a W2 → (∀ p ∈ I4, a.tmps.getD p.1 undef = p.2) → SL a := fun h1 h2 =>
  ⟨h1.1, h1.2.1, h2 (0, yv) (by simp [I4]), h2 (1, v1) (by simp [I4]), h2 (2, v2) (by simp [I4]), h2 (3, v3) (by simp [I4])⟩
 have hF : ∀ {W' : World} {r : List UInt8}, KC W' → Fit P 52 (ΓS br cap ty W' r 52) := fun {W' r} h => ⟨rfl, fun q cs hq => hun h _ _ (by simp only [isD]; exact P.gd q cs hq) (hG q cs hq)⟩
 have hbW : ZG W br cap ty s := hbx.same (hW.block br hbr0)
 refine wpIn_seq (wpIn_seq ?_)
 refine J0 (Q := fun _ st' => Le 1 st' ⟨(11, .bool false) :: base, [bx ty s]⟩) (hF hkw) hd0 I4 (hI rfl hSL0) (by simp (maxSteps := 4000000) (disch := omega) only [rq, simprocAttr, base, bx]; exact QJ) (Qkk hbW hSL0.1 hSL0.2.1 (hrep hkw hSL0)) ?_
 intro st0 a1 W1 hle1 hs1' t1
 have hs1 := hle1 _ _ _ rfl hs1'
 have hSL1 := hslN hs1 t1
 obtain ⟨q1, hbW1, hk1c⟩ := JY hbW hs1
 have hkW1 := hKs hkw hk1c
 have hJ1 := hJ _ _ _ hJ0 q1
 show (Code.cond _ y1 .skip).wpIn Fence.wide 4 _ _ a1 W1
 have h11 : a1.eval (.tmp 11) = .bool false := by
  obtain ⟨_, _, _, _, _, _, h⟩ := hs1
  have h : Rep _ (.bool _) (a1.tmps.getD 11 undef) := h 11
  simp only [Rep] at h
  exact h
 refine wpIn_cond_false h11 (wpIn_skip ?_)
 show (Code.seq (.block 2 _) _).wpIn Fence.wide 4 _ _ a1 W1
 refine wpIn_seq (wpIn_block ?_)
 refine wpIn_loop (fun a W' => ∃ (j : Nat) (r : List UInt8), j < cnt ∧ SL a ∧ KC W' ∧ ZG W' br cap ty r ∧ r.length ≤ s.length ∧ pcs c r = (pcs c s).drop j ∧ J ((List.finRange (pcs c s).length).take j) W') (fun _ W' => Qkz br cap ty W') ?_ ?_
 ·exact ⟨0, s, by rw [← hcnt]; exact List.length_pos_iff.2 (QdB c s), hSL1, hkW1, hbW1, qh _, rfl, hJ1⟩
 intro a Wj ⟨j, r, hj, sl, kc, hb, hrs, hp, hJj⟩
 have hX' := hX r [c] (by omega)
 have getB : ∀ {fr : List (Nat × AV)} {r' : List UInt8} {W' W2 : World} {a : Act} {i : Nat} {b : Bool}, Sim (ΓS br cap ty W' r 52) ⟨fr, [bx ty r']⟩ a W2 → look fr i = .bool b → a.eval (.tmp i) = .bool b := fun {fr r' W' W2 a i b} h e => by
  obtain ⟨_, _, _, _, _, _, h⟩ := h
  have h := h i
  simp only [e, Rep] at h
  exact h
 have fin : ∀ (k : Nat) (hk : k < cnt), (List.finRange (pcs c s).length).take (k + 1) = (List.finRange (pcs c s).length).take k ++ [⟨k, by rw [hcnt]; exact hk⟩] := fun k hk => by
  rw [qx (by simpa [hcnt] using hk)]
  simp
 show (Code.block 3 _).wpIn Fence.wide 4 _ _ a Wj
 refine wpIn_block (wpIn_seq ?_)
 refine J0 (Q := fun _ st' => Le 1 st' ⟨(7, .int .i64 (Lib.index r [c])) :: base, [bx ty r]⟩) (hF kc) hd1 I4 (hI rfl sl) (by simp (maxSteps := 4000000) (disch := omega) only [rq, simprocAttr, base, bx]; refine Qa hX' ?_; simp (maxSteps := 4000000) (disch := omega) only [rq, simprocAttr]; exact QJ) (Qkk hb sl.1 sl.2.1 (hrep kc sl)) ?_
 intro st1 aA WA hleA hsA' tA
 have hsA := hleA _ _ _ rfl hsA'
 have slA := hslN hsA tA
 show (Code.seq (.seq d2 _) _).wpIn Fence.wide 4 _ _ aA WA
 refine wpIn_seq (wpIn_seq ?_)
 refine J0 (Q := fun _ st' => Le 1 st' ⟨(33, .bool (decide (Lib.index r [c] < 0))) :: (7, .int .i64 (Lib.index r [c])) :: base, [bx ty r]⟩) (hF kc) hd2 I4 (hI rfl slA) (by simp (maxSteps := 4000000) (disch := omega) only [rq, simprocAttr, base, bx]; exact QJ) hsA ?_
 intro st2 aB WB hleB hsB' tB
 have hsB := hleB _ _ _ rfl hsB'
 have slB := hslN hsB tB
 obtain ⟨qB, hbB, hkB⟩ := JY hb hsB
 have kcB := hKs kc hkB
 have hJB := hJ _ _ _ hJj qB
 have h33 := getB hsB (i := 33) rfl
 show (Code.cond _ (.exit 2) .skip).wpIn Fence.wide 4 _ _ aB WB
 rcases XS c r with ⟨e1, e2⟩ | ⟨i, e1, e2, e3⟩
 ·rw [e1] at h33
  refine wpIn_cond_true h33 (wpIn_exit ?_)
  show (Code.region id9 ops9 false).wpIn Fence.wide 4 _ _ aB WB
  have hLj : (pcs c s).drop j = [r] := by rw [← hp, e2]
  have hj1 : j + 1 = cnt := by have := congrArg List.length hLj; rw [yl, hcnt] at this; simp at this; omega
  have hgj : (pcs c s)[j]'(by omega) = r := by
   have : (pcs c s)[j]? = some r := by have h := congrArg (·[0]?) hLj; simpa using h
   exact (qb.1 this).2
  refine wpIn_region_list ?_
  rw [hops9]
  refine Xb k2 _ aB WB (Qk ?_ _ _ _ (XV (Q := fun _ st' => Le 1 st' ⟨[(49, .lit yv), (50, .str r)], [bx ty r]⟩) (hF kc) hk2 [] (fun p hp => by cases hp) (by simp (maxSteps := 4000000) (disch := omega) only [rq, simprocAttr, base, bx]; exact QJ) hsB))
  rintro _ a7 W7 ⟨rfl, st7, hle7, hs7', _⟩
  have hs7 := hle7 _ _ _ rfl hs7'
  obtain ⟨q7, hb7, hk7⟩ := JY hb hs7
  have hJ7 := hJ _ _ _ hJj q7
  show wpListIn Fence.wide 4 _ _ _ [oZ] a7 W7
  have hd7 : a7.defers = [] := hs7.1
  have hz7 : a7.tmps.size = 52 := hs7.2.1
  have f49 : a7.tmps.getD 49 undef = yv := by obtain ⟨_, _, _, _, _, _, h⟩ := hs7; have h : Rep _ (.lit yv) (a7.tmps.getD 49 undef) := h 49; simpa only [Rep] using h
  have f50 : a7.tmps.getD 50 undef = .string ⟨r.toArray⟩ := by obtain ⟨_, _, _, _, _, _, h⟩ := hs7; have h : Rep _ (.str r) (a7.tmps.getD 50 undef) := h 50; simpa only [Rep] using h
  obtain ⟨cY, dY, _, gY⟩ := Ze hoZ
  obtain ⟨cl, opY, calY, argY⟩ := Xp cY
  have gY' : oZ.guard = none := by
   rcases gY with ⟨h, _⟩ | ⟨_, _, _, _, _, h⟩
   ·exact h
   ·cases h
  have argY' : cl.args = #[.tmp 50] := q9 argY.symm
  have hY' := hY ((List.finRange (pcs c s).length).take j) ⟨j, by omega⟩ W7 hJ7 (by simp; omega)
  simp only [Fin.getElem_fin, hgj] at hY'
  unfold wpListIn
  rw [qF (by simp [Region.wanted, gY'])]
  refine QbX opY calY argY' (f49.trans hyv) f50 hY' ?_
  rintro e W8 (⟨rfl, hJ8, _⟩ | ⟨rfl, hX8⟩)
  ·refine ⟨true, rfl, ?_⟩
   refine ⟨by rw [X6]; exact hd7, .tuple #[], results_none (q9 hrl) _ _ _, ⟨_, rfl⟩, .inl ⟨_, rfl, ?_⟩⟩
   have h1 := fin j hj
   rw [hj1, yt (by simp; omega)] at h1
   rw [h1]
   exact hJ8
  ·refine ⟨false, rfl, ?_⟩
   exact ⟨by rw [X6]; exact hd7, .tuple #[], results_none (q9 hrl) _ _ _, ⟨_, rfl⟩, .inr ⟨_, trivial, hX8⟩⟩
 ·rw [e1, decide_eq_false (by omega)] at h33
  refine wpIn_cond_false h33 (wpIn_skip ?_)
  show (Code.seq d3 _).wpIn Fence.wide 4 _ _ aB WB
  have hLj : (pcs c s).drop j = r.take i :: pcs c (r.drop (i + 1)) := by rw [← hp, e3]
  have hj1 : j + 1 < cnt := by
   have := congrArg List.length hLj
   rw [yl, hcnt] at this
   have h2 := List.length_pos_iff.2 (QdB c (r.drop (i + 1)))
   simp only [qn] at this
   omega
  have hgj : (pcs c s)[j]'(by omega) = r.take i := by
   have : (pcs c s)[j]? = some (r.take i) := by have h := congrArg (·[0]?) hLj; simpa using h
   exact (qb.1 this).2
  have hdj : pcs c (r.drop (i + 1)) = (pcs c s).drop (j + 1) := by
   have h := congrArg (List.drop 1) hLj
   rw [yT] at h
   simpa using h.symm
  rw [e1] at hsB
  refine wpIn_seq ?_
  refine J0 (Q := fun _ st' => Le 1 st' ⟨(8, .str (r.take i)) :: (7, .int .i64 i) :: base, [bx ty r]⟩) (hF kc) hd3 I4 (hI rfl slB) (by simp (maxSteps := 4000000) (disch := omega) only [rq, simprocAttr, base, bx]; exact QJ) hsB ?_
  intro st3 aC WC hleC hsC' tC
  have hsC := hleC _ _ _ rfl hsC'
  have slC := hslN hsC tC
  show (Code.seq (.seq (.region id4 ops4 false) _) d5).wpIn Fence.wide 4 _ _ aC WC
  refine wpIn_seq (wpIn_seq (wpIn_region_list ?_))
  rw [hops4]
  refine Xb l2 _ aC WC (Qk ?_ _ _ _ (XV (Q := fun _ st' => Le 1 st' ⟨(39, .lit yv) :: (40, .str (r.take i)) :: (7, .int .i64 i) :: base, [bx ty r]⟩) (hF kc) hm2 I4 (hI rfl slC) (by simp (maxSteps := 4000000) (disch := omega) only [rq, simprocAttr, base, bx]; exact QJ) hsC))
  rintro _ a7 W7 ⟨rfl, st7, hle7, hs7', t7⟩
  have hs7 := hle7 _ _ _ rfl hs7'
  have sl7 := hslN hs7 t7
  obtain ⟨q7, hb7, hk7⟩ := JY hb hs7
  have kc7 := hKs kc hk7
  have hJ7 := hJ _ _ _ hJj q7
  show wpListIn Fence.wide 4 _ _ _ (oY :: l1) a7 W7
  have hd7 : a7.defers = [] := hs7.1
  have hz7 : a7.tmps.size = 52 := hs7.2.1
  have f39 : a7.tmps.getD 39 undef = yv := by obtain ⟨_, _, _, _, _, _, h⟩ := hs7; have h : Rep _ (.lit yv) (a7.tmps.getD 39 undef) := h 39; simpa only [Rep] using h
  have f40 : a7.tmps.getD 40 undef = .string ⟨(r.take i).toArray⟩ := by obtain ⟨_, _, _, _, _, _, h⟩ := hs7; have h : Rep _ (.str (r.take i)) (a7.tmps.getD 40 undef) := h 40; simpa only [Rep] using h
  have f7 : a7.tmps.getD 7 undef = .int .i64 i := by obtain ⟨_, _, _, _, _, _, h⟩ := hs7; have h : Rep _ (.int .i64 i) (a7.tmps.getD 7 undef) := h 7; simpa only [Rep] using h
  obtain ⟨cY, dY, _, gY⟩ := Ze hoY
  obtain ⟨cl, opY, calY, argY⟩ := Xp cY
  have gY' : oY.guard = none := by
   rcases gY with ⟨h, _⟩ | ⟨_, _, _, _, _, h⟩
   ·exact h
   ·cases h
  have argY' : cl.args = #[.tmp 40] := q9 argY.symm
  have hY' := hY ((List.finRange (pcs c s).length).take j) ⟨j, by omega⟩ W7 hJ7 (by simp; omega)
  simp only [Fin.getElem_fin, hgj] at hY'
  unfold wpListIn
  rw [qF (by simp [Region.wanted, gY'])]
  refine QbX opY calY argY' (f39.trans hyv) f40 hY' ?_
  rw [← dY]
  have p41 : ∀ bb : Bool, (a7.put (some 41) (.bool bb)).tmps.getD 41 undef = .bool bb := fun bb => by simp [Act.put, hz7]
  have pO : ∀ (bb : Bool) (i : Nat), i ≠ 41 → (a7.put (some 41) (.bool bb)).tmps.getD i undef = a7.tmps.getD i undef := fun bb i h => J1 (by simpa using fun h' => h h'.symm)
  have slY : ∀ bb : Bool, SL (a7.put (some 41) (.bool bb)) := fun bb => by
   obtain ⟨g1, g2, g3, g4, g5, g6⟩ := sl7
   exact ⟨by rw [X6]; exact g1, by rw [Qcv]; exact g2, by rw [pO bb 0 (by omega)]; exact g3, by rw [pO bb 1 (by omega)]; exact g4, by rw [pO bb 2 (by omega)]; exact g5, by rw [pO bb 3 (by omega)]; exact g6⟩
  rintro e W8 (⟨rfl, hJ8, hK8⟩ | ⟨rfl, hX8⟩)
  ·refine ⟨true, rfl, ?_⟩
   have hb8 : ZG W8 br cap ty r := hK8.1 r hb7
   have kc8 : KC W8 := by
    rw [hKC] at kc7 ⊢
    exact fun b k v hc hv => hK8.2 b k v hc (kc7 b k v hc hv)
   have hs8 : Sim (ΓS br cap ty W8 r 52) ⟨(41, .bool true) :: (7, .int .i64 i) :: base, [bx ty r]⟩ (a7.put (some 41) (.bool true)) W8 :=
    Qkk hb8 (slY true).1 (slY true).2.1 (Xw (by rw [p41]; simp only [Rep]) (Xw (by rw [pO true 7 (by omega), f7]; simp only [Rep]) (hrep kc8 (slY true))))
   refine Qk ?_ _ _ _ (XV (Q := fun _ st' => Le 1 st' ⟨(42, .bool false) :: (7, .int .i64 i) :: base, [bx ty r]⟩) (hF kc8) hm1 I4 (hI rfl (slY true)) (by simp (maxSteps := 4000000) (disch := omega) only [rq, simprocAttr, base, bx, qO]; exact QJ) hs8)
   rintro _ a9 W9 ⟨rfl, st9, hle9, hs9', t9⟩
   have hs9 := hle9 _ _ _ rfl hs9'
   have sl9 := hslN hs9 t9
   show (Code.cond _ .ret .skip).wpIn Fence.wide 4 _ _ a9 W9
   refine wpIn_cond_false (getB hs9 (i := 42) rfl) (wpIn_skip ?_)
   show d5.wpIn Fence.wide 4 _ _ a9 W9
   have hl1 : r.length - (i + 1) ≤ s.length := by omega
   refine J0 (Q := fun _ st' => Le 1 st' ⟨base, [bx ty (r.drop (i + 1))]⟩) (hF kc8) hd5 I4 (hI rfl sl9) (by simp (maxSteps := 4000000) (disch := omega) only [rq, simprocAttr, base, bx]; exact QJ) hs9 ?_
   intro stD aD WD hleD hsD' tD
   have hsD := hleD _ _ _ rfl hsD'
   have slD := hslN hsD tD
   obtain ⟨qD, hbD, hkD⟩ := JY hb8 hsD
   have hJD := hJ _ _ _ hJ8 qD
   refine ⟨⟨j + 1, r.drop (i + 1), hj1, slD, hKs kc8 hkD, hbD, by rw [yl]; omega, hdj, ?_⟩, ?_⟩
   ·rw [fin j hj]
    exact hJD
   ·rw [Qhw hb, Qhw hbD, yl]
    omega
  ·refine ⟨false, rfl, ?_⟩
   have hz8 : (a7.put (some 41) (.bool false)).tmps.size = 52 := (slY false).2.1
   let P0 : Prg := ⟨P.prog, [], fun _ _ h => by cases h⟩
   have hs8 : Sim ⟨W8.heap.size, ⟨W8, [], [], fun _ _ => False⟩, 52, []⟩ ⟨[(41, .bool false)], []⟩ (a7.put (some 41) (.bool false)) W8 :=
    ⟨(slY false).1, hz8, Below.refl _ _, [], ⟨rfl, by simp, by simp, by simp, fun _ _ h => h.elim, qh _⟩, Moves.refl _, Xw (by rw [p41]; simp only [Rep]) QgE⟩
   refine Qk ?_ _ _ _ (XV (P := P0) (N := 52) (Γ := ⟨W8.heap.size, ⟨W8, [], [], fun _ _ => False⟩, 52, []⟩) (Q := fun _ st' => Le 0 st' ⟨[(42, .bool true)], []⟩) ⟨rfl, fun _ _ h => by cases h⟩ hm1 [] (fun p hp => by cases hp)
    (by simp (maxSteps := 4000000) (disch := omega) only [rq, simprocAttr, yg]; exact QJ) hs8)
   rintro _ a9 W9 ⟨rfl, st9, hle9, hs9', t9⟩
   have hs9 := hle9 _ _ _ rfl hs9'
   show (Code.cond _ .ret .skip).wpIn Fence.wide 4 _ _ a9 W9
   have h42 : a9.eval (.tmp 42) = .bool true := by obtain ⟨_, _, _, _, _, _, h⟩ := hs9; have h : Rep _ (.bool _) (a9.tmps.getD 42 undef) := h 42; simp only [Rep] at h; exact h
   refine wpIn_cond_true h42 (wpIn_ret ?_)
   have b9 : Below W8.heap.size W8 W9 := hs9.2.2.1
   have hX9 := hJx _ W8 W9 hX8 ⟨none, ⟨b9.os, b9.tape, b9.output, b9.size, fun k hk _ => b9.block k hk⟩, fun q e => by cases e⟩
   exact ⟨hs9.1, .tuple #[], results_none (q9 hrl) _ _ _, ⟨_, rfl⟩, .inr ⟨_, trivial, hX9⟩⟩
def ZI (c : UInt8) : List (List UInt8) → List UInt8
 | [] => []
 | [p] => p
 | p :: q :: r => p ++ c :: ZI c (q :: r)
theorem Qb9 (c : UInt8) (p : List UInt8) {L : List (List UInt8)} (h : L ≠ []) : ZI c (p :: L) = p ++ c :: ZI c L := by
 cases L with
 | nil => exact absurd rfl h
 | cons q r => rfl
theorem J7 (c : UInt8) : ∀ s, ZI c (pcs c s) = s
 | [] => rfl
 | b :: l => by
  have ih := J7 c l
  unfold pcs
  split
  ·rename_i h
   rw [Qb9 c [] (QdB c l), ih, h]
   rfl
  ·split
   ·rename_i h; exact absurd h (QdB c l)
   ·rename_i p r h
    rw [h] at ih
    cases r with
    | nil => simp only [ZI] at ih ⊢; rw [ih]
    | cons q r => simp only [ZI] at ih ⊢; rw [qP, ih]
theorem Qe5 {c : UInt8} : ∀ {p : List UInt8}, c ∉ p → pcs c p = [p]
 | [], _ => rfl
 | b :: p, h => by
  simp only [qq, not_or] at h
  rw [pcs, qt fun e => h.1 e.symm, Qe5 h.2]
theorem QgV {c : UInt8} : ∀ {p : List UInt8} (s : List UInt8), c ∉ p → pcs c (p ++ c :: s) = p :: pcs c s
 | [], s, _ => by simp [pcs]
 | b :: p, s, h => by
  simp only [qq, not_or] at h
  rw [qP, pcs, qt fun e => h.1 e.symm, QgV s h.2]
theorem J3 {c : UInt8} : ∀ {L : List (List UInt8)}, L ≠ [] → (∀ p ∈ L, c ∉ p) → pcs c (ZI c L) = L
 | [], h, _ => absurd rfl h
 | [p], _, h => Qe5 (h p (by simp))
 | p :: q :: r, _, h => by
  rw [ZI, QgV _ (h p (by simp)), J3 (by simp) fun x hx => h x (qG _ hx)]
theorem Qaa (c : UInt8) : ∀ (n : Nat) (s : List UInt8), s.length < n → Lib.countFrom [c] n s + 1 = (pcs c s).length
 | 0, _, h => by omega
 | n + 1, s, h => by
  unfold Lib.countFrom
  rcases XS c s with ⟨h1, h2⟩ | ⟨i, h1, h2, h3⟩
  ·rw [h1, h2]; rfl
  ·have h4 := Qaa c n (s.drop (i + 1)) (by rw [yl]; omega)
   rw [h1, h3, qt (by simp)]
   simp only [qN, qn, qT, qV]
   omega
theorem Qb0 (c : UInt8) : ∀ (k : Nat) (s : List UInt8), k + 1 = (pcs c s).length → Lib.splitK [c] 0 k s = pcs c s
 | 0, s, h => by
  rcases XS c s with ⟨h1, h2⟩ | ⟨i, h1, h2, h3⟩
  ·rw [h2]; rfl
  ·have := List.length_pos_iff.2 (QdB c (s.drop (i + 1)))
   rw [h3] at h
   simp only [qn] at h
   omega
 | k + 1, s, h => by
  unfold Lib.splitK
  rcases XS c s with ⟨h1, h2⟩ | ⟨i, h1, h2, h3⟩
  ·rw [h2] at h; simp at h
  ·rw [h1, h3, qt (by simp)]
   rw [h3] at h
   simp only [qn] at h
   simp only [qN, qn, qT, qV, yO]
   rw [Qb0 c k _ (by omega)]
theorem Qdq (c : UInt8) (s : List UInt8) : Lib.split s [c] = pcs c s :=
 Qb0 c _ s (Qaa c _ s (by omega))
theorem Qaq (b : UInt8) (l t : List UInt8) : Lib.index (b :: l) t = if t.isPrefixOf (b :: l) then 0 else if Lib.index l t == -1 then -1 else Lib.index l t + 1 := rfl
theorem Qil : ∀ (s t : List UInt8) (a b : List UInt8), t ≠ [] → Lib.cut s t = (a, b, true) → s = a ++ t ++ b := by
 have key : ∀ (s t : List UInt8), t ≠ [] → 0 ≤ Lib.index s t → s = s.take (Lib.index s t).toNat ++ t ++ s.drop ((Lib.index s t).toNat + t.length) := by
  intro s t ht
  induction s with
  | nil =>
   intro h
   exfalso
   have : Lib.index [] t = -1 := by
    show (if t.isEmpty then (0 : Int) else -1) = -1
    cases t with
    | nil => exact absurd rfl ht
    | cons a b => rfl
   omega
  | cons b l ih =>
   intro h
   rw [Qaq] at h ⊢
   split
   ·rename_i hp
    obtain ⟨r, hr⟩ := List.isPrefixOf_iff_prefix.1 hp
    simp only [Int.toNat_zero, List.take_zero, List.nil_append, qV]
    rw [← hr]
    simp
   ·rename_i hp
    rw [qt hp] at h
    split
    ·rename_i h1; rw [qF h1] at h; omega
    ·rename_i h1
     rw [qt h1] at h
     have h2 : Lib.index l t ≠ -1 := by simpa using h1
     have h3 := Lib.index_ge l t
     have e : (Lib.index l t + 1).toNat = (Lib.index l t).toNat + 1 := by omega
     rw [e, List.take_succ_cons, show (Lib.index l t).toNat + 1 + t.length = ((Lib.index l t).toNat + t.length) + 1 by omega, List.drop_succ_cons, qP, qP, ← ih (by omega)]
 intro s t a b ht h
 unfold Lib.cut at h
 split at h
 ·rename_i h0
  cases h
  exact key s t ht h0
 ·cases h
theorem Qji : ∀ (p s : List UInt8) (x : UInt8) (t : List UInt8), x ∉ p → Lib.cut (p ++ (x :: t) ++ s) (x :: t) = (p, s, true) := by
 have key : ∀ (p s : List UInt8) (x : UInt8) (t : List UInt8), x ∉ p → Lib.index (p ++ (x :: t) ++ s) (x :: t) = p.length := by
  intro p s x t
  induction p with
  | nil =>
   intro _
   show Lib.index (x :: (t ++ s)) (x :: t) = 0
   rw [Qaq, qF (List.isPrefixOf_iff_prefix.2 ⟨s, by simp⟩)]
  | cons b p ih =>
   intro h
   simp only [qq, not_or] at h
   rw [qP, qP, Qaq, qt (by simp [List.isPrefixOf, h.1]), ih h.2, qt (by simp)]
   simp
 intro p s x t h
 unfold Lib.cut
 rw [key p s x t h, qF (by omega)]
 simp only [qN]
 rw [qH, List.take_left, ← qH, show p.length + (x :: t).length = (p ++ (x :: t)).length by simp, List.drop_left]
def Qah (s : List UInt8) : Option Int := match Lib.atoiAll s with | .ok v => if Lib.itoa v = s then some v else none | _ => none
def Qbd (s : List UInt8) : Int := match Lib.atoiAll s with | .ok v => v | Lib.NumEnd.syntax => 0 | .range => Lib.atoiSat s
theorem QdF {s : List UInt8} {v : Int} (h : Qah s = some v) : Lib.itoa v = s := by
 unfold Qah at h
 split at h
 ·split at h
  ·rename_i e; cases h; exact e
  ·cases h
 ·cases h
theorem Qas (u : Nat) : ∀ b ∈ Lib.decDigits u, 48 ≤ b.toNat ∧ b.toNat ≤ 57 := by
 induction u using Nat.strongRecOn with
 | _ u ih =>
  intro b hb
  have e : ∀ k, k < 10 → (UInt8.ofNat (48 + k)).toNat = 48 + k := fun k hk => by simp; omega
  rw [Lib.decDigits] at hb
  split at hb
  ·rename_i h
   simp only [qI] at hb
   rw [hb, e u h]
   omega
  ·rcases qo.1 hb with hb | hb
   ·exact ih (u / 10) (by omega) b hb
   ·simp only [qI] at hb
    rw [hb, e (u % 10) (by omega)]
    omega
theorem Qh6 (v : Int) (b : UInt8) (h : b ∈ Lib.itoa v) : b.toNat = 45 ∨ 48 ≤ b.toNat ∧ b.toNat ≤ 57 := by
 unfold Lib.itoa at h
 split at h
 ·rcases qq.1 h with rfl | h
  ·exact .inl rfl
  ·exact .inr (Qas _ b h)
 ·exact .inr (Qas _ b h)
theorem QcG {v : Int} {b : UInt8} (h : b.toNat ≠ 45 ∧ (b.toNat < 48 ∨ 57 < b.toNat)) : b ∉ Lib.itoa v := fun hm => by
 have := Qh6 v b hm
 omega
theorem QdC : ∀ (l1 l2 : List UInt8) (a : Nat), Lib.parseUint10 a (l1 ++ l2) = match Lib.parseUint10 a l1 with | .ok b => Lib.parseUint10 b l2 | Lib.NumEnd.syntax => Lib.NumEnd.syntax | .range => .range
 | [], l2, a => rfl
 | c :: l1, l2, a => by
  have h := QdC l1 l2 (a * 10 + (c.toNat - 48))
  rw [qP]
  simp only [Lib.parseUint10]
  split
  ·split
   ·rfl
   ·split
    ·rfl
    ·exact h
  ·rfl
theorem QgW (u : Nat) (h : u < 9223372036854775808) : Lib.parseUint10 0 (Lib.decDigits u) = .ok u := by
 induction u using Nat.strongRecOn with
 | _ u ih =>
  have e : ∀ k, k < 10 → (UInt8.ofNat (48 + k)).toNat = 48 + k := fun k hk => by simp; omega
  rw [Lib.decDigits]
  split
  ·rename_i h
   simp only [Lib.parseUint10, e u h]
   rw [qF (by omega), qt (by omega), qt (by omega)]
   congr 1
   omega
  ·rw [QdC, ih (u / 10) (by omega) (by omega)]
   simp only [Lib.parseUint10, e (u % 10) (by omega)]
   rw [qF (by omega), qt (by omega), qt (by omega)]
   congr 1
   omega
theorem QjX (u : Nat) : Lib.decDigits u ≠ [] := by
 rw [Lib.decDigits]
 split <;> simp
theorem Xz {v : Int} (h0 : 0 ≤ v) (h1 : v < 9223372036854775808) : Qah (Lib.itoa v) = some v := by
 obtain ⟨u, rfl⟩ : ∃ u : Nat, v = u := ⟨v.toNat, by omega⟩
 have e : Lib.itoa (u : Int) = Lib.decDigits u := Lib.itoa_nonneg u
 have ha : Lib.atoiAll (Lib.decDigits u) = .ok (u : Int) := by
  have hd := Qas u
  have hp := QgW u (by omega)
  have hn := QjX u
  unfold Lib.atoiAll
  split
  ·rename_i h; exact absurd h hn
  ·rename_i c r h
   have hc := hd c (by rw [h]; simp)
   rw [qt (by omega)]
   have hm : Lib.parseMag (Lib.decDigits u) = .ok u := by unfold Lib.parseMag; rw [qt hn, hp]
   simp only [← h, hm]
   rw [qt (by omega), qt (by omega), qt (by omega)]
 unfold Qah
 rw [e, ha]
 simp only [e, yG]
structure Rp where
 f : Int
 c : Int
 b : Int
 r : Int
 n : Int
 m : Int
 l : List Int
 e : Int
 p : Int
 q : Int
 g : Int
def Rp.av (x : Rp) : AV := .agg [.int .i64 x.f, .int .i64 x.c, .int .i64 x.b, .int .i64 x.r, .int .i64 x.n, .int .i64 x.m, QD x.l, .int .i64 x.e, .int .u8 x.p, .int .i64 x.q, .int .i64 x.g]
def Rp.zero : Rp := ⟨0, 0, 0, 0, 0, 0, [], 0, 0, 0, 0⟩
def Qb3 (x : Rp) : Prop := hdN x.f x.c x.b x.r x.n = 0 ∧ skN x.l = 0 ∧ (ZD (QG x.r).toNat x.n.toNat).length = x.l.length ∧ 22 ≤ x.m ∧ x.m ≤ 100000 ∧ 0 ≤ x.e ∧ x.e ≤ 99 ∧ 0 ≤ x.p ∧ x.p ≤ 6 ∧ 0 ≤ x.q ∧ x.q < x.l.length ∧ 0 ≤ x.g ∧ x.g ≤ 12000
instance decRpOk (x : Rp) : Decidable (Qb3 x) := by unfold Qb3; exact inferInstance
def wF1 : List UInt8 := [102, 111, 114, 109, 97, 116]
def wC1 : List UInt8 := [99, 104, 97, 110, 110, 101, 108, 115]
def wB1 : List UInt8 := [98, 105, 116, 115]
def wR1 : List UInt8 := [114, 97, 116, 101]
def wN1 : List UInt8 := [99, 111, 117, 110, 116]
def wF2 : List UInt8 := [102, 114, 97, 109, 101, 115]
def wF3 : List UInt8 := [102, 111, 117, 110, 100]
def ln1 (x : Rp) : List UInt8 := ZI 32 [wF1, Lib.itoa x.f, wC1, Lib.itoa x.c, wB1, Lib.itoa x.b, wR1, Lib.itoa x.r, wN1, Lib.itoa x.n]
def ln2 (x : Rp) : List UInt8 := ZI 32 [wF2, Lib.itoa x.m] ++ [58, 32] ++ ZI 32 (x.l.map Lib.itoa)
def ln3 (x : Rp) : List UInt8 := [102, 111, 117, 110, 100, 32] ++ ZI 32 [Lib.itoa x.e, Lib.itoa x.p, Lib.itoa x.q, Lib.itoa x.g]
def txt (x : Rp) : List UInt8 := ZI 10 [ln1 x, ln2 x, ln3 x, []]
def Qbe : List (List UInt8) → List (List UInt8) → Option (List Int)
 | [], [] => some []
 | w :: ws, p :: q :: ps => if p = w then match Qah q with | some v => (Qbe ws ps).map (v :: ·) | none => none else none
 | _, _ => none
def QaL (s : List UInt8) : Option (List Int) := (pcs 32 s).mapM Qah
def rdQ (s : List UInt8) : Rp × Bool :=
 match pcs 10 s with
 | [a, b, d, []] =>
  match Qbe [wF1, wC1, wB1, wR1, wN1] (pcs 32 a) with
  | some [f, c, bb, r, n] =>
   match Lib.cut b [58, 32] with
   | (w, all, true) =>
    match Qbe [wF2] (pcs 32 w) with
    | some [m] =>
     match QaL all with
     | some l =>
      if d.take 6 = [102, 111, 117, 110, 100, 32] then
       match QaL (d.drop 6) with
       | some [e, p, q, g] => if 0 ≤ p ∧ p ≤ 6 then (⟨f, c, bb, r, n, m, l, e, p, q, g⟩, true) else (⟨f, c, bb, r, n, m, l, 0, 0, 0, 0⟩, false)
       | _ => (⟨f, c, bb, r, n, m, l, 0, 0, 0, 0⟩, false)
      else (⟨f, c, bb, r, n, m, l, 0, 0, 0, 0⟩, false)
     | none => (⟨f, c, bb, r, n, m, [], 0, 0, 0, 0⟩, false)
    | _ => (⟨f, c, bb, r, n, 0, [], 0, 0, 0, 0⟩, false)
   | _ => (⟨f, c, bb, r, n, 0, [], 0, 0, 0, 0⟩, false)
  | _ => (Rp.zero, false)
 | _ => (Rp.zero, false)
def rdO (s : List UInt8) : Option Rp := if (rdQ s).2 = true then some (rdQ s).1 else none
theorem QdH : ∀ {L : List (List UInt8)} {l : List Int}, L.mapM Qah = some l → L = l.map Lib.itoa
 | [], l, h => by simp at h; subst h; rfl
 | p :: L, l, h => by
  simp only [qM, qJ, ql, qe, qd] at h
  obtain ⟨v, hv, r, hr, rfl⟩ := h
  rw [qA, QdF hv, ← QdH hr]
theorem Qb6 {s : List UInt8} {l : List Int} (h : QaL s = some l) : s = ZI 32 (l.map Lib.itoa) := by
 rw [← QdH h, J7]
theorem QdE : ∀ {l : List Int}, (∀ v ∈ l, 0 ≤ v ∧ v < 9223372036854775808) → (l.map Lib.itoa).mapM Qah = some l
 | [], _ => rfl
 | v :: l, h => by
  simp only [qA, qM, Xz (h v (by simp)).1 (h v (by simp)).2, QdE fun u hu => h u (qG _ hu), qJ, ql, yV]
theorem QdL {l : List Int} (hl : l ≠ []) (h : ∀ v ∈ l, 0 ≤ v ∧ v < 9223372036854775808) : QaL (ZI 32 (l.map Lib.itoa)) = some l := by
 unfold QaL
 rw [J3 (by simpa using hl) (fun p hp => by
  obtain ⟨v, _, rfl⟩ := qZ.1 hp
  exact QcG (by decide)), QdE h]
theorem XT : ∀ {ws ps : List (List UInt8)} {vs : List Int}, Qbe ws ps = some vs → ps = (List.zipWith (fun w v => [w, Lib.itoa v]) ws vs).flatten ∧ vs.length = ws.length
 | [], [], vs, h => by simp only [Qbe, qd] at h; subst h; exact ⟨rfl, rfl⟩
 | w :: ws, p :: q :: ps, vs, h => by
  simp only [Qbe] at h
  split at h
  case isFalse => cases h
  rename_i e
  split at h
  case h_2 => cases h
  rename_i v hv
  obtain ⟨r, hr, rfl⟩ := qa.1 h
  obtain ⟨h1, h2⟩ := XT hr
  rw [e, ← QdF hv]
  exact ⟨by simp [← h1], by simp [h2]⟩
 | [], p :: ps, vs, h => by simp [Qbe] at h
 | w :: ws, [], vs, h => by simp [Qbe] at h
 | w :: ws, [p], vs, h => by simp [Qbe] at h
theorem QjG {s : List UInt8} {x : Rp} (h : rdO s = some x) : txt x = s := by
 unfold rdO at h
 split at h
 case isFalse => cases h
 rename_i hy
 cases h
 generalize hq : rdQ s = y at hy ⊢
 unfold rdQ at hq
 split at hq
 case h_2 => subst hq; cases hy
 rename_i a b d h10
 split at hq
 case h_2 => subst hq; cases hy
 rename_i f c bb r n h1
 split at hq
 case h_2 => subst hq; cases hy
 rename_i w all hcut
 split at hq
 case h_2 => subst hq; cases hy
 rename_i m h2
 split at hq
 case h_2 => subst hq; cases hy
 rename_i l h3
 split at hq
 case isFalse => subst hq; cases hy
 rename_i hf
 split at hq
 case h_2 => subst hq; cases hy
 rename_i e p q g h4
 split at hq
 case isFalse => subst hq; cases hy
 subst hq
 have e1 := (XT h1).1
 have e2 := (XT h2).1
 have e3 := Qb6 h3
 have e4 := Qb6 h4
 have c1 := J7 32 a
 have c2 := J7 32 w
 have c3 := Qil _ _ _ _ (by simp) hcut
 rw [e1] at c1
 rw [e2] at c2
 have hs := J7 10 s
 rw [h10] at hs
 rw [← hs]
 unfold txt
 have k1 : ln1 ⟨f, c, bb, r, n, m, l, e, p, q, g⟩ = a := by rw [← c1]; rfl
 have k2 : ln2 ⟨f, c, bb, r, n, m, l, e, p, q, g⟩ = b := by rw [c3, ← c2, e3]; rfl
 have k3 : ln3 ⟨f, c, bb, r, n, m, l, e, p, q, g⟩ = d := by
  have : d = d.take 6 ++ d.drop 6 := (qX 6 d).symm
  rw [this, hf, e4]
  rfl
 rw [k1, k2, k3]
theorem Qge {c : UInt8} (h : c = 10 ∨ c = 32 ∨ c = 58) : c ∉ wF1 ∧ c ∉ wC1 ∧ c ∉ wB1 ∧ c ∉ wR1 ∧ c ∉ wN1 ∧ c ∉ wF2 ∧ c ∉ wF3 := by
 rcases h with rfl | rfl | rfl <;> decide
theorem X9 {c b : UInt8} : ∀ {L : List (List UInt8)}, b ∈ ZI c L → b = c ∨ ∃ p ∈ L, b ∈ p
 | [], h => by simp [ZI] at h
 | [p], h => .inr ⟨p, by simp, h⟩
 | p :: q :: r, h => by
  rw [ZI] at h
  rcases qo.1 h with h | h
  ·exact .inr ⟨p, by simp, h⟩
  ·rcases qq.1 h with h | h
   ·exact .inl h
   ·rcases X9 h with h | ⟨x, hx, h⟩
    ·exact .inl h
    ·exact .inr ⟨x, qG _ hx, h⟩
theorem QeZ : ∀ {l : List Int} {m : Int}, Qea m l → ∀ v ∈ l, 5 ≤ v ∧ v ≤ m := by
 intro l
 induction l with
 | nil => intro m _ v hv; cases hv
 | cons a l ih =>
  intro m h v hv
  simp only [Qea] at h
  rcases qq.1 hv with rfl | hv
  ·exact ⟨h.1, h.2.1⟩
  ·have := ih h.2.2 v hv
   omega
theorem Qak {l : List Int} (h : skN l = 0) : l ≠ [] ∧ l.length ≤ 1000 ∧ ∀ v ∈ l, 5 ≤ v ∧ v ≤ 100000 := by
 unfold skN at h
 split at h
 ·cases h
 rename_i h1
 split at h
 ·rename_i h2
  exact ⟨fun e => h1 (.inl (by rw [e]; rfl)), by omega, fun v hv => QeZ h2 v hv⟩
 ·cases h
theorem Qbk {f c b r n : Int} (h : hdN f c b r n = 0) : shP f c b r n ∧ Qfh c r n := by
 unfold hdN at h
 split at h
 ·assumption
 ·cases h
theorem QdQ {f c b r n : Int} (h : hdN f c b r n = 0) : 1 ≤ n ∧ n ≤ 4000 := by
 obtain ⟨⟨_, _, h1, h2, _, _, h3⟩, h4, _⟩ := Qbk h
 have : (4000 : Int) / c ≤ 4000 := yW _ (by omega)
 exact ⟨h3, by omega⟩
theorem Qjx {x : Rp} (h : Qb3 x) : rdO (txt x) = some x := by
 obtain ⟨h1, h2, h3, h4, h5, h6, h7, h8, h9, h10, h11, h12, h13⟩ := h
 obtain ⟨k1, k2, k3⟩ := Qak h2
 obtain ⟨⟨s1, s2, s3, s4, s5, s6, s7⟩, _⟩ := Qbk h1
 have s8 := QdQ h1
 have w10 := Qge (c := 10) (.inl rfl)
 have w32 := Qge (c := 32) (.inr (.inl rfl))
 have w58 := Qge (c := 58) (.inr (.inr rfl))
 have nl : ∀ v, (10 : UInt8) ∉ Lib.itoa v := fun v => QcG (by decide)
 have ns : ∀ v, (32 : UInt8) ∉ Lib.itoa v := fun v => QcG (by decide)
 have nc : ∀ v, (58 : UInt8) ∉ Lib.itoa v := fun v => QcG (by decide)
 have p10 : pcs 10 (txt x) = [ln1 x, ln2 x, ln3 x, []] := by
  refine J3 (by simp) fun p hp => ?_
  simp only [qq, yc, or_false] at hp
  rcases hp with rfl | rfl | rfl | rfl
  ·intro hm
   rcases X9 hm with hm | ⟨p, hp, hm⟩
   ·exact absurd hm (by decide)
   ·simp only [qq, yc, or_false] at hp
    rcases hp with rfl | rfl | rfl | rfl | rfl | rfl | rfl | rfl | rfl | rfl
    ·exact w10.1 hm
    ·exact nl _ hm
    ·exact w10.2.1 hm
    ·exact nl _ hm
    ·exact w10.2.2.1 hm
    ·exact nl _ hm
    ·exact w10.2.2.2.1 hm
    ·exact nl _ hm
    ·exact w10.2.2.2.2.1 hm
    ·exact nl _ hm
  ·intro hm
   unfold ln2 at hm
   rcases qo.1 hm with hm | hm
   ·rcases qo.1 hm with hm | hm
    ·rcases X9 hm with hm | ⟨p, hp, hm⟩
     ·exact absurd hm (by decide)
     ·simp only [qq, yc, or_false] at hp
      rcases hp with rfl | rfl
      ·exact w10.2.2.2.2.2.1 hm
      ·exact nl _ hm
    ·exact absurd hm (by decide)
   ·rcases X9 hm with hm | ⟨p, hp, hm⟩
    ·exact absurd hm (by decide)
    ·obtain ⟨v, _, rfl⟩ := qZ.1 hp
     exact nl _ hm
  ·intro hm
   unfold ln3 at hm
   rcases qo.1 hm with hm | hm
   ·exact absurd hm (by decide)
   ·rcases X9 hm with hm | ⟨p, hp, hm⟩
    ·exact absurd hm (by decide)
    ·simp only [qq, yc, or_false] at hp
     rcases hp with rfl | rfl | rfl | rfl <;> exact nl _ hm
  ·simp
 have q1 : pcs 32 (ln1 x) = [wF1, Lib.itoa x.f, wC1, Lib.itoa x.c, wB1, Lib.itoa x.b, wR1, Lib.itoa x.r, wN1, Lib.itoa x.n] := by
  refine J3 (by simp) fun p hp => ?_
  simp only [qq, yc, or_false] at hp
  rcases hp with rfl | rfl | rfl | rfl | rfl | rfl | rfl | rfl | rfl | rfl
  ·exact w32.1
  ·exact ns _
  ·exact w32.2.1
  ·exact ns _
  ·exact w32.2.2.1
  ·exact ns _
  ·exact w32.2.2.2.1
  ·exact ns _
  ·exact w32.2.2.2.2.1
  ·exact ns _
 have q2 : pcs 32 (ZI 32 [wF2, Lib.itoa x.m]) = [wF2, Lib.itoa x.m] := by
  refine J3 (by simp) fun p hp => ?_
  simp only [qq, yc, or_false] at hp
  rcases hp with rfl | rfl
  ·exact w32.2.2.2.2.2.1
  ·exact ns _
 have q3 : Lib.cut (ln2 x) [58, 32] = (ZI 32 [wF2, Lib.itoa x.m], ZI 32 (x.l.map Lib.itoa), true) := by
  refine Qji _ _ 58 [32] fun hm => ?_
  rcases X9 hm with hm | ⟨p, hp, hm⟩
  ·exact absurd hm (by decide)
  ·simp only [qq, yc, or_false] at hp
   rcases hp with rfl | rfl
   ·exact w58.2.2.2.2.2.1 hm
   ·exact nc _ hm
 have big : ∀ v ∈ x.l, 0 ≤ v ∧ v < 9223372036854775808 := fun v hv => by have := k3 v hv; omega
 have hlen : (x.l.length : Int) ≤ 1000 := by omega
 have m1 : Qbe [wF1, wC1, wB1, wR1, wN1] (pcs 32 (ln1 x)) = some [x.f, x.c, x.b, x.r, x.n] := by
  rw [q1]
  simp only [Qbe, yG, Xz (v := x.f) (by omega) (by omega), Xz (v := x.c) (by omega) (by omega), Xz (v := x.b) (by omega) (by omega), Xz (v := x.r) (by omega) (by omega), Xz (v := x.n) (by omega) (by omega), qS]
 have m2 : Qbe [wF2] (pcs 32 (ZI 32 [wF2, Lib.itoa x.m])) = some [x.m] := by
  rw [q2]
  simp only [Qbe, yG, Xz (v := x.m) (by omega) (by omega), qS]
 have m3 : QaL (ZI 32 (x.l.map Lib.itoa)) = some x.l := QdL k1 big
 have d3 : (ln3 x).drop 6 = ZI 32 ([x.e, x.p, x.q, x.g].map Lib.itoa) := rfl
 have m4 : QaL ((ln3 x).drop 6) = some [x.e, x.p, x.q, x.g] := by
  rw [d3]
  refine QdL (by simp) fun v hv => ?_
  simp only [qq, yc, or_false] at hv
  rcases hv with rfl | rfl | rfl | rfl <;> omega
 have d4 : (ln3 x).take 6 = [102, 111, 117, 110, 100, 32] := rfl
 have hr : rdQ (txt x) = (x, true) := by
  unfold rdQ
  simp only [p10, m1, q3, m2, m3, d4, m4, yG]
  rw [qF ⟨h8, h9⟩]
 unfold rdO
 rw [hr]
 rfl
theorem Qh3 (s : List UInt8) : -9223372036854775808 ≤ Qbd s ∧ Qbd s ≤ 9223372036854775807 := by
 unfold Qbd
 split
 ·rename_i h; exact Lib.atoiAll_bounds h
 ·omega
 ·exact Lib.atoiSat_bounds s
def QaX (P : Prg) (f : Nat) : Prop := ∀ s : List UInt8, s.length ≤ 1000000 → VC P f [.str s] (.tup [.int .i64 (Qbd s), .bool (Qah s).isSome])
theorem QdI {P : Prg} {f fA fI : Nat} (bd : Body P f 20 [.tmp 2, .tmp 3] (Z4 fA fI)) (hA : S_Atoi P fA) (hI : S_Itoa P fI) : QaX P f := by
 intro s hs
 refine Z5 rfl rfl bd ?_
 simp (maxSteps := 4000000) (disch := omega) only [rq, simprocAttr, Z4]
 refine hA s _ _ hs (fun v hv => ?_) (fun t p hv => ?_) (fun t p hv => ?_)
 ·obtain ⟨b1, b2⟩ := Lib.atoiAll_bounds hv
  have hI' := hI v b1 b2
  have e1 : Qbd s = v := by unfold Qbd; rw [hv]
  have e2 : (Qah s).isSome = (Lib.itoa v == s) := by
   unfold Qah
   rw [hv]
   by_cases h : Lib.itoa v = s <;> simp [h]
  have hs1 : QbJ .eql (Lib.itoa v) s = some (.bool (Lib.itoa v == s)) := rfl
  rw [e1, e2]
  simp (maxSteps := 4000000) (disch := omega) only [rq, simprocAttr]
  refine Qa hI' ?_
  simp (maxSteps := 4000000) (disch := omega) only [rq, simprocAttr, hs1]
 ·have e1 : Qbd s = 0 := by unfold Qbd; rw [hv]
  have e2 : (Qah s).isSome = false := by unfold Qah; rw [hv]; rfl
  rw [e1, e2]
  simp (maxSteps := 4000000) (disch := omega) only [rq, simprocAttr]
 ·have e1 : Qbd s = Lib.atoiSat s := by unfold Qbd; rw [hv]
  have e2 : (Qah s).isSome = false := by unfold Qah; rw [hv]; rfl
  rw [e1, e2]
  simp (maxSteps := 4000000) (disch := omega) only [rq, simprocAttr]
def Jf (P : Prg) (f : Nat) : Prop := ∀ s t : List UInt8, s.length ≤ 1000000 → t.length ≤ 1000000 → VC P f [.str s, .str t] (if s.take t.length = t then .tup [.str (s.drop t.length), .bool true] else .tup [.str s, .bool false])
theorem Qdt {P : Prg} {f fH : Nat} (bd : Body P f 15 [.tmp 4, .tmp 5] (Qq fH)) (hH : QhA P fH) : Jf P f := by
 intro s t hs ht
 refine Z5 rfl (by split <;> rfl) bd ?_
 have hH' := hH s t hs ht
 by_cases h : s.take t.length = t
 ·have hl : t.length ≤ s.length := by have := congrArg List.length h; rw [yd] at this; omega
  rw [beq_iff_eq.2 h] at hH'
  rw [qF h]
  simp (maxSteps := 4000000) (disch := omega) only [rq, simprocAttr, Qq]
  refine Qa hH' ?_
  simp (maxSteps := 4000000) (disch := omega) only [rq, simprocAttr]
 ·rw [yH.2 h] at hH'
  rw [qt h]
  simp (maxSteps := 4000000) (disch := omega) only [rq, simprocAttr, Qq]
  refine Qa hH' ?_
  simp (maxSteps := 4000000) (disch := omega) only [rq, simprocAttr]
theorem Qaj {P : Prg} {f fH : Nat} (bd : Body P f 11 [.tmp 4, .tmp 5] (QR fH)) (hH : Jf P fH) : Jf P f := by
 intro s t hs ht
 refine Z5 rfl (by split <;> rfl) bd ?_
 have hH' := hH s t hs ht
 by_cases h : s.take t.length = t
 ·rw [qF h] at hH' ⊢
  simp (maxSteps := 4000000) (disch := omega) only [rq, simprocAttr, QR]
  refine Qa hH' ?_
  simp (maxSteps := 4000000) (disch := omega) only [rq, simprocAttr]
 ·rw [qt h] at hH' ⊢
  simp (maxSteps := 4000000) (disch := omega) only [rq, simprocAttr, QR]
  refine Qa hH' ?_
  simp (maxSteps := 4000000) (disch := omega) only [rq, simprocAttr]
def Qaw (t0 t1 : Nat) (c : UInt8) (P : Prg) (f : Nat) : Prop := ∃ g, Enters P g ∧ QbA c t0 P g ∧ ∀ (s : List UInt8) (x0 x1 x2 : Ob) (K : AV → List Ob → Prop), K (.fn (.func g) [] [.cell [.str [c]], .ref 3 1 0, .cell [.int .i64 0]]) [x0, x1, x2, bx t0 s, ⟨t0, 1, 1, [.str [c]], 1⟩, ⟨t1, 1, 1, [.int .i64 0], 1⟩] → ACall P f [.str s, .str [c]] [x0, x1, x2] K
def JN (t0 t1 : Nat) (c : UInt8) (P : Prg) (f : Nat) : Prop := ∃ g, Enters P g ∧ QbA c t0 P g ∧ ∀ (s : List UInt8) (x0 x1 x2 : Ob) (K : AV → List Ob → Prop), K (.fn (.func g) [] [.cell [.str [c]], .ref 3 1 0, .cell [.int .i64 0]]) [x0, x1, x2, bx t0 s, ⟨t0, 1, 1, [.str [c]], 1⟩, ⟨t1, 1, 1, [.int .i64 0], 1⟩] → ACall P f [.str s, .str [c], .int .i64 0] [x0, x1, x2] K
theorem QaJ {P : Prg} {f g t0 t1 fD fX : Nat} {c : UInt8} (bd : Body P f 8 [.tmp 6] (Zq g t0 t1)) (bG : Body P g 52 [] (QO fD fX)) (hX : S_StrIndex P fX) : JN t0 t1 c P f := by
 refine ⟨g, bG.ent, Qai bG hX, fun s x0 x1 x2 K hK => ?_⟩
 refine ACall.of_cut 1 bd (by simp) ?_
 simp (maxSteps := 4000000) (disch := omega) only [rq, simprocAttr, Qjh, Zq]
 refine ⟨⟨[(4, .cell [.str [c]]), (3, .ref 3 1 0), (5, .cell [.int .i64 0])], _⟩, Le.still [4, 5] 1 (by simp [Am.look, Zh, frzL, Q7, isDL, isD]), ?_⟩
 simp (maxSteps := 4000000) (disch := omega) only [rq, simprocAttr, Qjh, Qj]
 exact hK
theorem QaK {P : Prg} {f fS t0 t1 : Nat} {c : UInt8} (bd : Body P f 8 [.tmp 4] (Zr fS)) (hS : JN t0 t1 c P fS) : Qaw t0 t1 c P f := by
 obtain ⟨g, h1, h2, h3⟩ := hS
 refine ⟨g, h1, h2, fun s x0 x1 x2 K hK => Qi bd (by simp) ?_⟩
 simp (maxSteps := 4000000) (disch := omega) only [rq, simprocAttr, Zr]
 refine h3 s x0 x1 x2 _ ?_
 simp (maxSteps := 4000000) (disch := omega) only [rq, simprocAttr]
 exact hK
def Qcz (s : List UInt8) : AV := match QaL s with | some l => .tup [QD l, .bool true] | none => .tup [.list 0 [], .bool false]
theorem Qg8 (s : List UInt8) : isD (Qcz s) = true := by unfold Qcz; split <;> simp [isD, isDL, ZM]
def QhB (P : Prg) (f : Nat) : Prop := ∀ s : List UInt8, s.length ≤ 1000000 → VC P f [.str s] (Qcz s)
theorem QaD {α β : Type} {f : α → Option β} : ∀ {l : List α} {x : α}, x ∈ l → f x = none → l.mapM f = none
 | a :: l, x, hx, h => by
  rw [qM]
  rcases qq.1 hx with rfl | hx
  ·rw [h]; rfl
  ·rw [QaD hx h]; cases f a <;> rfl
theorem Qbh {α β : Type} {f : α → Option β} {g : α → β} : ∀ {l : List α}, (∀ x ∈ l, f x = some (g x)) → l.mapM f = some (l.map g)
 | [], _ => rfl
 | a :: l, h => by
  rw [qM, h a (by simp), Qbh fun x hx => h x (qG _ hx)]
  rfl
theorem QgX {s : List UInt8} {v : Int} (h : Qah s = some v) : Qbd s = v := by
 unfold Qah at h
 unfold Qbd
 split at h
 ·rename_i h1
  rw [h1]
  split at h
  ·cases h; rfl
  ·cases h
 ·cases h
theorem Qcw (c : UInt8) : ∀ s : List UInt8, (pcs c s).length ≤ s.length + 1
 | [] => by simp [pcs]
 | b :: l => by
  have := Qcw c l
  unfold pcs
  split
  ·simp; omega
  ·split
   ·simp
   ·rename_i h; rw [h] at this; simp at this ⊢; omega
theorem J2 (c : UInt8) : ∀ (s : List UInt8), ∀ p ∈ pcs c s, p.length ≤ s.length
 | [], p, hp => by simp [pcs] at hp; simp [hp]
 | b :: l, p, hp => by
  have ih := J2 c l
  unfold pcs at hp
  split at hp
  ·rcases qq.1 hp with rfl | hp
   ·simp
   ·have := ih p hp; simp; omega
  ·split at hp
   ·simp at hp; simp [hp]
   ·rename_i q r h
    rw [h] at ih
    rcases qq.1 hp with rfl | hp
    ·have := ih q (by simp); simp; omega
    ·have := ih p (qG _ hp); simp; omega
theorem Qid {α β : Type} (L : List α) (f : α → β) : (List.finRange L.length).map (fun x => f L[x]) = L.map f := by
 apply List.ext_getElem <;> simp
theorem QcC {P : Prg} {f fS fN t0 t1 t2 u1 : Nat} (bd : Qgb P f 23 [.cell 2 t0, .cell 3 t1] (ZU fS fN t0 t1 t2)) {u0 : Nat} (hS : Qaw u0 u1 32 P fS) (hN : QaX P fN) (ht0 : QaW P t0 = some none) (ht1 : QaW P t1 = some none) : QhB P f := by
 intro s hs
 refine QZ 2 (by simp [isDL, isD]) (Qg8 s) (ACall.of_rangeS bd (by simp) ?_)
 obtain ⟨g, gE, gI, gK⟩ := hS
 simp (maxSteps := 4000000) (disch := omega) only [rq, simprocAttr, ZU, Qgf, QhO, QfT, Qi2, Qb8, Qi3]
 refine gK s _ _ _ _ ?_
 simp (maxSteps := 4000000) (disch := omega) only [rq, simprocAttr, Qb8]
 let L := pcs 32 s
 let val : Fin L.length → Int := fun x => Qbd L[x]
 let G : List (Fin L.length) → Prop := fun pre => ∀ x ∈ pre, (Qah L[x]).isSome = true
 refine ⟨g, 3, u0, [32], s, pcs 32, [(9, .fn (.func g) [] [.cell [.str [32]], .ref 3 1 0, .cell [.int .i64 0]]), (2, .ref 0 1 0), (3, .ref 1 1 0), (4, .ref 2 1 0)], G,
  fun pre => [⟨t0, 1, 1, [.emp true], 0⟩, ⟨t1, 1, 1, [.bool false], 0⟩, ⟨t0, 1, 1, [.own 6 pre.length], 0⟩, bx u0 [], ⟨u0, 1, 1, [.str [32]], 1⟩, ⟨u1, 1, 1, [.int .i64 0], 1⟩, ⟨t2, 1, pre.length, ks .i64 (pre.map val), 0⟩], fun x hx => (by cases hx), ?_, rfl, gE, hs, gI, by decide, by decide, rfl, fun pre => by simp, ?_, ?_⟩
 ·refine Le.trans (Le.virtC 2 0 t2 1 (by decide) rfl rfl) (QJ)
 ·intro pre x r hG hpl
  have hx : x.1 < L.length := x.2
  have hLx : L[x].length ≤ 1000000 := qU (J2 32 s _ (q8 x.2)) hs
  have hLl : pre.length ≤ 1000001 := by have := Qcw 32 s; omega
  have hN' := hN L[x] hLx
  show wpC P 23 7 _ _ ⟨Q3 (Q3 _ (some 10) (.str L[x])) (some 5) (.str L[x]), _⟩
  have hval : val x = Qbd L[x] := rfl
  have hmem : L[x] ∈ L := q8 x.2
  have hGx : (Qah L[x]).isSome = true → G (pre ++ [x]) := fun h y hy => by
   rcases qo.1 hy with hy | hy
   ·exact hG y hy
   ·simp only [qI] at hy; rw [hy]; exact h
  have hnone : Qah L[x] = none → QaL s = none := fun h => QaD hmem h
  generalize L[x] = w at *
  have hpm : (ks .i64 (pre.map val)).length = pre.length := by simp [ks]
  cases ho : Qah w with
  | none =>
   rw [ho] at hN'
   have hr : Qcz s = .tup [.list 0 [], .bool false] := by unfold Qcz; rw [hnone ho]
   simp (maxSteps := 4000000) (disch := omega) only [rq, simprocAttr, bx]
   refine Qa hN' ?_
   simp (maxSteps := 4000000) (disch := omega) only [rq, simprocAttr, yg, Option.isSome_none]
   refine ⟨[⟨t0, 1, 1, [.emp true], 0⟩, ⟨t1, 1, 1, [.bool false], 0⟩, ⟨t0, 1, 1, [.own 6 pre.length], 0⟩, bx u0 [], ⟨u0, 1, 1, [.str [32]], 1⟩, ⟨u1, 1, 1, [.int .i64 0], 1⟩, ⟨t2, 1, pre.length, ks .i64 (pre.map val), 0⟩], by simp, XI (by simp), fun r' => ?_⟩
   simp (maxSteps := 4000000) (disch := omega) only [rq, simprocAttr, Z8, ht0, ht1, QP]
   rw [hr]
   simp [ZQ, Zh, frzL, Q7]
  | some v =>
   rw [ho] at hN'
   simp (maxSteps := 4000000) (disch := omega) only [rq, simprocAttr, bx]
   refine Qa hN' ?_
   simp (maxSteps := 4000000) (disch := omega) only [rq, simprocAttr, qO, Option.isSome_some, hpm]
   have e1 : ks .i64 ((pre ++ [x]).map val) = ks .i64 (pre.map val) ++ [.int .i64 (Qbd w)] := by simp [ks, hval]
   rw [e1]
   refine ⟨hGx (by rw [ho]; rfl), ?_⟩
   refine Le.low (ob := [_, _, _, _, _, _, _]) (J := [_]) (by simp) ?_ (by simp)
   refine Low.cons rfl (Low.cons rfl (Low.cons rfl (Low.cons rfl (Low.cons rfl (Low.cons rfl (Low.cons ?_ Low.nil))))))
   exact lowL_D _ (by rw [← e1]; exact Xg _ _)
 ·intro hG r
  have hall : QaL s = some (L.map Qbd) := by
   refine Qbh fun p hp => ?_
   obtain ⟨i, hi, rfl⟩ := yS.1 hp
   have h := hG ⟨i, hi⟩ (List.mem_finRange _)
   obtain ⟨v, hv⟩ := yY.1 h
   have hv' : Qah (pcs 32 s)[i] = some v := hv
   rw [hv', QgX hv']
  have hfm : (List.finRange L.length).map val = L.map Qbd := Qid L Qbd
  have hr : Qcz s = .tup [QD (L.map Qbd), .bool true] := by unfold Qcz; rw [hall]
  rw [hr, ← hfm]
  have tl : isTL (ks .i64 ((List.finRange (pcs 32 s).length).map val)) = true := Qy _ _
  show wpC P 23 7 _ _ _
  have hcl : (pcs 32 s).length = L.length := rfl
  simp (maxSteps := 4000000) (disch := omega) only [rq, simprocAttr, bx, QD, y0, List.length_finRange, hcl]
  simp (maxSteps := 4000000) (disch := omega) only [rq, simprocAttr, Z8, ht0, ht1, QP]
  simp [ZQ, Zh, frzL, Q7, frzL_T _ tl]
  rfl
theorem Qee {L : List (List UInt8)} {i : Nat} (h : i < L.length) : (L.map AV.str).drop i = .str (L.getD i []) :: (L.map AV.str).drop (i + 1) := by
 rw [yA (by simpa using h)]
 simp [h]
def Qgc (ps : List (List UInt8)) (n : Nat) : List Int := (List.range n).map fun k => Qbd (ps.getD (2 * k + 1) [])
def Qex (ws ps : List (List UInt8)) (k : Nat) : Prop := ps.getD (2 * k) [] = ws.getD k [] ∧ (Qah (ps.getD (2 * k + 1) [])).isSome = true
theorem Qg0 (p q : List UInt8) (ps : List (List UInt8)) (n : Nat) : Qgc (p :: q :: ps) (n + 1) = Qbd q :: Qgc ps n := by
 unfold Qgc
 rw [List.range_succ_eq_map, qA, List.map_map]
 simp only [List.cons.injEq]
 exact ⟨by simp, ya fun k _ => by
  show Qbd ((p :: q :: ps).getD (2 * (k + 1) + 1) []) = _
  rw [show 2 * (k + 1) + 1 = (2 * k + 1) + 1 + 1 by omega, yn, yn]⟩
theorem Qb7 {w p q : List UInt8} {ws ps : List (List UInt8)} {k : Nat} : Qex (w :: ws) (p :: q :: ps) (k + 1) ↔ Qex ws ps k := by
 unfold Qex
 rw [show 2 * (k + 1) + 1 = (2 * k + 1) + 1 + 1 by omega, show 2 * (k + 1) = (2 * k) + 1 + 1 by omega, yn, yn, yn, yn, yn]
theorem Qfa : ∀ {ws ps : List (List UInt8)}, ps.length = 2 * ws.length → (∀ k, k < ws.length → Qex ws ps k) → Qbe ws ps = some (Qgc ps ws.length)
 | [], [], _, _ => rfl
 | [], p :: ps, h, _ => by simp at h
 | w :: ws, [], h, _ => by simp at h
 | w :: ws, [p], h, _ => by simp at h; omega
 | w :: ws, p :: q :: ps, h, hk => by
  obtain ⟨h1, h2⟩ := hk 0 (by simp)
  have h1 : p = w := h1
  have h2 : (Qah q).isSome = true := h2
  obtain ⟨v, hv⟩ := yY.1 h2
  simp only [Qbe, h1, hv, yG]
  rw [Qfa (ws := ws) (ps := ps) (by simp at h; omega) fun k hk' => Qb7.1 (hk (k + 1) (by simp; omega)), qn, Qg0, QgX hv]
  rfl
theorem Qe9 : ∀ {ws ps : List (List UInt8)} {k : Nat}, k < ws.length → ¬ Qex ws ps k → Qbe ws ps = none
 | [], _, k, h, _ => by simp at h
 | w :: ws, [], k, h, _ => rfl
 | w :: ws, [p], k, h, _ => rfl
 | w :: ws, p :: q :: ps, k, h, hk => by
  simp only [Qbe]
  split
  ·rename_i h1
   split
   ·rename_i v hv
    cases k with
    | zero => exact absurd ⟨h1, by show (Qah q).isSome = true; rw [hv]; rfl⟩ hk
    | succ k =>
     rw [Qe9 (k := k) (by simp at h; omega) fun h' => hk (Qb7.2 h')]
     rfl
   ·rfl
  ·rfl
theorem Qe8 : ∀ {ws ps : List (List UInt8)}, ps.length ≠ 2 * ws.length → Qbe ws ps = none
 | [], [], h => absurd rfl h
 | [], p :: ps, _ => rfl
 | w :: ws, [], _ => rfl
 | w :: ws, [p], _ => rfl
 | w :: ws, p :: q :: ps, h => by
  simp only [Qbe]
  split
  ·split
   ·rw [Qe8 (by simp at h; omega)]
    rfl
   ·rfl
  ·rfl
def Qju (ws : List (List UInt8)) (s : List UInt8) : AV := match Qbe ws (pcs 32 s) with | some l => .tup [QD l, .bool true] | none => .tup [.list 0 [], .bool false]
theorem Qh9 (ws : List (List UInt8)) (s : List UInt8) : isD (Qju ws s) = true := by unfold Qju; split <;> simp [isD, isDL, ZM]
theorem Qh8 (l : List (List UInt8)) : isD (strL l) = true := by
 have hD : ∀ l : List (List UInt8), isDL (l.map AV.str) = true := fun l => by
  induction l with
  | nil => rfl
  | cons a l ih => simp only [qA, isDL, isD, ih]; rfl
 simp only [strL, isD]; exact hD _
theorem QdM : ∀ l : List (List UInt8), isTL (l.map AV.str) = true
 | [] => rfl
 | a :: l => by simp [isTL, isT, QdM l]
theorem Qh1 (c : UInt8) (s : List UInt8) (i : Nat) : ((pcs c s).getD i []).length ≤ s.length := by
 rw [qg]
 cases h : (pcs c s)[i]? with
 | none => simp
 | some p => exact J2 c s p (qC h)
def QeU (P : Prg) (f : Nat) : Prop := ∀ (s : List UInt8) (ws : List (List UInt8)), s.length ≤ 1000000 → ws.length ≤ 1000 → VC P f [.str s, strL ws] (Qju ws s)
theorem Qey {P : Prg} {f fS fN t0 : Nat} (bd : Body P f 54 [.tmp 4, .tmp 5] (ZN fS fN t0)) (hS : S_SplitS P fS) (hN : QaX P fN) : QeU P f := by
 intro s ws hs hw
 refine QZ 1 (by simp [isDL, isD, Qh8]) (Qh9 ws s) (Qi bd (by simp) ?_)
 have hS' := hS s [32] hs (by simp)
 rw [Qdq, strL] at hS'
 have hpl := Qcw 32 s
 have hN' : ∀ i, VC P fN [.str ((pcs 32 s).getD i [])] _ := fun i => hN _ (qU (Qh1 32 s i) hs)
 have hA : Qju ws s = match Qbe ws (pcs 32 s) with | some l => .tup [QD l, .bool true] | none => .tup [.list 0 [], .bool false] := rfl
 generalize pcs 32 s = ps at *
 have lw : (ws.map AV.str).length = ws.length := by simp
 have lp : (ps.map AV.str).length = ps.length := by simp
 by_cases h0 : ps.length = 2 * ws.length
 case neg =>
  rw [hA, Qe8 h0]
  simp (maxSteps := 4000000) (disch := omega) only [rq, simprocAttr, ZN, strL]
  refine Qa hS' ?_
  simp (maxSteps := 4000000) (disch := omega) only [rq, simprocAttr]
  simp [ZQ, Zh, frzL, Q7]
 simp (maxSteps := 4000000) (disch := omega) only [rq, simprocAttr, ZN, strL]
 refine Qa hS' ?_
 simp (maxSteps := 4000000) (disch := omega) only [rq, simprocAttr]
 refine Zg (ι := Nat) (fun i => ⟨[(22, .int .i64 i), (21, .int .i64 ws.length), (20, .list ws.length (ws.map .str)), (7, .own 0 i), (6, .list ps.length (ps.map .str))], [⟨t0, 1, i, ks .i64 (Qgc ps i), 0⟩]⟩)
  (fun i => i ≤ ws.length ∧ ∀ k, k < i → Qex ws ps k) (fun i => ws.length - i) 0 (Le.trans (QeW 7 t0 1 (by decide) rfl) (QJ)) ⟨yi _, fun k h => by omega⟩ ?_
 intro i ⟨hi, hk⟩
 have lv : (ks .i64 (Qgc ps i)).length = i := by simp [ks, Qgc]
 by_cases hi2 : i < ws.length
 ·have a1 := Qee (L := ws) hi2
  have a2 := Qee (L := ps) (i := 2 * i + 1) (by omega)
  have a3 := Qee (L := ps) (i := 2 * i) (by omega)
  have t1 : (2 * (i : Int) + 1).toNat = 2 * i + 1 := by omega
  have t2 : (2 * (i : Int)).toNat = 2 * i := by omega
  by_cases hok : Qex ws ps i
  ·obtain ⟨k1, k2⟩ := hok
   have hN2 := hN' (2 * i + 1)
   rw [k2] at hN2
   have hse : QbJ .neq (ps.getD (2 * i) []) (ws.getD i []) = some (.bool false) := by
    show some (AV.bool (!(ps.getD (2 * i) [] == ws.getD i []))) = _
    rw [beq_iff_eq.2 k1]
    rfl
   have e1 : ks .i64 (Qgc ps (i + 1)) = ks .i64 (Qgc ps i) ++ [.int .i64 (Qbd (ps.getD (2 * i + 1) []))] := by simp [ks, Qgc, List.range_succ]
   simp (maxSteps := 4000000) (disch := omega) only [rq, simprocAttr, a1, a2, t1]
   refine Qa hN2 ?_
   simp (maxSteps := 4000000) (disch := omega) only [rq, simprocAttr, qO, a3, t2, hse, lv]
   refine ⟨i + 1, ⟨by omega, fun k hk' => ?_⟩, by omega, ?_⟩
   ·rcases Nat.lt_succ_iff_lt_or_eq.1 hk' with h | h
    ·exact hk k h
    ·rw [h]; exact ⟨k1, k2⟩
   ·rw [e1]
    exact ZZ [_] (by simp only [qI]; rintro o rfl; rw [← e1]; exact Qy _ _) (by simp [Am.look, Zh, frzL, Q7, strL, frzL_T _ (QdM _)])
  ·rw [hA, Qe9 hi2 hok]
   have hN2 := hN' (2 * i + 1)
   cases k2 : (Qah (ps.getD (2 * i + 1) [])).isSome with
   | false =>
    rw [k2] at hN2
    simp (maxSteps := 4000000) (disch := omega) only [rq, simprocAttr, a1, a2, t1]
    refine Qa hN2 ?_
    simp (maxSteps := 4000000) (disch := omega) only [rq, simprocAttr, yg]
    simp [ZQ, Zh, frzL, Q7]
   | true =>
    rw [k2] at hN2
    have hse : QbJ .neq (ps.getD (2 * i) []) (ws.getD i []) = some (.bool true) := by
     show some (AV.bool (!(ps.getD (2 * i) [] == ws.getD i []))) = _
     rw [yH.2 fun h => hok ⟨h, k2⟩]
     rfl
    simp (maxSteps := 4000000) (disch := omega) only [rq, simprocAttr, a1, a2, t1]
    refine Qa hN2 ?_
    simp (maxSteps := 4000000) (disch := omega) only [rq, simprocAttr, qO, a3, t2, hse]
    simp [ZQ, Zh, frzL, Q7]
 ·obtain rfl : i = ws.length := by omega
  rw [hA, Qfa h0 hk]
  simp (maxSteps := 4000000) (disch := omega) only [rq, simprocAttr]
  simp [ZQ, Zh, frzL, Q7, QD, frzL_T _ (Qy .i64 (Qgc ps ws.length))]
  simp [Qgc]
def rpB (x : Rp) : Prop := x.l.length ≤ 1000000 ∧ (∀ v ∈ x.l, -9223372036854775808 ≤ v ∧ v ≤ 9223372036854775807) ∧ 0 ≤ x.p ∧ x.p ≤ 255
def rpN (x : Rp) : Int := if Qb3 x then 0 else 8
theorem XJ (x : Rp) : isD x.av = true := by simp [Rp.av, isD, isDL, ZM]
def ZC (P : Prg) (f : Nat) : Prop := ∀ x : Rp, rpB x → VC P f [x.av] (.int .i64 (rpN x))
theorem Qez {P : Prg} {f fF fC t0 t1 : Nat} (bd : Body P f 63 [.tmp 2] (Qh fF fC t0 t1)) (hF : Qax P fF) (hC : Xq P fC) : ZC P f := by
 intro x ⟨b1, b2, b3, b4⟩
 refine Z5 (by simp [isDL, XJ]) rfl bd ?_
 have hF' := hF x.f x.c x.b x.r x.n
 have hC' := hC x.l b1 b2
 have no : ∀ p : Prop, ¬ p → (Qb3 x → p) → rpN x = 8 := fun p hp h => qt fun hx => hp (h hx)
 rw [hdA] at hF'
 rw [QD] at hC'
 have kl := QiF (f := x.f) (c := x.c) (b := x.b) (r := x.r) (n := x.n)
 have hcl : hdN x.f x.c x.b x.r x.n = 0 → (ZD (QG x.r).toNat x.n.toNat).length ≤ 1000 := fun h => by
  obtain ⟨m, e, h1⟩ := kl h
  rw [e, qN]
  have := h1.2.2.2.2
  rwa [qN] at this
 by_cases h1 : hdN x.f x.c x.b x.r x.n = 0
 case neg =>
  rw [no _ h1 fun h => h.1]
  rw [Qi8, qt h1] at hF'
  simp (maxSteps := 4000000) (disch := omega) only [rq, simprocAttr, Qh, Rp.av, QD]
  refine Qa hF' ?_
  simp (maxSteps := 4000000) (disch := omega) only [rq, simprocAttr]
 have hcl' := hcl h1
 rw [Qi8, qF h1, QD] at hF'
 have rok : Qb3 x ↔ (skN x.l = 0 ∧ (ZD (QG x.r).toNat x.n.toNat).length = x.l.length ∧ 22 ≤ x.m ∧ x.m ≤ 100000 ∧ 0 ≤ x.e ∧ x.e ≤ 99 ∧ 0 ≤ x.p ∧ x.p ≤ 6 ∧ 0 ≤ x.q ∧ x.q < x.l.length ∧ 0 ≤ x.g ∧ x.g ≤ 12000) := ⟨fun h => h.2, fun h => ⟨h1, h⟩⟩
 generalize ZD (QG x.r).toNat x.n.toNat = Ls at *
 by_cases h2 : skN x.l = 0
 case neg =>
  rw [no _ h2 fun h => h.2.1]
  simp (maxSteps := 4000000) (disch := omega) only [rq, simprocAttr, Qh, Rp.av, QD]
  iterate 2 (refine Qa (by assumption) ?_; simp (maxSteps := 4000000) (disch := omega) only [rq, simprocAttr])
 rw [h2] at hC'
 by_cases h3 : Ls.length = x.l.length
 case neg =>
  rw [no _ h3 fun h => (rok.1 h).2.1]
  simp (maxSteps := 4000000) (disch := omega) only [rq, simprocAttr, Qh, Rp.av, QD]
  iterate 2 (refine Qa (by assumption) ?_; simp (maxSteps := 4000000) (disch := omega) only [rq, simprocAttr])
 have fin : (22 ≤ x.m ∧ x.m ≤ 100000 ∧ 0 ≤ x.e ∧ x.e ≤ 99 ∧ 0 ≤ x.p ∧ x.p ≤ 6 ∧ 0 ≤ x.q ∧ x.q < x.l.length ∧ 0 ≤ x.g ∧ x.g ≤ 12000) → rpN x = 0 := fun h => qF (rok.2 ⟨h2, h3, h⟩)
 have bad : ¬ (22 ≤ x.m ∧ x.m ≤ 100000 ∧ 0 ≤ x.e ∧ x.e ≤ 99 ∧ 0 ≤ x.p ∧ x.p ≤ 6 ∧ 0 ≤ x.q ∧ x.q < x.l.length ∧ 0 ≤ x.g ∧ x.g ≤ 12000) → rpN x = 8 := fun h => qt fun hx => h (rok.1 hx).2.2
 by_cases h4 : 22 ≤ x.m
 case neg =>
  rw [bad fun h => h4 h.1]
  simp (maxSteps := 4000000) (disch := omega) only [rq, simprocAttr, Qh, Rp.av, QD]
  iterate 2 (refine Qa (by assumption) ?_; simp (maxSteps := 4000000) (disch := omega) only [rq, simprocAttr])
 by_cases h5 : x.m ≤ 100000
 case neg =>
  rw [bad fun h => h5 h.2.1]
  simp (maxSteps := 4000000) (disch := omega) only [rq, simprocAttr, Qh, Rp.av, QD]
  iterate 2 (refine Qa (by assumption) ?_; simp (maxSteps := 4000000) (disch := omega) only [rq, simprocAttr])
 by_cases h6 : 0 ≤ x.e
 case neg =>
  rw [bad fun h => h6 h.2.2.1]
  simp (maxSteps := 4000000) (disch := omega) only [rq, simprocAttr, Qh, Rp.av, QD]
  iterate 2 (refine Qa (by assumption) ?_; simp (maxSteps := 4000000) (disch := omega) only [rq, simprocAttr])
 by_cases h7 : x.e ≤ 99
 case neg =>
  rw [bad fun h => h7 h.2.2.2.1]
  simp (maxSteps := 4000000) (disch := omega) only [rq, simprocAttr, Qh, Rp.av, QD]
  iterate 2 (refine Qa (by assumption) ?_; simp (maxSteps := 4000000) (disch := omega) only [rq, simprocAttr])
 by_cases h8 : x.p ≤ 6
 case neg =>
  rw [bad fun h => h8 h.2.2.2.2.2.1]
  simp (maxSteps := 4000000) (disch := omega) only [rq, simprocAttr, Qh, Rp.av, QD]
  iterate 2 (refine Qa (by assumption) ?_; simp (maxSteps := 4000000) (disch := omega) only [rq, simprocAttr])
 by_cases h9 : 0 ≤ x.q
 case neg =>
  rw [bad fun h => h9 h.2.2.2.2.2.2.1]
  simp (maxSteps := 4000000) (disch := omega) only [rq, simprocAttr, Qh, Rp.av, QD]
  iterate 2 (refine Qa (by assumption) ?_; simp (maxSteps := 4000000) (disch := omega) only [rq, simprocAttr])
 by_cases h10 : x.q < x.l.length
 case neg =>
  rw [bad fun h => h10 h.2.2.2.2.2.2.2.1]
  simp (maxSteps := 4000000) (disch := omega) only [rq, simprocAttr, Qh, Rp.av, QD]
  iterate 2 (refine Qa (by assumption) ?_; simp (maxSteps := 4000000) (disch := omega) only [rq, simprocAttr])
 by_cases h11 : 0 ≤ x.g
 case neg =>
  rw [bad fun h => h11 h.2.2.2.2.2.2.2.2.1]
  simp (maxSteps := 4000000) (disch := omega) only [rq, simprocAttr, Qh, Rp.av, QD]
  iterate 2 (refine Qa (by assumption) ?_; simp (maxSteps := 4000000) (disch := omega) only [rq, simprocAttr])
 by_cases h12 : x.g ≤ 12000
 case neg =>
  rw [bad fun h => h12 h.2.2.2.2.2.2.2.2.2]
  simp (maxSteps := 4000000) (disch := omega) only [rq, simprocAttr, Qh, Rp.av, QD]
  iterate 2 (refine Qa (by assumption) ?_; simp (maxSteps := 4000000) (disch := omega) only [rq, simprocAttr])
 rw [fin ⟨h4, h5, h6, h7, b3, h8, h9, h10, h11, h12⟩]
 simp (maxSteps := 4000000) (disch := omega) only [rq, simprocAttr, Qh, Rp.av, QD]
 iterate 2 (refine Qa (by assumption) ?_; simp (maxSteps := 4000000) (disch := omega) only [rq, simprocAttr])
def rc (f c b r n m : Int) (L : AV) (e p q g : Int) : List AV := [.int .i64 f, .int .i64 c, .int .i64 b, .int .i64 r, .int .i64 n, .int .i64 m, L, .int .i64 e, .int .u8 p, .int .i64 q, .int .i64 g]
def Rp.cs (x : Rp) : List AV := rc x.f x.c x.b x.r x.n x.m (QD x.l) x.e x.p x.q x.g
def Qjr (P : Prg) (f : Nat) : Prop := ∀ s : List UInt8, s.length ≤ 1000000 → VC P f [.str s] (.tup [(rdQ s).1.av, .bool (rdQ s).2])
theorem Qho (s t : List UInt8) : (Lib.cut s t).1.length ≤ s.length ∧ (Lib.cut s t).2.1.length ≤ s.length := by
 unfold Lib.cut
 split
 ·exact ⟨by simp only [yd]; omega, by simp only [yl]; omega⟩
 ·exact ⟨qh _, yi _⟩
theorem QfQ {P : Prg} {f fS fN fC fM fX t0 t1 : Nat} (bd : Body P f 140 [.cell 2 t0, .tmp 3] (Zf fS fN fC fM fX t0 t1)) (hS : S_SplitS P fS) (hN : QeU P fN) (hC : S_StrCut P fC) (hM : QhB P fM) (hX : Jf P fX) (ht : QaW P t0 = some (some 11)) : Qjr P f := by
 intro s hs
 refine QZ 1 rfl (by simp [isD, isDL, XJ]) (Qi bd (by simp) ?_)
 have hS' := hS s [10] hs (by simp)
 rw [Qdq, strL] at hS'
 have hpp := J2 10 s
 have hR : rdQ s = rdQ s := rfl
 conv at hR => rhs; unfold rdQ
 generalize pcs 10 s = ps at *
 by_cases hl : ps.length = 4
 case neg =>
  have hR' : rdQ s = (Rp.zero, false) := by
   rw [hR]
   split
   ·exact absurd rfl hl
   ·rfl
  rw [hR']
  by_cases h0 : ps.length < 4
  ·have : ¬ (ps.length : Int) = 4 := by omega
   simp (maxSteps := 4000000) (disch := omega) only [rq, simprocAttr, Zf]
   refine Qa hS' ?_
   simp (maxSteps := 4000000) (disch := omega) only [rq, simprocAttr]
   simp (maxSteps := 4000000) (disch := omega) only [rq, simprocAttr, Z8, ht, QP]
   simp [ZQ, Zh, frzL, Q7, Rp.av, Rp.zero, QD, ks]
  ·simp (maxSteps := 4000000) (disch := omega) only [rq, simprocAttr, Zf]
   refine Qa hS' ?_
   simp (maxSteps := 4000000) (disch := omega) only [rq, simprocAttr]
   simp (maxSteps := 4000000) (disch := omega) only [rq, simprocAttr, Z8, ht, QP]
   simp [ZQ, Zh, frzL, Q7, Rp.av, Rp.zero, QD, ks]
 match ps, hl with
 | [a, b, d, e4], _ =>
  have la : a.length ≤ 1000000 := qU (hpp a (by simp)) hs
  have lb : b.length ≤ 1000000 := qU (hpp b (by simp)) hs
  have ld : d.length ≤ 1000000 := qU (hpp d (by simp)) hs
  simp only [qn, qT, qA, yN, qV, Nat.reduceAdd] at hS'
  by_cases h4 : e4 = []
  case neg =>
   have hR' : rdQ s = (Rp.zero, false) := by
    rw [hR]
    split
    ·rename_i h; simp at h; exact absurd h.2.2.2 h4
    ·rfl
   have hse : QbJ .neq e4 [] = some (.bool true) := by
    show some (AV.bool (!(e4 == []))) = _
    rw [yH.2 h4]
    rfl
   rw [hR']
   simp (maxSteps := 4000000) (disch := omega) only [rq, simprocAttr, Zf]
   refine Qa hS' ?_
   simp (maxSteps := 4000000) (disch := omega) only [rq, simprocAttr, hse]
   simp (maxSteps := 4000000) (disch := omega) only [rq, simprocAttr, Z8, ht, QP]
   simp [ZQ, Zh, frzL, Q7, Rp.av, Rp.zero, QD, ks]
  subst h4
  simp only at hR
  have hN1 := hN a [wF1, wC1, wB1, wR1, wN1] la (by simp)
  have hC1 := hC b [58, 32] lb
  have hX1 := hX d [102, 111, 117, 110, 100, 32] ld (by simp)
  have hcl := Qho b [58, 32]
  unfold Qju at hN1
  simp only [strL, qn, qT, qA, yN, qV, Nat.reduceAdd, wF1, wC1, wB1, wR1, wN1] at hN1 hR
  have hse : QbJ .neq [] [] = some (.bool false) := rfl
  simp (maxSteps := 4000000) (disch := omega) only [rq, simprocAttr, Zf]
  refine Qa hS' ?_
  simp (maxSteps := 4000000) (disch := omega) only [rq, simprocAttr, hse]
  cases h1 : Qbe [[102, 111, 114, 109, 97, 116], [99, 104, 97, 110, 110, 101, 108, 115], [98, 105, 116, 115], [114, 97, 116, 101], [99, 111, 117, 110, 116]] (pcs 32 a) with
  | none =>
   rw [h1] at hN1 hR
   rw [hR]
   refine XE 1 [2] hN1 (by simp [ZQ, Zh, frzL, Q7, isDL, isD]) ?_
   simp (maxSteps := 4000000) (disch := omega) only [rq, simprocAttr, Qj, yg]
   simp (maxSteps := 4000000) (disch := omega) only [rq, simprocAttr, Z8, ht, QP]
   simp [ZQ, Zh, frzL, Q7, Rp.av, Rp.zero, QD, ks]
  | some vs =>
   have hvl := (XT h1).2
   rw [h1] at hN1 hR
   match vs, hvl with
   | [f, c, bb, r, n], _ =>
    simp only at hR hN1
    rw [QD] at hN1
    simp only [ks, qn, qT, qA, yN, qV, Nat.reduceAdd] at hN1
    refine XE 1 [2] hN1 (by simp [ZQ, Zh, frzL, Q7, isDL, isD]) ?_
    simp (maxSteps := 4000000) (disch := omega) only [rq, simprocAttr, Qj, qO]
    rcases hcut : Lib.cut b [58, 32] with ⟨w, all, fd⟩
    rw [hcut] at hC1 hR hcl
    have lw : w.length ≤ 1000000 := qU hcl.1 lb
    have lal : all.length ≤ 1000000 := qU hcl.2 lb
    simp only at hC1 hR
    cases fd with
    | false =>
     simp only at hR
     rw [hR]
     refine Qa hC1 ?_
     simp (maxSteps := 4000000) (disch := omega) only [rq, simprocAttr, yg]
     simp (maxSteps := 4000000) (disch := omega) only [rq, simprocAttr, Z8, ht, QP]
     simp [ZQ, Zh, frzL, Q7, Rp.av, QD, ks]
    | true =>
     simp only at hR
     have hN2 := hN w [wF2] lw (by simp)
     have hM1 := hM all lal
     unfold Qju at hN2
     unfold Qcz at hM1
     simp only [strL, qn, qT, qA, yN, qV, wF2] at hN2 hR
     refine Qa hC1 ?_
     simp (maxSteps := 4000000) (disch := omega) only [rq, simprocAttr, qO]
     cases h2 : Qbe [[102, 114, 97, 109, 101, 115]] (pcs 32 w) with
     | none =>
      rw [h2] at hN2 hR
      rw [hR]
      refine XE 1 [3] hN2 (by simp [ZQ, Zh, frzL, Q7, isDL, isD]) ?_
      simp (maxSteps := 4000000) (disch := omega) only [rq, simprocAttr, Qj, yg]
      simp (maxSteps := 4000000) (disch := omega) only [rq, simprocAttr, Z8, ht, QP]
      simp [ZQ, Zh, frzL, Q7, Rp.av, QD, ks]
     | some ms =>
      have hml := (XT h2).2
      rw [h2] at hN2 hR
      match ms, hml with
      | [m], _ =>
       simp only at hR hN2
       rw [QD] at hN2
       simp only [ks, qn, qT, qA, yN, qV] at hN2
       refine XE 1 [3] hN2 (by simp [ZQ, Zh, frzL, Q7, isDL, isD]) ?_
       simp (maxSteps := 4000000) (disch := omega) only [rq, simprocAttr, Qj, qO]
       cases h3 : QaL all with
       | none =>
        rw [h3] at hM1 hR
        rw [hR]
        refine Qa hM1 ?_
        simp (maxSteps := 4000000) (disch := omega) only [rq, simprocAttr, yg]
        simp (maxSteps := 4000000) (disch := omega) only [rq, simprocAttr, Z8, ht, QP]
        simp [ZQ, Zh, frzL, Q7, Rp.av, QD, ks]
       | some l =>
        rw [h3] at hM1 hR
        simp only [QD] at hM1
        simp only at hR
        refine Qa hM1 ?_
        simp (maxSteps := 4000000) (disch := omega) only [rq, simprocAttr, qO]
        by_cases h5 : d.take 6 = [102, 111, 117, 110, 100, 32]
        case neg =>
         rw [qt h5] at hR
         rw [qt (by simpa using h5)] at hX1
         rw [hR]
         refine Qa hX1 ?_
         simp (maxSteps := 4000000) (disch := omega) only [rq, simprocAttr, yg]
         simp (maxSteps := 4000000) (disch := omega) only [rq, simprocAttr, Z8, ht, QP]
         simp [ZQ, Zh, frzL, Q7, Rp.av, QD, frzL_T _ (Qy .i64 l)]
        rw [qF h5] at hR
        rw [qF (by simpa using h5)] at hX1
        have hM2 := hM (d.drop 6) (by rw [yl]; omega)
        unfold Qcz at hM2
        simp only [qn, qT, qV, Nat.reduceAdd] at hX1
        refine Qa hX1 ?_
        simp (maxSteps := 4000000) (disch := omega) only [rq, simprocAttr, qO]
        cases h6 : QaL (d.drop 6) with
        | none =>
         rw [h6] at hM2 hR
         rw [hR]
         refine Qa hM2 ?_
         simp (maxSteps := 4000000) (disch := omega) only [rq, simprocAttr, yg]
         simp (maxSteps := 4000000) (disch := omega) only [rq, simprocAttr, Z8, ht, QP]
         simp [ZQ, Zh, frzL, Q7, Rp.av, QD, frzL_T _ (Qy .i64 l)]
        | some fs =>
         rw [h6] at hM2 hR
         by_cases h7 : fs.length = 4
         case neg =>
          have hR' : rdQ s = (⟨f, c, bb, r, n, m, l, 0, 0, 0, 0⟩, false) := by
           rw [hR]
           split
           ·rename_i h; cases h; exact absurd rfl h7
           ·rfl
          rw [hR']
          simp only [QD] at hM2
          by_cases h8 : fs.length < 4
          ·have : ¬ (fs.length : Int) = 4 := by omega
           refine Qa hM2 ?_
           simp (maxSteps := 4000000) (disch := omega) only [rq, simprocAttr, qO]
           simp (maxSteps := 4000000) (disch := omega) only [rq, simprocAttr, Z8, ht, QP]
           simp [ZQ, Zh, frzL, Q7, Rp.av, QD, frzL_T _ (Qy .i64 l)]
          ·refine Qa hM2 ?_
           simp (maxSteps := 4000000) (disch := omega) only [rq, simprocAttr, qO]
           simp (maxSteps := 4000000) (disch := omega) only [rq, simprocAttr, Z8, ht, QP]
           simp [ZQ, Zh, frzL, Q7, Rp.av, QD, frzL_T _ (Qy .i64 l)]
         match fs, h7 with
         | [e, p, q, g], _ =>
          simp only at hR hM2
          rw [QD] at hM2
          simp only [ks, qn, qT, qA, yN, qV, Nat.reduceAdd] at hM2
          by_cases h8 : 0 ≤ p
          case neg =>
           rw [qt fun h => h8 h.1] at hR
           rw [hR]
           refine Qa hM2 ?_
           simp (maxSteps := 4000000) (disch := omega) only [rq, simprocAttr, qO]
           simp (maxSteps := 4000000) (disch := omega) only [rq, simprocAttr, Z8, ht, QP]
           simp [ZQ, Zh, frzL, Q7, Rp.av, QD, frzL_T _ (Qy .i64 l)]
          by_cases h9 : p ≤ 6
          case neg =>
           rw [qt fun h => h9 h.2] at hR
           rw [hR]
           refine Qa hM2 ?_
           simp (maxSteps := 4000000) (disch := omega) only [rq, simprocAttr, qO]
           simp (maxSteps := 4000000) (disch := omega) only [rq, simprocAttr, Z8, ht, QP]
           simp [ZQ, Zh, frzL, Q7, Rp.av, QD, frzL_T _ (Qy .i64 l)]
          rw [qF ⟨h8, h9⟩] at hR
          rw [hR]
          refine Qa hM2 ?_
          simp (maxSteps := 4000000) (disch := omega) only [rq, simprocAttr, qO]
          simp (maxSteps := 4000000) (disch := omega) only [rq, simprocAttr, Z8, ht, QP]
          simp [ZQ, Zh, frzL, Q7, Rp.av, QD, frzL_T _ (Qy .i64 l)]
theorem Qh2 {s : List UInt8} {v : Int} (h : Qah s = some v) : -9223372036854775808 ≤ v ∧ v ≤ 9223372036854775807 := by
 have := Qh3 s
 rw [QgX h] at this
 exact this
theorem J5 : ∀ {L : List (List UInt8)} {l : List Int}, L.mapM Qah = some l → l.length = L.length ∧ ∀ v ∈ l, -9223372036854775808 ≤ v ∧ v ≤ 9223372036854775807
 | [], l, h => by simp at h; subst h; exact ⟨rfl, fun v hv => by cases hv⟩
 | p :: L, l, h => by
  simp only [qM, qJ, ql, qe, qd] at h
  obtain ⟨v, hv, r, hr, rfl⟩ := h
  obtain ⟨h1, h2⟩ := J5 hr
  refine ⟨by simp [h1], fun u hu => ?_⟩
  rcases qq.1 hu with rfl | hu
  ·exact Qh2 hv
  ·exact h2 u hu
theorem QgN {s : List UInt8} (hs : s.length ≤ 999999) (h : (rdQ s).2 = true) : rpB (rdQ s).1 := by
 have hpp := J2 10 s
 generalize hq : rdQ s = y at h ⊢
 unfold rdQ at hq
 split at hq
 case h_2 => subst hq; cases h
 rename_i a b d h10
 have lb : b.length ≤ 999999 := qU (hpp b (by rw [h10]; simp)) hs
 split at hq
 case h_2 => subst hq; cases h
 rename_i f c bb r n h1
 split at hq
 case h_2 => subst hq; cases h
 rename_i w all hcut
 have hcl := (Qho b [58, 32]).2
 rw [hcut] at hcl
 split at hq
 case h_2 => subst hq; cases h
 rename_i m h2
 split at hq
 case h_2 => subst hq; cases h
 rename_i l h3
 split at hq
 case isFalse => subst hq; cases h
 split at hq
 case h_2 => subst hq; cases h
 rename_i e p q g h4
 split at hq
 case isFalse => subst hq; cases h
 rename_i hp
 subst hq
 obtain ⟨k1, k2⟩ := J5 h3
 have := Qcw 32 all
 exact ⟨by simp only at hcl ⊢; omega, k2, hp.1, by simp only; omega⟩
def Qc6 (P : Prg) (f : Nat) : Prop := ∀ s : List UInt8, s.length ≤ 999999 → (∀ x, Qb3 x → txt x = s → VC P f [.str s] (.tup [x.av, .int .i64 0])) ∧ ((¬ ∃ x, Qb3 x ∧ txt x = s) → VC P f [.str s] (.tup [Rp.zero.av, .int .i64 12]))
theorem QfS {P : Prg} {f fR fC t0 : Nat} (bd : Body P f 20 [.cell 2 t0, .tmp 3] (ZB fR fC t0)) (hR : Qjr P fR) (hC : ZC P fC) (ht : QaW P t0 = some (some 11)) : Qc6 P f := by
 intro s hs
 have hR' := hR s (by omega)
 refine ⟨fun x hx htx => ?_, fun hno => ?_⟩
 ·refine QZ 1 rfl (by simp [isD, isDL, XJ]) (Qi bd (by simp) ?_)
  have h1 : rdO s = some x := by rw [← htx]; exact Qjx hx
  unfold rdO at h1
  split at h1
  case isFalse => cases h1
  rename_i h2
  have hb := QgN hs h2
  cases h1
  have hC' := hC _ hb
  have e0 : rpN (rdQ s).1 = 0 := qF hx
  rw [e0] at hC'
  rw [h2] at hR'
  generalize (rdQ s).1 = x at *
  rw [Rp.av, QD] at hR' hC' ⊢
  simp (maxSteps := 4000000) (disch := omega) only [rq, simprocAttr, ZB]
  refine Qa hR' ?_
  simp (maxSteps := 4000000) (disch := omega) only [rq, simprocAttr, qO]
  refine Qa hC' ?_
  simp (maxSteps := 4000000) (disch := omega) only [rq, simprocAttr]
  simp (maxSteps := 4000000) (disch := omega) only [rq, simprocAttr, Z8, ht, QP]
  simp [ZQ, Zh, frzL, Q7, frzL_T _ (Qy .i64 x.l)]
 ·refine QZ 1 rfl (by simp [isD, isDL, XJ]) (Qi bd (by simp) ?_)
  cases h2 : (rdQ s).2 with
  | false =>
   rw [h2] at hR'
   generalize (rdQ s).1 = x at *
   rw [Rp.av, QD] at hR'
   simp (maxSteps := 4000000) (disch := omega) only [rq, simprocAttr, ZB]
   refine Qa hR' ?_
   simp (maxSteps := 4000000) (disch := omega) only [rq, simprocAttr, yg]
   simp (maxSteps := 4000000) (disch := omega) only [rq, simprocAttr, Z8, ht, QP]
   simp [ZQ, Zh, frzL, Q7, Rp.av, Rp.zero, QD, ks]
  | true =>
   have hb := QgN hs h2
   have hC' := hC _ hb
   have hrd : rdO s = some (rdQ s).1 := by unfold rdO; rw [qF h2]
   have e8 : rpN (rdQ s).1 = 8 := qt fun hx => hno ⟨_, hx, QjG hrd⟩
   rw [e8] at hC'
   rw [h2] at hR'
   generalize (rdQ s).1 = x at *
   rw [Rp.av, QD] at hR' hC'
   simp (maxSteps := 4000000) (disch := omega) only [rq, simprocAttr, ZB]
   refine Qa hR' ?_
   simp (maxSteps := 4000000) (disch := omega) only [rq, simprocAttr, qO]
   refine Qa hC' ?_
   simp (maxSteps := 4000000) (disch := omega) only [rq, simprocAttr]
   simp (maxSteps := 4000000) (disch := omega) only [rq, simprocAttr, Z8, ht, QP]
   simp [ZQ, Zh, frzL, Q7, Rp.av, Rp.zero, QD, ks]
def QhD (tB : Nat) (P : Prg) (f : Nat) : Prop := ∀ (ob : List Ob) (p : Nat) (c0 c : AV) (K : AV → List Ob → Prop), (c0 = .lit (.pointer none) ∨ c0 = .ref p 1 0) → ob[p]? = some ⟨tB, 2, 1, [c0, c], 0⟩ → K (.tup []) (ob.set p ⟨tB, 2, 1, [.ref p 1 0, c], 0⟩) → ACall P f [.ref p 1 0] ob K
section
open Go.Shelf Go.Proofs
theorem QjM {P : Prg} {tB fC : Nat} (hN : CopyNew P.prog tB fC) (hO : CopyOld P.prog fC) (hE : Enters P fC) : QhD tB P fC := fun ob p c0 c K h0 hp hK => by
 rcases h0 with rfl | rfl
 ·exact ACall.copy_fresh hN hE hp hK
 ·refine ACall.copy_used hO hE hp ?_
  have e : ob.set p ⟨tB, 2, 1, [.ref p 1 0, c], 0⟩ = ob := by
   apply ym
   intro i
   rw [qp]
   split
   ·rename_i e; subst e; split
    ·exact hp.symm
    ·rename_i h; exact absurd (qb.1 hp).1 h
   ·rfl
  rw [e] at hK
  exact hK
end
def Qfw (tB tb : Nat) (P : Prg) (f : Nat) : Prop := ∀ (x0 x1 x2 : Ob) (rest : List Ob) (c0 : AV) (l s : List UInt8) (K : AV → List Ob → Prop), (c0 = .lit (.pointer none) ∨ c0 = .ref 3 1 0) → l.length + s.length ≤ 1000000 →
 K (.tup [.int .i64 s.length, .lit .nilIface]) (x0 :: x1 :: x2 :: ⟨tB, 2, 1, [.ref 3 1 0, .own 4 (l.length + s.length)], 0⟩ :: ⟨tb, 1, l.length + s.length, u8 (l ++ s), 0⟩ :: rest) →
 ACall P f [.ref 3 1 0, .str s] (x0 :: x1 :: x2 :: ⟨tB, 2, 1, [c0, .own 4 l.length], 0⟩ :: ⟨tb, 1, l.length, u8 l, 0⟩ :: rest) K
theorem Qbt {P : Prg} {f fC tb tB : Nat} (bd : Body P f 19 [.tmp 4, .tmp 5] (Qz fC tb)) (hC : QhD tB P fC) : Qfw tB tb P f := by
 intro x0 x1 x2 rest c0 l s K h0 hl hK
 refine Qi bd (by simp) ?_
 simp (maxSteps := 4000000) (disch := omega) only [rq, simprocAttr, Qz]
 refine hC _ 3 c0 _ _ h0 rfl ?_
 simp (maxSteps := 4000000) (disch := omega) only [rq, simprocAttr]
 exact hK
def Zi (w : List UInt8) (l : List Int) : List UInt8 := w ++ (l.map fun n => 32 :: Lib.itoa n).flatten
theorem Xe (w : List UInt8) : ∀ l : List Int, (∀ v ∈ l, -9223372036854775808 ≤ v ∧ v ≤ 9223372036854775807) → (Zi w l).length ≤ w.length + 22 * l.length := by
 intro l
 unfold Zi
 rw [qm]
 induction l with
 | nil => intro _; simp
 | cons n l ih =>
  intro h
  have h1 := ih fun v hv => h v (qG _ hv)
  have h2 := Lib.itoa_length_le n (h n (by simp)).1 (h n (by simp)).2
  simp only [qA, y8, qm, qn]
  omega
theorem Qe1 (w : List UInt8) (l : List Int) (n : Int) : Zi w (l ++ [n]) = Zi w l ++ (32 :: Lib.itoa n) := by simp [Zi]
def Qjq (tB tb ti : Nat) (P : Prg) (f : Nat) : Prop := ∀ (x0 x1 x2 : Ob) (rest : List Ob) (c0 : AV) (l w : List UInt8) (A : AV) (ns : List Int) (K : AV → List Ob → Prop), (c0 = .lit (.pointer none) ∨ c0 = .ref 3 1 0) →
 (A = QD ns ∨ ∃ j, A = .own (j + 5) ns.length ∧ rest[j]? = some ⟨ti, 1, ns.length, ks .i64 ns, 0⟩) → (∀ v ∈ ns, -9223372036854775808 ≤ v ∧ v ≤ 9223372036854775807) → l.length + w.length + 22 * ns.length ≤ 1000000 →
 (K (.tup []) (x0 :: x1 :: x2 :: ⟨tB, 2, 1, [.ref 3 1 0, .own 4 (l ++ Zi w ns).length], 0⟩ :: ⟨tb, 1, (l ++ Zi w ns).length, u8 (l ++ Zi w ns), 0⟩ :: rest)) →
 ACall P f [.str w, A, .ref 3 1 0] (x0 :: x1 :: x2 :: ⟨tB, 2, 1, [c0, .own 4 l.length], 0⟩ :: ⟨tb, 1, l.length, u8 l, 0⟩ :: rest) K
theorem Qg3 {P : Prg} {f fW fI tB tb ti : Nat} (bd : Body P f 20 [] (ZA fW fI)) (hW : Qfw tB tb P fW) (hI : S_Itoa P fI) : Qjq tB tb ti P f := by
 intro x0 x1 x2 rest c0 l w A ns K h0 hA hb hl hK
 refine Qi bd (by simp) ?_
 have hlen : ∀ i, i ≤ ns.length → (l ++ Zi w (ns.take i)).length + 22 ≤ 1000000 + 22 := fun i hi => by
  have h1 := Xe w (ns.take i) fun v hv => hb v (qu hv)
  have h2 : (ns.take i).length ≤ i := by simp; omega
  rw [qm]
  omega
 have stp : ∀ i (hi : i < ns.length), l ++ Zi w (ns.take (i + 1)) = (l ++ Zi w (ns.take i)) ++ (32 :: Lib.itoa ns[i]) := fun i hi => by
  rw [qx hi, Qe1, qH]
 have hit : ∀ i (hi : i < ns.length), S_Itoa P fI → VC P fI [.int .i64 ns[i]] (.str (Lib.itoa ns[i])) := fun i hi h => h _ (hb _ (q8 hi)).1 (hb _ (q8 hi)).2
 let S : Nat → List Ob := fun i => x0 :: x1 :: x2 :: ⟨tB, 2, 1, [.ref 3 1 0, .own 4 (l ++ Zi w (ns.take i)).length], 0⟩ :: ⟨tb, 1, (l ++ Zi w (ns.take i)).length, u8 (l ++ Zi w (ns.take i)), 0⟩ :: rest
 have hnl : ns.length ≤ 1000000 := by omega
 have s0 : Zi w (ns.take 0) = w := by simp [Zi]
 have hw : l.length + w.length ≤ 1000000 := by omega
 rcases hA with rfl | ⟨j, rfl, hj⟩
 ·simp (maxSteps := 4000000) (disch := omega) only [rq, simprocAttr, ZA, QD]
  refine hW x0 x1 x2 rest c0 l w _ h0 hw ?_
  simp (maxSteps := 4000000) (disch := omega) only [rq, simprocAttr]
  refine Zg (ι := Nat) (fun i => ⟨[(11, .int .i64 i), (10, .int .i64 ns.length), (9, .list ns.length (ks .i64 ns)), (2, .ref 3 1 0)], S i⟩) (fun i => i ≤ ns.length) (fun i => ns.length - i) 0
   (by simp only [S, s0, qm]; exact QJ) (yi _) ?_
  intro i hi
  by_cases hi2 : i < ns.length
  ·have hI' := hit i hi2 hI
   have la : (ks .i64 ns).drop i = .int .i64 ns[i] :: (ks .i64 ns).drop (i + 1) := by
    have h := Qg4 (K := .i64) (l := ns) (i := i) hi2
    rw [← JB] at h
    simpa [qg, hi2] using h
   have hil := Lib.itoa_length_le ns[i] (hb _ (q8 hi2)).1 (hb _ (q8 hi2)).2
   have hst := stp i hi2
   have hL := hlen i hi
   have hL1 := hlen (i + 1) hi2
   rw [hst, qm, qn] at hL1
   have hS1 : S (i + 1) = x0 :: x1 :: x2 :: ⟨tB, 2, 1, [.ref 3 1 0, .own 4 ((l ++ Zi w (ns.take i)).length + (32 :: Lib.itoa ns[i]).length)], 0⟩ :: ⟨tb, 1, (l ++ Zi w (ns.take i)).length + (32 :: Lib.itoa ns[i]).length, u8 ((l ++ Zi w (ns.take i)) ++ (32 :: Lib.itoa ns[i])), 0⟩ :: rest := by
    simp only [S]
    rw [hst, @List.length_append _ (l ++ Zi w (ns.take i))]
   have hS0 : S i = x0 :: x1 :: x2 :: ⟨tB, 2, 1, [.ref 3 1 0, .own 4 (l ++ Zi w (ns.take i)).length], 0⟩ :: ⟨tb, 1, (l ++ Zi w (ns.take i)).length, u8 (l ++ Zi w (ns.take i)), 0⟩ :: rest := rfl
   rw [hS0]
   generalize l ++ Zi w (ns.take i) = m at *
   simp (maxSteps := 4000000) (disch := omega) only [rq, simprocAttr, la, Qw]
   refine Qa hI' ?_
   have hsa : QbJ .add [32] (Lib.itoa ns[i]) = some (.str (32 :: Lib.itoa ns[i])) := by
    simp only [QbJ]
    rw [qF (by simp; omega)]
    rfl
   simp (maxSteps := 4000000) (disch := omega) only [rq, simprocAttr, hsa]
   refine hW x0 x1 x2 rest _ m _ _ (.inr rfl) (by simp only [qn]; omega) ?_
   simp (maxSteps := 4000000) (disch := omega) only [rq, simprocAttr]
   refine ⟨i + 1, hi2, by omega, ?_⟩
   rw [hS1]
   exact QJ
  ·obtain rfl : i = ns.length := by omega
   simp (maxSteps := 4000000) (disch := omega) only [rq, simprocAttr]
   simp only [S, yb]
   exact hK
 ·have hj5 : ∀ a b c d e : Ob, (a :: b :: c :: d :: e :: rest)[j + 5]? = some ⟨ti, 1, ns.length, ks .i64 ns, 0⟩ := fun a b c d e => hj
  simp (maxSteps := 4000000) (disch := omega) only [rq, simprocAttr, ZA]
  refine hW x0 x1 x2 rest c0 l w _ h0 hw ?_
  simp (maxSteps := 4000000) (disch := omega) only [rq, simprocAttr, hj5]
  refine Zg (ι := Nat) (fun i => ⟨[(11, .int .i64 i), (10, .int .i64 ns.length), (9, .own (j + 5) ns.length), (2, .ref 3 1 0)], S i⟩) (fun i => i ≤ ns.length) (fun i => ns.length - i) 0
   (by simp only [S, s0, qm]; exact QJ) (yi _) ?_
  intro i hi
  by_cases hi2 : i < ns.length
  ·have hI' := hit i hi2 hI
   have la : (ks .i64 ns).drop i = .int .i64 ns[i] :: (ks .i64 ns).drop (i + 1) := by
    have h := Qg4 (K := .i64) (l := ns) (i := i) hi2
    rw [← JB] at h
    simpa [qg, hi2] using h
   have hil := Lib.itoa_length_le ns[i] (hb _ (q8 hi2)).1 (hb _ (q8 hi2)).2
   have hst := stp i hi2
   have hL := hlen i hi
   have hL1 := hlen (i + 1) hi2
   rw [hst, qm, qn] at hL1
   have hS1 : S (i + 1) = x0 :: x1 :: x2 :: ⟨tB, 2, 1, [.ref 3 1 0, .own 4 ((l ++ Zi w (ns.take i)).length + (32 :: Lib.itoa ns[i]).length)], 0⟩ :: ⟨tb, 1, (l ++ Zi w (ns.take i)).length + (32 :: Lib.itoa ns[i]).length, u8 ((l ++ Zi w (ns.take i)) ++ (32 :: Lib.itoa ns[i])), 0⟩ :: rest := by
    simp only [S]
    rw [hst, @List.length_append _ (l ++ Zi w (ns.take i))]
   have hS0 : S i = x0 :: x1 :: x2 :: ⟨tB, 2, 1, [.ref 3 1 0, .own 4 (l ++ Zi w (ns.take i)).length], 0⟩ :: ⟨tb, 1, (l ++ Zi w (ns.take i)).length, u8 (l ++ Zi w (ns.take i)), 0⟩ :: rest := rfl
   rw [hS0]
   generalize l ++ Zi w (ns.take i) = m at *
   simp (maxSteps := 4000000) (disch := omega) only [rq, simprocAttr, hj5, la, Qw]
   refine Qa hI' ?_
   have hsa : QbJ .add [32] (Lib.itoa ns[i]) = some (.str (32 :: Lib.itoa ns[i])) := by
    simp only [QbJ]
    rw [qF (by simp; omega)]
    rfl
   simp (maxSteps := 4000000) (disch := omega) only [rq, simprocAttr, hsa]
   refine hW x0 x1 x2 rest _ m _ _ (.inr rfl) (by simp only [qn]; omega) ?_
   simp (maxSteps := 4000000) (disch := omega) only [rq, simprocAttr]
   refine ⟨i + 1, hi2, by omega, ?_⟩
   rw [hS1]
   exact QJ
  ·obtain rfl : i = ns.length := by omega
   simp (maxSteps := 4000000) (disch := omega) only [rq, simprocAttr]
   simp only [S, yb]
   exact hK
def QhF (tB tb : Nat) (P : Prg) (f : Nat) : Prop := ∀ (ob : List Ob) (p o : Nat) (c : AV) (l : List UInt8) (K : AV → List Ob → Prop), ob[p]? = some ⟨tB, 2, 1, [c, .own o l.length], 0⟩ → ob[o]? = some ⟨tb, 1, l.length, u8 l, 0⟩ → l ≠ [] → K (.str l) (ob.set o ⟨tb, 1, l.length, u8 l, fzAll + l.length⟩) → ACall P f [.ref p 1 0] ob K
section
open Go.Shelf Go.Proofs
theorem QjN {P : Prg} {ρ : Ren} (L : Lays.n169 P.prog ρ) (X5 : Builder.Extra P.prog ρ) (hE : Enters P (ρ.f 169)) : QhF (ρ.t 72) (ρ.t 5) P (ρ.f 169) := fun ob p o c l K hp ho h0 hK => ACall.bld_string L X5 hE hp ho h0 hK
end
theorem QdR : ∀ {l : List Int}, l ≠ [] → (l.map fun n => 32 :: Lib.itoa n).flatten = 32 :: ZI 32 (l.map Lib.itoa)
 | [], h => absurd rfl h
 | [n], _ => by simp [ZI]
 | n :: k :: l, _ => by
  have h := QdR (l := k :: l) (by simp)
  rw [qA, y8, h, qA (a := n), Qb9 32 _ (by simp)]
  simp
def Qb1 (x : Rp) : List UInt8 := Zi wF1 [x.f] ++ Zi (32 :: wC1) [x.c] ++ Zi (32 :: wB1) [x.b] ++ Zi (32 :: wR1) [x.r] ++ Zi (32 :: wN1) [x.n] ++ Zi (10 :: wF2) [x.m] ++ Zi [58] x.l ++ Zi (10 :: wF3) [x.e, x.p, x.q, x.g] ++ [10]
theorem Qek {x : Rp} (h : x.l ≠ []) : Qb1 x = txt x := by
 unfold Qb1 txt ln1 ln2 ln3
 simp only [Zi, QdR h, ZI, qA, yN, y8, List.flatten_nil, yE, qH, qP, List.nil_append, wF1, wC1, wB1, wR1, wN1, wF2, wF3]
def Qcn (x : Rp) : AV := if Qb3 x then .tup [.str (txt x), .int .i64 0] else .tup [.str [], .int .i64 8]
def Qc5 (P : Prg) (f : Nat) : Prop := ∀ x : Rp, rpB x → VC P f [x.av] (Qcn x)
theorem QfR {P : Prg} {f fC g fW fS t0 t1 t2 t3 t4 tb : Nat} (bd : Body P f 70 [.tmp 2, .tmp 3] (ZY fC g fW fS t0 t1 t2 t3 t4)) (hC : ZC P fC) (hY : Qjq t3 tb t4 P g) (hW : Qfw t3 tb P fW) (hS : QhF t3 tb P fS) : Qc5 P f := by
 intro x hb
 have hC' := hC x hb
 refine QZ 1 (by simp [isDL, XJ]) (by unfold Qcn; split <;> rfl) (ACall.of_cuts [false, false, true, false, false, true] bd (by simp) ?_)
 by_cases hx : Qb3 x
 case neg =>
  have e1 : rpN x = 8 := qt hx
  have e2 : Qcn x = .tup [.str [], .int .i64 8] := qt hx
  rw [e1] at hC'
  rw [e2]
  rw [Rp.av, QD] at hC' ⊢
  simp (maxSteps := 4000000) (disch := omega) only [rq, simprocAttr, QQ, ZY]
  refine Qa hC' ?_
  simp (maxSteps := 4000000) (disch := omega) only [rq, simprocAttr, QQ]
  simp [ZQ, Zh, frzL, Q7]
 have e1 : rpN x = 0 := qF hx
 have e2 : Qcn x = .tup [.str (txt x), .int .i64 0] := qF hx
 rw [e1] at hC'
 obtain ⟨h1, h2, h3, h4, h5, h6, h7, h8, h9, h10, h11, h12, h13⟩ := hx
 obtain ⟨k1, k2, k3⟩ := Qak h2
 obtain ⟨⟨s1, s2, s3, s4, s5, s6, s7⟩, _⟩ := Qbk h1
 have s8 := QdQ h1
 rw [e2, ← Qek k1]
 have one : ∀ {v : Int}, -9223372036854775808 ≤ v ∧ v ≤ 9223372036854775807 → ∀ u ∈ [v], -9223372036854775808 ≤ u ∧ u ≤ 9223372036854775807 := fun {v} h u hu => by simp only [qI] at hu; rw [hu]; exact h
 have four : ∀ u ∈ [x.e, x.p, x.q, x.g], -9223372036854775808 ≤ u ∧ u ≤ 9223372036854775807 := fun u hu => by
  simp only [qq, yc, or_false] at hu
  rcases hu with rfl | rfl | rfl | rfl <;> omega
 have lbig : ∀ u ∈ x.l, -9223372036854775808 ≤ u ∧ u ≤ 9223372036854775807 := fun u hu => by have := k3 u hu; omega
 obtain ⟨m1, e1, b1⟩ : ∃ m : List UInt8, m = [] ++ Zi wF1 [x.f] ∧ m.length ≤ 40 := ⟨_, rfl, by have := Xe wF1 [x.f] (one (by omega)); simp [wF1] at this ⊢; omega⟩
 obtain ⟨m2, e2, b2⟩ : ∃ m : List UInt8, m = m1 ++ Zi (32 :: wC1) [x.c] ∧ m.length ≤ 80 := ⟨_, rfl, by have := Xe (32 :: wC1) [x.c] (one (by omega)); simp [wC1] at this ⊢; omega⟩
 obtain ⟨m3, e3, b3⟩ : ∃ m : List UInt8, m = m2 ++ Zi (32 :: wB1) [x.b] ∧ m.length ≤ 120 := ⟨_, rfl, by have := Xe (32 :: wB1) [x.b] (one (by omega)); simp [wB1] at this ⊢; omega⟩
 obtain ⟨m4, e4, b4⟩ : ∃ m : List UInt8, m = m3 ++ Zi (32 :: wR1) [x.r] ∧ m.length ≤ 160 := ⟨_, rfl, by have := Xe (32 :: wR1) [x.r] (one (by omega)); simp [wR1] at this ⊢; omega⟩
 obtain ⟨m5, e5, b5⟩ : ∃ m : List UInt8, m = m4 ++ Zi (32 :: wN1) [x.n] ∧ m.length ≤ 200 := ⟨_, rfl, by have := Xe (32 :: wN1) [x.n] (one (by omega)); simp [wN1] at this ⊢; omega⟩
 obtain ⟨m6, e6, b6⟩ : ∃ m : List UInt8, m = m5 ++ Zi (10 :: wF2) [x.m] ∧ m.length ≤ 240 := ⟨_, rfl, by have := Xe (10 :: wF2) [x.m] (one (by omega)); simp [wF2] at this ⊢; omega⟩
 obtain ⟨m7, e7, b7⟩ : ∃ m : List UInt8, m = m6 ++ Zi [58] x.l ∧ m.length ≤ 23000 := ⟨_, rfl, by have := Xe [58] x.l lbig; simp at this ⊢; omega⟩
 obtain ⟨m8, e8, b8⟩ : ∃ m : List UInt8, m = m7 ++ Zi (10 :: wF3) [x.e, x.p, x.q, x.g] ∧ m.length ≤ 24000 := ⟨_, rfl, by have := Xe (10 :: wF3) [x.e, x.p, x.q, x.g] four; simp [wF3] at this ⊢; omega⟩
 have e9 : Qb1 x = m8 ++ [10] := by rw [e8, e7, e6, e5, e4, e3, e2, e1]; simp [Qb1]
 rw [e9]
 rw [Rp.av, QD] at hC' ⊢
 simp (maxSteps := 4000000) (disch := omega) only [rq, simprocAttr, QQ, ZY]
 refine Qa hC' ?_
 simp (maxSteps := 4000000) (disch := omega) only [rq, simprocAttr, QQ]
 refine JO ⟨[(1, .cell [.int .i64 x.f, .int .i64 x.c, .int .i64 x.b, .int .i64 x.r, .int .i64 x.n, .int .i64 x.m, .list x.l.length (ks .i64 x.l), .int .i64 x.e, .int .u8 x.p, .int .i64 x.q, .int .i64 x.g])], _⟩ (Le.still [0] 1 (by simp [Am.look, Zh, frzL, Q7, isDL, isD, Xg, frzL_T _ (Qy .i64 x.l)])) ?_
 simp (maxSteps := 4000000) (disch := omega) only [rq, simprocAttr, QQ, Qj]
 refine JO ⟨[(1, .cell [.int .i64 x.f, .int .i64 x.c, .int .i64 x.b, .int .i64 x.r, .int .i64 x.n, .int .i64 x.m, .list x.l.length (ks .i64 x.l), .int .i64 x.e, .int .u8 x.p, .int .i64 x.q, .int .i64 x.g]), (5, .ref 1 1 0), (6, .ref 2 1 0), (7, .ref 3 1 0)], _⟩ (Le.trans (Le.virtC 3 1 tb 1 (by decide) rfl rfl) (XI (by simp [Am.look, Q3]))) ?_
 simp (maxSteps := 4000000) (disch := omega) only [rq, simprocAttr, QQ]
 refine hY _ _ _ [_] _ [] wF1 _ [x.f] _ (.inl rfl) (.inr ⟨0, rfl, rfl⟩) (one (by omega)) (by simp [wF1]) ?_
 rw [← e1]
 simp (maxSteps := 4000000) (disch := omega) only [rq, simprocAttr, QQ]
 refine hY _ _ _ [_, _] _ m1 (32 :: wC1) _ [x.c] _ (.inr rfl) (.inr ⟨1, rfl, rfl⟩) (one (by omega)) (by simp [wC1]; omega) ?_
 rw [← e2]
 simp (maxSteps := 4000000) (disch := omega) only [rq, simprocAttr, QQ]
 refine hY _ _ _ [_, _, _] _ m2 (32 :: wB1) _ [x.b] _ (.inr rfl) (.inr ⟨2, rfl, rfl⟩) (one (by omega)) (by simp [wB1]; omega) ?_
 rw [← e3]
 simp (maxSteps := 4000000) (disch := omega) only [rq, simprocAttr, QQ]
 refine hY _ _ _ [_, _, _, _] _ m3 (32 :: wR1) _ [x.r] _ (.inr rfl) (.inr ⟨3, rfl, rfl⟩) (one (by omega)) (by simp [wR1]; omega) ?_
 rw [← e4]
 simp (maxSteps := 4000000) (disch := omega) only [rq, simprocAttr, QQ]
 refine hY _ _ _ [_, _, _, _, _] _ m4 (32 :: wN1) _ [x.n] _ (.inr rfl) (.inr ⟨4, rfl, rfl⟩) (one (by omega)) (by simp [wN1]; omega) ?_
 rw [← e5]
 simp (maxSteps := 4000000) (disch := omega) only [rq, simprocAttr, QQ]
 refine hY _ _ _ [_, _, _, _, _, _] _ m5 (10 :: wF2) _ [x.m] _ (.inr rfl) (.inr ⟨5, rfl, rfl⟩) (one (by omega)) (by simp [wF2]; omega) ?_
 rw [← e6]
 simp (maxSteps := 4000000) (disch := omega) only [rq, simprocAttr, QQ]
 refine hY _ _ _ [_, _, _, _, _, _] _ m6 [58] _ x.l _ (.inr rfl) (.inl rfl) lbig (by simp; omega) ?_
 rw [← e7]
 simp (maxSteps := 4000000) (disch := omega) only [rq, simprocAttr, QQ]
 refine hY _ _ _ [_, _, _, _, _, _, _] _ m7 (10 :: wF3) _ [x.e, x.p, x.q, x.g] _ (.inr rfl) (.inr ⟨6, rfl, rfl⟩) four (by simp [wF3]; omega) ?_
 rw [← e8]
 simp (maxSteps := 4000000) (disch := omega) only [rq, simprocAttr, QQ]
 refine hW _ _ _ [_, _, _, _, _, _, _] _ m8 [10] _ (.inr rfl) (by simp; omega) ?_
 simp (maxSteps := 4000000) (disch := omega) only [rq, simprocAttr, QQ]
 refine hS _ 3 4 (.ref 3 1 0) (m8 ++ [10]) _ (by simp) (by simp) (by simp) ?_
 simp (maxSteps := 4000000) (disch := omega) only [rq, simprocAttr, QQ]
 simp [ZQ, Zh, frzL, Q7]
theorem QdA {P : Prg} {g t0 : Nat} (bd : Body P g 51 [.tmp 2] (Qd t0)) : Je P g := by
 intro f c b r n
 refine Z5 rfl rfl bd ?_
 by_cases hf : f = 1 ∨ f = 2
 case neg =>
  have hn : decide (shP f c b r n) = false := decide_eq_false fun h => hf h.2.1
  rw [hn]
  simp (maxSteps := 4000000) (disch := omega) only [rq, simprocAttr, Qd, hdA]
 by_cases hc1 : 1 ≤ c
 case neg =>
  have hn : decide (shP f c b r n) = false := decide_eq_false fun h => hc1 h.2.2.1
  rw [hn]
  rcases hf with rfl | rfl <;> simp (maxSteps := 4000000) (disch := omega) only [rq, simprocAttr, Qd, hdA]
 by_cases hc2 : c ≤ 6
 case neg =>
  have hn : decide (shP f c b r n) = false := decide_eq_false fun h => hc2 h.2.2.2.1
  rw [hn]
  rcases hf with rfl | rfl <;> simp (maxSteps := 4000000) (disch := omega) only [rq, simprocAttr, Qd, hdA]
 by_cases hb : b = 8 ∨ b = 16 ∨ b = 24
 case neg =>
  have hn : decide (shP f c b r n) = false := decide_eq_false fun h => hb h.1
  rw [hn]
  rcases hf with rfl | rfl <;> simp (maxSteps := 4000000) (disch := omega) only [rq, simprocAttr, Qd, hdA]
 by_cases hr1 : 1 ≤ r
 case neg =>
  have hn : decide (shP f c b r n) = false := decide_eq_false fun h => hr1 h.2.2.2.2.1
  rw [hn]
  rcases hb with rfl | rfl | rfl <;> rcases hf with rfl | rfl <;> simp (maxSteps := 4000000) (disch := omega) only [rq, simprocAttr, Qd, hdA]
 by_cases hr2 : r ≤ 1048576
 case neg =>
  have hn : decide (shP f c b r n) = false := decide_eq_false fun h => hr2 h.2.2.2.2.2.1
  rw [hn]
  rcases hb with rfl | rfl | rfl <;> rcases hf with rfl | rfl <;> simp (maxSteps := 4000000) (disch := omega) only [rq, simprocAttr, Qd, hdA]
 by_cases hn1 : 1 ≤ n
 case neg =>
  have hn : decide (shP f c b r n) = false := decide_eq_false fun h => hn1 h.2.2.2.2.2.2
  rw [hn]
  rcases hb with rfl | rfl | rfl <;> rcases hf with rfl | rfl <;> simp (maxSteps := 4000000) (disch := omega) only [rq, simprocAttr, Qd, hdA]
 have hn : decide (shP f c b r n) = true := decide_eq_true ⟨hb, hf, hc1, hc2, hr1, hr2, hn1⟩
 rw [hn]
 rcases hb with rfl | rfl | rfl <;> rcases hf with rfl | rfl <;> simp (maxSteps := 4000000) (disch := omega) only [rq, simprocAttr, Qd, hdA]
theorem Qfl {r : Int} {m : Nat} (h1 : 1 ≤ r) (h2 : r ≤ 1048576) (h3 : 1 ≤ m) (h4 : m ≤ 4000) : QhK r m = 0 ↔ (ZD (QG r).toNat m).length ≤ 1000 := by
 unfold QhK
 rw [qt (by omega), qt (by omega)]
 have p1 := XU r
 obtain ⟨L, hL⟩ : ∃ L : Nat, QG r = L := ⟨(QG r).toNat, by omega⟩
 rw [hL, qN, XX]
 rw [hL] at p1
 have e1 : (m : Int) + (L : Int) - 1 = ((m - 1 + L : Nat) : Int) := by omega
 rw [e1, ← jc, Nat.add_div_right _ (by omega)]
 split
 ·constructor
  ·intro h; cases h
  ·intro h; omega
 ·exact ⟨fun _ => by omega, fun _ => rfl⟩
def Qc3 (P : Prg) (g : Nat) : Prop := ∀ f c b r n : Int, shP f c b r n → VC P g [hdA f c b r n] (.bool (decide (¬ Qfh c r n)))
theorem QfM {P : Prg} {g fS t0 : Nat} (bd : Body P g 18 [.tmp 2] (QU fS t0)) (hS : Qaf P fS) : Qc3 P g := by
 intro f c b r n ⟨_, _, c1, c2, r1, r2, n1⟩
 refine JM rfl rfl (ACall.of_cut 1 bd (by simp) ?_)
 have q0 : ¬ c = 0 := by omega
 have q1 : (4000 : Int).tdiv c = 4000 / c := yf (by omega)
 have q2 : 0 ≤ 4000 / c := je (by omega) (by omega)
 have q3 : 4000 / c ≤ 4000 := yW _ (by omega)
 by_cases h1 : n ≤ 4000 / c
 case neg =>
  have hn : decide (¬ Qfh c r n) = true := decide_eq_true fun h => h1 h.1
  rw [hn]
  generalize hQ : 4000 / c = Q at *
  have hw : IntKind.i64.wrap Q = Q := X3 (by omega) (by omega)
  simp (maxSteps := 4000000) (disch := omega) only [rq, simprocAttr, Qjh, QU, hdA]
  refine ⟨⟨[(1, .cell [.int .i64 f, .int .i64 c, .int .i64 b, .int .i64 r, .int .i64 n])], []⟩, ZZ [] (by simp) (by simp [Am.look, Zh, frzL, Q7, isDL, isD]), ?_⟩
  simp (maxSteps := 4000000) (disch := omega) only [rq, simprocAttr, Qjh, q1, hQ, hw]
 obtain ⟨m, rfl⟩ : ∃ m : Nat, n = m := ⟨n.toNat, by omega⟩
 have h4 : (m : Int) ≤ 4000 := Int.le_trans h1 q3
 have m1 : 1 ≤ m := by clear h1 q1 q2 q3; omega
 have m2 : m ≤ 4000 := by clear h1 q1 q2 q3; omega
 have hS' := hS r m ⟨r1, r2, m1, m2⟩
 have hcl := Qfl (r := r) (m := m) r1 r2 m1 m2
 have hn : decide (¬ Qfh c r m) = decide (1000 < (ZD (QG r).toNat m).length) := by
  apply decide_eq_decide.2
  unfold Qfh
  rw [hcl]
  constructor
  ·intro h; have : ¬ (ZD (QG r).toNat m).length ≤ 1000 := fun h' => h ⟨h1, h'⟩; omega
  ·intro h h'; omega
 rw [hn]
 rw [QD] at hS'
 generalize ZD (QG r).toNat m = Ls at *
 generalize hQ : 4000 / c = Q at *
 have hw : IntKind.i64.wrap Q = Q := X3 (by omega) (by omega)
 simp (maxSteps := 4000000) (disch := omega) only [rq, simprocAttr, Qjh, QU, hdA]
 refine ⟨⟨[(1, .cell [.int .i64 f, .int .i64 c, .int .i64 b, .int .i64 r, .int .i64 m])], []⟩, ZZ [] (by simp) (by simp [Am.look, Zh, frzL, Q7, isDL, isD]), ?_⟩
 by_cases h2 : 1000 < Ls.length
 ·rw [decide_eq_true h2]
  simp (maxSteps := 4000000) (disch := omega) only [rq, simprocAttr, Qjh, q1, hQ, hw]
  refine Qo hS' ?_
  simp (maxSteps := 4000000) (disch := omega) only [rq, simprocAttr]
 ·rw [decide_eq_false h2]
  simp (maxSteps := 4000000) (disch := omega) only [rq, simprocAttr, Qjh, q1, hQ, hw]
  refine Qo hS' ?_
  simp (maxSteps := 4000000) (disch := omega) only [rq, simprocAttr]
theorem Qev {P : Prg} {g fS fM t0 : Nat} (bd : Body P g 10 [.tmp 2] (QB fS fM t0)) (hS : Je P fS) (hM : Qc3 P fM) : Xr P g := by
 intro f c b r n
 refine Z5 rfl rfl bd ?_
 have hS' := hS f c b r n
 by_cases h1 : shP f c b r n
 case neg =>
  have e : hdN f c b r n = 8 := qt fun h => h1 h.1
  rw [decide_eq_false h1] at hS'
  rw [e]
  rw [hdA] at hS' ⊢
  simp (maxSteps := 4000000) (disch := omega) only [rq, simprocAttr, QB]
  refine Qa hS' ?_
  simp (maxSteps := 4000000) (disch := omega) only [rq, simprocAttr, yg]
 have hM' := hM f c b r n h1
 rw [decide_eq_true h1] at hS'
 by_cases h2 : Qfh c r n
 ·have e : hdN f c b r n = 0 := qF ⟨h1, h2⟩
  rw [decide_eq_false (fun h => h h2)] at hM'
  rw [e]
  rw [hdA] at hS' hM' ⊢
  simp (maxSteps := 4000000) (disch := omega) only [rq, simprocAttr, QB]
  refine Qa hS' ?_
  simp (maxSteps := 4000000) (disch := omega) only [rq, simprocAttr, qO]
  refine Qa hM' ?_
  simp (maxSteps := 4000000) (disch := omega) only [rq, simprocAttr]
 ·have e : hdN f c b r n = 8 := qt fun h => h2 h.2
  rw [decide_eq_true h2] at hM'
  rw [e]
  rw [hdA] at hS' hM' ⊢
  simp (maxSteps := 4000000) (disch := omega) only [rq, simprocAttr, QB]
  refine Qa hS' ?_
  simp (maxSteps := 4000000) (disch := omega) only [rq, simprocAttr, qO]
  refine Qa hM' ?_
  simp (maxSteps := 4000000) (disch := omega) only [rq, simprocAttr]
theorem Qa7 : ∀ {l : List Int} {m : Int}, 0 ≤ m → (Qea m l ↔ (∀ v ∈ l, 5 ≤ v) ∧ l.sum ≤ m)
 | [], m, h => by simp [Qea, h]
 | a :: l, m, h => by
  simp only [Qea, qq, forall_eq_or_imp, List.sum_cons]
  constructor
  ·rintro ⟨h1, h2, h3⟩
   have := (Qa7 (l := l) (m := m - a) (by omega)).1 h3
   exact ⟨⟨h1, this.1⟩, by omega⟩
  ·rintro ⟨⟨h1, h2⟩, h3⟩
   have hs : 0 ≤ l.sum := by
    clear h3
    induction l with
    | nil => simp
    | cons b l ih => have := ih fun v hv => h2 v (qG _ hv); have := h2 b (by simp); simp; omega
   exact ⟨h1, by omega, (Qa7 (l := l) (m := m - a) (by omega)).2 ⟨h2, by omega⟩⟩
theorem Qdo : ∀ (l : List Int) (a : Int), (l ++ [a]).sum = l.sum + a
 | [], a => by simp
 | b :: l, a => by rw [qP, List.sum_cons, Qdo l a, List.sum_cons]; omega
theorem Qgn : ∀ {l : List Int}, (∀ v ∈ l, 5 ≤ v ∧ v ≤ 100000) → 0 ≤ l.sum ∧ l.sum ≤ 100000 * (l.length : Int)
 | [], _ => by simp
 | a :: l, h => by
  have h1 := Qgn (l := l) fun v hv => h v (qG _ hv)
  have h2 := h a (by simp)
  simp only [List.sum_cons, qn]
  omega
theorem Qet {P : Prg} {f : Nat} (bd : Body P f 39 [.tmp 2] QA) : Xq P f := by
 intro l hl hb
 refine Z5 (by simp [isDL, ZM]) rfl bd ?_
 by_cases h0 : l.length = 0 ∨ 1000 < l.length
 ·have e : skN l = 8 := qF h0
  rw [e]
  by_cases h1 : l.length < 1
  ·simp (maxSteps := 4000000) (disch := omega) only [rq, simprocAttr, QA, QD]
  ·simp (maxSteps := 4000000) (disch := omega) only [rq, simprocAttr, QA, QD]
 have hN : skN l = if Qea 100000 l then 0 else 8 := qt h0
 simp (maxSteps := 4000000) (disch := omega) only [rq, simprocAttr, QA, QD]
 refine Zg (ι := Nat) (fun i => ⟨[(4, .int .i64 i), (3, .int .i64 (l.take i).sum), (0, .list l.length (ks .i64 l))], []⟩) (fun i => i ≤ l.length ∧ ∀ v ∈ l.take i, 5 ≤ v ∧ v ≤ 100000) (fun i => l.length - i) 0
  (QJ) ⟨yi _, by simp⟩ ?_
 intro i ⟨hi, hv⟩
 have hsb := Qgn hv
 have htl : (l.take i).length = i := by simp; omega
 rw [htl] at hsb
 by_cases hi2 : i < l.length
 ·have la : (ks .i64 l).drop i = .int .i64 l[i] :: (ks .i64 l).drop (i + 1) := by
   have h := Qg4 (K := .i64) (l := l) (i := i) hi2
   rw [← JB] at h
   simpa [qg, hi2] using h
  have hs1 : (l.take (i + 1)).sum = (l.take i).sum + l[i] := by rw [qx hi2, Qdo]
  have hmem : l[i] ∈ l := q8 hi2
  have hv0 : ∀ u ∈ l.take (i + 1), u ∈ l.take i ∨ u = l[i] := fun u hu => by
   rw [qx hi2] at hu
   rcases qo.1 hu with hu | hu
   ·exact .inl hu
   ·exact .inr (by simpa using hu)
  generalize l[i] = v at *
  by_cases h1 : 5 ≤ v
  case neg =>
   have e : skN l = 8 := by rw [hN, qt fun h => h1 (((Qa7 (by omega)).1 h).1 v hmem)]
   rw [e]
   simp (maxSteps := 4000000) (disch := omega) only [rq, simprocAttr, la, Qw]
  by_cases h2 : v ≤ 100000
  case neg =>
   have e : skN l = 8 := by rw [hN, qt fun h => h2 (QeZ h v hmem).2]
   rw [e]
   simp (maxSteps := 4000000) (disch := omega) only [rq, simprocAttr, la, Qw]
  have hv1 : ∀ u ∈ l.take (i + 1), 5 ≤ u ∧ u ≤ 100000 := fun u hu => by
   rcases hv0 u hu with hu | rfl
   ·exact hv u hu
   ·exact ⟨h1, h2⟩
  generalize (l.take i).sum = S at *
  simp (maxSteps := 4000000) (disch := omega) only [rq, simprocAttr, la, Qw]
  refine ⟨i + 1, ⟨by omega, hv1⟩, by omega, ?_⟩
  rw [hs1]
  exact QJ
 ·obtain rfl : i = l.length := by omega
  rw [yb] at *
  by_cases h3 : l.sum ≤ 100000
  ·have e : skN l = 0 := by rw [hN, qF ((Qa7 (by omega)).2 ⟨fun v h => (hv v h).1, h3⟩)]
   rw [e]
   simp (maxSteps := 4000000) (disch := omega) only [rq, simprocAttr]
  ·have e : skN l = 8 := by rw [hN, qt fun h => h3 ((Qa7 (by omega)).1 h).2]
   rw [e]
   simp (maxSteps := 4000000) (disch := omega) only [rq, simprocAttr]
def QeR (P : Prg) (f : Nat) : Prop := ∀ a b : List Int, a.length ≤ 1000000 → b.length ≤ 1000000 → VC P f [QD a, QD b] (.bool (decide (a = b)))
theorem QcF {l : List Int} {i : Nat} (h : i < l.length) : (ks .i64 l).drop i = .int .i64 l[i] :: (ks .i64 l).drop (i + 1) := by
 have h1 := Qg4 (K := .i64) (l := l) (i := i) h
 rw [← JB] at h1
 simpa [qg, h] using h1
theorem Qes {P : Prg} {f : Nat} (bd : Body P f 26 [.tmp 4] Qu) : QeR P f := by
 intro a b ha hb
 refine Z5 (by simp [isDL, ZM]) rfl bd ?_
 by_cases h0 : a.length = b.length
 case neg =>
  have e : decide (a = b) = false := decide_eq_false fun h => h0 (by rw [h])
  have h1 : ¬ (a.length : Int) = b.length := by omega
  rw [e]
  by_cases h2 : a.length < b.length
  ·simp (maxSteps := 4000000) (disch := omega) only [rq, simprocAttr, Qu, QD]
  ·simp (maxSteps := 4000000) (disch := omega) only [rq, simprocAttr, Qu, QD]
 simp (maxSteps := 4000000) (disch := omega) only [rq, simprocAttr, Qu, QD]
 refine Zg (ι := Nat) (fun i => ⟨[(5, .int .i64 i), (0, .list a.length (ks .i64 a)), (1, .list b.length (ks .i64 b))], []⟩) (fun i => i ≤ a.length ∧ a.take i = b.take i) (fun i => a.length - i) 0
  (QJ) ⟨yi _, by simp⟩ ?_
 intro i ⟨hi, ht⟩
 by_cases hi2 : i < a.length
 ·have la := QcF hi2
  have lb := QcF (l := b) (i := i) (by omega)
  have ea : a.take (i + 1) = a.take i ++ [a[i]] := qx hi2
  have eb : b.take (i + 1) = b.take i ++ [b[i]'(by omega)] := qx (by omega)
  by_cases h1 : a[i] = b[i]'(by omega)
  ·have ht1 : a.take (i + 1) = b.take (i + 1) := by rw [ea, eb, ht, h1]
   generalize a[i] = u at *
   generalize b[i]'(by omega) = v at *
   subst h1
   simp (maxSteps := 4000000) (disch := omega) only [rq, simprocAttr, la, lb, Qw]
   exact ⟨i + 1, ⟨by omega, ht1⟩, by omega, QJ⟩
  ·have e : decide (a = b) = false := decide_eq_false fun h => h1 (by subst h; rfl)
   rw [e]
   generalize a[i] = u at *
   generalize b[i]'(by omega) = v at *
   rcases Int.lt_or_gt_of_ne h1 with h2 | h2
   ·simp (maxSteps := 4000000) (disch := omega) only [rq, simprocAttr, la, lb, Qw]
   ·simp (maxSteps := 4000000) (disch := omega) only [rq, simprocAttr, la, lb, Qw]
 ·obtain rfl : i = a.length := by omega
  rw [yb, h0, yb] at ht
  have e : decide (a = b) = true := decide_eq_true ht
  rw [e]
  simp (maxSteps := 4000000) (disch := omega) only [rq, simprocAttr]
def Qic (x : Rp) : AV := .agg [.int .i64 x.f, .int .i64 x.c, .int .i64 x.b, .int .i64 x.r, .int .i64 x.n, .int .i64 x.m, QD x.l]
def QjR (x y : Rp) : Bool := decide (x.f = y.f ∧ x.c = y.c ∧ x.b = y.b ∧ x.r = y.r ∧ x.n = y.n)
def Qi4 (x y : Rp) : Bool := QjR x y && (decide (x.m = y.m) && decide (x.l = y.l))
def Qjb (x y : Rp) : Bool := decide (x.e = y.e ∧ x.p = y.p ∧ x.q = y.q ∧ x.g = y.g)
theorem QjQ (x y : Rp) : (decide (x.f = y.f) && (decide (x.c = y.c) && (decide (x.b = y.b) && (decide (x.r = y.r) && decide (x.n = y.n))))) = QjR x y := by
 unfold QjR
 simp only [Bool.decide_and]
theorem QjT (x y : Rp) : (decide (x.e = y.e) && (decide (x.p = y.p) && (decide (x.q = y.q) && decide (x.g = y.g)))) = Qjb x y := by
 unfold Qjb
 simp only [Bool.decide_and]
def Qc0 (P : Prg) (f : Nat) : Prop := ∀ x y : Rp, x.l.length ≤ 1000000 → y.l.length ≤ 1000000 → VC P f [Qic x, Qic y] (.bool (Qi4 x y))
theorem QfL {P : Prg} {f fI t0 : Nat} (bd : Body P f 24 [.tmp 4] (Qv fI t0)) (hI : QeR P fI) : Qc0 P f := by
 intro x y hx hy
 refine Z5 (by simp [isDL, Qic, isD, ZM]) rfl bd ?_
 have hI' := hI x.l y.l hx hy
 rw [QD, QD] at hI'
 have hb := QjQ x y
 unfold Qi4
 rcases h1 : QjR x y with _ | _
 ·rw [h1] at hb
  simp (maxSteps := 4000000) (disch := omega) only [rq, simprocAttr, Qv, Qic, QD, Qhg, hb]
 ·rw [h1] at hb
  by_cases h2 : x.m = y.m
  ·rw [decide_eq_true h2]
   simp (maxSteps := 4000000) (disch := omega) only [rq, simprocAttr, Qv, Qic, QD, Qhg, hb]
   refine Qa hI' ?_
   simp (maxSteps := 4000000) (disch := omega) only [rq, simprocAttr]
  ·rw [decide_eq_false h2]
   rcases Int.lt_or_gt_of_ne h2 with h3 | h3
   ·simp (maxSteps := 4000000) (disch := omega) only [rq, simprocAttr, Qv, Qic, QD, Qhg, hb]
   ·simp (maxSteps := 4000000) (disch := omega) only [rq, simprocAttr, Qv, Qic, QD, Qhg, hb]
def QcZ (P : Prg) (f : Nat) : Prop := ∀ x y : Rp, x.l.length ≤ 1000000 → y.l.length ≤ 1000000 → VC P f [x.av, y.av] (.bool (Qi4 x y && Qjb x y))
theorem QfJ {P : Prg} {f fI t0 : Nat} (bd : Body P f 17 [.tmp 4] (QT fI t0)) (hI : Qc0 P fI) : QcZ P f := by
 intro x y hx hy
 refine Z5 (by simp [isDL, XJ]) rfl bd ?_
 have hI' := hI x y hx hy
 rw [Qic, Qic, QD, QD] at hI'
 have hb := QjT x y
 rcases h1 : Qi4 x y with _ | _
 ·rw [h1] at hI'
  simp (maxSteps := 4000000) (disch := omega) only [rq, simprocAttr, QT, Rp.av, QD]
  refine Qa hI' ?_
  simp (maxSteps := 4000000) (disch := omega) only [rq, simprocAttr]
 ·rw [h1] at hI'
  simp (maxSteps := 4000000) (disch := omega) only [rq, simprocAttr, QT, Rp.av, QD]
  refine Qa hI' ?_
  rcases h2 : Qjb x y with _ | _
  ·rw [h2] at hb
   simp (maxSteps := 4000000) (disch := omega) only [rq, simprocAttr, Qhg, hb]
  ·rw [h2] at hb
   simp (maxSteps := 4000000) (disch := omega) only [rq, simprocAttr, Qhg, hb]
theorem Qku {x y : Rp} : (Qi4 x y && Qjb x y) = true ↔ x = y := by
 rcases x with ⟨f, c, b, r, n, m, l, e, p, q, g⟩
 rcases y with ⟨f', c', b', r', n', m', l', e', p', q', g'⟩
 simp only [Qi4, QjR, Qjb, ← Bool.decide_and, qk, Rp.mk.injEq]
 constructor
 ·rintro ⟨⟨⟨h1, h2, h3, h4, h5⟩, h6, h7⟩, h8, h9, h10, h11⟩
  exact ⟨h1, h2, h3, h4, h5, h6, h7, h8, h9, h10, h11⟩
 ·rintro ⟨h1, h2, h3, h4, h5, h6, h7, h8, h9, h10, h11⟩
  exact ⟨⟨⟨h1, h2, h3, h4, h5⟩, h6, h7⟩, h8, h9, h10, h11⟩
theorem Qer {P : Prg} {f fF fC fS t0 t1 : Nat} (bd : Body P f 84 [.tmp 2] (Qg fF fC fS t0 t1)) (hF : Xr P fF) (hC : Xq P fC) (hS : Qaf P fS) : ZC P f := by
 intro x ⟨b1, b2, b3, b4⟩
 refine Z5 (by simp [isDL, XJ]) rfl bd ?_
 have hF' := hF x.f x.c x.b x.r x.n
 have hC' := hC x.l b1 b2
 have no : ∀ p : Prop, ¬ p → (Qb3 x → p) → rpN x = 8 := fun p hp h => qt fun hx => hp (h hx)
 rw [hdA] at hF'
 rw [QD] at hC'
 by_cases h1 : hdN x.f x.c x.b x.r x.n = 0
 case neg =>
  rw [no _ h1 fun h => h.1]
  have h8 : hdN x.f x.c x.b x.r x.n = 8 := by unfold hdN at h1 ⊢; split <;> simp_all
  rw [h8] at hF'
  simp (maxSteps := 4000000) (disch := omega) only [rq, simprocAttr, Qg, Rp.av, QD]
  refine Qo hF' ?_
  simp (maxSteps := 4000000) (disch := omega) only [rq, simprocAttr]
 have s8 := QdQ h1
 obtain ⟨⟨s1, s2, s3, s4, s5, s6, s7⟩, _⟩ := Qbk h1
 obtain ⟨m, hm⟩ : ∃ m : Nat, x.n = m := ⟨x.n.toNat, by omega⟩
 have hS' := hS x.r m ⟨s5, s6, by omega, by omega⟩
 have rok : Qb3 x ↔ (skN x.l = 0 ∧ (ZD (QG x.r).toNat m).length = x.l.length ∧ 22 ≤ x.m ∧ x.m ≤ 100000 ∧ 0 ≤ x.e ∧ x.e ≤ 99 ∧ 0 ≤ x.p ∧ x.p ≤ 6 ∧ 0 ≤ x.q ∧ x.q < x.l.length ∧ 0 ≤ x.g ∧ x.g ≤ 12000) := by
  unfold Qb3
  rw [hm, qN]
  rw [hm] at h1
  exact ⟨fun h => h.2, fun h => ⟨h1, h⟩⟩
 have hcl := (Qfl (r := x.r) (m := m) s5 s6 (by omega) (by omega)).1 (by rw [← hm]; exact (Qbk h1).2.2)
 rw [h1, hm] at hF'
 rw [QD] at hS'
 generalize ZD (QG x.r).toNat m = Ls at *
 have hav : x.av = .agg [.int .i64 x.f, .int .i64 x.c, .int .i64 x.b, .int .i64 x.r, .int .i64 m, .int .i64 x.m, .list x.l.length (ks .i64 x.l), .int .i64 x.e, .int .u8 x.p, .int .i64 x.q, .int .i64 x.g] := by rw [← hm]; rfl
 rw [hav]
 by_cases h4 : 22 ≤ x.m
 case neg =>
  rw [no _ h4 fun h => (rok.1 h).2.2.1]
  simp (maxSteps := 4000000) (disch := omega) only [rq, simprocAttr, Qg]
  refine Qo hF' ?_
  simp (maxSteps := 4000000) (disch := omega) only [rq, simprocAttr]
 by_cases h5 : x.m ≤ 100000
 case neg =>
  rw [no _ h5 fun h => (rok.1 h).2.2.2.1]
  simp (maxSteps := 4000000) (disch := omega) only [rq, simprocAttr, Qg]
  refine Qo hF' ?_
  simp (maxSteps := 4000000) (disch := omega) only [rq, simprocAttr]
 by_cases h2 : skN x.l = 0
 case neg =>
  rw [no _ h2 fun h => h.2.1]
  have h8 : skN x.l = 8 := by
   have h : skN x.l = 0 ∨ skN x.l = 8 := by
    unfold skN
    repeat' split
    all_goals simp
   exact h.resolve_left h2
  rw [h8] at hC'
  simp (maxSteps := 4000000) (disch := omega) only [rq, simprocAttr, Qg]
  refine Qo hF' ?_
  simp (maxSteps := 4000000) (disch := omega) only [rq, simprocAttr]
  refine Qo hC' ?_
  simp (maxSteps := 4000000) (disch := omega) only [rq, simprocAttr]
 have hll := (Qak h2).2.1
 rw [h2] at hC'
 by_cases h3 : Ls.length = x.l.length
 case neg =>
  rw [no _ h3 fun h => (rok.1 h).2.1]
  rcases Nat.lt_or_gt_of_ne h3 with h | h
  ·simp (maxSteps := 4000000) (disch := omega) only [rq, simprocAttr, Qg]
   refine Qo hF' ?_
   simp (maxSteps := 4000000) (disch := omega) only [rq, simprocAttr]
   refine Qo hC' ?_
   simp (maxSteps := 4000000) (disch := omega) only [rq, simprocAttr]
   refine Qo hS' ?_
   simp (maxSteps := 4000000) (disch := omega) only [rq, simprocAttr]
  ·simp (maxSteps := 4000000) (disch := omega) only [rq, simprocAttr, Qg]
   refine Qo hF' ?_
   simp (maxSteps := 4000000) (disch := omega) only [rq, simprocAttr]
   refine Qo hC' ?_
   simp (maxSteps := 4000000) (disch := omega) only [rq, simprocAttr]
   refine Qo hS' ?_
   simp (maxSteps := 4000000) (disch := omega) only [rq, simprocAttr]
 have fin : (0 ≤ x.e ∧ x.e ≤ 99 ∧ 0 ≤ x.p ∧ x.p ≤ 6 ∧ 0 ≤ x.q ∧ x.q < x.l.length ∧ 0 ≤ x.g ∧ x.g ≤ 12000) → rpN x = 0 := fun h => qF (rok.2 ⟨h2, h3, h4, h5, h⟩)
 have bad : ¬ (0 ≤ x.e ∧ x.e ≤ 99 ∧ 0 ≤ x.p ∧ x.p ≤ 6 ∧ 0 ≤ x.q ∧ x.q < x.l.length ∧ 0 ≤ x.g ∧ x.g ≤ 12000) → rpN x = 8 := fun h => qt fun hx => h (rok.1 hx).2.2.2.2
 simp (maxSteps := 4000000) (disch := omega) only [rq, simprocAttr, Qg]
 refine Qo hF' ?_
 simp (maxSteps := 4000000) (disch := omega) only [rq, simprocAttr]
 refine Qo hC' ?_
 simp (maxSteps := 4000000) (disch := omega) only [rq, simprocAttr]
 refine Qo hS' ?_
 by_cases h6 : 0 ≤ x.e
 case neg =>
  rw [bad fun h => h6 h.1]
  simp (maxSteps := 4000000) (disch := omega) only [rq, simprocAttr]
 by_cases h7 : x.e ≤ 99
 case neg =>
  rw [bad fun h => h7 h.2.1]
  simp (maxSteps := 4000000) (disch := omega) only [rq, simprocAttr]
 by_cases h8 : x.p ≤ 6
 case neg =>
  rw [bad fun h => h8 h.2.2.2.1]
  simp (maxSteps := 4000000) (disch := omega) only [rq, simprocAttr]
 by_cases h9 : 0 ≤ x.q
 case neg =>
  rw [bad fun h => h9 h.2.2.2.2.1]
  simp (maxSteps := 4000000) (disch := omega) only [rq, simprocAttr]
 by_cases h10 : x.q < x.l.length
 case neg =>
  rw [bad fun h => h10 h.2.2.2.2.2.1]
  simp (maxSteps := 4000000) (disch := omega) only [rq, simprocAttr]
 by_cases h11 : 0 ≤ x.g
 case neg =>
  rw [bad fun h => h11 h.2.2.2.2.2.2.1]
  simp (maxSteps := 4000000) (disch := omega) only [rq, simprocAttr]
 by_cases h12 : x.g ≤ 12000
 case neg =>
  rw [bad fun h => h12 h.2.2.2.2.2.2.2]
  simp (maxSteps := 4000000) (disch := omega) only [rq, simprocAttr]
 rw [fin ⟨h6, h7, b3, h8, h9, h10, h11, h12⟩]
 simp (maxSteps := 4000000) (disch := omega) only [rq, simprocAttr]
def QeT (P : Prg) (f : Nat) : Prop := ∀ v : Int, 0 ≤ v → v ≤ 9223372036854775807 → VC P f [.int .i64 v] (.str (Lib.itoa v))
theorem Qhn (u : Nat) (h : u ≤ 9223372036854775807) : (Lib.decDigits u).length ≤ 20 := by
 rw [Lib.decDigits_length]
 exact Lib.nDigits_le20 u (by omega)
theorem Qdz {P : Prg} {f t0 : Nat} (bd : Body P f 18 [.tmp 2] (QL f t0)) : QeT P f := by
 have key : ∀ n : Nat, n ≤ 9223372036854775807 → VC P f [.int .i64 n] (.str (Lib.decDigits n)) := by
  intro n
  induction n using Nat.strongRecOn with
  | _ n ih =>
   intro hn
   refine Z5 rfl rfl bd ?_
   obtain ⟨k, hk, hk'⟩ : ∃ k, n % 10 = k ∧ k < 10 := ⟨_, rfl, Nat.mod_lt _ (by decide)⟩
   obtain ⟨q, hq⟩ : ∃ q, n / 10 = q := ⟨_, rfl⟩
   have e1 : (n : Int) % 10 = k := by omega
   have e2 : (n : Int) / 10 = q := by omega
   have e3 : (n : Int).tmod 10 = k := by rw [Int.tmod_eq_emod_of_nonneg (by omega)]; exact e1
   have e4 : (n : Int).tdiv 10 = q := by rw [yf (by omega)]; exact e2
   have hd : Qbp [.int .u8 (48 + (k : Int))] = some [UInt8.ofNat (48 + k)] := by
    simp only [Qbp, qS, qd, List.cons.injEq, and_true]
    congr 1
   rw [Lib.decDigits]
   by_cases h : n < 10
   ·rw [dif_pos h]
    have e5 : k = n := by omega
    rw [← e5]
    have e6 : (n : Int) = k := by omega
    rw [e6] at e1 e2 e3 e4
    simp (maxSteps := 4000000) (disch := omega) only [rq, simprocAttr, QL, e1, e3, hd]
   ·rw [dif_neg h, hk, hq]
    have hI := ih q (by omega) (by omega)
    have hl := Qhn q (by omega)
    have hs : QbJ .add (Lib.decDigits q) [UInt8.ofNat (48 + k)] = some (.str (Lib.decDigits q ++ [UInt8.ofNat (48 + k)])) := qF (by simp; omega)
    simp (maxSteps := 4000000) (disch := omega) only [rq, simprocAttr, QL, e1, e2, e3, e4, hd]
    refine Qa hI ?_
    simp (maxSteps := 4000000) (disch := omega) only [rq, simprocAttr, hs]
 intro v h0 h1
 obtain ⟨n, rfl⟩ : ∃ n : Nat, v = n := ⟨v.toNat, by omega⟩
 rw [Lib.itoa_nonneg]
 exact key n (by omega)
theorem QH {a b c : List UInt8} (h : c = a ++ b) (hl : c.length ≤ 100000) : QbJ .add a b = some (.str c) := by
 subst h
 exact qF (by rw [qm] at hl; omega)
def Qbz (P : Prg) (f : Nat) : Prop := ∀ x : Rp, rpB x → Qb3 x → VC P f [x.av] (.str (txt x))
theorem Qcu {P : Prg} {f fN t0 t1 t2 : Nat} (bd : Body P f 84 [.tmp 2] (Q6 fN t0 t1 t2)) (hN : QeT P fN) : Qbz P f := by
 intro x hb hx
 refine QZ 1 (by simp [isDL, XJ]) rfl (ACall.of_cuts [false, false, true, false, false, false, true] bd (by simp) ?_)
 obtain ⟨h1, h2, h3, h4, h5, h6, h7, h8, h9, h10, h11, h12, h13⟩ := hx
 obtain ⟨k1, k2, k3⟩ := Qak h2
 obtain ⟨⟨s1, s2, s3, s4, s5, s6, s7⟩, _⟩ := Qbk h1
 have s8 := QdQ h1
 have N1 := hN x.f (by omega) (by omega)
 have N2 := hN x.c (by omega) (by omega)
 have N3 := hN x.b (by omega) (by omega)
 have N4 := hN x.r (by omega) (by omega)
 have N5 := hN x.n (by omega) (by omega)
 have N6 := hN x.m (by omega) (by omega)
 have N7 := hN x.e (by omega) (by omega)
 have N8 := hN x.p (by omega) (by omega)
 have N9 := hN x.q (by omega) (by omega)
 have N10 := hN x.g (by omega) (by omega)
 have il : ∀ v : Int, 0 ≤ v → v ≤ 9223372036854775807 → (Lib.itoa v).length ≤ 21 := fun v a b => Lib.itoa_length_le v (by omega) b
 have l1 := il x.f (by omega) (by omega)
 have l2 := il x.c (by omega) (by omega)
 have l3 := il x.b (by omega) (by omega)
 have l4 := il x.r (by omega) (by omega)
 have l5 := il x.n (by omega) (by omega)
 have l6 := il x.m (by omega) (by omega)
 have l7 := il x.e (by omega) (by omega)
 have l8 := il x.p (by omega) (by omega)
 have l9 := il x.q (by omega) (by omega)
 have l10 := il x.g (by omega) (by omega)
 obtain ⟨n1, e1, b1⟩ : ∃ m : List UInt8, m = [102, 111, 114, 109, 97, 116, 32] ++ Lib.itoa x.f ∧ m.length ≤ 30 := ⟨_, rfl, by simp; omega⟩
 obtain ⟨n2, e2, b2⟩ : ∃ m : List UInt8, m = n1 ++ [32, 99, 104, 97, 110, 110, 101, 108, 115, 32] ∧ m.length ≤ 40 := ⟨_, rfl, by simp; omega⟩
 obtain ⟨n3, e3, b3⟩ : ∃ m : List UInt8, m = n2 ++ Lib.itoa x.c ∧ m.length ≤ 70 := ⟨_, rfl, by simp; omega⟩
 obtain ⟨n4, e4, b4⟩ : ∃ m : List UInt8, m = n3 ++ [32, 98, 105, 116, 115, 32] ∧ m.length ≤ 80 := ⟨_, rfl, by simp; omega⟩
 obtain ⟨n5, e5, b5⟩ : ∃ m : List UInt8, m = n4 ++ Lib.itoa x.b ∧ m.length ≤ 110 := ⟨_, rfl, by simp; omega⟩
 obtain ⟨n6, e6, b6⟩ : ∃ m : List UInt8, m = n5 ++ [32, 114, 97, 116, 101, 32] ∧ m.length ≤ 120 := ⟨_, rfl, by simp; omega⟩
 obtain ⟨n7, e7, b7⟩ : ∃ m : List UInt8, m = n6 ++ Lib.itoa x.r ∧ m.length ≤ 150 := ⟨_, rfl, by simp; omega⟩
 obtain ⟨n8, e8, b8⟩ : ∃ m : List UInt8, m = n7 ++ [32, 99, 111, 117, 110, 116, 32] ∧ m.length ≤ 160 := ⟨_, rfl, by simp; omega⟩
 obtain ⟨n9, e9, b9⟩ : ∃ m : List UInt8, m = n8 ++ Lib.itoa x.n ∧ m.length ≤ 190 := ⟨_, rfl, by simp; omega⟩
 obtain ⟨n10, e10, b10⟩ : ∃ m : List UInt8, m = n9 ++ [10, 102, 114, 97, 109, 101, 115, 32] ∧ m.length ≤ 200 := ⟨_, rfl, by simp; omega⟩
 obtain ⟨n11, e11, b11⟩ : ∃ m : List UInt8, m = n10 ++ Lib.itoa x.m ∧ m.length ≤ 230 := ⟨_, rfl, by simp; omega⟩
 obtain ⟨n12, e12, b12⟩ : ∃ m : List UInt8, m = n11 ++ [58] ∧ m.length ≤ 240 := ⟨_, rfl, by simp; omega⟩
 have S1 := QH e1 (by omega)
 have S2 := QH e2 (by omega)
 have S3 := QH e3 (by omega)
 have S4 := QH e4 (by omega)
 have S5 := QH e5 (by omega)
 have S6 := QH e6 (by omega)
 have S7 := QH e7 (by omega)
 have S8 := QH e8 (by omega)
 have S9 := QH e9 (by omega)
 have S10 := QH e10 (by omega)
 have S11 := QH e11 (by omega)
 have S12 := QH e12 (by omega)
 have hlb : ∀ i, (Zi n12 (x.l.take i)).length ≤ 240 + 22000 := fun i => by
  have h := Xe n12 (x.l.take i) fun v hv => by have := k3 v (qu hv); omega
  have : (x.l.take i).length ≤ x.l.length := by simp; omega
  omega
 have hin : ∀ i (hi : i < x.l.length), 5 ≤ x.l[i] ∧ x.l[i] ≤ 100000 := fun i hi => k3 _ (q8 hi)
 have stp : ∀ i (hi : i < x.l.length), Zi n12 (x.l.take (i + 1)) = Zi n12 (x.l.take i) ++ (32 :: Lib.itoa x.l[i]) := fun i hi => by
  rw [qx hi, Qe1]
 obtain ⟨M, hM⟩ : ∃ M : List UInt8, M = Zi n12 x.l := ⟨_, rfl⟩
 have bM : M.length ≤ 22240 := by have := hlb x.l.length; rw [yb] at this; rw [hM]; omega
 obtain ⟨m1, f1, c1⟩ : ∃ m : List UInt8, m = M ++ [10, 102, 111, 117, 110, 100, 32] ∧ m.length ≤ 22250 := ⟨_, rfl, by simp; omega⟩
 obtain ⟨m2, f2, c2⟩ : ∃ m : List UInt8, m = m1 ++ Lib.itoa x.e ∧ m.length ≤ 22280 := ⟨_, rfl, by simp; omega⟩
 obtain ⟨m3, f3, c3⟩ : ∃ m : List UInt8, m = m2 ++ [32] ∧ m.length ≤ 22290 := ⟨_, rfl, by simp; omega⟩
 obtain ⟨m4, f4, c4⟩ : ∃ m : List UInt8, m = m3 ++ Lib.itoa x.p ∧ m.length ≤ 22320 := ⟨_, rfl, by simp; omega⟩
 obtain ⟨m5, f5, c5⟩ : ∃ m : List UInt8, m = m4 ++ [32] ∧ m.length ≤ 22330 := ⟨_, rfl, by simp; omega⟩
 obtain ⟨m6, f6, c6⟩ : ∃ m : List UInt8, m = m5 ++ Lib.itoa x.q ∧ m.length ≤ 22360 := ⟨_, rfl, by simp; omega⟩
 obtain ⟨m7, f7, c7⟩ : ∃ m : List UInt8, m = m6 ++ [32] ∧ m.length ≤ 22370 := ⟨_, rfl, by simp; omega⟩
 obtain ⟨m8, f8, c8⟩ : ∃ m : List UInt8, m = m7 ++ Lib.itoa x.g ∧ m.length ≤ 22400 := ⟨_, rfl, by simp; omega⟩
 obtain ⟨m9, f9, c9⟩ : ∃ m : List UInt8, m = m8 ++ [10] ∧ m.length ≤ 22410 := ⟨_, rfl, by simp; omega⟩
 have T1 := QH f1 (by omega)
 have T2 := QH f2 (by omega)
 have T3 := QH f3 (by omega)
 have T4 := QH f4 (by omega)
 have T5 := QH f5 (by omega)
 have T6 := QH f6 (by omega)
 have T7 := QH f7 (by omega)
 have T8 := QH f8 (by omega)
 have T9 := QH f9 (by omega)
 have efin : txt x = m9 := by
  rw [← Qek k1, f9, f8, f7, f6, f5, f4, f3, f2, f1, hM, e12, e11, e10, e9, e8, e7, e6, e5, e4, e3, e2, e1]
  simp [Qb1, Zi, wF1, wC1, wB1, wR1, wN1, wF2, wF3]
 rw [efin]
 clear efin f1 f2 f3 f4 f5 f6 f7 f8 f9 e1 e2 e3 e4 e5 e6 e7 e8 e9 e10 e11 e12
 have tl := Qy .i64 x.l
 rw [Rp.av, QD]
 simp (maxSteps := 4000000) (disch := omega) only [rq, simprocAttr, QQ, Q6]
 refine JO ⟨[(1, .cell [.int .i64 x.f, .int .i64 x.c, .int .i64 x.b, .int .i64 x.r, .int .i64 x.n, .int .i64 x.m, .list x.l.length (ks .i64 x.l), .int .i64 x.e, .int .u8 x.p, .int .i64 x.q, .int .i64 x.g]), (3, .cell [.int .i64 x.f, .int .i64 x.c, .int .i64 x.b, .int .i64 x.r, .int .i64 x.n])], []⟩ (ZZ [] (by simp) (by simp [Am.look, Zh, frzL, Q7, isDL, isD, Xg, frzL_T _ tl])) ?_
 simp (maxSteps := 4000000) (disch := omega) only [rq, simprocAttr, QQ, S1, S2, S3, S4, S5, S6, S7, S8, S9, S10, S11, S12]
 refine Qo N1 ?_
 simp (maxSteps := 4000000) (disch := omega) only [rq, simprocAttr, QQ, S1, S2]
 refine Qo N2 ?_
 simp (maxSteps := 4000000) (disch := omega) only [rq, simprocAttr, QQ, S3, S4]
 refine Qo N3 ?_
 simp (maxSteps := 4000000) (disch := omega) only [rq, simprocAttr, QQ, S5, S6]
 refine Qo N4 ?_
 simp (maxSteps := 4000000) (disch := omega) only [rq, simprocAttr, QQ, S7, S8]
 refine Qo N5 ?_
 simp (maxSteps := 4000000) (disch := omega) only [rq, simprocAttr, QQ, S9, S10]
 refine Qo N6 ?_
 simp (maxSteps := 4000000) (disch := omega) only [rq, simprocAttr, QQ, S11, S12]
 clear S1 S2 S3 S4 S5 S6 S7 S8 S9 S10 S11 S12 N1 N2 N3 N4 N5 N6
 have hnl : x.l.length ≤ 1000 := k2
 refine Zg (ι := Nat) (fun i => ⟨[(5, .int .i64 i), (4, .str (Zi n12 (x.l.take i))), (1, .cell [.int .i64 x.f, .int .i64 x.c, .int .i64 x.b, .int .i64 x.r, .int .i64 x.n, .int .i64 x.m, .list x.l.length (ks .i64 x.l), .int .i64 x.e, .int .u8 x.p, .int .i64 x.q, .int .i64 x.g])], []⟩) (fun i => i ≤ x.l.length) (fun i => x.l.length - i) 0
  (by simp only [List.take_zero, Zi, yN, List.flatten_nil, yE]; exact QJ) (yi _) ?_
 intro i hi
 by_cases hi2 : i < x.l.length
 ·have la := QcF hi2
  have hv := hin i hi2
  have hst := stp i hi2
  have hNi := hN x.l[i] (by omega) (by omega)
  have hil := il x.l[i] (by omega) (by omega)
  have hB := hlb i
  generalize Zi n12 (x.l.take i) = A at *
  obtain ⟨d, hd⟩ : ∃ d, d = 32 :: Lib.itoa x.l[i] := ⟨_, rfl⟩
  rw [← hd] at hst
  have hdl : d.length ≤ 22 := by rw [hd, qn]; omega
  have H1 : QbJ .add [32] (Lib.itoa x.l[i]) = some (.str d) := QH (by rw [hd]; rfl) (by omega)
  have H2 : QbJ .add A d = some (.str (A ++ d)) := QH rfl (by rw [qm]; omega)
  clear hd
  generalize x.l[i] = v at *
  simp (maxSteps := 4000000) (disch := omega) only [rq, simprocAttr, QQ, la, Qw]
  refine Qa hNi ?_
  simp (maxSteps := 4000000) (disch := omega) only [rq, simprocAttr, QQ, H1, H2]
  refine ⟨i + 1, by omega, by omega, ?_⟩
  rw [hst]
  exact QJ
 ·obtain rfl : i = x.l.length := by omega
  rw [yb, ← hM]
  simp (maxSteps := 4000000) (disch := omega) only [rq, simprocAttr, QQ]
  refine JO ⟨[(4, .str M), (6, .cell [.int .i64 x.e, .int .u8 x.p, .int .i64 x.q, .int .i64 x.g])], []⟩ (ZZ [] (by simp) (by simp [Am.look, Zh, frzL, Q7, isDL, isD])) ?_
  simp (maxSteps := 4000000) (disch := omega) only [rq, simprocAttr, QQ, T1]
  refine Qo N7 ?_
  simp (maxSteps := 4000000) (disch := omega) only [rq, simprocAttr, QQ, T2, T3]
  refine Qo N8 ?_
  simp (maxSteps := 4000000) (disch := omega) only [rq, simprocAttr, QQ, T4, T5]
  refine Qo N9 ?_
  simp (maxSteps := 4000000) (disch := omega) only [rq, simprocAttr, QQ, T6, T7]
  refine Qo N10 ?_
  simp (maxSteps := 4000000) (disch := omega) only [rq, simprocAttr, QQ, T8, T9]
  simp [ZQ, Zh, frzL, Q7]
def Qc1 (P : Prg) (f : Nat) : Prop := Qc5 P f
theorem QfI {P : Prg} {f fC fW t0 : Nat} (bd : Body P f 12 [.tmp 2, .tmp 3] (QS fC fW t0)) (hC : ZC P fC) (hW : Qbz P fW) : Qc1 P f := by
 intro x hb
 refine Z5 (by simp [isDL, XJ]) (by unfold Qcn; split <;> rfl) bd ?_
 have hC' := hC x hb
 by_cases hx : Qb3 x
 ·have hW' := hW x hb hx
  have e1 : rpN x = 0 := qF hx
  have e2 : Qcn x = .tup [.str (txt x), .int .i64 0] := qF hx
  rw [e1] at hC'
  rw [e2]
  rw [Rp.av, QD] at hC' hW' ⊢
  simp (maxSteps := 4000000) (disch := omega) only [rq, simprocAttr, QS]
  iterate 2 (refine Qa (by assumption) ?_; simp (maxSteps := 4000000) (disch := omega) only [rq, simprocAttr])
 ·have e1 : rpN x = 8 := qt hx
  have e2 : Qcn x = .tup [.str [], .int .i64 8] := qt hx
  rw [e1] at hC'
  rw [e2]
  rw [Rp.av, QD] at hC' ⊢
  simp (maxSteps := 4000000) (disch := omega) only [rq, simprocAttr, QS]
  refine Qa hC' ?_
  simp (maxSteps := 4000000) (disch := omega) only [rq, simprocAttr]
def mn9 (y : Int) : Int := if y < 999999999 then y else 999999999
def QiE (b : UInt8) : Bool := decide (48 ≤ b.toNat ∧ b.toNat ≤ 57)
def rfL (st : List Int × Option Int) : List Int := st.1 ++ st.2.toList
def Qs (st : List Int × Option Int) (b : UInt8) : List Int × Option Int :=
 if 1100 ≤ (rfL st).length then st
 else if QiE b = false then (rfL st, none)
 else match st.2 with
  | some a => (st.1, some (mn9 (10 * a + (b.toNat - 48 : Nat))))
  | none => (st.1, some (mn9 (b.toNat - 48 : Nat)))
def rfN (s : List UInt8) : List Int := rfL (s.foldl Qs ([], none))
theorem QgG : ∀ (s : List UInt8) (st : List Int × Option Int), 1100 ≤ (rfL st).length → s.foldl Qs st = st
 | [], _, _ => rfl
 | b :: s, st, h => by
  have e : Qs st b = st := qF h
  rw [yo, e, QgG s st h]
def QjF (st : List Int × Option Int) : Prop := (rfL st).length ≤ 1100 ∧ (∀ v ∈ rfL st, 0 ≤ v ∧ v ≤ 999999999)
theorem Qg1 {y : Int} (h : 0 ≤ y) : 0 ≤ mn9 y ∧ mn9 y ≤ 999999999 := by unfold mn9; split <;> omega
theorem Qko {st : List Int × Option Int} (h : QjF st) (b : UInt8) : QjF (Qs st b) := by
 obtain ⟨pre, cur⟩ := st
 obtain ⟨h2, h3⟩ := h
 unfold Qs
 split
 ·exact ⟨h2, h3⟩
 rename_i hl
 split
 ·refine ⟨?_, ?_⟩
  ·simpa [rfL] using h2
  ·intro v hv
   exact h3 v (by simpa [rfL] using hv)
 cases cur with
 | none =>
  simp only [rfL, Option.toList_none, yE] at h2 h3 hl
  refine ⟨by simp [rfL]; omega, fun v hv => ?_⟩
  simp only [rfL, Option.toList_some] at hv
  rcases qo.1 hv with hv | hv
  ·exact h3 v hv
  ·simp only [qI] at hv
   rw [hv]
   exact Qg1 (by omega)
 | some a =>
  simp only [rfL, Option.toList_some] at h2 h3 hl
  have ha := h3 a (by simp)
  refine ⟨by simp [rfL] at h2 ⊢; exact h2, fun v hv => ?_⟩
  simp only [rfL, Option.toList_some] at hv
  rcases qo.1 hv with hv | hv
  ·exact h3 v (List.mem_append_left _ hv)
  ·simp only [qI] at hv
   rw [hv]
   exact Qg1 (by omega)
theorem QgH : ∀ (s : List UInt8) (st : List Int × Option Int), QjF st → QjF (s.foldl Qs st)
 | [], _, h => h
 | b :: s, st, h => by rw [yo]; exact QgH s _ (Qko h b)
theorem Qiv : QjF ([], none) := ⟨by simp [rfL], fun v hv => by simp [rfL] at hv⟩
theorem QfV (s : List UInt8) (i : Nat) (hi : i < s.length) (st : List Int × Option Int) : (s.take (i + 1)).foldl Qs st = Qs ((s.take i).foldl Qs st) s[i] := by
 rw [qx hi, qQ]
 rfl
def Qc2 (P : Prg) (f : Nat) : Prop := ∀ s : List UInt8, s.length ≤ 1000000 → VC P f [.str s] (QD (rfN s))
theorem Qct {P : Prg} {f t0 : Nat} (bd : Body P f 52 [.tmp 2] (Q5 t0)) : Qc2 P f := by
 intro s hs
 refine QZ 1 rfl (ZM _) (Qi bd (by simp) ?_)
 simp (maxSteps := 4000000) (disch := omega) only [rq, simprocAttr, Q5]
 refine Zg (ι := Nat) (fun i => ⟨[(5, .int .i64 i), (4, .bool ((s.take i).foldl Qs ([], none)).2.isSome), (3, .own 0 (rfL ((s.take i).foldl Qs ([], none))).length), (0, .str s)], [⟨t0, 1, (rfL ((s.take i).foldl Qs ([], none))).length, ks .i64 (rfL ((s.take i).foldl Qs ([], none))), 0⟩]⟩)
  (fun i => i ≤ s.length) (fun i => s.length - i) 0 (Le.trans (QeW 3 t0 1 (by decide) rfl) (XI (by simp [Am.look, rfL]))) (yi _) ?_
 intro i hi
 have hok := QgH (s.take i) _ Qiv
 have hfin : 1100 ≤ (rfL ((s.take i).foldl Qs ([], none))).length → rfN s = rfL ((s.take i).foldl Qs ([], none)) := fun h => by
  unfold rfN
  have e : s.foldl Qs ([], none) = (s.drop i).foldl Qs ((s.take i).foldl Qs ([], none)) := by
   rw [← qQ, qX]
  rw [e, QgG _ _ h]
 by_cases hi2 : i < s.length
 case neg =>
  obtain rfl : i = s.length := by omega
  have hN : rfN s = rfL ((s.take s.length).foldl Qs ([], none)) := by unfold rfN; rw [yb]
  rw [hN]
  generalize (s.take s.length).foldl Qs ([], none) = st at *
  have hl := hok.1
  simp (maxSteps := 4000000) (disch := omega) only [rq, simprocAttr]
  simp [ZQ, Zh, frzL, Q7, QD, frzL_T _ (Qy .i64 (rfL st))]
 have hsn := QfV s i hi2 ([], none)
 have hb : s[i]? = some s[i] := qc hi2
 generalize (s.take i).foldl Qs ([], none) = st at *
 have hl := hok.1
 by_cases h0 : 1100 ≤ (rfL st).length
 ·rw [hfin h0]
  simp (maxSteps := 4000000) (disch := omega) only [rq, simprocAttr]
  simp [ZQ, Zh, frzL, Q7, QD, frzL_T _ (Qy .i64 (rfL st))]
 clear hfin
 have hnat : s[i].toNat < 256 := s[i].toNat_lt
 generalize s[i] = b at *
 by_cases hd : QiE b = true
 case neg =>
  have e : Qs st b = (rfL st, none) := by unfold Qs; rw [qt h0, qF (by simpa using hd)]
  rw [e] at hsn
  have e2 : rfL (rfL st, none) = rfL st := by simp [rfL]
  have hd' : ¬ (48 ≤ b.toNat ∧ b.toNat ≤ 57) := by simpa [QiE] using hd
  by_cases h1 : b.toNat < 48
  ·simp (maxSteps := 4000000) (disch := omega) only [rq, simprocAttr, hb]
   refine ⟨i + 1, by omega, by omega, ?_⟩
   rw [hsn, e2]
   exact QJ
  ·simp (maxSteps := 4000000) (disch := omega) only [rq, simprocAttr, hb]
   refine ⟨i + 1, by omega, by omega, ?_⟩
   rw [hsn, e2]
   exact QJ
 have hd' : 48 ≤ b.toNat ∧ b.toNat ≤ 57 := by simpa [QiE] using hd
 obtain ⟨pre, cur⟩ := st
 obtain ⟨D, hD⟩ : ∃ D, b.toNat = 48 + D := ⟨b.toNat - 48, by omega⟩
 have hD2 : b.toNat - 48 = D := by omega
 have hD3 : D < 10 := by omega
 have q1 : (48 + (D : Int)) - 48 = D := by omega
 have hkp : (ks .i64 pre).length = pre.length := Qw _ _
 have d1 : ∀ v : AV, (ks .i64 pre ++ [v]).drop pre.length = [v] := fun v => by rw [← hkp, List.drop_left]
 have t1 : ∀ v : AV, (ks .i64 pre ++ [v]).take pre.length = ks .i64 pre := fun v => by rw [← hkp, List.take_left]
 have d2 : ∀ v : AV, (ks .i64 pre ++ [v]).drop (pre.length + 1) = [] := fun v => List.drop_of_length_le (by simp [hkp])
 have ksn : ∀ v : Int, ks .i64 (pre ++ [v]) = ks .i64 pre ++ [.int .i64 v] := fun v => by simp [ks]
 have lsn : ∀ v : Int, (pre ++ [v]).length = pre.length + 1 := fun v => by simp
 have e1 : rfL (pre, none) = pre := by simp [rfL]
 have e2 : ∀ a, rfL (pre, some a) = pre ++ [a] := fun a => by simp [rfL]
 cases cur with
 | none =>
  have hmd : mn9 (D : Int) = D := qF (by omega)
  have e : Qs (pre, none) b = (pre, some (D : Int)) := by unfold Qs; rw [qt h0, qt (by simpa using hd), hD2, hmd]
  rw [e] at hsn
  rw [e1] at h0
  have hm : 0 + (D : Int) = D := by omega
  rw [e1]
  simp (maxSteps := 4000000) (disch := omega) only [rq, simprocAttr, hb, hD, Option.isSome_none, yg, hkp, d1, t1, d2, q1, hm]
  refine ⟨i + 1, by omega, by omega, ?_⟩
  rw [hsn, e2, ksn, lsn]
  exact ZZ [_] (by simp only [qI]; rintro o rfl; rw [← ksn]; exact Qy _ _) (by simp [Am.look, Zh, frzL, Q7])
 | some a =>
  have e : Qs (pre, some a) b = (pre, some (mn9 (10 * a + (D : Int)))) := by unfold Qs; rw [qt h0, qt (by simpa using hd), hD2]
  rw [e] at hsn
  have ha := hok.2 a (by rw [e2]; simp)
  rw [e2, lsn] at h0
  have hm : (if 10 * a + (D : Int) < 999999999 then 10 * a + (D : Int) else 999999999) = mn9 (10 * a + D) := rfl
  rw [e2, ksn, lsn]
  simp (maxSteps := 4000000) (disch := omega) only [rq, simprocAttr, hb, hD, Option.isSome_some, qO, hkp, d1, t1, d2, q1, hm]
  refine ⟨i + 1, by omega, by omega, ?_⟩
  rw [hsn, e2, ksn, lsn]
  exact QJ
theorem QjW (k : Nat) (h : k < 10) : QiE (UInt8.ofNat (48 + k)) = true ∧ (UInt8.ofNat (48 + k)).toNat = 48 + k := by
 have e : (UInt8.ofNat (48 + k)).toNat = 48 + k := by simp; omega
 refine ⟨?_, e⟩
 unfold QiE
 rw [e]
 exact decide_eq_true ⟨by omega, by omega⟩
theorem QjD {pre : List Int} (hp : pre.length ≤ 1098) (u : Nat) (hu : u ≤ 999999999) : (Lib.decDigits u).foldl Qs (pre, none) = (pre, some (u : Int)) := by
 induction u using Nat.strongRecOn with
 | _ u ih =>
  rw [Lib.decDigits]
  split
  ·rename_i h
   obtain ⟨d1, d2⟩ := QjW u h
   rw [yo, List.foldl_nil]
   unfold Qs
   rw [qt (by simp [rfL]; omega), qt (by rw [d1]; decide), d2]
   simp only [ye]
   rw [mn9, qF (by omega)]
  ·rename_i h
   obtain ⟨d1, d2⟩ := QjW (u % 10) (by omega)
   rw [qQ, ih (u / 10) (by omega) (by omega), yo, List.foldl_nil]
   unfold Qs
   rw [qt (by simp [rfL]; omega), qt (by rw [d1]; decide), d2]
   simp only [ye]
   have e : (10 * ((u / 10 : Nat) : Int) + ((u % 10 : Nat) : Int)) = u := by omega
   rw [e, mn9]
   split
   ·rfl
   ·congr 2; omega
theorem Qem : ∀ (w : List UInt8) (st : List Int × Option Int), (∀ b ∈ w, QiE b = false) → (rfL st).length < 1100 → rfL (w.foldl Qs st) = rfL st
 | [], _, _, _ => rfl
 | b :: w, st, h, hl => by
  have e : Qs st b = (rfL st, none) := by
   unfold Qs
   rw [qt (by omega), qF (h b (by simp))]
  have e2 : rfL (rfL st, none) = rfL st := by simp [rfL]
  rw [yo, e, Qem w _ (fun c hc => h c (qG _ hc)) (by rw [e2]; exact hl), e2]
theorem QjC (st : List Int × Option Int) (v : Int) (h0 : 0 ≤ v) (h1 : v ≤ 999999999) (hl : (rfL st).length ≤ 1098) : (32 :: Lib.itoa v).foldl Qs st = (rfL st, some v) := by
 obtain ⟨u, rfl⟩ : ∃ u : Nat, v = u := ⟨v.toNat, by omega⟩
 have e : Qs st 32 = (rfL st, none) := by
  unfold Qs
  rw [qt (by omega), qF (by decide)]
 rw [yo, e, Lib.itoa_nonneg, QjD hl u (by omega)]
theorem QgI : ∀ (l : List Int) (st : List Int × Option Int), (∀ v ∈ l, 0 ≤ v ∧ v ≤ 999999999) → (rfL st).length + l.length ≤ 1099 → rfL ((l.map fun n => 32 :: Lib.itoa n).flatten.foldl Qs st) = rfL st ++ l
 | [], st, _, _ => by simp
 | v :: l, st, h, hl => by
  simp only [qn] at hl
  have e2 : rfL (rfL st, some v) = rfL st ++ [v] := by simp [rfL]
  rw [qA, y8, qQ, QjC st v (h v (by simp)).1 (h v (by simp)).2 (by omega), QgI l _ (fun u hu => h u (qG _ hu)) (by rw [e2]; simp; omega), e2]
  simp
theorem QaB (w : List UInt8) (l : List Int) (st : List Int × Option Int) (hw : ∀ b ∈ w, QiE b = false) (h : ∀ v ∈ l, 0 ≤ v ∧ v ≤ 999999999) (hl : (rfL st).length + l.length ≤ 1099) : rfL ((Zi w l).foldl Qs st) = rfL st ++ l := by
 unfold Zi
 have e := Qem w st hw (by omega)
 rw [qQ, QgI l _ h (by rw [e]; exact hl), e]
def Rp.nums (x : Rp) : List Int := [x.f, x.c, x.b, x.r, x.n, x.m] ++ x.l ++ [x.e, x.p, x.q, x.g]
theorem QgF {x : Rp} (hx : Qb3 x) : rfN (txt x) = x.nums := by
 obtain ⟨h1, h2, h3, h4, h5, h6, h7, h8, h9, h10, h11, h12, h13⟩ := hx
 obtain ⟨k1, k2, k3⟩ := Qak h2
 obtain ⟨⟨s1, s2, s3, s4, s5, s6, s7⟩, _⟩ := Qbk h1
 have s8 := QdQ h1
 have one : ∀ {v : Int}, 0 ≤ v ∧ v ≤ 999999999 → ∀ u ∈ [v], 0 ≤ u ∧ u ≤ 999999999 := fun {v} h u hu => by simp only [qI] at hu; rw [hu]; exact h
 have four : ∀ u ∈ [x.e, x.p, x.q, x.g], 0 ≤ u ∧ u ≤ 999999999 := fun u hu => by
  simp only [qq, yc, or_false] at hu
  rcases hu with rfl | rfl | rfl | rfl <;> omega
 have lbig : ∀ u ∈ x.l, 0 ≤ u ∧ u ≤ 999999999 := fun u hu => by have := k3 u hu; omega
 unfold rfN
 rw [← Qek k1]
 unfold Qb1
 rw [qQ, qQ, qQ, qQ, qQ, qQ, qQ, qQ]
 have z0 : rfL (([], none) : List Int × Option Int) = [] := rfl
 generalize (([], none) : List Int × Option Int) = st0 at *
 have g1 := QaB wF1 [x.f] st0 (by decide) (one (by omega)) (by rw [z0]; simp)
 rw [z0] at g1
 generalize (Zi wF1 [x.f]).foldl Qs st0 = st1 at *
 have g2 := QaB (32 :: wC1) [x.c] st1 (by decide) (one (by omega)) (by rw [g1]; simp)
 rw [g1] at g2
 generalize (Zi (32 :: wC1) [x.c]).foldl Qs st1 = st2 at *
 have g3 := QaB (32 :: wB1) [x.b] st2 (by decide) (one (by omega)) (by rw [g2]; simp)
 rw [g2] at g3
 generalize (Zi (32 :: wB1) [x.b]).foldl Qs st2 = st3 at *
 have g4 := QaB (32 :: wR1) [x.r] st3 (by decide) (one (by omega)) (by rw [g3]; simp)
 rw [g3] at g4
 generalize (Zi (32 :: wR1) [x.r]).foldl Qs st3 = st4 at *
 have g5 := QaB (32 :: wN1) [x.n] st4 (by decide) (one (by omega)) (by rw [g4]; simp)
 rw [g4] at g5
 generalize (Zi (32 :: wN1) [x.n]).foldl Qs st4 = st5 at *
 have g6 := QaB (10 :: wF2) [x.m] st5 (by decide) (one (by omega)) (by rw [g5]; simp)
 rw [g5] at g6
 generalize (Zi (10 :: wF2) [x.m]).foldl Qs st5 = st6 at *
 have g7 := QaB [58] x.l st6 (by decide) lbig (by rw [g6]; simp; omega)
 rw [g6] at g7
 generalize (Zi [58] x.l).foldl Qs st6 = st7 at *
 have g8 := QaB (10 :: wF3) [x.e, x.p, x.q, x.g] st7 (by decide) four (by rw [g7]; simp; omega)
 rw [g7] at g8
 generalize (Zi (10 :: wF3) [x.e, x.p, x.q, x.g]).foldl Qs st7 = st8 at *
 have g9 := Qem [10] st8 (by decide) (by rw [g8]; simp; omega)
 rw [g9, g8]
 simp [Rp.nums]
def Qiy (p : Int) : Int := if 255 < p then 255 else p
def rxO (l : List Int) : Rp := ⟨l.getD 0 0, l.getD 1 0, l.getD 2 0, l.getD 3 0, l.getD 4 0, l.getD 5 0, (l.drop 6).take (l.length - 10), l.getD (l.length - 4) 0, Qiy (l.getD (l.length - 3) 0), l.getD (l.length - 2) 0, l.getD (l.length - 1) 0⟩
theorem QgA {x : Rp} (h : x.p ≤ 6) : rxO x.nums = x := by
 obtain ⟨f, c, b, r, n, m, l, e, p, q, g⟩ := x
 have hp : Qiy p = p := qt (by simp only at h; omega)
 have hl : (Rp.nums ⟨f, c, b, r, n, m, l, e, p, q, g⟩).length = l.length + 10 := by simp [Rp.nums]
 have gd : ∀ (L : List Int) (k : Nat), (f :: c :: b :: r :: n :: m :: (l ++ L)).getD (6 + l.length + k) 0 = L.getD k 0 := fun L k => by
  rw [qg, show 6 + l.length + k = (l.length + k) + 1 + 1 + 1 + 1 + 1 + 1 by omega]
  simp only [List.getElem?_cons_succ]
  rw [qE (by omega), ye, qg]
 unfold rxO
 rw [hl]
 have e1 : Rp.nums ⟨f, c, b, r, n, m, l, e, p, q, g⟩ = f :: c :: b :: r :: n :: m :: (l ++ [e, p, q, g]) := by simp [Rp.nums]
 rw [e1, show l.length + 10 - 4 = 6 + l.length + 0 by omega, show l.length + 10 - 3 = 6 + l.length + 1 by omega, show l.length + 10 - 2 = 6 + l.length + 2 by omega, show l.length + 10 - 1 = 6 + l.length + 3 by omega, gd, gd, gd, gd, show l.length + 10 - 10 = l.length by omega]
 have e2 : ([e, p, q, g] : List Int).getD 1 0 = p := rfl
 rw [e2, hp]
 simp
theorem QjA {l : List Int} (h : l.length ≤ 1100) (hv : ∀ v ∈ l, 0 ≤ v ∧ v ≤ 999999999) : rpB (rxO l) := by
 refine ⟨by simp [rxO]; omega, fun v hm => ?_, ?_, ?_⟩
 ·have := hv v (yC (qu hm))
  omega
 ·show 0 ≤ Qiy (l.getD (l.length - 3) 0)
  rw [qg]
  cases h : l[l.length - 3]? with
  | none => decide
  | some p =>
   have := hv p (qC h)
   unfold Qiy
   simp only [yw]
   split <;> omega
 ·show Qiy _ ≤ 255
  unfold Qiy
  split <;> omega
theorem QjE (s : List UInt8) : (rfN s).length ≤ 1100 ∧ ∀ v ∈ rfN s, 0 ≤ v ∧ v ≤ 999999999 := QgH s _ Qiv
theorem Qeq {P : Prg} {f fN fC fW t0 : Nat} (bd : Body P f 74 [.cell 2 t0, .tmp 3] (QE fN fC fW t0)) (hN : Qc2 P fN) (hC : ZC P fC) (hW : Qbz P fW) (ht : QaW P t0 = some (some 11)) (s : List UInt8) (hs : s.length ≤ 1000000) (R : AV) (hR : isD R = true)
  (h0 : (rfN s).length < 10 → R = .tup [Rp.zero.av, .int .i64 12])
  (h1 : 10 ≤ (rfN s).length → Qb3 (rxO (rfN s)) → txt (rxO (rfN s)) = s → R = .tup [(rxO (rfN s)).av, .int .i64 0])
  (h2 : 10 ≤ (rfN s).length → (Qb3 (rxO (rfN s)) → txt (rxO (rfN s)) ≠ s) → R = .tup [Rp.zero.av, .int .i64 12]) : VC P f [.str s] R := by
 refine QZ 1 rfl hR (Qi bd (by simp) ?_)
 have hN' := hN s hs
 obtain ⟨hl, hv⟩ := QjE s
 generalize rfN s = l at *
 rw [QD] at hN'
 by_cases h10 : l.length < 10
 ·rw [h0 h10]
  simp (maxSteps := 4000000) (disch := omega) only [rq, simprocAttr, QE]
  refine Qa hN' ?_
  simp (maxSteps := 4000000) (disch := omega) only [rq, simprocAttr]
  simp (maxSteps := 4000000) (disch := omega) only [rq, simprocAttr, Z8, ht, QP]
  simp [ZQ, Zh, frzL, Q7, Rp.av, Rp.zero, QD, ks]
 have h1 := h1 (by omega)
 have h2 := h2 (by omega)
 have hb := QjA hl hv
 obtain ⟨v0, v1, v2, v3, v4, v5, t, rfl⟩ : ∃ a b c d e f t, l = a :: b :: c :: d :: e :: f :: t := by
  have h6 : (l.take 6).length = 6 := by simp; omega
  match hh : l.take 6, h6 with
  | [a, b, c, d, e, f], _ => exact ⟨a, b, c, d, e, f, l.drop 6, by rw [← qX 6 l, hh]; simp⟩
 obtain ⟨N, hNl⟩ : ∃ N, t.length = N + 4 := ⟨t.length - 4, by simp at h10; omega⟩
 obtain ⟨MM, hMM⟩ : ∃ M, M = t.take N := ⟨_, rfl⟩
 have hMl : MM.length = N := by rw [hMM]; simp; omega
 obtain ⟨v6, v7, v8, v9, hT⟩ : ∃ a b c d, t.drop N = [a, b, c, d] := by
  have hd : (t.drop N).length = 4 := by rw [yl]; omega
  match hh : t.drop N, hd with
  | [a, b, c, d], _ => exact ⟨a, b, c, d, rfl⟩
 have ht2 : t = MM ++ [v6, v7, v8, v9] := by rw [hMM, ← hT, qX]
 have hx : rxO (v0 :: v1 :: v2 :: v3 :: v4 :: v5 :: t) = ⟨v0, v1, v2, v3, v4, v5, MM, v6, Qiy v7, v8, v9⟩ := by
  have gd : ∀ (k : Nat), (v0 :: v1 :: v2 :: v3 :: v4 :: v5 :: t).getD (6 + N + k) 0 = ([v6, v7, v8, v9] : List Int).getD k 0 := fun k => by
   rw [qg, show 6 + N + k = (N + k) + 1 + 1 + 1 + 1 + 1 + 1 by omega]
   simp only [List.getElem?_cons_succ]
   rw [ht2, qE (by omega), hMl, ye, qg]
  have hlen : (v0 :: v1 :: v2 :: v3 :: v4 :: v5 :: t).length = N + 10 := by simp; omega
  unfold rxO
  rw [hlen, show N + 10 - 4 = 6 + N + 0 by omega, show N + 10 - 3 = 6 + N + 1 by omega, show N + 10 - 2 = 6 + N + 2 by omega, show N + 10 - 1 = 6 + N + 3 by omega, gd, gd, gd, gd, show N + 10 - 10 = N by omega, hMM]
  rfl
 rw [hx] at h1 h2 hb
 clear hx
 have hp := hv v7 (by rw [ht2]; simp)
 obtain ⟨pp, hpp⟩ : ∃ p, p = Qiy v7 := ⟨_, rfl⟩
 have hpq : (if 255 < v7 then 255 else v7) = pp := hpp.symm
 rw [← hpp] at h1 h2 hb
 have hpb : 0 ≤ pp ∧ pp ≤ 255 := ⟨hb.2.2.1, hb.2.2.2⟩
 clear hpp
 have hC' := hC _ hb
 have hW' := hW _ hb
 rw [Rp.av, QD, hMl] at hC' hW'
 obtain ⟨T, hTT⟩ : ∃ T, T = ks .i64 t := ⟨_, rfl⟩
 have hTl : T.length = N + 4 := by rw [hTT, Qw, hNl]
 have T0 : T.drop N = [.int .i64 v6, .int .i64 v7, .int .i64 v8, .int .i64 v9] := by rw [hTT, JB, hT]; rfl
 have T1 : T.drop (N + 1) = [.int .i64 v7, .int .i64 v8, .int .i64 v9] := by rw [← yT, T0]; rfl
 have T2 : T.drop (N + 2) = [.int .i64 v8, .int .i64 v9] := by rw [← yT, T0]; rfl
 have T3 : T.drop (N + 3) = [.int .i64 v9] := by rw [← yT, T0]; rfl
 have T4 : T.take N = ks .i64 MM := by rw [hTT, hMM]; simp [ks, List.map_take]
 have hks : ks .i64 (v0 :: v1 :: v2 :: v3 :: v4 :: v5 :: t) = .int .i64 v0 :: .int .i64 v1 :: .int .i64 v2 :: .int .i64 v3 :: .int .i64 v4 :: .int .i64 v5 :: T := by rw [hTT]; rfl
 have hN10 : N ≤ 1090 := by simp at hl; omega
 rw [hks, show (v0 :: v1 :: v2 :: v3 :: v4 :: v5 :: t).length = N + 10 by simp; omega] at hN'
 clear hks ht2 hTT hT
 simp (maxSteps := 4000000) (disch := omega) only [rq, simprocAttr, QE]
 refine Qa hN' ?_
 simp (maxSteps := 4000000) (disch := omega) only [rq, simprocAttr, T0, T1, T2, T3, T4, hpq, hTl]
 refine Qa hC' ?_
 by_cases hx : Qb3 ⟨v0, v1, v2, v3, v4, v5, MM, v6, pp, v8, v9⟩
 ·have e1 : rpN ⟨v0, v1, v2, v3, v4, v5, MM, v6, pp, v8, v9⟩ = 0 := qF hx
  have hW' := hW' hx
  rw [e1]
  by_cases htx : txt ⟨v0, v1, v2, v3, v4, v5, MM, v6, pp, v8, v9⟩ = s
  ·rw [h1 hx htx, Rp.av, QD]
   rw [htx] at hW'
   have hse : QbJ .neq s s = some (.bool false) := by
    show some (AV.bool (!(s == s))) = _
    rw [beq_iff_eq.2 rfl]
    rfl
   simp (maxSteps := 4000000) (disch := omega) only [rq, simprocAttr]
   refine Qa hW' ?_
   simp (maxSteps := 4000000) (disch := omega) only [rq, simprocAttr, hse]
   simp (maxSteps := 4000000) (disch := omega) only [rq, simprocAttr, Z8, ht, QP]
   simp [ZQ, Zh, frzL, Q7, hMl, frzL_T _ (Qy .i64 MM)]
  ·rw [h2 fun _ => htx]
   have hse : QbJ .neq (txt ⟨v0, v1, v2, v3, v4, v5, MM, v6, pp, v8, v9⟩) s = some (.bool true) := by
    show some (AV.bool (!(txt _ == s))) = _
    rw [yH.2 htx]
    rfl
   simp (maxSteps := 4000000) (disch := omega) only [rq, simprocAttr]
   refine Qa hW' ?_
   simp (maxSteps := 4000000) (disch := omega) only [rq, simprocAttr, hse]
   simp (maxSteps := 4000000) (disch := omega) only [rq, simprocAttr, Z8, ht, QP]
   simp [ZQ, Zh, frzL, Q7, Rp.av, Rp.zero, QD, ks]
 ·have e1 : rpN ⟨v0, v1, v2, v3, v4, v5, MM, v6, pp, v8, v9⟩ = 8 := qt hx
  rw [e1, h2 fun h => absurd h hx]
  simp (maxSteps := 4000000) (disch := omega) only [rq, simprocAttr]
  simp (maxSteps := 4000000) (disch := omega) only [rq, simprocAttr, Z8, ht, QP]
  simp [ZQ, Zh, frzL, Q7, Rp.av, Rp.zero, QD, ks]
def QeS (P : Prg) (f : Nat) : Prop := Qc6 P f
theorem QfK {P : Prg} {f fN fC fW t0 : Nat} (bd : Body P f 74 [.cell 2 t0, .tmp 3] (QE fN fC fW t0)) (hN : Qc2 P fN) (hC : ZC P fC) (hW : Qbz P fW) (ht : QaW P t0 = some (some 11)) : QeS P f := by
 intro s hs
 have key := Qeq bd hN hC hW ht s (by omega)
 refine ⟨fun x hx htx => key _ (by simp [isD, isDL, XJ]) ?_ ?_ ?_, fun hno => key _ (by simp [isD, isDL, XJ]) (fun _ => rfl) ?_ (fun _ _ => rfl)⟩
 ·intro h
  exfalso
  rw [← htx, QgF hx] at h
  simp only [Rp.nums, qm, qn, qT] at h
  omega
 ·intro _ _ _
  have e : rxO (rfN s) = x := by rw [← htx, QgF hx]; exact QgA hx.2.2.2.2.2.2.2.2.1
  rw [e]
 ·intro _ h
  have e : rxO (rfN s) = x := by
   rw [← htx, QgF hx]
   exact QgA hx.2.2.2.2.2.2.2.2.1
  rw [e] at h
  exact absurd htx (h hx)
 ·intro _ h1 h2
  exact absurd ⟨_, h1, h2⟩ hno
theorem JC {α : Type} (f : α → AV) : ∀ l : List α, (l.map fun x => [f x]).flatten = l.map f
 | [] => rfl
 | x :: l => by simp [JC f l]
theorem Qke {L : List (List AV)} (h : ∀ c ∈ L, QaR (.int .u8) c) : ∃ l : List UInt8, L.length = l.length ∧ AV.list L.length L.flatten = bs l := by
 obtain ⟨l, rfl, _⟩ := Qap (f := fun b : UInt8 => [AV.int .u8 b.toNat]) (q := fun _ => True) h (fun c hc => by
  simp only [QaR] at hc
  obtain ⟨n, rfl, h1, h2⟩ := hc
  simp only [IntKind.min, IntKind.max, IntKind.signed, IntKind.bits] at h1 h2
  refine ⟨UInt8.ofNat n.toNat, ?_, trivial⟩
  simp at h1 h2
  simp; omega)
 exact ⟨l, by simp, by simp [bs, u8, JC]⟩
theorem Qhe {K : IntKind} {L : List (List AV)} (h : ∀ c ∈ L, QaR (.int K) c) : ∃ l : List Int, L.length = l.length ∧ AV.list L.length L.flatten = .list l.length (ks K l) ∧ ∀ x ∈ l, K.min ≤ x ∧ x ≤ K.max := by
 obtain ⟨l, rfl, h2⟩ := Qap (f := fun n : Int => [AV.int K n]) (q := fun x => K.min ≤ x ∧ x ≤ K.max) h (fun c hc => by
  simp only [QaR] at hc
  obtain ⟨n, rfl, h1, h2⟩ := hc
  exact ⟨n, rfl, h1, h2⟩)
 exact ⟨l, by simp, by simp [ks, JC], h2⟩
def QjO (P : Program) (t : TypeId) : Bool := match P.underlying t with | some (.struct _) => true | _ => false
def QjP (P : Program) (t : TypeId) : Bool := match P.underlying t with | some (.array _ _) => true | _ => false
def QkE (P : Program) (t : TypeId) : Bool := match P.underlying t with | some (.slice _) => true | _ => false
theorem Qh7 {P : Program} {t : TypeId} (h : QjO P t = true) : ∃ fs, P.underlying t = some (.struct fs) := by
 unfold QjO at h; split at h
 ·exact ⟨_, by assumption⟩
 ·cases h
theorem Qkc {P : Program} {t : TypeId} (h : QjP P t = true) : ∃ n e, P.underlying t = some (.array n e) := by
 unfold QjP at h; split at h
 ·exact ⟨_, _, by assumption⟩
 ·cases h
theorem Qkv {P : Program} {t : TypeId} (h : QkE P t = true) : ∃ e, P.underlying t = some (.slice e) := by
 unfold QkE at h; split at h
 ·exact ⟨_, by assumption⟩
 ·cases h
end Go.Am
