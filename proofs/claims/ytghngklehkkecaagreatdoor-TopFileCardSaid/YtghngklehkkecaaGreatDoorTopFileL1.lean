/- What the functions that the law reaches return, for every program that has their code; the conditions stand in each statement. -/
import Derived.Test.YtghngklehkkecaaGreatDoorTopFileD1
set_option linter.unusedSectionVars false
set_option linter.unusedSimpArgs false
set_option linter.unusedVariables false
namespace Go.Am
open Go.RowKit
def leN : List UInt8 → Nat
 | [] => 0
 | b :: l => b.toNat + 256 * leN l
theorem QdD : ∀ l : List UInt8, leN l < 2 ^ (8 * l.length)
 | [] => by simp [leN]
 | b :: l => by
  have h1 := QdD l
  have h2 := b.toNat_lt
  have h3 : 2 ^ (8 * (b :: l).length) = 256 * 2 ^ (8 * l.length) := by
   rw [qJ, y9, q9, yd]
  rw [h3]
  simp only [leN]
  omega
theorem Qk1 : ∀ (a b : List UInt8), leN (a ++ b) = leN a + 2 ^ (8 * a.length) * leN b
 | [], b => by simp [leN]
 | x :: a, b => by
  have h3 : 2 ^ (8 * (x :: a).length) = 256 * 2 ^ (8 * a.length) := by
   rw [qJ, y9, q9, yd]
  rw [h3]
  simp only [yc, leN, Qk1 a b, y9, yK]
  omega
theorem QzR {l : List UInt8} (h : l.length ≤ 8) : leN l < 18446744073709551616 := by
 have h1 := QdD l
 have h2 : 2 ^ (8 * l.length) ≤ 2 ^ 64 := qr (by omega) (by omega)
 omega
theorem QzQ {l : List UInt8} {k : Nat} (h : k < l.length) : leN (l.take (k + 1)) = leN (l.take k) + l[k].toNat * 2 ^ (8 * k) := by
 rw [qq h, Qk1]
 simp [leN, qL (Nat.le_of_lt h), yd]
def Qel (P : Prg) (f : Nat) : Prop := ∀ l : List UInt8, 1 ≤ l.length → l.length ≤ 8 → VC P f [bs l] (.tup [.int .u64 (leN l), .int .i64 0])
set_option maxRecDepth 10000 in
theorem QzO {P : Prg} {f : Nat} (b : Body P f 31 [.tmp 2, .tmp 3] Qfk) : Qel P f := by
 intro l h1 h2
 refine Qv (by simp [isDL, QD]) rfl b ?_
 have d1 : ¬ ((l.length : Int) < 1) := by omega
 have d2 : ¬ ((8 : Int) < l.length) := by omega
 simp only [rv, okW, Qo, aop, cV, cV1, AV.one, Qf, Q3, Qe, Qd, Qt, JL, app, qG, qB, qO, qI, qt, simprocAttr, Qfk, bs, d1, d2]
 refine Qg (ι := Nat) (fun k => ⟨[(17, .int .i64 k), (16, .int .i64 l.length), (15, .list l.length (u8 l)), (4, .int .u64 (leN (l.take k)))], []⟩) (fun k => k ≤ l.length) (fun k => l.length - k) 0 (Qm (by simp [Am.look, leN])) (by omega) ?_
 intro k hk
 by_cases hlt : k < l.length
 ·have e1 : (k : Int) < l.length := by omega
  have e2 : (0 : Int) ≤ k := by omega
  have e4 := QcC hlt
  have e5 : IntKind.u64.wrap ((l[k].toNat : Nat) : Int) = (l[k].toNat : Nat) := Qav (by omega) (by have := l[k].toNat_lt; omega)
  have e6 : IntKind.i64.wrap (8 * (k : Int)) = (8 * k : Nat) := by rw [wrap_i64] <;> omega
  have e7 : Qj true .u64 ((l[k].toNat : Nat) : Int) ((8 * k : Nat) : Int) = some (.int .u64 ((l[k].toNat * 2 ^ (8 * k) : Nat) : Int)) := Qwm (by omega) (by
   have h1 := l[k].toNat_lt
   have h2 : 2 ^ (8 * k) ≤ 2 ^ 56 := qr (by omega) (by omega)
   calc l[k].toNat * 2 ^ (8 * k) ≤ 255 * 2 ^ 56 := yX (by omega) h2
    _ < _ := by omega)
  have e8 : leN (l.take (k + 1)) < 18446744073709551616 := QzR (by simp; omega)
  have e9 := QzQ hlt
  have e10 : leN (l.take k) < 2 ^ (8 * k) := by have := QdD (l.take k); rwa [qu, qL hk] at this
  have e11 : IntKind.u64.wrap (BitVec.ofInt IntKind.u64.bits (leN (l.take k) : Nat) ||| BitVec.ofInt IntKind.u64.bits (l[k].toNat * 2 ^ (8 * k) : Nat)).toNat = (leN (l.take (k + 1)) : Nat) := by
   rw [QAR _ _ (by omega) (by omega), QkX e10, e9]
  have e12 : IntKind.i64.wrap ((k : Int) + 1) = ((k + 1 : Nat) : Int) := by rw [wrap_i64] <;> omega
  simp only [rv, okW, Qo, aop, cV, cV1, AV.one, Qf, Q3, Qe, Qd, Qt, JL, app, qG, qB, qO, qI, qt, simprocAttr, e1, e2, hlt, e4, e5, e6, e7, e11, e12]
  exact ⟨k + 1, by omega, by omega, Ql⟩
 ·have e1 : ¬ (k : Int) < l.length := by omega
  have e2 : k = l.length := by omega
  subst e2
  simp only [rv, okW, Qo, aop, cV, cV1, AV.one, Qf, Q3, Qe, Qd, Qt, JL, app, qG, qB, qO, qI, qt, simprocAttr, e1, qD]
def Qfo (P : Prg) (f : Nat) : Prop := ∀ (l : List UInt8) (a w : Nat), l.length < 4611686018427387904 → 1 ≤ w → w ≤ 8 → a < 4611686018427387904 →
 VC P f [bs l, .int .i64 a, .int .i64 w] (if a + w ≤ l.length then .tup [.int .u64 (leN ((l.drop a).take w)), .int .i64 0] else .tup [.int .u64 0, .int .i64 24])
set_option maxRecDepth 10000 in
theorem QEo {P : Prg} {f g : Nat} (b : Body P f 33 [.tmp 6, .tmp 7] (Qh2 g)) (hg : Qel P g) : Qfo P f := by
 intro l a w hl h1 h2 ha
 have d1 : ¬ ((w : Int) < 1) := by omega
 have d2 : ¬ ((8 : Int) < w) := by omega
 have d3 : ¬ ((a : Int) < 0) := by omega
 have d4 : IntKind.i64.wrap ((l.length : Int) - w) = (l.length : Int) - w := by rw [wrap_i64] <;> omega
 have d5 : IntKind.i64.wrap ((a : Int) + w) = (a : Int) + w := by rw [wrap_i64] <;> omega
 by_cases hle : a + w ≤ l.length
 ·rw [qh hle]
  refine Qv (by simp [isDL, QD, isD]) rfl b ?_
  have d6 : ¬ ((l.length : Int) - w < a) := by omega
  have d7 := QAM (ob := []) (l := l) (a := a) (b := (a : Int) + w) (i := a) (j := a + w) rfl (by omega) (by omega) hle
  simp only [rv, okW, Qo, aop, cV, cV1, AV.one, Qf, Q3, Qe, Qd, Qt, JL, app, qG, qB, qO, qI, qt, simprocAttr, Qh2, bs, d1, d2, d3, d4, d5, d6, d7]
  have hlen : ((l.drop a).take w).length = w := by simp; omega
  have e : a + w - a = w := by omega
  rw [e]
  have := hg ((l.drop a).take w) (by omega) (by omega)
  rw [bs, hlen] at this
  refine Qa this ?_
  simp only [rv, okW, Qo, aop, cV, cV1, AV.one, Qf, Q3, Qe, Qd, Qt, JL, app, qG, qB, qO, qI, qt, simprocAttr]
 ·rw [qf hle]
  refine Qv (by simp [isDL, QD, isD]) rfl b ?_
  have d6 : ((l.length : Int) - w < a) := by omega
  simp only [rv, okW, Qo, aop, cV, cV1, AV.one, Qf, Q3, Qe, Qd, Qt, JL, app, qG, qB, qO, qI, qt, simprocAttr, Qh2, bs, d1, d2, d3, d4, d6]
def Qq5 (c : UInt8) : Bool := decide (32 ≤ c.toNat) && decide (c.toNat ≤ 126)
def Xg (s : List UInt8) : Bool := s.all Qq5 && s.length == 4
theorem Qm7 {s : List UInt8} {k : Nat} (h : k < s.length) {p : UInt8 → Bool} : (s.take (k + 1)).all p = ((s.take k).all p && p s[k]) := by
 rw [qq h, jY]; simp
theorem Qw6 {s : List UInt8} {k : Nat} (h : k < s.length) {p : UInt8 → Bool} (hp : p s[k] = false) : s.all p = false := by
 rw [List.all_eq_false]
 exact ⟨s[k], ye h, by simp [hp]⟩
def Qem (P : Prg) (f : Nat) : Prop := ∀ s : List UInt8, s.length < 4611686018427387904 → VC P f [.str s] (.bool (Xg s))
set_option maxRecDepth 10000 in
theorem Qqw {P : Prg} {f : Nat} (b : Body P f 22 [.tmp 2] QbO) : Qem P f := by
 intro s hs
 refine Qv rfl rfl b ?_
 simp only [rv, okW, Qo, aop, cV, cV1, AV.one, Qf, Q3, Qe, Qd, Qt, JL, app, qG, qB, qO, qI, qt, simprocAttr, QbO]
 refine Qg (ι := Nat) (fun k => ⟨[(8, .int .i64 k), (7, .int .i64 s.length), (6, bs s), (0, .str s)], []⟩) (fun k => k ≤ s.length ∧ (s.take k).all Qq5 = true) (fun k => s.length - k) 0 (Qm (by simp [Am.look, bs])) ⟨by omega, by simp⟩ ?_
 intro k ⟨hk, hg⟩
 by_cases hlt : k < s.length
 ·have e1 : (k : Int) < s.length := by omega
  have e2 : (0 : Int) ≤ k := by omega
  have e4 := QcC hlt
  have e12 : IntKind.i64.wrap ((k : Int) + 1) = ((k + 1 : Nat) : Int) := by rw [wrap_i64] <;> omega
  by_cases h1 : s[k].toNat < 32
  ·have f1 : ((s[k].toNat : Nat) : Int) < 32 := by omega
   have f2 : Xg s = false := by simp [Xg, Qw6 hlt (p := Qq5) (by simp [Qq5]; omega)]
   simp only [rv, okW, Qo, aop, cV, cV1, AV.one, Qf, Q3, Qe, Qd, Qt, JL, app, qG, qB, qO, qI, qt, simprocAttr, bs, e1, e2, hlt, e4, e12, f1, f2]
  ·have f1 : ¬ ((s[k].toNat : Nat) : Int) < 32 := by omega
   by_cases h2 : 126 < s[k].toNat
   ·have f3 : (126 : Int) < ((s[k].toNat : Nat) : Int) := by omega
    have f2 : Xg s = false := by simp [Xg, Qw6 hlt (p := Qq5) (by simp [Qq5]; omega)]
    simp only [rv, okW, Qo, aop, cV, cV1, AV.one, Qf, Q3, Qe, Qd, Qt, JL, app, qG, qB, qO, qI, qt, simprocAttr, bs, e1, e2, hlt, e4, e12, f1, f2, f3]
   ·have f3 : ¬ (126 : Int) < ((s[k].toNat : Nat) : Int) := by omega
    simp only [rv, okW, Qo, aop, cV, cV1, AV.one, Qf, Q3, Qe, Qd, Qt, JL, app, qG, qB, qO, qI, qt, simprocAttr, bs, e1, e2, hlt, e4, e12, f1, f3]
    exact ⟨k + 1, ⟨by omega, by rw [Qm7 hlt, hg]; simp [Qq5]; omega⟩, by omega, Qm (by simp [Am.look, bs])⟩
 ·have e1 : ¬ (k : Int) < s.length := by omega
  have e2 : k = s.length := by omega
  subst e2
  rw [qD] at hg
  have e3 : (((s.length : Nat) : Int) == 4) = Xg s := by
   simp only [Xg, hg, Bool.true_and]
   rw [Ye]; simp; omega
  simp only [rv, okW, Qo, aop, cV, cV1, AV.one, Qf, Q3, Qe, Qd, Qt, JL, app, qG, qB, qO, qI, qt, simprocAttr, bs, e1, e3]
theorem QF (l : List UInt8) : isTL (u8 l) = true := by
 induction l with
 | nil => rfl
 | cons x l ih => simp [Qe0, isTL, isT, ih]
theorem QA1 (l : List UInt8) : isT (bs l) = true := by simp [bs, isT, QF]
theorem QDo {f : List AV → Option (List AV)} {kp ok : Nat → Bool} {ob : List Ob} (l : List UInt8) : Qy f kp ok ob (bs l) = some (bs l) := QA6 _ (QA1 l)
def XO (P : Prg) (f : Nat) : Prop := ∀ l : List UInt8, l.length < 140737488355328 → VC P f [bs l] (bs l)
set_option maxRecDepth 10000 in
theorem Qjg {P : Prg} {f t0 : Nat} (b : Body P f 8 [.tmp 2] (J7 t0)) : XO P f := by
 intro l hl
 refine Qk 1 (by simp [isDL, QD]) (QD l) (Qb b (by simp) ?_)
 have fin : ∀ ob, ob = [⟨t0, 1, l.length, u8 l, 0⟩] → QO (fun _ => true) ob (1 + 1) [.own 0 l.length] = some [bs l] := by
  rintro ob rfl
  simp only [QO, Qx, frzL, Qy, yo, qI, Yi, and_self, qO, frzL_T _ (QF l), yD]
  rfl
 have d1 : l.length * 1 ≤ 140737488355328 := by omega
 have d2 : l.length ≤ 9223372036854775807 := by omega
 by_cases h0 : l = []
 ·subst h0
  simp only [rv, okW, Qo, aop, cV, cV1, AV.one, Qf, Q3, Qe, Qd, Qt, JL, app, qG, qB, qO, qI, qt, simprocAttr, J7, bs, QpQ, Qg7]
  simp [QO, Qx, frzL, Qy, isDL]
 ·have h1 : l.length ≠ 0 := by simpa using h0
  have d3 : l.length ≤ 140737488355328 := by omega
  simp only [rv, okW, Qo, aop, cV, cV1, AV.one, Qf, Q3, Qe, Qd, Qt, JL, app, qG, qB, qO, qI, qt, simprocAttr, J7, bs, QpQ, h1, d2, d3]
  exact fin _ rfl
theorem Qg9 {ob : List Ob} {l : List UInt8} {a b : Int} (i j n : Nat) (ha : a = i) (hb : b = j) (hn : j = i + n) (h2 : j ≤ l.length) : Qhu ob 1 (.list l.length (u8 l)) a b = some (.list n (u8 ((l.drop i).take n))) := by
 have := QAM (ob := ob) ha hb (by omega) h2
 rwa [show j - i = n by omega] at this
theorem QdC {l : List UInt8} {i n : Nat} (h : i + n ≤ l.length) : ((l.drop i).take n).length = n := by simp; omega
abbrev Ck := List UInt8 × List UInt8
def ckA (c : Ck) : AV := .agg [.str c.1, bs c.2]
def Qa2 (l : List UInt8) : Option (Ck × List UInt8) :=
 if l.length < 8 ∨ Xg (l.take 4) = false then none
 else
  let n := leN ((l.drop 4).take 4)
  if l.length - 8 < n then none
  else if n % 2 = 1 then
   (if l.length = 8 + n ∨ (l.getD (8 + n) 0) ≠ 0 then none else some ((l.take 4, (l.drop 8).take n), l.drop (9 + n)))
  else some ((l.take 4, (l.drop 8).take n), l.drop (8 + n))
def Qj7 : Option (Ck × List UInt8) → AV
 | none => .tup [ckA ([], []), bs [], .bool false]
 | some (c, r) => .tup [ckA c, bs r, .bool true]
def Qfn (P : Prg) (f : Nat) : Prop := ∀ l : List UInt8, l.length < 140737488355328 → VC P f [bs l] (Qj7 (Qa2 l))
theorem QzZ (r : Option (Ck × List UInt8)) : isD (Qj7 r) = true := by
 cases r with
 | none => rfl
 | some p => obtain ⟨c, r⟩ := p; simp [Qj7, ckA, isD, isDL, QD]
set_option maxRecDepth 20000 in
theorem Qwz {P : Prg} {f fN fA fC t0 : Nat} (b : Body P f 62 [.cell 2 t0, .tmp 3, .tmp 4] (Qby fN fA fC t0)) (ht : Zu P t0 = some (some 2)) (hN : Qem P fN) (hA : Qfo P fA) (hC : XO P fC) : Qfn P f := by
 intro l hl
 refine Qk 1 (by simp [isDL, QD]) (QzZ _) (Qb b (by simp) ?_)
 have fin0 : ∀ ob, QO (fun _ => true) ob 2 [.tup [.agg [.str [], .emp true], .emp true, .bool false]] = some [Qj7 none] := by
  intro ob
  simp [QO, Qx, frzL, Qy, Qj7, ckA, bs, u8]
 have fin1 : ∀ ob (c : Ck) r, QO (fun _ => true) ob 2 [.tup [.agg [.str c.1, bs c.2], bs r, .bool true]] = some [Qj7 (some (c, r))] := by
  intro ob c r
  simp [QO, Qx, frzL, Qy, Qj7, ckA, QDo]
 have fin2 : ∀ ob (c : Ck) r n m, n = c.2.length → m = r.length → QO (fun _ => true) ob 2 [.tup [.agg [.str c.1, .list n (u8 c.2)], .list m (u8 r), .bool true]] = some [Qj7 (some (c, r))] := by
  rintro ob c r n m rfl rfl
  exact fin1 ob c r
 by_cases h8 : l.length < 8
 ·have e0 : Qa2 l = none := by simp [Qa2, h8]
  have e1 : (l.length : Int) < 8 := by omega
  rw [e0]
  simp only [rv, okW, Qo, aop, cV, cV1, AV.one, Qf, Q3, Qe, Qd, Qt, JL, app, qG, qB, qO, qI, qt, simprocAttr, Qby, bs, e1, Q1, ht]
  exact fin0 _
 ·have e1 : ¬ (l.length : Int) < 8 := by omega
  have e2 := Qg9 (ob := [⟨t0, 2, 1, [.str [], .emp true], 0⟩]) (l := l) (a := 0) (b := 4) 0 4 4 rfl rfl rfl (by omega)
  have e3 := QdC (l := l) (i := 0) (n := 4) (by omega)
  simp only [yJ] at e2 e3
  simp only [rv, okW, Qo, aop, cV, cV1, AV.one, Qf, Q3, Qe, Qd, Qt, JL, app, qG, qB, qO, qI, qt, simprocAttr, Qby, bs, e1, e2, e3, Q1, ht]
  refine Qa (hN (l.take 4) (by omega)) ?_
  by_cases hn : Xg (l.take 4) = false
  ·have e0 : Qa2 l = none := by simp [Qa2, hn]
   rw [e0]
   simp only [rv, okW, Qo, aop, cV, cV1, AV.one, Qf, Q3, Qe, Qd, Qt, JL, app, qG, qB, qO, qI, qt, simprocAttr, hn, Q1, ht]
   exact fin0 _
  ·have hn' : Xg (l.take 4) = true := by simpa using hn
   simp only [rv, okW, Qo, aop, cV, cV1, AV.one, Qf, Q3, Qe, Qd, Qt, JL, app, qG, qB, qO, qI, qt, simprocAttr, hn']
   have hv := hA l 4 4 (by omega) (by omega) (by omega) (by omega)
   rw [qh (by omega : 4 + 4 ≤ l.length)] at hv
   refine Qa hv ?_
   generalize hnn : leN ((l.drop 4).take 4) = n
   have hn4 : n < 4294967296 := by
    have := QdD ((l.drop 4).take 4)
    rw [hnn, QdC (by omega)] at this
    exact this
   have f1 := Qg9 (ob := [⟨t0, 2, 1, [.str [], .emp true], 0⟩]) (l := l) (a := 8) (b := l.length) 8 l.length (l.length - 8) rfl rfl (by omega) (by omega)
   have f2 := QdC (l := l) (i := 8) (n := l.length - 8) (by omega)
   have f3 : (l.drop 8).take (l.length - 8) = l.drop 8 := qg (by simp)
   have f4 : (l.drop 8).length = l.length - 8 := by simp
   rw [f3] at f1 f2
   have f5 : IntKind.u64.wrap ((l.length - 8 : Nat) : Int) = (l.length - 8 : Nat) := Qav (by omega) (by omega)
   by_cases hlt : l.length - 8 < n
   ·have e0 : Qa2 l = none := by simp [Qa2, hn', hnn, hlt]
    have e4 : ((l.length - 8 : Nat) : Int) < (n : Int) := by omega
    rw [e0]
    simp only [rv, okW, Qo, aop, cV, cV1, AV.one, Qf, Q3, Qe, Qd, Qt, JL, app, qG, qB, qO, qI, qt, simprocAttr, e1, e2, e3, f1, f5, e4, Q1, ht]
    exact fin0 _
   ·have e4 : ¬ ((l.length - 8 : Nat) : Int) < (n : Int) := by omega
    generalize hr : l.drop 8 = r at *
    have g1 := Qg9 (ob := [⟨t0, 2, 1, [.str [], .emp true], 0⟩]) (l := r) (a := 0) (b := n) 0 n n rfl rfl (by omega) (by omega)
    have g2 := QdC (l := r) (i := 0) (n := n) (by omega)
    simp only [yJ] at g1 g2
    rw [← f4] at f1 f5 e4
    simp only [rv, okW, Qo, aop, cV, cV1, AV.one, Qf, Q3, Qe, Qd, Qt, JL, app, qG, qB, qO, qI, qt, simprocAttr, e1, e2, e3, f1, f5, e4, g1]
    have hcl := hC (r.take n) (by omega)
    rw [bs, g2] at hcl
    refine Qa hcl ?_
    have g3 := Qg9 (ob := [⟨t0, 2, 1, [.str [], .emp true], 0⟩, ⟨t0, 2, 1, [.str (l.take 4), .list n (u8 (r.take n))], 0⟩]) (l := r) (a := n) (b := r.length) n r.length (r.length - n) rfl rfl (by omega) (by omega)
    have g4 : (r.drop n).length = r.length - n := by simp
    have g5 : (r.drop n).take (r.length - n) = r.drop n := qg (by omega)
    rw [g5, ← g4] at g3
    have g6 : ((n : Int).tmod 2) = ((n % 2 : Nat) : Int) := rfl
    have g7 : leN ((l.drop 4).take 4) = n := hnn
    by_cases hodd : n % 2 = 1
    ·have g8 : (((n % 2 : Nat) : Int) == 1) = true := by rw [hodd]; rfl
     by_cases hend : r.length = n
     ·have e0 : Qa2 l = none := by
       simp only [Qa2, hn', g7]
       rw [qf (by simp; omega), qf (by omega), qh hodd, qh (.inl (by omega))]
      have g9 : (((r.drop n).length : Int) == 0) = true := by simp; omega
      rw [e0]
      simp only [rv, okW, Qo, aop, cV, cV1, AV.one, Qf, Q3, Qe, Qd, Qt, JL, app, qG, qB, qO, qI, qt, simprocAttr, g3, g6, g8, g9, Q1, ht]
      exact fin0 _
     ·have hlt2 : 0 < (r.drop n).length := by omega
      have g9 : (((r.drop n).length : Int) == 0) = false := by simp; omega
      have g10 : (0 : Int) < (r.drop n).length := by omega
      have g11 := QcC hlt2
      simp only [yJ] at g11
      have g12 : (r.drop n)[0] = l.getD (8 + n) 0 := by
       subst hr
       simp [qd, qc (show 8 + n < l.length by omega)]
      have g14 : 0 < ((r.drop n).drop 1).length + 1 := by omega
      by_cases hz : l.getD (8 + n) 0 = 0
      ·have e0 : Qa2 l = some ((l.take 4, r.take n), (r.drop n).drop 1) := by
        simp only [Qa2, hn', g7]
        rw [qf (by simp; omega), qf (by omega), qh hodd, qf (by rintro (h | h); omega; exact h hz), ← hr, yl, yl]
        congr 3
        omega
       have g13 : (((r.drop n)[0].toNat : Int) != 0) = false := by rw [g12, hz]; rfl
       have h1 := Qg9 (ob := [⟨t0, 2, 1, [.str [], .emp true], 0⟩, ⟨t0, 2, 1, [.str (l.take 4), .list n (u8 (r.take n))], 0⟩]) (l := r.drop n) (a := 1) (b := (r.drop n).length) 1 (r.drop n).length ((r.drop n).length - 1) rfl rfl (by omega) (by omega)
       have h2 : ((r.drop n).drop 1).take ((r.drop n).length - 1) = (r.drop n).drop 1 := qg (by rw [jl]; exact qo _)
       rw [h2, g11] at h1
       rw [e0]
       simp only [rv, okW, Qo, aop, cV, cV1, AV.one, Qf, Q3, Qe, Qd, Qt, JL, app, qG, qB, qO, qI, qt, simprocAttr, g3, g6, g8, g9, g10, g11, g13, g14, h1, hlt2, Q1, ht]
       exact fin2 _ (l.take 4, r.take n) ((r.drop n).drop 1) _ _ g2.symm (by rw [jl (i := 1)])
      ·have e0 : Qa2 l = none := by
        simp only [Qa2, hn', g7]
        rw [qf (by simp; omega), qf (by omega), qh hodd, qh (.inr hz)]
       have g13 : (((r.drop n)[0].toNat : Int) != 0) = true := by
        rw [g12]
        have : (l.getD (8 + n) 0).toNat ≠ 0 := fun h => hz (UInt8.toNat_inj.1 h)
        exact bne_iff_ne.2 (by omega)
       rw [e0]
       simp only [rv, okW, Qo, aop, cV, cV1, AV.one, Qf, Q3, Qe, Qd, Qt, JL, app, qG, qB, qO, qI, qt, simprocAttr, g3, g6, g8, g9, g10, g11, g13, g14, hlt2, Q1, ht]
       exact fin0 _
    ·have g8 : (((n % 2 : Nat) : Int) == 1) = false := by simp; omega
     have e0 : Qa2 l = some ((l.take 4, r.take n), r.drop n) := by
      simp only [Qa2, hn', g7, hr]
      rw [qf (by simp; omega), qf (by omega), qf hodd, ← hr, yl]
     rw [e0]
     simp only [rv, okW, Qo, aop, cV, cV1, AV.one, Qf, Q3, Qe, Qd, Qt, JL, app, qG, qB, qO, qI, qt, simprocAttr, g3, g6, g8, Q1, ht]
     exact fin2 _ (l.take 4, r.take n) (r.drop n) _ _ g2.symm rfl
def XQ : Nat → List Ck → List UInt8 → Nat ⊕ List Ck
 | 0, _, _ => .inl 0
 | k + 1, out, rest =>
  if rest = [] then .inr out
  else if out.length = 20 then .inl 4
  else match Qa2 rest with
   | none => .inl 12
   | some (c, left) => XQ k (out ++ [c]) left
def Qaj : List UInt8 := [82, 73, 70, 70]
def JH (l : List UInt8) : Nat ⊕ (List UInt8 × List Ck) :=
 if l.length < 12 then .inl 24
 else
  let n := leN ((l.drop 4).take 4)
  let form := (l.drop 8).take 4
  if l.take 4 ≠ Qaj ∨ Xg form = false ∨ n < 4 then .inl 12
  else if 100000 < n + 8 then .inl 4
  else if l.length < n + 8 then .inl 24
  else match XQ (n + 1) [] ((l.drop 12).take (n - 4)) with
   | .inl e => .inl e
   | .inr out => if n + 8 < l.length then .inl 38 else .inr (form, out)
def ckL : List Ck → List AV
 | [] => []
 | c :: r => .str c.1 :: bs c.2 :: ckL r
theorem Jo : ∀ l : List Ck, (ckL l).length = l.length * 2
 | [] => rfl
 | c :: r => by simp [ckL, Jo r]; omega
theorem Qld : ∀ a b : List Ck, ckL a ++ ckL b = ckL (a ++ b)
 | [], b => rfl
 | c :: a, b => by simp [ckL, Qld a b]
theorem QdF : ∀ l : List Ck, isTL (ckL l) = true
 | [] => rfl
 | c :: r => by simp [ckL, isTL, isT, QA1, QdF r]
def Qj4 : Nat ⊕ (List UInt8 × List Ck) → AV
 | .inl e => .tup [.str [], .list 0 [], .int .i64 e]
 | .inr (form, out) => .tup [.str form, .list out.length (ckL out), .int .i64 0]
theorem QzY (r : Nat ⊕ (List UInt8 × List Ck)) : isD (Qj4 r) = true := by
 cases r with
 | inl e => rfl
 | inr p => obtain ⟨f, o⟩ := p; simp [Qj4, isD, isDL, QoC (QdF o)]
theorem QsY {l : List UInt8} {c : Ck} {r : List UInt8} (h : Qa2 l = some (c, r)) : r.length < l.length ∧ c.1.length = 4 := by
 unfold Qa2 at h
 split at h
 ·cases h
 rename_i h0
 simp only at h
 split at h
 ·cases h
 split at h
 ·split at h
  ·cases h
  ·cases h; simp; omega
 ·cases h; simp; omega
def QtB (P : Prg) (f : Nat) : Prop := ∀ l : List UInt8, l.length < 140737488355328 → VC P f [bs l] (Qj4 (JH l))
set_option maxRecDepth 20000 in
theorem QwA {P : Prg} {f fA fN fX t0 : Nat} (b : Body P f 80 [.tmp 2, .tmp 3, .tmp 4] (Qbz fA fN fX t0)) (hA : Qfo P fA) (hN : Qem P fN) (hX : Qfn P fX) : QtB P f := by
 intro l hl
 refine Qk 1 (by simp [isDL, QD]) (QzY _) (Qb b (by simp) ?_)
 have fin0 : ∀ ob (e : Int) (n : Nat), e = n → QO (fun _ => true) ob 2 [.tup [.str [], .emp true, .int .i64 e]] = some [Qj4 (.inl n)] := by
  rintro ob e n rfl
  simp [QO, Qx, frzL, Qy, Qj4]
 by_cases h12 : l.length < 12
 ·have e0 : JH l = .inl 24 := by simp [JH, h12]
  have e1 : (l.length : Int) < 12 := by omega
  rw [e0]
  simp only [rv, okW, Qo, aop, cV, cV1, AV.one, Qf, Q3, Qe, Qd, Qt, JL, app, qG, qB, qO, qI, qt, simprocAttr, Qbz, bs, e1, Q1]
  exact fin0 _ _ _ rfl
 ·have e1 : ¬ (l.length : Int) < 12 := by omega
  have hv := hA l 4 4 (by omega) (by omega) (by omega) (by omega)
  rw [qh (by omega : 4 + 4 ≤ l.length)] at hv
  generalize hnn : leN ((l.drop 4).take 4) = n at hv
  have hn4 : n < 4294967296 := by
   have := QdD ((l.drop 4).take 4)
   rw [hnn, QdC (by omega)] at this
   exact this
  have e2 := Qg9 (ob := []) (l := l) (a := 8) (b := 12) 8 12 4 rfl rfl rfl (by omega)
  have e3 := QdC (l := l) (i := 8) (n := 4) (by omega)
  have e4 := Qg9 (ob := []) (l := l) (a := 0) (b := 4) 0 4 4 rfl rfl rfl (by omega)
  have e5 := QdC (l := l) (i := 0) (n := 4) (by omega)
  simp only [yJ] at e4 e5
  simp only [rv, okW, Qo, aop, cV, cV1, AV.one, Qf, Q3, Qe, Qd, Qt, JL, app, qG, qB, qO, qI, qt, simprocAttr, Qbz, bs, e1, Q1]
  refine Qa hv ?_
  simp only [rv, okW, Qo, aop, cV, cV1, AV.one, Qf, Q3, Qe, Qd, Qt, JL, app, qG, qB, qO, qI, qt, simprocAttr, e2, e3, e4, e5, QhP]
  generalize hform : (l.drop 8).take 4 = form at *
  have hR : ([82, 73, 70, 70] : List UInt8) = Qaj := rfl
  have f1 : IntKind.u64.wrap ((n : Int) + 8) = (n : Int) + 8 := by rw [Qav] <;> omega
  have f2 : IntKind.u64.wrap (l.length : Int) = (l.length : Int) := by rw [Qav] <;> omega
  by_cases hr : l.take 4 = Qaj
  ·have g1 : (l.take 4 == Qaj) = true := by rw [hr]; rfl
   simp only [rv, okW, Qo, aop, cV, cV1, AV.one, Qf, Q3, Qe, Qd, Qt, JL, app, qG, qB, qO, qI, qt, simprocAttr, hR, g1]
   refine Qa (hN form (by omega)) ?_
   by_cases hf : Xg form = true
   ·simp only [rv, okW, Qo, aop, cV, cV1, AV.one, Qf, Q3, Qe, Qd, Qt, JL, app, qG, qB, qO, qI, qt, simprocAttr, hf]
    by_cases h4 : n < 4
    ·have g2 : (n : Int) < 4 := by omega
     have e0 : JH l = .inl 12 := by simp [JH, h12, hnn, hform, hr, hf, h4]
     rw [e0]
     simp only [rv, okW, Qo, aop, cV, cV1, AV.one, Qf, Q3, Qe, Qd, Qt, JL, app, qG, qB, qO, qI, qt, simprocAttr, g2, Q1]
     exact fin0 _ _ _ rfl
    ·have g2 : ¬ (n : Int) < 4 := by omega
     by_cases hbig : 100000 < n + 8
     ·have g3 : (100000 : Int) < (n : Int) + 8 := by omega
      have e0 : JH l = .inl 4 := by simp [JH, h12, hnn, hform, hr, hf, h4, hbig]
      rw [e0]
      simp only [rv, okW, Qo, aop, cV, cV1, AV.one, Qf, Q3, Qe, Qd, Qt, JL, app, qG, qB, qO, qI, qt, simprocAttr, g2, f1, g3, Q1]
      exact fin0 _ _ _ rfl
     ·have g3 : ¬ (100000 : Int) < (n : Int) + 8 := by omega
      by_cases hsh : l.length < n + 8
      ·have g4 : (l.length : Int) < (n : Int) + 8 := by omega
       have e0 : JH l = .inl 24 := by simp [JH, h12, hnn, hform, hr, hf, h4, hbig, hsh]
       rw [e0]
       simp only [rv, okW, Qo, aop, cV, cV1, AV.one, Qf, Q3, Qe, Qd, Qt, JL, app, qG, qB, qO, qI, qt, simprocAttr, g2, f1, f2, g3, g4, Q1]
       exact fin0 _ _ _ rfl
      ·have g4 : ¬ (l.length : Int) < (n : Int) + 8 := by omega
       have g5 := Qg9 (ob := []) (l := l) (a := 12) (b := (n : Int) + 8) 12 (n + 8) (n - 4) rfl (by omega) (by omega) (by omega)
       have g6 := QdC (l := l) (i := 12) (n := n - 4) (by omega)
       simp only [rv, okW, Qo, aop, cV, cV1, AV.one, Qf, Q3, Qe, Qd, Qt, JL, app, qG, qB, qO, qI, qt, simprocAttr, g2, f1, f2, g3, g4, g5]
       generalize hrest : (l.drop 12).take (n - 4) = rest0 at *
       generalize hR0 : XQ (n + 1) [] rest0 = R
       have e0 : JH l = match R with
         | .inl e => .inl e
         | .inr out => if n + 8 < l.length then .inl 38 else .inr (form, out) := by
        simp only [JH, hnn, hform, hrest, hR0]
        rw [qf h12, qf (by simp [hr, hf]; omega), qf hbig, qf hsh]
        cases R <;> rfl
       rw [e0]
       refine Qg (ι := Nat × List Ck × List UInt8) (fun i => ⟨[(9, bs i.2.2), (8, .own 0 i.2.1.length), (7, .str form), (5, .int .u64 n), (0, bs l)], [⟨t0, 2, i.2.1.length, ckL i.2.1, 0⟩]⟩)
        (fun i => XQ i.1 i.2.1 i.2.2 = R ∧ i.2.2.length < i.1 ∧ i.2.2.length ≤ n ∧ i.2.1.length ≤ 20) (fun i => i.2.2.length) (n + 1, [], rest0)
        (Le.trans (XU 8 t0 2 (by omega) rfl) (Qm (by simp [Am.look, bs, g6]))) ⟨hR0, by simp only; omega, by simp only; omega, by simp⟩ ?_
       rintro ⟨k, out, rest⟩ ⟨i1, i2, i3, i4⟩
       simp only at i1 i2 i3 i4
       obtain ⟨k, rfl⟩ : ∃ k', k = k' + 1 := ⟨k - 1, by omega⟩
       simp only [XQ] at i1
       by_cases hemp : rest = []
       ·rw [qh hemp] at i1
        subst hemp
        subst i1
        by_cases hmore : n + 8 < l.length
        ·have h1 : (n : Int) + 8 < l.length := by omega
         simp only [rv, okW, Qo, aop, cV, cV1, AV.one, Qf, Q3, Qe, Qd, Qt, JL, app, qG, qB, qO, qI, qt, simprocAttr, bs, f1, f2, h1, hmore, Q1]
         exact fin0 _ _ _ rfl
        ·have h1 : ¬ (n : Int) + 8 < l.length := by omega
         simp only [rv, okW, Qo, aop, cV, cV1, AV.one, Qf, Q3, Qe, Qd, Qt, JL, app, qG, qB, qO, qI, qt, simprocAttr, bs, f1, f2, h1, hmore, Q1]
         simp [QO, Qx, frzL, Qy, Qj4, frzL_T _ (QdF out)]
       ·rw [qf hemp] at i1
        have hpos : 0 < rest.length := List.length_pos_iff.2 hemp
        have h1 : (0 : Int) < rest.length := by omega
        by_cases h20 : out.length = 20
        ·rw [qh h20] at i1
         subst i1
         have h2 : ((out.length : Int) == 20) = true := by simp; omega
         simp only [rv, okW, Qo, aop, cV, cV1, AV.one, Qf, Q3, Qe, Qd, Qt, JL, app, qG, qB, qO, qI, qt, simprocAttr, bs, h1, h2, Q1]
         exact fin0 _ _ _ rfl
        ·rw [qf h20] at i1
         have h2 : ((out.length : Int) == 20) = false := by simp; omega
         simp only [rv, okW, Qo, aop, cV, cV1, AV.one, Qf, Q3, Qe, Qd, Qt, JL, app, qG, qB, qO, qI, qt, simprocAttr, bs, h1, h2, Q1]
         refine Qa (hX rest (by omega)) ?_
         cases hnx : Qa2 rest with
         | none =>
          rw [hnx] at i1
          subst i1
          simp only [rv, okW, Qo, aop, cV, cV1, AV.one, Qf, Q3, Qe, Qd, Qt, JL, app, qG, qB, qO, qI, qt, simprocAttr, Qj7, ckA, bs, Qg7, Q1]
          exact fin0 _ _ _ rfl
         | some p =>
          obtain ⟨c, left⟩ := p
          rw [hnx] at i1
          simp only at i1
          have hlt := (QsY hnx).1
          have h3 : (out.length + 1) * 40 ≤ 140737488355328 := by omega
          have h4' : out.length + 1 ≤ 9223372036854775807 := by omega
          have h5 := Jo out
          simp only [rv, okW, Qo, aop, cV, cV1, AV.one, Qf, Q3, Qe, Qd, Qt, JL, app, qG, qB, qO, qI, qt, simprocAttr, Qj7, ckA, bs, h3, h4', h5]
          refine ⟨(k, out ++ [c], left), ⟨i1, by simp only; omega, by simp only; omega, by simp; omega⟩, hlt, ?_⟩
          have hck : ckL out ++ [.str c.1, .list c.2.length (u8 c.2)] = ckL (out ++ [c]) := by rw [← Qld]; rfl
          rw [hck]
          refine Le.drop 1 2 (by omega) rfl ?_ ?_
          ·simp [Am.look, Qx, frzL, Qy, frzL_T _ (QF _)]
          ·intro i y hy
           match i, hy with
           | 0, hy =>
            simp at hy
            subst hy
            exact ⟨ckL (out ++ [c]), by simp, by simp only [Qx]; exact frzL_T _ (QdF _)⟩
           | i + 1, hy => simp at hy
   ·have e0 : JH l = .inl 12 := by simp [JH, h12, hnn, hform, hr, hf]
    have hf' : Xg form = false := by simpa using hf
    rw [e0]
    simp only [rv, okW, Qo, aop, cV, cV1, AV.one, Qf, Q3, Qe, Qd, Qt, JL, app, qG, qB, qO, qI, qt, simprocAttr, hf', Q1]
    exact fin0 _ _ _ rfl
  ·have g1 : (l.take 4 == Qaj) = false := by simpa using hr
   have e0 : JH l = .inl 12 := by simp [JH, h12, hnn, hform, hr]
   rw [e0]
   simp only [rv, okW, Qo, aop, cV, cV1, AV.one, Qf, Q3, Qe, Qd, Qt, JL, app, qG, qB, qO, qI, qt, simprocAttr, hR, g1, Q1]
   exact fin0 _ _ _ rfl
theorem Qeh : ∀ {l : List Ck} {k : Nat} (h : k < l.length), (ckL l).drop (k * 2) = .str (l[k]).1 :: bs (l[k]).2 :: ckL (l.drop (k + 1))
 | c :: l, 0, _ => by simp [ckL]
 | c :: l, k + 1, h => by
  have := Qeh (l := l) (k := k) (by simpa using h)
  rw [ym, yG]
  simpa [ckL] using this
theorem QAQ : ∀ (k : Nat) (out : List Ck) (rest : List UInt8) (r : List Ck), XQ k out rest = .inr r → out.length ≤ 20 → r.length ≤ 20
 | 0, _, _, _, h, _ => by simp [XQ] at h
 | k + 1, out, rest, r, h, hl => by
  simp only [XQ] at h
  split at h
  ·cases h; exact hl
  ·split at h
   ·cases h
   ·split at h
    ·cases h
    ·exact QAQ k _ _ r h (by simp; omega)
theorem QzA {l form : List UInt8} {out : List Ck} (h : JH l = .inr (form, out)) : out.length ≤ 20 := by
 unfold JH at h
 split at h
 ·cases h
 simp only at h
 split at h
 ·cases h
 split at h
 ·cases h
 split at h
 ·cases h
 split at h
 ·cases h
 ·rename_i o ho
  split at h
  ·cases h
  ·cases h
   exact QAQ _ _ _ _ ho (by simp)
def Z5 (b : Int) : Int := if b = 8 then 128 else if b = 16 then 32768 else if b = 24 then 8388608 else 0
theorem Zj (b : Int) : (b = 8 ∧ Z5 b = 128) ∨ (b = 16 ∧ Z5 b = 32768) ∨ (b = 24 ∧ Z5 b = 8388608) ∨ (b ≠ 8 ∧ b ≠ 16 ∧ b ≠ 24 ∧ Z5 b = 0) := by
 unfold Z5; split <;> (try split) <;> (try split) <;> omega
def Qac (b : Int) : AV := if Z5 b = 0 then .tup [.int .i32 0, .int .i32 0, .int .i64 2] else .tup [.int .i32 (-Z5 b), .int .i32 (Z5 b - 1), .int .i64 0]
def Qjz (P : Prg) (f : Nat) : Prop := ∀ b : Int, VC P f [.int .i64 b] (Qac b)
theorem QpW {P : Prg} {f : Nat} (b : Body P f 18 [.tmp 2, .tmp 3, .tmp 4] Z6) : Qjz P f := by
 intro x
 refine Qv rfl (by unfold Qac; split <;> rfl) b ?_
 rcases Zj x with ⟨rfl, h⟩ | ⟨rfl, h⟩ | ⟨rfl, h⟩ | ⟨h1, h2, h3, h⟩
 ·simp (disch := omega) only [rq, simprocAttr, Z6, Qac, h]
  rfl
 ·simp (disch := omega) only [rq, simprocAttr, Z6, Qac, h]
  rfl
 ·simp (disch := omega) only [rq, simprocAttr, Z6, Qac, h]
  rfl
 ·simp (disch := omega) only [rq, simprocAttr, Z6, Qac, h]
def il (l : List Int) : AV := .list l.length (ks .i32 l)
theorem Zi (l : List Int) : isD (il l) = true := by simp [il, isD, Zc]
def inR (b x : Int) : Bool := decide (-Z5 b ≤ x) && decide (x < Z5 b)
def QE (b : Int) (l : List Int) : Int := if Z5 b = 0 then 2 else if 4000 < l.length then 4 else if l.all (inR b) then 0 else 16
def I32 (l : List Int) : Prop := ∀ x ∈ l, -2147483648 ≤ x ∧ x ≤ 2147483647
def QaO (P : Prg) (f : Nat) : Prop := ∀ (b : Int) (l : List Int), I32 l → VC P f [.int .i64 b, il l] (.int .i64 (QE b l))
theorem Qf8 {l : List Int} {k : Nat} (h : k < l.length) {p : Int → Bool} : (l.take (k + 1)).all p = ((l.take k).all p && p l[k]) := by
 rw [qq h, jY]; simp
theorem QkY {l : List Int} {k : Nat} (h : k < l.length) {p : Int → Bool} (hp : p l[k] = false) : l.all p = false := by
 rw [List.all_eq_false]
 exact ⟨l[k], ye h, by simp [hp]⟩
set_option maxRecDepth 10000 in
theorem QpX {P : Prg} {f fR : Nat} (b : Body P f 37 [.tmp 4] (QbM fR)) (hR : Qjz P fR) : QaO P f := by
 intro x l hl
 refine Qv (by simp [isDL, isD, Zi]) rfl b ?_
 simp (disch := omega) only [rq, simprocAttr, QbM]
 refine Qa (hR x) ?_
 by_cases h0 : Z5 x = 0
 ·simp (disch := omega) only [rq, simprocAttr, Qac, QE, h0]
 have h3 : Z5 x = 128 ∨ Z5 x = 32768 ∨ Z5 x = 8388608 := by rcases Zj x with h | h | h | h <;> omega
 by_cases h1 : 4000 < l.length
 ·simp (disch := omega) only [rq, simprocAttr, Qac, QE, h0, il, h1]
 simp (disch := omega) only [rq, simprocAttr, Qac, il, qf h0]
 refine Qg (ι := Nat) (fun k => ⟨[(24, .int .i64 k), (23, .int .i64 l.length), (22, il l), (6, .int .i32 (Z5 x - 1)), (5, .int .i32 (-Z5 x))], []⟩) (fun k => k ≤ l.length ∧ (l.take k).all (inR x) = true) (fun k => l.length - k) 0 (Qm (by simp [Am.look, il])) ⟨by omega, by simp⟩ ?_
 intro k ⟨hk, hg⟩
 by_cases hlt : k < l.length
 ·by_cases hp : -Z5 x ≤ l[k] ∧ l[k] < Z5 x
  ·have hs := Qf8 hlt (p := inR x)
   simp (disch := omega) only [rq, simprocAttr, il, Xa, hlt]
   exact ⟨k + 1, ⟨by omega, by rw [hs, hg]; simp [inR, hp]⟩, by omega, Qm (by simp [Am.look, il])⟩
  ·have e : QE x l = 16 := by simp [QE, h0, h1, QkY hlt (p := inR x) (by simp [inR]; omega)]
   by_cases hq : l[k] < -Z5 x
   ·simp (disch := omega) only [rq, simprocAttr, il, Xa, hlt, e]
   ·simp (disch := omega) only [rq, simprocAttr, il, Xa, hlt, e]
 ·have e2 : k = l.length := by omega
  subst e2
  rw [qD] at hg
  simp (disch := omega) only [rq, simprocAttr, il, QE, h0, h1, hg]
def QtD (P : Prg) (f : Nat) : Prop := ∀ x : Int, VC P f [.int .i64 x] (.int .i64 (Z5 x))
theorem Quo {P : Prg} {f : Nat} (b : Body P f 10 [.tmp 2] XT) : QtD P f := by
 intro x
 refine Qv rfl rfl b ?_
 rcases Zj x with ⟨rfl, h⟩ | ⟨rfl, h⟩ | ⟨rfl, h⟩ | ⟨h1, h2, h3, h⟩ <;> simp (disch := omega) only [rq, simprocAttr, XT, h]
set_option maxRecDepth 10000 in
theorem QqI {P : Prg} {f fH : Nat} (b : Body P f 37 [.tmp 4] (XA fH)) (hH : QtD P fH) : QaO P f := by
 intro x l hl
 refine Qv (by simp [isDL, isD, Zi]) rfl b ?_
 simp (disch := omega) only [rq, simprocAttr, XA]
 refine Qa (hH x) ?_
 by_cases h0 : Z5 x = 0
 ·simp (disch := omega) only [rq, simprocAttr, QE, h0]
 have h3 : Z5 x = 128 ∨ Z5 x = 32768 ∨ Z5 x = 8388608 := by rcases Zj x with h | h | h | h <;> omega
 by_cases h1 : 4000 < l.length
 ·simp (disch := omega) only [rq, simprocAttr, QE, h0, il, h1]
 simp (disch := omega) only [rq, simprocAttr, il]
 refine Qg (ι := Nat) (fun k => ⟨[(6, .int .i64 k), (1, il l), (5, .int .i64 (Z5 x))], []⟩) (fun k => k ≤ l.length ∧ (l.take k).all (inR x) = true) (fun k => l.length - k) 0 (Qm (by simp [Am.look, il])) ⟨by omega, by simp⟩ ?_
 intro k ⟨hk, hg⟩
 by_cases hlt : k < l.length
 ·have hb := hl _ (ye hlt)
  by_cases hp : -Z5 x ≤ l[k] ∧ l[k] < Z5 x
  ·have hs := Qf8 hlt (p := inR x)
   simp (disch := omega) only [rq, simprocAttr, il, Xa, hlt]
   exact ⟨k + 1, ⟨by omega, by rw [hs, hg]; simp [inR, hp]⟩, by omega, Qm (by simp [Am.look, il])⟩
  ·have e : QE x l = 16 := by simp [QE, h0, h1, QkY hlt (p := inR x) (by simp [inR]; omega)]
   by_cases hq : l[k] < -Z5 x
   ·simp (disch := omega) only [rq, simprocAttr, il, Xa, hlt, e]
   ·simp (disch := omega) only [rq, simprocAttr, il, Xa, hlt, e]
 ·have e2 : k = l.length := by omega
  subst e2
  rw [qD] at hg
  simp (disch := omega) only [rq, simprocAttr, il, QE, h0, h1, hg]
theorem Qo2 {n : Nat} {c : Int} (h : 1 ≤ c) : 0 ≤ (n : Int) / c ∧ (n : Int) / c ≤ n :=
 ⟨jM (by omega) (by omega), js _ (by omega)⟩
theorem Qb9 {n : Nat} {c : Int} (h : 1 ≤ c) : 0 ≤ (n : Int) % c ∧ (n : Int) % c < c := ⟨Int.emod_nonneg _ (by omega), Int.emod_lt_of_pos _ (by omega)⟩
def QC (r : Int) : Int := if 256 * r / 245 < 1 then 1 else 256 * r / 245
theorem Z4 (r : Int) : 1 ≤ QC r := by unfold QC; split <;> omega
theorem Qs4 {r : Int} (h : r ≤ 1048576) : QC r ≤ 1095654 := by unfold QC; split <;> omega
def Qdd (r : Int) : AV := if r < 1 ∨ 1048576 < r then .tup [.int .i64 0, .int .i64 2] else .tup [.int .i64 (QC r), .int .i64 0]
def Qc6 (P : Prg) (f : Nat) : Prop := ∀ r : Int, VC P f [.int .i64 r] (Qdd r)
theorem Qs9 (r : Int) : isD (Qdd r) = true := by unfold Qdd; split <;> rfl
theorem Qoy {P : Prg} {f : Nat} (b : Body P f 14 [.tmp 2, .tmp 3] Xr) : Qc6 P f := by
 intro r
 refine Qv rfl (Qs9 r) b ?_
 by_cases h1 : r < 1
 ·simp (disch := omega) only [rq, simprocAttr, Xr, Qdd, true_or]
 by_cases h2 : 1048576 < r
 ·simp (disch := omega) only [rq, simprocAttr, Xr, Qdd, or_true]
 have h3 : 1 ≤ 256 * r / 245 := by omega
 simp (disch := omega) only [rq, simprocAttr, Xr, Qdd, or_self, QC]
 rw [show (if (1 : Int) < 256 * r / 245 then 256 * r / 245 else 1) = 256 * r / 245 by split <;> omega]
theorem Qun {P : Prg} {f : Nat} (b : Body P f 17 [.tmp 2, .tmp 3] Zl) : Qc6 P f := by
 intro r
 refine Qv rfl (Qs9 r) b ?_
 by_cases h1 : r < 1
 ·simp (disch := omega) only [rq, simprocAttr, Zl, Qdd, true_or]
 by_cases h2 : 1048576 < r
 ·simp (disch := omega) only [rq, simprocAttr, Zl, Qdd, or_true]
 have e : r * 256 / 245 = 256 * r / 245 := by rw [Int.mul_comm]
 have h3 : 1 ≤ 256 * r / 245 := by omega
 simp (disch := omega) only [rq, simprocAttr, Zl, Qdd, or_self, QC, e]
def Zz (c b : Int) : Int := if Z5 b = 0 ∨ c < 1 ∨ 6 < c then 2 else 0
def shA (c b : Int) : AV := .agg [.int .i64 c, .int .i64 b]
def QaP (P : Prg) (f : Nat) : Prop := ∀ c b : Int, VC P f [shA c b] (.int .i64 (Zz c b))
theorem Qml {P : Prg} {f fR t0 : Nat} (b : Body P f 25 [.tmp 2] (Qar fR t0)) (hR : Qjz P fR) : QaP P f := by
 intro c x
 refine Qv rfl rfl b ?_
 simp (disch := omega) only [rq, simprocAttr, Qar, shA]
 refine Qa (hR x) ?_
 by_cases h0 : Z5 x = 0
 ·simp (disch := omega) only [rq, simprocAttr, Qac, h0, Zz, true_or]
 by_cases h1 : c < 1
 ·simp (disch := omega) only [rq, simprocAttr, Qac, qf h0, Zz, h0, or_true, true_or]
 by_cases h2 : 6 < c
 ·simp (disch := omega) only [rq, simprocAttr, Qac, qf h0, Zz, h0, or_true]
 ·simp (disch := omega) only [rq, simprocAttr, Qac, qf h0, Zz, h0, or_self]
theorem QqG {P : Prg} {f fH t0 : Nat} (b : Body P f 17 [.tmp 2] (Ze fH t0)) (hH : QtD P fH) : QaP P f := by
 intro c x
 refine Qv rfl rfl b ?_
 have hx := Zj x
 by_cases h1 : c < 1
 ·simp (disch := omega) only [rq, simprocAttr, Ze, shA, Zz, or_true, true_or]
 by_cases h2 : 6 < c
 ·simp (disch := omega) only [rq, simprocAttr, Ze, shA, Zz, or_true]
 simp (disch := omega) only [rq, simprocAttr, Ze, shA]
 refine Qa (hH x) ?_
 by_cases h0 : Z5 x = 0
 ·simp (disch := omega) only [rq, simprocAttr, h0, Zz, true_or]
 ·simp (disch := omega) only [rq, simprocAttr, h0, Zz, or_self]
structure Enc where
 ch : Int
 bits : Int
 rate : Int
 pw : List UInt8
 rest : List UInt8
 smp : List Int
 frs : List (List UInt8)
 out : List UInt8
 done : Bool
 err : Int
def bss (l : List (List UInt8)) : AV := .list l.length (l.map bs)
def QEE (e : Enc) : List AV := [.int .i64 e.ch, .int .i64 e.bits, .int .i64 e.rate, .str e.pw, bs e.rest, il e.smp, bss e.frs, bs e.out, .bool e.done, .int .i64 e.err]
theorem Qeb : ∀ l : List (List UInt8), isDL (l.map bs) = true
 | [] => rfl
 | x :: l => by simp [isDL, QD, Qeb l]
theorem Qmc (l : List (List UInt8)) : isD (bss l) = true := by simp [bss, isD, Qeb]
def Qz6 {α : Type} (p : α → Bool) (l : List α) : Int := match l.findIdx? p with | some i => i | none => -1
theorem QxM {α : Type} {p : α → Bool} {l : List α} (h : l.all (fun x => !p x) = true) : l.findIdx? p = none := by
 rw [List.findIdx?_eq_none_iff]
 intro x hx
 have := qR.1 h x hx
 simpa using this
theorem QCh {α : Type} {p : α → Bool} {l : List α} {k : Nat} (hk : k < l.length) (h : (l.take k).all (fun x => !p x) = true) (hp : p l[k] = true) : l.findIdx? p = some k := by
 rw [jB]
 refine ⟨hk, hp, fun j hj => ?_⟩
 have := qR.1 h l[j] (by
  rw [List.mem_take_iff_getElem]
  exact ⟨j, by omega, rfl⟩)
 simpa using this
theorem QrY {α : Type} {l : List α} {k : Nat} (h : k < l.length) {p : α → Bool} : (l.take (k + 1)).all p = ((l.take k).all p && p l[k]) := by
 rw [qq h, jY]; simp
theorem QCc {α : Type} (p : α → Bool) (l : List α) : decide ((0 : Int) ≤ Qz6 p l) = l.any p := by
 unfold Qz6
 cases h : l.findIdx? p with
 | none =>
  rw [List.findIdx?_eq_none_iff] at h
  have : l.any p = false := by rw [List.any_eq_false]; intro x hx; rw [h x hx]; simp
  rw [this]; rfl
 | some i =>
  rw [jB] at h
  obtain ⟨h1, h2, _⟩ := h
  have : l.any p = true := by rw [Yu]; exact ⟨_, ye h1, h2⟩
  rw [this]; simp
theorem Qcx : ∀ l : List (List UInt8), isTL (l.map bs) = true
 | [] => rfl
 | x :: l => by
  have : isT (bs x) = true := by simp [bs, isT]; induction x with | nil => rfl | cons y x ih => simp [Qe0, isTL, isT, ih]
  simp [isTL, this, Qcx l]
theorem QcA {α : Type} (f : α → AV) : ∀ l : List α, (l.map fun x => [f x]).flatten = l.map f
 | [] => rfl
 | x :: l => by simp [QcA f l]
theorem Qmh {L : List (List AV)} (h : ∀ c ∈ L, Qc7 (.int .u8) c) : ∃ l : List UInt8, L.length = l.length ∧ AV.list L.length L.flatten = bs l := by
 obtain ⟨l, rfl, _⟩ := Qd8 (f := fun b : UInt8 => [AV.int .u8 b.toNat]) (q := fun _ => True) h (fun c hc => by
  simp only [Qc7] at hc
  obtain ⟨n, rfl, h1, h2⟩ := hc
  simp only [IntKind.min, IntKind.max, IntKind.signed, IntKind.bits] at h1 h2
  refine ⟨UInt8.ofNat n.toNat, ?_, trivial⟩
  simp at h1 h2
  simp; omega)
 exact ⟨l, by simp, by simp [bs, u8, QcA]⟩
theorem QxJ {K : IntKind} {L : List (List AV)} (h : ∀ c ∈ L, Qc7 (.int K) c) : ∃ l : List Int, L.length = l.length ∧ AV.list L.length L.flatten = .list l.length (ks K l) ∧ ∀ x ∈ l, K.min ≤ x ∧ x ≤ K.max := by
 obtain ⟨l, rfl, h2⟩ := Qd8 (f := fun n : Int => [AV.int K n]) (q := fun x => K.min ≤ x ∧ x ≤ K.max) h (fun c hc => by
  simp only [Qc7] at hc
  obtain ⟨n, rfl, h1, h2⟩ := hc
  exact ⟨n, rfl, h1, h2⟩)
 exact ⟨l, by simp, by simp [ks, QcA], h2⟩
def QDk (P : Program) (t : TypeId) : Bool := match P.underlying t with | some (.struct _) => true | _ => false
def QDl (P : Program) (t : TypeId) : Bool := match P.underlying t with | some (.array _ _) => true | _ => false
def QED (P : Program) (t : TypeId) : Bool := match P.underlying t with | some (.slice _) => true | _ => false
theorem QzU {P : Program} {t : TypeId} (h : QDk P t = true) : ∃ fs, P.underlying t = some (.struct fs) := by
 unfold QDk at h; split at h
 ·exact ⟨_, by assumption⟩
 ·cases h
theorem QD0 {P : Program} {t : TypeId} (h : QDl P t = true) : ∃ n e, P.underlying t = some (.array n e) := by
 unfold QDl at h; split at h
 ·exact ⟨_, _, by assumption⟩
 ·cases h
theorem QEp {P : Program} {t : TypeId} (h : QED P t = true) : ∃ e, P.underlying t = some (.slice e) := by
 unfold QED at h; split at h
 ·exact ⟨_, by assumption⟩
 ·cases h
theorem QoR {L : List (List AV)} (h : ∀ c ∈ L, Qc7 (.int .i32) c) : ∃ l : List Int, L.length = l.length ∧ AV.list L.length L.flatten = il l ∧ I32 l := by
 obtain ⟨l, h1, h2, h3⟩ := QxJ h
 exact ⟨l, h1, h2, fun x hx => by have := h3 x hx; simpa [IntKind.min, IntKind.max, IntKind.signed, IntKind.bits] using this⟩
theorem QAi {L : List (List AV)} (h : ∀ c ∈ L, Qc7 (.slice (.int .u8)) c) : ∃ l : List (List UInt8), L.length = l.length ∧ AV.list L.length L.flatten = bss l ∧ ∀ x ∈ l, x.length ≤ maxLen := by
 obtain ⟨l, rfl, h2⟩ := Qd8 (f := fun b : List UInt8 => [bs b]) (q := fun x => x.length ≤ maxLen) h (fun c hc => by
  simp only [Qc7] at hc
  obtain ⟨L', rfl, h1, h2⟩ := hc
  obtain ⟨l, h3, h4⟩ := Qmh h2
  exact ⟨l, by rw [h4], by omega⟩)
 exact ⟨l, by simp, by simp [bss, QcA], h2⟩
def QEe : Sh := .tuple [.int .i64, .int .i64]
def QDu : Sh := .tuple [QEe, .int .i64, .str, .slice (.int .u8), .slice (.int .i32), .slice (.slice (.int .u8)), .slice (.int .u8), .bool, .int .i64]
theorem QuH {cs0 : List AV} (h : Qc7 QEe cs0) : ∃ c b : Int, cs0 = [.int .i64 c, .int .i64 b] := by
 simp only [QEe, Qc7, FitsL] at h
 obtain ⟨_, _, rfl, ⟨c, rfl, _⟩, _, _, rfl, ⟨b, rfl, _⟩, rfl⟩ := h
 exact ⟨c, b, rfl⟩
theorem QD3 {cs0 : List AV} (h : Qc7 QDu cs0) : ∃ e : Enc, cs0 = QEE e ∧ I32 e.smp := by
 simp only [QDu, Qc7, FitsL] at h
 obtain ⟨_, _, rfl, h1, _, _, rfl, ⟨r, rfl, _⟩, _, _, rfl, ⟨p, rfl, _⟩, _, _, rfl, ⟨L1, rfl, _, h2⟩, _, _, rfl, ⟨L2, rfl, _, h3⟩, _, _, rfl, ⟨L3, rfl, _, h4⟩, _, _, rfl, ⟨L4, rfl, _, h5⟩, _, _, rfl, ⟨d, rfl⟩, _, _, rfl, ⟨x, rfl, _⟩, rfl⟩ := h
 obtain ⟨c, b, rfl⟩ := QuH h1
 obtain ⟨l1, _, e1⟩ := Qmh (L := L1) (fun c hc => by simp only [Qc7]; exact h2 c hc)
 obtain ⟨l2, _, e2, hi⟩ := QoR (L := L2) (fun c hc => by simp only [Qc7]; exact h3 c hc)
 obtain ⟨l3, _, e3, _⟩ := QAi (L := L3) (fun c hc => by simp only [Qc7]; exact h4 c hc)
 obtain ⟨l4, _, e4⟩ := Qmh (L := L4) (fun c hc => by simp only [Qc7]; exact h5 c hc)
 exact ⟨⟨c, b, r, p, l1, l2, l3, l4, d, x⟩, by simp [QEE, e1, e2, e3, e4], hi⟩
def w32 (x : Int) : Int := IntKind.i32.wrap x
theorem QkF (x : Int) : w32 x = (x + 2147483648) % 4294967296 - 2147483648 := by
 simp [w32, IntKind.wrap, IntKind.bits, IntKind.signed]; split <;> omega
theorem QBo (a b : Int) : w32 (w32 a + w32 b) = w32 (a + b) := by simp only [QkF]; omega
theorem Qlt (a b : Int) : w32 (w32 a + b) = w32 (a + b) := by simp only [QkF]; omega
theorem Qy1 (a b : Int) : w32 (a - w32 b) = w32 (a - b) := by simp only [QkF]; omega
theorem QBn (a : Int) : w32 (w32 a) = w32 a := by simp only [QkF]; omega
theorem QnI {a : Int} (h1 : -2147483648 ≤ a) (h2 : a ≤ 2147483647) : w32 a = a := Qbq h1 h2
theorem JP (a : Int) : -2147483648 ≤ w32 a ∧ w32 a ≤ 2147483647 := by simp only [QkF]; omega
theorem Jg (x : Int) : IntKind.i32.wrap x = w32 x := rfl
theorem ZG {l : List Int} (h : I32 l) (k : Nat) : -2147483648 ≤ l.getD k 0 ∧ l.getD k 0 ≤ 2147483647 := by
 rw [qd]
 cases hk : l[k]? with
 | none => simp
 | some v => exact h v (yk hk)
theorem QAY {K : IntKind} {l : List Int} {k : Nat} (h : k < l.length) : (ks K l)[k]? = some (.int K (l.getD k 0)) := by
 simp [ks, qd, qc h]
structure J8 where
 sh : Int
 tp : List Int
 ps : List Int
def Qs (f : J8) : List AV := .int .i64 f.sh :: (ks .i32 f.tp ++ ks .i32 f.ps)
def Qdg (f : J8) : Prop := f.tp.length = 16 ∧ f.ps.length = 16 ∧ I32 f.tp ∧ I32 f.ps
theorem Zk {f : J8} (h : Qdg f) : (Qs f).length = 33 := by
 obtain ⟨h1, h2, _⟩ := h
 simp [Qs, Qh, h1, h2]
theorem Zo (f : J8) : (Qs f).all AV.one = true := by
 simp only [Qs, List.all_cons, jY, Jt]; rfl
theorem ZF (f : J8) : isDL (Qs f) = true := by
 have : ∀ a b, isDL (ks .i32 a ++ ks .i32 b) = true := fun a b => by rw [QfT]; exact Zc _ _
 simp [Qs, isDL, isD, this]
theorem QoT {f : J8} (h : Qdg f) : ((Qs f).drop 1).take 16 = ks .i32 f.tp := by
 obtain ⟨h1, h2, _⟩ := h
 simp only [Qs, jo, yJ]
 rw [qZ (by simp [Qh, h1])]
theorem Qk6 {f : J8} (h : Qdg f) : ((Qs f).drop 17).take 16 = ks .i32 f.ps := by
 obtain ⟨h1, h2, _⟩ := h
 simp only [Qs, jo]
 rw [yI (by simp [Qh, h1]), qg (by simp [Qh, h2])]
theorem QAj {f : J8} (h : Qdg f) {k : Nat} (hk : k < 16) : (Qs f).drop (1 + k) = .int .i32 (f.tp.getD k 0) :: ((ks .i32 f.tp).drop (k + 1) ++ ks .i32 f.ps) := by
 obtain ⟨h1, h2, _⟩ := h
 rw [Ya]
 simp only [Qs, jo]
 rw [y6 (by simp [Qh, h1]; omega), Xa (by omega), ← JU]
 simp [qd, qc (show k < f.tp.length by omega)]
theorem QxO {f : J8} (h : Qdg f) {k : Nat} (hk : k < 16) : (Qs f).drop (17 + k) = .int .i32 (f.ps.getD k 0) :: (ks .i32 f.ps).drop (k + 1) := by
 obtain ⟨h1, h2, _⟩ := h
 rw [show 17 + k = (16 + k) + 1 by omega]
 simp only [Qs, jo]
 rw [← yl, yI (by simp [Qh, h1]), Xa (by omega), ← JU]
 simp [qd, qc (show k < f.ps.length by omega)]
theorem Qra {f : J8} (h : Qdg f) {k : Nat} (hk : k < 16) (v : Int) : (Qs f).take (1 + k) ++ [.int .i32 v] ++ (Qs f).drop (1 + k + 1) = Qs { f with tp := f.tp.set k v } := by
 obtain ⟨h1, h2, _⟩ := h
 rw [Ya 1 k]
 simp only [Qs, y8, jo, yc]
 congr 1
 rw [yu (by simp [Qh, h1]; omega), y6 (by simp [Qh, h1]; omega), ← qj]
 congr 1
 rw [yz, qh (by omega)]
 simp [ks]
theorem QoU {f : J8} (h : Qdg f) {k : Nat} (hk : k < 16) (v : Int) : (Qs f).take (17 + k) ++ [.int .i32 v] ++ (Qs f).drop (17 + k + 1) = Qs { f with ps := f.ps.set k v } := by
 obtain ⟨h1, h2, _⟩ := h
 rw [show 17 + k = (16 + k) + 1 by omega]
 simp only [Qs, y8, jo, yc]
 congr 1
 have e : (ks .i32 f.tp).length = 16 := by simp [Qh, h1]
 rw [jq, qg (by omega), e, show 16 + k + 1 = 16 + (k + 1) by omega, ← yl, yI e, show 16 + k - 16 = k by omega, qj, qj]
 congr 1
 rw [yz, qh (by omega)]
 simp [ks]
theorem QG {α : Type} {l : List α} {n : Nat} (h : l.length ≤ n) : l.take n = l := qg h
def Qcs (b : Int) : Int := if b = 16 then 9 else 10
def z16 : List Int := List.replicate 16 0
def Ql5 (b : Int) (t : List Int) : J8 := ⟨Qcs b, t, z16⟩
def QnB : J8 := ⟨0, z16, z16⟩
def QjY (b : Int) (t : List Int) : AV := if Z5 b = 0 then .tup [.agg (Qs QnB), .int .i64 2] else .tup [.agg (Qs (Ql5 b t)), .int .i64 0]
def Qtz (P : Prg) (f : Nat) : Prop := ∀ (b : Int) (t : List Int), t.length = 16 → VC P f [.int .i64 b, .agg (ks .i32 t)] (QjY b t)
theorem QzW (b : Int) (t : List Int) : isD (QjY b t) = true := by
 unfold QjY; split <;> simp [isD, isDL, ZF]
theorem Qcj : Qs QnB = z1L := rfl
theorem Qy8 {P : Prg} {f t0 t1 : Nat} (b : Body P f 18 [.cell 4 t1, .tmp 5] (JW t0 t1)) (ht : Zu P t1 = some (some 33)) : Qtz P f := by
 intro x t hl
 have hk : (ks .i32 t).length = 16 := by simp [Qh, hl]
 have h1 := Jt .i32 t
 have tk16 : (ks .i32 t).take 16 = ks .i32 t := QG (by omega)
 refine Qv (by simp [isDL, isD, Zc]) (QzW _ _) b ?_
 have fin : ∀ s : Int, .int .i64 s :: (ks .i32 t ++ [.int .i32 0, .int .i32 0, .int .i32 0, .int .i32 0, .int .i32 0, .int .i32 0, .int .i32 0, .int .i32 0, .int .i32 0, .int .i32 0, .int .i32 0, .int .i32 0, .int .i32 0, .int .i32 0, .int .i32 0, .int .i32 0]) = Qs ⟨s, t, z16⟩ := fun _ => rfl
 have hl33 : ∀ s : Int, (Qs ⟨s, t, z16⟩).length = 33 := fun s => by simp [Qs, Qh, hl, z16]
 have ho := fun s => Zo ⟨s, t, z16⟩
 have tk : ∀ s : Int, (Qs ⟨s, t, z16⟩).take 33 = Qs ⟨s, t, z16⟩ := fun s => QG (by rw [hl33]; omega)
 have st9 : ([] : List AV) ++ [.int .i64 9] ++ (Qs ⟨10, t, z16⟩).drop 1 = Qs ⟨9, t, z16⟩ := rfl
 have d9 : AV.int .i64 9 :: (Qs ⟨10, t, z16⟩).drop 1 = Qs ⟨9, t, z16⟩ := rfl
 rcases Zj x with ⟨rfl, h⟩ | ⟨rfl, h⟩ | ⟨rfl, h⟩ | ⟨h2, h3, h4, h⟩
 ·simp (disch := omega) only [rq, simprocAttr, JW, QjY, h, hk, h1, tk16, fin, hl33, ho, tk, Q1, ht, Ql5, Qcs]
 ·simp (disch := omega) only [rq, simprocAttr, JW, QjY, h, hk, h1, tk16, fin, hl33, ho, tk, Q1, ht, Ql5, Qcs, d9]
 ·simp (disch := omega) only [rq, simprocAttr, JW, QjY, h, hk, h1, tk16, fin, hl33, ho, tk, Q1, ht, Ql5, Qcs]
 ·simp (disch := omega) only [rq, simprocAttr, JW, QjY, h, hk, h1, tk16, fin, hl33, ho, tk, Q1, ht, Qcj]
def QyS (s : Int) : Int := if s = 9 ∨ s = 10 then 0 else 8
def Qgb (P : Prg) (f : Nat) : Prop := ∀ x : J8, Qdg x → VC P f [.agg (Qs x)] (.int .i64 (QyS x.sh))
theorem QD9 : QyS 9 = 0 := rfl
theorem QCU : QyS 10 = 0 := rfl
def QBa (a b : List Int) : Nat → Int
 | 0 => 0
 | k + 1 => QBa a b k + a.getD k 0 * b.getD k 0
def QfN (s : Int) : Int := if s = 9 then 512 else 1024
def QoK (f : J8) : Int := w32 (QfN f.sh / 2 + QBa f.tp f.ps 16) / QfN f.sh
def Qh3 (P : Prg) (f : Nat) : Prop := ∀ x : J8, Qdg x → x.sh = 9 ∨ x.sh = 10 → VC P f [.agg (Qs x)] (.tup [.int .i32 (QoK x), .int .i64 0])
theorem QBH : Qj true .i32 1 8 = some (.int .i32 256) := rfl
theorem QBG : Qj true .i32 1 9 = some (.int .i32 512) := rfl
theorem QBC (s : Int) : Qj false .i32 s 9 = some (.int .i32 (s / 512)) := by
 show some (AV.int .i32 (s.fdiv 512)) = _
 rw [qF _ (by omega)]
theorem Qzk (s : Int) : Qj false .i32 s 10 = some (.int .i32 (s / 1024)) := by
 show some (AV.int .i32 (s.fdiv 1024)) = _
 rw [qF _ (by omega)]
theorem Qt1 {P : Prg} {f fC t0 : Nat} (b : Body P f 36 [.tmp 2, .tmp 3] (QcR fC t0)) (hC : Qgb P fC) : Qh3 P f := by
 intro x hx hs
 have l33 := Zk hx
 have tk : (Qs x).take 33 = Qs x := QG (by omega)
 have ho := Zo x
 have e1 := QoT hx
 have e0 : (Qs x).drop 0 = .int .i64 x.sh :: (ks .i32 x.tp ++ ks .i32 x.ps) := rfl
 have ht : QyS x.sh = 0 := by simp [QyS, hs]
 have hl := hx.1
 refine Qv (by simp [isDL, isD, ZF]) rfl b ?_
 simp (disch := omega) only [rq, simprocAttr, QcR, l33, tk, ho]
 refine Qa (hC x hx) ?_
 rcases hs with h | h
 all_goals
  have z0 : w32 (QfN x.sh / 2 + QBa x.tp x.ps 0) = QfN x.sh / 2 := by simp only [QBa, Int.add_zero]; exact QnI (by simp [QfN, h]) (by simp [QfN, h])
  have z1 : QfN x.sh = 512 ∧ x.sh = 9 ∨ QfN x.sh = 1024 ∧ x.sh = 10 := by simp [QfN, h]
  simp (disch := omega) only [rq, simprocAttr, l33, tk, ho, QD9, QCU, e1, ↓e0, h, QBH, QBG]
  refine Qg (ι := Nat) (fun k => ⟨[(19, .int .i64 k), (18, .agg (ks .i32 x.tp)), (5, .int .i32 (w32 (QfN x.sh / 2 + QBa x.tp x.ps k))), (1, .ref 0 1 0)], [⟨t0, 33, 1, Qs x, 0⟩]⟩) (fun k => k ≤ 16) (fun k => 16 - k) 0 (Qm (by rw [z0]; simp [Am.look, h, QfN])) (by omega) ?_
  intro k hk
  by_cases hlt : k < 16
  ·have e2 := QxO hx hlt
   have e3 := QAY (K := .i32) (l := x.tp) (k := k) (by omega)
   have e4 : w32 (w32 (QfN x.sh / 2 + QBa x.tp x.ps k) + w32 (x.tp.getD k 0 * x.ps.getD k 0)) = w32 (QfN x.sh / 2 + QBa x.tp x.ps (k + 1)) := by
    rw [QBo]; simp only [QBa]; congr 1; omega
   simp (disch := omega) only [rq, simprocAttr, l33, e2, e3, Jg, e4]
   exact ⟨k + 1, by omega, by omega, Ql⟩
  ·have e : k = 16 := by omega
   subst e
   simp (disch := omega) only [rq, simprocAttr, ↓e0, h, QBC, Qzk, QoK, QfN]
theorem Qt2 {P : Prg} {f t0 : Nat} (b : Body P f 11 [.tmp 2] (Jv t0)) : Qgb P f := by
 intro x hx
 have l33 := Zk hx
 have ho := Zo x
 have e0 : (Qs x).drop 0 = .int .i64 x.sh :: (ks .i32 x.tp ++ ks .i32 x.ps) := rfl
 refine Qv (by simp [isDL, isD, ZF]) rfl b ?_
 by_cases h9 : x.sh = 9
 ·simp (disch := omega) only [rq, simprocAttr, Jv, l33, ho, ↓e0, h9, QyS]
 by_cases h10 : x.sh = 10
 ·simp (disch := omega) only [rq, simprocAttr, Jv, l33, ho, ↓e0, h10, QyS]
 ·simp (disch := omega) only [rq, simprocAttr, Jv, l33, ho, ↓e0, QyS]
def Qqn (i : Nat) : Int := if i = 0 then 4 else if i < 4 then 2 else 1
def Qr7 (P : Prg) (f : Nat) : Prop := ∀ i : Nat, VC P f [.int .i64 i] (.int .i32 (Qqn i))
theorem QvW {P : Prg} {f : Nat} (b : Body P f 9 [.tmp 2] Qaf) : Qr7 P f := by
 intro i
 refine Qv rfl rfl b ?_
 by_cases h0 : i = 0
 ·subst h0; simp (disch := omega) only [rq, simprocAttr, Qaf, Qqn, Int.natCast_zero]
 by_cases h1 : i < 4
 ·simp (disch := omega) only [rq, simprocAttr, Qaf, Qqn, h0]
 ·simp (disch := omega) only [rq, simprocAttr, Qaf, Qqn, h0]
def sgn (x : Int) : Int := if x < 0 then -1 else if 0 < x then 1 else 0
def Qy5 (x : J8) (w : Int) (k : Nat) : Int := w32 (x.tp.getD k 0 + Qqn k * sgn (x.ps.getD k 0) * sgn w)
def JN (x : J8) (w : Int) (k : Nat) : List Int := (List.range 16).map fun i => if i < k then Qy5 x w i else x.tp.getD i 0
def lf (x : J8) (w : Int) (k : Nat) : J8 := { x with tp := JN x w k }
def Qbu (x : J8) (w : Int) : J8 := lf x w 16
theorem Qur {l : List Int} (h : l.length = 16) : (List.range 16).map (fun i => l.getD i 0) = l := by
 apply yZ (by simp [h])
 intro i h1 h2
 simp [qd, qc h2]
theorem Qxf (x : J8) (w : Int) (k : Nat) : (JN x w k).length = 16 := by simp [JN]
theorem QkZ {x : J8} (h : Qdg x) (w : Int) : JN x w 0 = x.tp := by
 have := Qur h.1
 simpa [JN] using this
theorem Quy (x : J8) (w : Int) {k : Nat} (hk : k < 16) : (JN x w k).getD k 0 = x.tp.getD k 0 := by
 simp [JN, qd, hk]
theorem Qxe (x : J8) (w : Int) {k : Nat} (hk : k < 16) : (JN x w k).set k (Qy5 x w k) = JN x w (k + 1) := by
 apply yZ (by simp [JN])
 intro i h1 h2
 rw [Ys]
 simp only [JN, j8, List.getElem_range]
 by_cases e : k = i
 ·subst e; simp
 ·rw [qf e]
  by_cases h : i < k
  ·rw [qh h, qh (by omega)]
  ·rw [qf h, qf (by omega)]
theorem Qk0 (x : J8) (w : Int) {k : Nat} (h : Qy5 x w k = x.tp.getD k 0) : JN x w (k + 1) = JN x w k := by
 simp only [JN]
 apply yp
 intro i _
 by_cases e : i = k
 ·subst e; simp [h]
 ·by_cases h : i < k
  ·rw [qh h, qh (by omega)]
  ·rw [qf h, qf (by omega)]
theorem QyN {x : J8} (h : Qdg x) (w : Int) (k : Nat) : I32 (JN x w k) := by
 intro v hv
 simp only [JN, qU] at hv
 obtain ⟨i, _, rfl⟩ := hv
 split
 ·exact JP _
 ·exact ZG h.2.2.1 i
theorem Qot {x : J8} (h : Qdg x) (w : Int) (k : Nat) : Qdg (lf x w k) := ⟨Qxf x w k, h.2.1, QyN h w k, h.2.2.2⟩
theorem QhW {x : J8} (h : Qdg x) (w : Int) : Qdg (Qbu x w) := Qot h w 16
theorem QzM {x : J8} (h : Qdg x) : Qbu x 0 = x := by
 have key : ∀ k, JN x 0 k = x.tp := fun k => by
  induction k with
  | zero => exact QkZ h 0
  | succ k ih =>
   rw [Qk0 x 0, ih]
   have := ZG h.2.2.1 k
   simp only [Qy5, sgn]
   simp
   exact QnI (by simpa using this.1) (by simpa using this.2)
 simp [Qbu, lf, key]
def Qnh (P : Prg) (f : Nat) : Prop := ∀ (x : J8) (w : Int), Qdg x → x.sh = 9 ∨ x.sh = 10 → VC P f [.agg (Qs x), .int .i32 w] (.tup [.agg (Qs (Qbu x w)), .int .i64 0])
theorem QvV {s : Int} (h : s = 9 ∨ s = 10) : QyS s = 0 := by simp [QyS, h]
theorem Qt0 {P : Prg} {f fC fS t0 : Nat} (b : Body P f 53 [.cell 4 t0, .tmp 5] (QcQ fC fS t0)) (ht : Zu P t0 = some (some 33)) (hC : Qgb P fC) (hS : Qr7 P fS) : Qnh P f := by
 intro x w hx hs
 have l33 := Zk hx
 have tk : (Qs x).take 33 = Qs x := QG (by omega)
 have ho := Zo x
 have hc := QvV hs
 have pp := Qk6 hx
 have lw := Zk (QhW hx w)
 have tkw : (Qs (Qbu x w)).take 33 = Qs (Qbu x w) := QG (by omega)
 have how := Zo (Qbu x w)
 refine Qv (by simp [isDL, isD, ZF]) (by simp [isD, isDL, ZF]) b ?_
 simp (disch := omega) only [rq, simprocAttr, QcQ, l33, tk, ho]
 refine Qa (hC x hx) ?_
 by_cases hw : w = 0
 ·subst hw
  have e := QzM hx
  simp (disch := omega) only [rq, simprocAttr, l33, tk, ho, hc, Q1, ht, e]
 simp (disch := omega) only [rq, simprocAttr, l33, tk, ho, hc, pp]
 refine Qg (ι := Nat) (fun k => ⟨[(20, .int .i64 k), (19, .agg (ks .i32 x.ps)), (4, .ref 1 1 0), (2, .ref 0 1 0), (1, .int .i32 w), (5, .int .i64 0)], [⟨t0, 33, 1, Qs (lf x w k), 0⟩, ⟨t0, 33, 1, Qs QnB, 0⟩]⟩) (fun k => k ≤ 16) (fun k => 16 - k) 0 (by rw [show lf x w 0 = x by simp [lf, QkZ hx]]; exact Ql) (by omega) ?_
 intro k hk
 by_cases hlt : k < 16
 ·have hok := Qot hx w k
  have e1 := QAY (K := .i32) (l := x.ps) (k := k) (by have := hx.2.1; omega)
  have e2 := QAj hok hlt
  have e3 := fun v => Qra hok hlt v
  have e4 := Quy x w hlt
  have e5 := Zk hok
  have hu := Qxe x w hlt
  have hp := ZG hx.2.2.2 k
  have htp := ZG hx.2.2.1 k
  have ef : ∀ v, ({ lf x w k with tp := (lf x w k).tp.set k v } : J8) = { x with tp := (JN x w k).set k v } := fun _ => rfl
  have e7 : (lf x w k).tp.getD k 0 = x.tp.getD k 0 := e4
  by_cases p0 : x.ps.getD k 0 = 0
  ·have e6 := Qk0 x w (k := k) (by simp only [Qy5, p0, sgn]; simp; exact QnI (by simpa using htp.1) (by simpa using htp.2))
   simp (disch := omega) only [rq, simprocAttr, e1, p0]
   exact ⟨k + 1, by omega, by omega, by rw [show lf x w (k + 1) = lf x w k by simp [lf, e6]]; exact Ql⟩
  ·by_cases hsame : (x.ps.getD k 0 < 0 ↔ w < 0)
   ·have e6 : Qy5 x w k = w32 (x.tp.getD k 0 + Qqn k) := by
     simp only [Qy5, sgn]; congr 1
     by_cases q : w < 0
     ·rw [qh q, qh (hsame.2 q)]; omega
     ·rw [qf q, qf (fun h => q (hsame.1 h)), qh (by omega), qh (by omega)]; omega
    rw [e6] at hu
    by_cases q : w < 0
    ·have q2 := hsame.2 q
     simp (disch := omega) only [rq, simprocAttr, e1, e2, e7]
     refine QX (hS k) ?_
     simp (disch := omega) only [rq, simprocAttr, e3, e5, Jg, ef, hu]
     exact ⟨k + 1, by omega, by omega, Ql⟩
    ·have q2 : ¬ x.ps.getD k 0 < 0 := fun h => q (hsame.1 h)
     simp (disch := omega) only [rq, simprocAttr, e1, e2, e7]
     refine QX (hS k) ?_
     simp (disch := omega) only [rq, simprocAttr, e3, e5, Jg, ef, hu]
     exact ⟨k + 1, by omega, by omega, Ql⟩
   ·have e6 : Qy5 x w k = w32 (x.tp.getD k 0 - Qqn k) := by
     simp only [Qy5, sgn]; congr 1
     by_cases q : w < 0
     ·rw [qh q, qf (fun h => hsame ⟨fun _ => q, fun _ => h⟩), qh (by omega)]; omega
     ·rw [qf q, qh (Classical.byContradiction fun h => hsame ⟨fun h' => absurd h' h, fun h' => absurd h' q⟩), qh (by omega)]; omega
    rw [e6] at hu
    by_cases q : w < 0
    ·have q2 : ¬ x.ps.getD k 0 < 0 := fun h => hsame ⟨fun _ => q, fun _ => h⟩
     simp (disch := omega) only [rq, simprocAttr, e1, e2, e7]
     refine QX (hS k) ?_
     simp (disch := omega) only [rq, simprocAttr, e3, e5, Jg, ef, hu]
     exact ⟨k + 1, by omega, by omega, Ql⟩
    ·have q2 : x.ps.getD k 0 < 0 := Classical.byContradiction fun h => hsame ⟨fun h' => absurd h' h, fun h' => absurd h' q⟩
     simp (disch := omega) only [rq, simprocAttr, e1, e2, e7]
     refine QX (hS k) ?_
     simp (disch := omega) only [rq, simprocAttr, e3, e5, Jg, ef, hu]
     exact ⟨k + 1, by omega, by omega, Ql⟩
 ·have e : k = 16 := by omega
  subst e
  have hF : lf x w 16 = Qbu x w := rfl
  rw [hF]
  simp (disch := omega) only [rq, simprocAttr, lw, tkw, how, Q1, ht, Qcj]
def Qj5 (x : J8) (v : Int) : J8 := { x with ps := v :: x.ps.take 15 }
theorem Qw2 {x : J8} (h : Qdg x) {v : Int} (hv : -2147483648 ≤ v ∧ v ≤ 2147483647) : Qdg (Qj5 x v) := by
 obtain ⟨h1, h2, h3, h4⟩ := h
 refine ⟨h1, by simp [Qj5, h2], h3, fun y hy => ?_⟩
 simp only [Qj5, yH] at hy
 rcases hy with rfl | hy
 ·exact hv
 ·exact h4 y (qP hy)
def Qr8 (P : Prg) (f : Nat) : Prop := ∀ (x : J8) (v : Int), Qdg x → x.sh = 9 ∨ x.sh = 10 → VC P f [.agg (Qs x), .int .i32 v] (.tup [.agg (Qs (Qj5 x v)), .int .i64 0])
theorem QvX {P : Prg} {f fC t0 : Nat} (b : Body P f 22 [.cell 4 t0, .tmp 5] (QdP fC t0)) (ht : Zu P t0 = some (some 33)) (hC : Qgb P fC) : Qr8 P f := by
 intro x v hx hs
 have l33 := Zk hx
 have tk : (Qs x).take 33 = Qs x := QG (by omega)
 have ho := Zo x
 have hc := QvV hs
 have pp := Qk6 hx
 have h16 : (ks .i32 x.ps).length = 16 := by simp [Qh, hx.2.1]
 have o16 := Jt .i32 x.ps
 refine Qv (by simp [isDL, isD, ZF]) (by simp [isD, isDL, ZF]) b ?_
 simp (disch := omega) only [rq, simprocAttr, QdP, l33, tk, ho]
 refine Qa (hC x hx) ?_
 have hm : Nat.min 16 15 = 15 := rfl
 let y : J8 := { x with ps := x.ps.getD 0 0 :: x.ps.take 15 }
 have hy : Qdg y := Qw2 hx (ZG hx.2.2.2 0)
 have hcp : (Qs x).take 18 ++ (ks .i32 x.ps).take 15 ++ (Qs x).drop 33 = Qs y := by
  have e1 : (Qs x).drop 33 = [] := ya (by omega)
  have e2 : (ks .i32 x.tp).length = 16 := by simp [Qh, hx.1]
  have e3 : (ks .i32 x.ps).take 1 = [.int .i32 (x.ps.getD 0 0)] := by
   have h1 : 0 < x.ps.length := by have := hx.2.1; omega
   match hps : x.ps, h1 with
   | a :: l, _ => rfl
  rw [e1, q8]
  simp only [Qs, y8, yc, y]
  congr 1
  rw [jq, qg (by omega), e2, e3, qj, QqU]
  rfl
 have hset : (Qs y).take 17 ++ [.int .i32 v] ++ (Qs y).drop 18 = Qs (Qj5 x v) := QoU hy (k := 0) (by omega) v
 have ly := Zk hy
 have lp : (Qs (Qj5 x v)).length = 33 := by rw [← hset]; simp [ly]
 have tkp : (Qs (Qj5 x v)).take 33 = Qs (Qj5 x v) := QG (by omega)
 have op := Zo (Qj5 x v)
 simp (disch := omega) only [rq, simprocAttr, l33, tk, ho, hc, pp, h16, o16, hm, hcp, hset, ly, lp, tkp, op, Q1, ht, Qcj]
def Ju (x : J8) (v y : Int) : J8 := Qj5 (Qbu x y) v
theorem Qdz {x : J8} (h : Qdg x) {v : Int} (hv : -2147483648 ≤ v ∧ v ≤ 2147483647) (y : Int) : Qdg (Ju x v y) := Qw2 (QhW h y) hv
def Qgf (P : Prg) (f : Nat) : Prop := ∀ (x : J8) (v y : Int), Qdg x → x.sh = 9 ∨ x.sh = 10 → -2147483648 ≤ v ∧ v ≤ 2147483647 → VC P f [.agg (Qs x), .int .i32 v, .int .i32 y] (.agg (Qs (Ju x v y)))
theorem Qux {P : Prg} {f fL fP t0 : Nat} (b : Body P f 20 [.cell 6 t0] (QcW fL fP t0)) (ht : Zu P t0 = some (some 33)) (hL : Qnh P fL) (hP : Qr8 P fP) : Qgf P f := by
 intro x v y hx hs hv
 have l1 := Zk hx
 have t1 : (Qs x).take 33 = Qs x := QG (by omega)
 have o1 := Zo x
 have l2 := Zk (QhW hx y)
 have t2 : (Qs (Qbu x y)).take 33 = Qs (Qbu x y) := QG (by omega)
 have o2 := Zo (Qbu x y)
 have l3 := Zk (Qdz hx hv y)
 have t3 : (Qs (Ju x v y)).take 33 = Qs (Ju x v y) := QG (by omega)
 have o3 := Zo (Ju x v y)
 have d1 : (Qs x).drop 33 = [] := ya (by omega)
 have d2 : (Qs (Qbu x y)).drop 33 = [] := ya (by omega)
 refine Qv (by simp [isDL, isD, ZF]) (by simp [isD, ZF]) b ?_
 simp (disch := omega) only [rq, simprocAttr, QcW, l1, t1, o1]
 refine Qa (hL x y hx hs) ?_
 simp (disch := omega) only [rq, simprocAttr, l1, t1, o1, l2, t2, o2, d1]
 refine Qa (hP (Qbu x y) v (QhW hx y) hs) ?_
 rw [← Ju]
 simp (disch := omega) only [rq, simprocAttr, l1, t1, o1, l2, t2, o2, l3, t3, o3, d1, d2, Q1, ht, Qcj]
def Qvt (x : J8) (v : Int) : Int := w32 (v - QoK x)
def QDn (x : J8) (v : Int) : J8 := Ju x v (Qvt x v)
def QgS (P : Prg) (f : Nat) : Prop := ∀ (x : J8) (v : Int), Qdg x → x.sh = 9 ∨ x.sh = 10 → -2147483648 ≤ v ∧ v ≤ 2147483647 → VC P f [.agg (Qs x), .int .i32 v] (.tup [.int .i32 (Qvt x v), .agg (Qs (QDn x v)), .int .i64 0])
theorem QqQ {P : Prg} {f fG fB t0 : Nat} (b : Body P f 27 [.tmp 4, .cell 5 t0, .tmp 6] (QbQ fG fB t0)) (ht : Zu P t0 = some (some 33)) (hG : Qh3 P fG) (hB : Qgf P fB) : QgS P f := by
 intro x v hx hs hv
 have l1 := Zk hx
 have t1 : (Qs x).take 33 = Qs x := QG (by omega)
 have o1 := Zo x
 have l3 := Zk (Qdz hx hv (Qvt x v))
 have t3 : (Qs (Ju x v (Qvt x v))).take 33 = Qs (Ju x v (Qvt x v)) := QG (by omega)
 have o3 := Zo (Ju x v (Qvt x v))
 refine Qv (by simp [isDL, isD, ZF]) (by simp [isD, isDL, ZF]) b ?_
 simp (disch := omega) only [rq, simprocAttr, QbQ, l1, t1, o1]
 refine Qa (hG x hx hs) ?_
 simp (disch := omega) only [rq, simprocAttr, l1, t1, o1, Jg]
 refine Qa (hB x v (Qvt x v) hx hs hv) ?_
 simp only [Qvt] at l3 t3 o3
 simp (disch := omega) only [rq, simprocAttr, l1, t1, o1, l3, t3, o3, Q1, ht, Qcj, QDn, Qvt]
def Qu9 (x : J8) (y : Int) : Int := w32 (y + QoK x)
def QDH (x : J8) (y : Int) : J8 := Ju x (Qu9 x y) y
def Qsc (P : Prg) (f : Nat) : Prop := ∀ (x : J8) (y : Int), Qdg x → x.sh = 9 ∨ x.sh = 10 → VC P f [.agg (Qs x), .int .i32 y] (.tup [.int .i32 (Qu9 x y), .agg (Qs (QDH x y)), .int .i64 0])
theorem QzK {P : Prg} {f fG fB t0 : Nat} (b : Body P f 27 [.tmp 4, .cell 5 t0, .tmp 6] (Qfj fG fB t0)) (ht : Zu P t0 = some (some 33)) (hG : Qh3 P fG) (hB : Qgf P fB) : Qsc P f := by
 intro x y hx hs
 have hv := JP (y + QoK x)
 have l1 := Zk hx
 have t1 : (Qs x).take 33 = Qs x := QG (by omega)
 have o1 := Zo x
 have l3 := Zk (Qdz hx hv y)
 have t3 : (Qs (Ju x (Qu9 x y) y)).take 33 = Qs (Ju x (Qu9 x y) y) := QG (by unfold Qu9; omega)
 have o3 := Zo (Ju x (Qu9 x y) y)
 refine Qv (by simp [isDL, isD, ZF]) (by simp [isD, isDL, ZF]) b ?_
 simp (disch := omega) only [rq, simprocAttr, Qfj, l1, t1, o1]
 refine Qa (hG x hx hs) ?_
 simp (disch := omega) only [rq, simprocAttr, l1, t1, o1, Jg]
 refine Qa (hB x (Qu9 x y) y hx hs hv) ?_
 simp only [Qu9] at l3 t3 o3
 simp (disch := omega) only [rq, simprocAttr, l1, t1, o1, l3, t3, o3, Q1, ht, Qcj, QDH, Qu9]
def QeQ (b last : Int) : Int := if b = 8 then 15 * last / 16 else 31 * last / 32
def Qnn (P : Prg) (f : Nat) : Prop := ∀ b : Int, Z5 b ≠ 0 → VC P f [.int .i64 b] (.tup [.int .i64 (if b = 8 then 4 else 5), .int .i64 0])
theorem Qq8 {P : Prg} {f : Nat} (b : Body P f 10 [.tmp 2, .tmp 3] X6) : Qnn P f := by
 intro x hx
 refine Qv rfl rfl b ?_
 rcases Zj x with ⟨rfl, h⟩ | ⟨rfl, h⟩ | ⟨rfl, h⟩ | ⟨h2, h3, h4, h⟩
 ·simp (disch := omega) only [rq, simprocAttr, X6]
 ·simp (disch := omega) only [rq, simprocAttr, X6]
 ·simp (disch := omega) only [rq, simprocAttr, X6]
 ·exact absurd h hx
theorem QBF {x : Int} (h : -2147483648 ≤ x ∧ x ≤ 2147483647) : Qj true .i64 x 4 = some (.int .i64 (x * 16)) := by
 show some (AV.int .i64 (IntKind.i64.wrap (x * 16))) = _
 rw [wrap_i64 (by omega) (by omega)]
theorem QBE {x : Int} (h : -2147483648 ≤ x ∧ x ≤ 2147483647) : Qj true .i64 x 5 = some (.int .i64 (x * 32)) := by
 show some (AV.int .i64 (IntKind.i64.wrap (x * 32))) = _
 rw [wrap_i64 (by omega) (by omega)]
theorem QBB (x : Int) : Qj false .i64 x 4 = some (.int .i64 (x / 16)) := by
 show some (AV.int .i64 (x.fdiv 16)) = _
 rw [qF _ (by omega)]
theorem QBA (x : Int) : Qj false .i64 x 5 = some (.int .i64 (x / 32)) := by
 show some (AV.int .i64 (x.fdiv 32)) = _
 rw [qF _ (by omega)]
def Qnm (P : Prg) (f : Nat) : Prop := ∀ (b l : Int), -2147483648 ≤ l ∧ l ≤ 2147483647 → VC P f [.int .i64 (if b = 8 then 4 else 5), .int .i32 l] (.int .i32 (QeQ b l))
theorem Qq7 {P : Prg} {f : Nat} (b : Body P f 16 [.tmp 4] J5) : Qnm P f := by
 intro x l hl
 refine Qv rfl rfl b ?_
 have e1 : l * 16 - l = 15 * l := by omega
 have e2 : l * 32 - l = 31 * l := by omega
 have a := QBF hl
 have c := QBE hl
 by_cases h : x = 8
 ·simp (disch := omega) only [rq, simprocAttr, J5, h, QeQ, a, QBB, e1]
 ·simp (disch := omega) only [rq, simprocAttr, J5, qf h, QeQ, c, QBA, e2]
def Qh8 (P : Prg) (f : Nat) : Prop := ∀ (b l : Int), Z5 b ≠ 0 → -2147483648 ≤ l ∧ l ≤ 2147483647 → VC P f [.int .i64 b, .int .i32 l] (.tup [.int .i32 (QeQ b l), .int .i64 0])
theorem Qq9 {P : Prg} {f fS fg : Nat} (b : Body P f 19 [.tmp 4, .tmp 5] (QbS fS fg)) (hS : Qnn P fS) (hg : Qnm P fg) : Qh8 P f := by
 intro x l hx hl
 refine Qv rfl rfl b ?_
 simp (disch := omega) only [rq, simprocAttr, QbS]
 refine Qa (hS x hx) ?_
 simp (disch := omega) only [rq, simprocAttr]
 refine Qa (hg x l hl) ?_
 simp (disch := omega) only [rq, simprocAttr]
structure XD where
 bits : Int
 last : Int
 fl : J8
def Zg (c : XD) : List AV := .int .i64 c.bits :: .int .i32 c.last :: Qs c.fl
def QsW (c : XD) : Prop := Z5 c.bits ≠ 0 ∧ c.fl.sh = Qcs c.bits ∧ Qdg c.fl ∧ (-2147483648 ≤ c.last ∧ c.last ≤ 2147483647)
def Qck : XD := ⟨0, 0, QnB⟩
theorem ZY {c : XD} (h : Qdg c.fl) : (Zg c).length = 35 := by simp [Zg, Zk h]
theorem XG (c : XD) : (Zg c).all AV.one = true := by simp [Zg, AV.one, Zo]
theorem Qcc (c : XD) : isDL (Zg c) = true := by simp [Zg, isDL, isD, ZF]
theorem QsI (b : Int) : Qcs b = 9 ∨ Qcs b = 10 := by unfold Qcs; split <;> simp
theorem Qw5 {b : Int} {t : List Int} (h1 : t.length = 16) (h2 : I32 t) : Qdg (Ql5 b t) := ⟨h1, by simp [Ql5, z16], h2, fun x hx => by simp [Ql5, z16] at hx; omega⟩
theorem QdX : Zg Qck = z2L := rfl
def Qau (b : Int) (t : List Int) : XD := ⟨b, 0, Ql5 b t⟩
def Qrr (b : Int) (t : List Int) : AV := if Z5 b = 0 then .tup [.agg (Zg Qck), .int .i64 2] else .tup [.agg (Zg (Qau b t)), .int .i64 0]
def QtG (P : Prg) (f : Nat) : Prop := ∀ (b : Int) (t : List Int), t.length = 16 → I32 t → VC P f [.int .i64 b, .agg (ks .i32 t)] (Qrr b t)
theorem Qz5 (b : Int) (t : List Int) : isD (Qrr b t) = true := by unfold Qrr; split <;> simp [isD, isDL, Qcc]
theorem Qya {P : Prg} {f fT t0 t1 t2 : Nat} (b : Body P f 21 [.cell 4 t1, .tmp 5] (QdU fT t0 t1 t2)) (ht : Zu P t1 = some (some 35)) (hT : Qtz P fT) : QtG P f := by
 intro x t hl hI
 have hk : (ks .i32 t).length = 16 := by simp [Qh, hl]
 have h1 := Jt .i32 t
 have tk16 : (ks .i32 t).take 16 = ks .i32 t := QG (by omega)
 have hok : Qdg (Ql5 x t) := Qw5 hl hI
 have l1 := Zk hok
 have t1' : (Qs (Ql5 x t)).take 33 = Qs (Ql5 x t) := QG (by omega)
 have o1 := Zo (Ql5 x t)
 have lc := ZY (c := Qau x t) hok
 have tc : (Zg (Qau x t)).take 35 = Zg (Qau x t) := QG (by omega)
 have oc := XG (Qau x t)
 have mk : AV.int .i64 x :: .int .i32 0 :: Qs (Ql5 x t) = Zg (Qau x t) := rfl
 refine Qv (by simp [isDL, isD, Zc]) (Qz5 _ _) b ?_
 simp (disch := omega) only [rq, simprocAttr, QdU, hk, h1, tk16]
 refine Qa (hT x t hl) ?_
 by_cases h0 : Z5 x = 0
 ·simp (disch := omega) only [rq, simprocAttr, QjY, h0, Qrr, Qcj, QdX, Q1, ht]
 ·simp (disch := omega) only [rq, simprocAttr, QjY, qf h0, Qrr, l1, t1', o1, lc, tc, oc, mk, QdX, Q1, ht]
theorem Qx9 {c : XD} (h : Qdg c.fl) : ((Zg c).drop 2).take 33 = Qs c.fl := by
 simp only [Zg, jo, yJ]
 exact QG (by rw [Zk h]; omega)
theorem Qx8 {c : XD} (h : Qdg c.fl) : ((Zg c).drop 3).take 16 = ks .i32 c.fl.tp := QoT h
def Qie (P : Prg) (f : Nat) : Prop := ∀ c : XD, QsW c → VC P f [.agg (Zg c)] (.int .i64 0)
theorem Qru {P : Prg} {f fT t0 t1 : Nat} (b : Body P f 24 [.tmp 2] (QbX fT t0 t1)) (hT : Qtz P fT) : Qie P f := by
 intro c ⟨h1, h2, h3, h4⟩
 have lc := ZY h3
 have oc := XG c
 have e0 : (Zg c).drop 0 = .int .i64 c.bits :: .int .i32 c.last :: Qs c.fl := rfl
 have e2 : (Zg c).drop 2 = .int .i64 c.fl.sh :: (ks .i32 c.fl.tp ++ ks .i32 c.fl.ps) := rfl
 have et := Qx8 h3
 have hk : (ks .i32 c.fl.tp).length = 16 := by simp [Qh, h3.1]
 have hok : Qdg (Ql5 c.bits c.fl.tp) := Qw5 h3.1 h3.2.2.1
 have l1 := Zk hok
 have t1' : (Qs (Ql5 c.bits c.fl.tp)).take 33 = Qs (Ql5 c.bits c.fl.tp) := QG (by omega)
 have o1 := Zo (Ql5 c.bits c.fl.tp)
 have en : (Qs (Ql5 c.bits c.fl.tp)).drop 0 = .int .i64 (Qcs c.bits) :: (ks .i32 c.fl.tp ++ ks .i32 z16) := rfl
 have dn : (Qs (Ql5 c.bits c.fl.tp)).drop 33 = [] := ya (by omega)
 refine Qv (by simp [isDL, isD, Qcc]) rfl b ?_
 simp (disch := omega) only [rq, simprocAttr, QbX, lc, oc, ↓e0, et]
 refine Qa (hT c.bits c.fl.tp h3.1) ?_
 simp (disch := omega) only [rq, simprocAttr, QjY, qf h1, l1, t1', o1, ↓en, ↓e2, h2, dn]
def Qyb (c : XD) (x : Int) : Int := w32 (x - QeQ c.bits c.last)
def Qf0 (c : XD) (x : Int) : Int := Qvt c.fl (Qyb c x)
def Qcf (c : XD) (x : Int) : XD := ⟨c.bits, x, QDn c.fl (Qyb c x)⟩
theorem QqM {c : XD} (h : QsW c) {x : Int} (hx : -2147483648 ≤ x ∧ x ≤ 2147483647) : QsW (Qcf c x) := ⟨h.1, h.2.1, Qdz h.2.2.1 (JP _) _, hx⟩
def QgU (P : Prg) (f : Nat) : Prop := ∀ (c : XD) (x : Int), QsW c → -2147483648 ≤ x ∧ x ≤ 2147483647 → VC P f [.agg (Zg c), .int .i32 x] (.tup [.int .i32 (Qf0 c x), .agg (Zg (Qcf c x)), .int .i64 0])
theorem Qmy {P : Prg} {f fC fG fF t0 t1 : Nat} (b : Body P f 44 [.tmp 4, .cell 5 t0, .tmp 6] (Qat fC fG fF t0 t1)) (ht : Zu P t0 = some (some 35)) (hC : Qie P fC) (hG : Qh8 P fG) (hF : QgS P fF) : QgU P f := by
 intro c x hc hx
 obtain ⟨h1, h2, h3, h4⟩ := id hc
 have hs : c.fl.sh = 9 ∨ c.fl.sh = 10 := by rw [h2]; exact QsI _
 have lc := ZY h3
 have tc : (Zg c).take 35 = Zg c := QG (by omega)
 have oc := XG c
 have e0 : (Zg c).drop 0 = .int .i64 c.bits :: .int .i32 c.last :: Qs c.fl := rfl
 have e1 : (Zg c).drop 1 = .int .i32 c.last :: Qs c.fl := rfl
 have e2 := Qx9 h3
 have hzr := JP (x - QeQ c.bits c.last)
 have hok := QqM hc hx
 have l1 := Zk hok.2.2.1
 have t1' : (Qs (Qcf c x).fl).take 33 = Qs (Qcf c x).fl := QG (by omega)
 have o1 := Zo (Qcf c x).fl
 have d1 : (Qs (Qcf c x).fl).drop 33 = [] := ya (by omega)
 have l2 := ZY hok.2.2.1
 have t2 : (Zg (Qcf c x)).take 35 = Zg (Qcf c x) := QG (by omega)
 have o2 := XG (Qcf c x)
 have mk : AV.int .i64 c.bits :: .int .i32 x :: Qs (Qcf c x).fl = Zg (Qcf c x) := rfl
 have hfe : QDn c.fl (w32 (x - QeQ c.bits c.last)) = (Qcf c x).fl := rfl
 have hye : Qvt c.fl (w32 (x - QeQ c.bits c.last)) = Qf0 c x := rfl
 refine Qv (by simp [isDL, isD, Qcc]) (by simp [isD, isDL, Qcc]) b ?_
 simp (disch := omega) only [rq, simprocAttr, Qat, lc, tc, oc]
 refine Qa (hC c hc) ?_
 simp (disch := omega) only [rq, simprocAttr, lc, tc, oc, ↓e0, ↓e1]
 refine Qa (hG c.bits c.last h1 h4) ?_
 simp (disch := omega) only [rq, simprocAttr, lc, tc, oc, e2, Jg]
 refine Qa (hF c.fl _ h3 hs hzr) ?_
 rw [hfe, hye]
 simp (disch := omega) only [rq, simprocAttr, lc, tc, oc, ↓e0, l1, t1', o1, d1, l2, t2, o2, mk, Q1, ht, QdX]
def Qmz (c : XD) (y : Int) : Int := w32 (Qu9 c.fl y + QeQ c.bits c.last)
def Qcg (c : XD) (y : Int) : XD := ⟨c.bits, Qmz c y, QDH c.fl y⟩
theorem QqN {c : XD} (h : QsW c) (y : Int) : QsW (Qcg c y) := ⟨h.1, h.2.1, Qdz h.2.2.1 (JP _) _, JP _⟩
def Qsj (P : Prg) (f : Nat) : Prop := ∀ (c : XD) (y : Int), QsW c → VC P f [.agg (Zg c), .int .i32 y] (.tup [.int .i32 (Qmz c y), .agg (Zg (Qcg c y)), .int .i64 0])
theorem Qu2 {P : Prg} {f fC fG fF t0 t1 : Nat} (b : Body P f 46 [.tmp 4, .cell 5 t0, .tmp 6] (Qc1 fC fG fF t0 t1)) (ht : Zu P t0 = some (some 35)) (hC : Qie P fC) (hG : Qh8 P fG) (hF : Qsc P fF) : Qsj P f := by
 intro c x hc
 obtain ⟨h1, h2, h3, h4⟩ := id hc
 have hs : c.fl.sh = 9 ∨ c.fl.sh = 10 := by rw [h2]; exact QsI _
 have lc := ZY h3
 have tc : (Zg c).take 35 = Zg c := QG (by omega)
 have oc := XG c
 have e0 : (Zg c).drop 0 = .int .i64 c.bits :: .int .i32 c.last :: Qs c.fl := rfl
 have e1 : (Zg c).drop 1 = .int .i32 c.last :: Qs c.fl := rfl
 have e2 := Qx9 h3
 have hok := QqN hc x
 have l1 := Zk hok.2.2.1
 have t1' : (Qs (Qcg c x).fl).take 33 = Qs (Qcg c x).fl := QG (by omega)
 have o1 := Zo (Qcg c x).fl
 have d1 : (Qs (Qcg c x).fl).drop 33 = [] := ya (by omega)
 have l2 := ZY hok.2.2.1
 have t2 : (Zg (Qcg c x)).take 35 = Zg (Qcg c x) := QG (by omega)
 have o2 := XG (Qcg c x)
 have mk : AV.int .i64 c.bits :: .int .i32 (Qmz c x) :: Qs (Qcg c x).fl = Zg (Qcg c x) := rfl
 have hfe : QDH c.fl x = (Qcg c x).fl := rfl
 have hye : w32 (Qu9 c.fl x + QeQ c.bits c.last) = Qmz c x := rfl
 refine Qv (by simp [isDL, isD, Qcc]) (by simp [isD, isDL, Qcc]) b ?_
 simp (disch := omega) only [rq, simprocAttr, Qc1, lc, tc, oc]
 refine Qa (hC c hc) ?_
 simp (disch := omega) only [rq, simprocAttr, lc, tc, oc, ↓e0, ↓e1]
 refine Qa (hG c.bits c.last h1 h4) ?_
 simp (disch := omega) only [rq, simprocAttr, lc, tc, oc, e2, Jg]
 refine Qa (hF c.fl x h3 hs) ?_
 rw [hfe]
 simp (disch := omega) only [rq, simprocAttr, lc, tc, oc, ↓e0, l1, t1', o1, d1, l2, t2, o2, mk, Q1, ht, QdX, Jg, hye]
theorem QvU {x : Int} (h : x < 0) (n : Int) : x.tdiv n = -(-x / n) ∧ x.tmod n = -(-x % n) := by
 have e : x = -(-x) := by omega
 constructor
 ·rw [e, Int.neg_tdiv, qK (by omega)]; simp
 ·rw [e, Int.neg_tmod, yO (by omega)]; simp
def QEh (x : J8) (k : Nat) : List Int := (List.range 16).map fun j => if k < j then x.ps.getD (j - 1) 0 else x.ps.getD j 0
def pf (x : J8) (k : Nat) : J8 := { x with ps := QEh x k }
def Qj9 (x : Int) : Int := if x < 0 then -2 * x - 1 else 2 * x
def QyG (P : Prg) (f : Nat) : Prop := ∀ x : Int, -2147483648 ≤ x ∧ x ≤ 2147483647 → VC P f [.int .i32 x] (.int .u32 (Qj9 x))
theorem QxD {x : Int} (h : -2147483648 ≤ x ∧ x ≤ 2147483647) : 0 ≤ Qj9 x ∧ Qj9 x < 4294967296 := by unfold Qj9; split <;> omega
theorem Qsr {a : Nat} (h : a < 4294967296) : (BitVec.ofInt 32 (a : Int) ^^^ BitVec.ofInt 32 4294967295).toNat = 4294967295 - a := by
 have e : BitVec.ofInt 32 4294967295 = BitVec.allOnes 32 := by decide
 rw [e, BitVec.xor_allOnes, BitVec.toNat_not]
 have : (BitVec.ofInt 32 (a : Int)).toNat = a := by simp; omega
 rw [this]
theorem QnC {a : Nat} (h : a < 4294967296) : (BitVec.ofInt 32 (a : Int) ^^^ BitVec.ofInt 32 0).toNat = a := by
 have : (BitVec.ofInt 32 (a : Int)).toNat = a := by simp; omega
 rw [Yw, this]
 simp
theorem QxB {P : Prg} {f : Nat} (b : Body P f 10 [.tmp 2] QbB) : QyG P f := by
 intro x hx
 refine Qv rfl rfl b ?_
 by_cases h : x < 0
 ·have a1 : IntKind.u32.wrap x = x + 4294967296 := by rw [Qaa]; omega
  have a2 : Qj true .u32 (x + 4294967296) 1 = some (.int .u32 (2 * x + 4294967296)) := by
   show some (AV.int .u32 (IntKind.u32.wrap ((x + 4294967296) * 2))) = _
   rw [Qaa]; congr 2; omega
  have a3 : Qj false .i32 x 31 = some (.int .i32 (-1)) := by
   show some (AV.int .i32 (x.fdiv 2147483648)) = _
   rw [qF _ (by omega)]; congr 2; omega
  have a4 : IntKind.u32.wrap (-1) = 4294967295 := rfl
  have a5 : (BitVec.ofInt IntKind.u32.bits (2 * x + 4294967296) ^^^ BitVec.ofInt IntKind.u32.bits 4294967295).toNat = (-2 * x - 1).toNat := by
   show (BitVec.ofInt 32 (2 * x + 4294967296) ^^^ BitVec.ofInt 32 4294967295).toNat = (-2 * x - 1).toNat
   have := Qsr (a := (2 * x + 4294967296).toNat) (by omega)
   rw [show (((2 * x + 4294967296).toNat : Nat) : Int) = 2 * x + 4294967296 by omega] at this
   rw [this]; omega
  have a6 : (((BitVec.ofInt IntKind.u32.bits (2 * x + 4294967296) ^^^ BitVec.ofInt IntKind.u32.bits 4294967295).toNat : Nat) : Int) = -2 * x - 1 := by rw [a5]; omega
  simp (disch := omega) only [rq, simprocAttr, QbB, a1, a2, a3, a4, a6, Qj9]
 ·have a2 : Qj true .u32 x 1 = some (.int .u32 (2 * x)) := by
   show some (AV.int .u32 (IntKind.u32.wrap (x * 2))) = _
   rw [Qaa]; congr 2; omega
  have a3 : Qj false .i32 x 31 = some (.int .i32 0) := by
   show some (AV.int .i32 (x.fdiv 2147483648)) = _
   rw [qF _ (by omega)]; congr 2; omega
  have a5 : (BitVec.ofInt IntKind.u32.bits (2 * x) ^^^ BitVec.ofInt IntKind.u32.bits 0).toNat = (2 * x).toNat := by
   show (BitVec.ofInt 32 (2 * x) ^^^ BitVec.ofInt 32 0).toNat = (2 * x).toNat
   have := QnC (a := (2 * x).toNat) (by omega)
   rwa [show (((2 * x).toNat : Nat) : Int) = 2 * x by omega] at this
  have a6 : (((BitVec.ofInt IntKind.u32.bits (2 * x) ^^^ BitVec.ofInt IntKind.u32.bits 0).toNat : Nat) : Int) = 2 * x := by rw [a5]; omega
  simp (disch := omega) only [rq, simprocAttr, QbB, a2, a3, a6, Qj9]
def XZ (n : Int) : Int := if n % 2 = 0 then n / 2 else -(n / 2) - 1
def Qr5 (P : Prg) (f : Nat) : Prop := ∀ n : Int, 0 ≤ n ∧ n < 4294967296 → VC P f [.int .u32 n] (.int .i32 (XZ n))
theorem QCE {a : Nat} (h : a < 4294967296) : (BitVec.ofInt 32 (a : Int) &&& BitVec.ofInt 32 1).toNat = a % 2 := by
 have : (BitVec.ofInt 32 (a : Int)).toNat = a := by simp; omega
 rw [j9, this]
 exact Yg a
theorem QxC {P : Prg} {f : Nat} (b : Body P f 11 [.tmp 2] QbC) : Qr5 P f := by
 intro n hn
 refine Qv rfl rfl b ?_
 have a1 : Qj false .u32 n 1 = some (.int .u32 (n / 2)) := by
  show some (AV.int .u32 (n.fdiv 2)) = _
  rw [qF _ (by omega)]
 have a2 : (((BitVec.ofInt IntKind.u32.bits n &&& BitVec.ofInt IntKind.u32.bits 1).toNat : Nat) : Int) = n % 2 := by
  show (((BitVec.ofInt 32 n &&& BitVec.ofInt 32 1).toNat : Nat) : Int) = n % 2
  have := QCE (a := n.toNat) (by omega)
  rw [show ((n.toNat : Nat) : Int) = n by omega] at this
  rw [this]; omega
 by_cases h : n % 2 = 0
 ·have a3 : (((BitVec.ofInt IntKind.i32.bits (n / 2) ^^^ BitVec.ofInt IntKind.i32.bits 0).toNat : Nat) : Int) = n / 2 := by
   show (((BitVec.ofInt 32 (n / 2) ^^^ BitVec.ofInt 32 0).toNat : Nat) : Int) = n / 2
   have := QnC (a := (n / 2).toNat) (by omega)
   rw [show (((n / 2).toNat : Nat) : Int) = n / 2 by omega] at this
   rw [this]; omega
  simp (disch := omega) only [rq, simprocAttr, QbC, a1, a2, h, a3, XZ]
 ·have h1 : n % 2 = 1 := by omega
  have a3 : (((BitVec.ofInt IntKind.i32.bits (n / 2) ^^^ BitVec.ofInt IntKind.i32.bits (-1)).toNat : Nat) : Int) = 4294967295 - n / 2 := by
   show (((BitVec.ofInt 32 (n / 2) ^^^ BitVec.ofInt 32 (-1)).toNat : Nat) : Int) = 4294967295 - n / 2
   have := Qsr (a := (n / 2).toNat) (by omega)
   rw [show (((n / 2).toNat : Nat) : Int) = n / 2 by omega] at this
   rw [show BitVec.ofInt 32 (-1) = BitVec.ofInt 32 4294967295 by decide, this]; omega
  have a4 : IntKind.i32.wrap (4294967295 - n / 2) = -(n / 2) - 1 := by rw [Jg, QkF]; omega
  simp (disch := omega) only [rq, simprocAttr, QbC, a1, a2, h1, a3, a4, XZ]
theorem Qs6 {K : IntKind} {l : List Int} {i : Nat} (h : i < l.length) (v : Int) : (ks K l).take i ++ [.int K v] ++ (ks K l).drop (i + 1) = ks K (l.set i v) := by
 rw [yz, qh h]
 simp [ks]
theorem Qca {K : IntKind} {l : List Int} {i : Nat} (h : i < l.length) : (ks K l).drop i = .int K (l.getD i 0) :: ks K (l.drop (i + 1)) := by
 rw [Xa h]; simp [qd, qc h]
theorem QCf {α : Type} (l : List α) (x : α) : (l ++ [x])[l.length]? = some x := by simp
theorem QBI {α : Type} (l : List α) (x y : α) : (l ++ [x]).set l.length y = l ++ [y] := by simp
def Qid (t : Nat) (P : Prg) (f : Nat) : Prop := ∀ (l : List Int) (ob : List Ob) (K : AV → List Ob → Prop), 0 < l.length → l.length ≤ 1000000 → K (.own ob.length l.length) (ob ++ [⟨t, 1, l.length, ks .i32 l, 0⟩]) → ACall P f [il l] ob K
theorem Qx5 {P : Prg} {f t0 : Nat} (b : Body P f 8 [.tmp 2] (Zv t0)) : Qid t0 P f := by
 intro l ob K h0 h1 hK
 refine Qb b (by simp) ?_
 have g1 := fun x : Ob => QCf ob x
 have g2 := fun x y : Ob => QBI ob x y
 have n0 : l.length ≠ 0 := by omega
 simp (disch := omega) only [rq, simprocAttr, Zv, il, QpQ, n0, g1, g2, Qxj]
 exact hK
def QjO (L : List Int) (k i : Nat) : List Int := (List.range L.length).map fun j => if k ≤ j ∧ j < k + i then w32 (L.getD (j + 1) 0 - L.getD j 0) else L.getD j 0
def QiT (L : List Int) (k n : Nat) : List Int := if n = 1 then L else (QjO L k (n - 1)).set (k + (n - 1)) (w32 (L.getD (k + (n - 1)) 0 - (w32 (L.getD (k + (n - 1)) 0 - L.getD (k + (n - 2)) 0)).tdiv 2))
theorem X9 {a b : List Int} (h : a.length = b.length) (h2 : ∀ j, j < a.length → a.getD j 0 = b.getD j 0) : a = b := by
 apply yZ h
 intro i h1 h3
 have := h2 i h1
 simpa [qd, qc h1, qc h3] using this
theorem Qct (L : List Int) (k i : Nat) : (QjO L k i).length = L.length := by simp [QjO]
theorem QS {g : Nat → Int} {n j : Nat} (h : j < n) : ((List.range n).map g).getD j 0 = g j := by
 simp [qd, h]
theorem QhS {l : List Int} {i j : Nat} {v : Int} (h : j < l.length) : (l.set i v).getD j 0 = if i = j then v else l.getD j 0 := by
 simp only [qd, qE]
 split
 ·subst_vars; simp [h]
 ·rfl
theorem QC7 (L : List Int) (k : Nat) : QjO L k 0 = L := X9 (Qct _ _ _) fun j hj => by
 rw [Qct] at hj
 rw [QjO, QS hj, qf (by omega)]
theorem Qwr {L : List Int} {k i j : Nat} (h : j < L.length) (h2 : k + i ≤ j) : (QjO L k i).getD j 0 = L.getD j 0 := by
 rw [QjO, QS h, qf (by omega)]
theorem Qzm {L : List Int} {k i : Nat} (h : k + i < L.length) : (QjO L k i).set (k + i) (w32 (L.getD (k + i + 1) 0 - L.getD (k + i) 0)) = QjO L k (i + 1) := X9 (by simp [Qct]) fun j hj => by
 have hj' : j < L.length := by simpa [Qct] using hj
 rw [QhS (by rw [Qct]; exact hj'), QjO, QjO, QS hj', QS hj']
 by_cases e : k + i = j
 ·subst e; rw [qh rfl, qh (by omega)]
 ·rw [qf e]
  by_cases q : k ≤ j ∧ j < k + i
  ·rw [qh q, qh (by omega)]
  ·rw [qf q, qf (by omega)]
def QCJ (P : Prg) (f : Nat) : Prop := ∀ (t : Nat) (L : List Int) (k n : Nat) (K : AV → List Ob → Prop), I32 L → 1 ≤ n → k + n ≤ L.length → L.length ≤ 1000000 →
 K (.tup []) [⟨t, 1, L.length, ks .i32 (QiT L k n), 0⟩] → ACall P f [.view 0 L.length k n] [⟨t, 1, L.length, ks .i32 L, 0⟩] K
theorem Qn2 {x : Int} (h : -2147483648 ≤ x ∧ x ≤ 2147483647) : -2147483648 ≤ x.tdiv 2 ∧ x.tdiv 2 ≤ 2147483647 := by
 by_cases hx : x < 0
 ·rw [(QvU hx 2).1]; omega
 ·rw [qK (by omega)]; omega
theorem QBV {P : Prg} {f : Nat} (b : Body P f 39 [] QgN) : QCJ P f := by
 intro t L k n K hL h1 h2 h3 hK
 refine Qb b (by simp) ?_
 simp (disch := omega) only [rq, simprocAttr, QgN]
 refine Qg (ι := Nat) (fun i => ⟨[(8, .int .i64 i), (7, .int .i64 ((n : Int) - 1)), (2, .int .i64 ((n : Int) - 1)), (0, .view 0 L.length k n)], [⟨t, 1, L.length, ks .i32 (QjO L k i), 0⟩]⟩) (fun i => i ≤ n - 1) (fun i => n - 1 - i) 0 (by rw [QC7]; exact Ql) (by omega) ?_
 intro i hi
 have ls := Qct L k i
 by_cases hlt : i < n - 1
 ·have e1 := Qca (K := .i32) (l := QjO L k i) (i := k + i) (by omega)
  have e2 := Qca (K := .i32) (l := QjO L k i) (i := k + (i + 1)) (by omega)
  have e3 := fun v => Qs6 (K := .i32) (l := QjO L k i) (i := k + i) (by omega) v
  have a1 := Qwr (L := L) (k := k) (i := i) (j := k + i) (by omega) (by omega)
  have a2 := Qwr (L := L) (k := k) (i := i) (j := k + (i + 1)) (by omega) (by omega)
  have a3 := Qzm (L := L) (k := k) (i := i) (by omega)
  rw [show k + i + 1 = k + (i + 1) by omega] at a3
  rw [a1] at e1
  rw [a2] at e2
  simp (disch := omega) only [rq, simprocAttr, e1, e2, e3, Jg, a3, ls]
  exact ⟨i + 1, by omega, by omega, Ql⟩
 ·have e : i = n - 1 := by omega
  subst e
  by_cases hn : n = 1
  ·subst hn
   have e0 : QiT L k 1 = QjO L k (1 - 1) := by simp [QiT, QC7]
   rw [e0] at hK
   simp (disch := omega) only [rq, simprocAttr]
   exact hK
  ·have e1 := Qca (K := .i32) (l := QjO L k (n - 1)) (i := k + (n - 1)) (by omega)
   have e2 := Qca (K := .i32) (l := QjO L k (n - 1)) (i := k + (n - 2)) (by omega)
   have e3 := fun v => Qs6 (K := .i32) (l := QjO L k (n - 1)) (i := k + (n - 1)) (by omega) v
   have a1 := Qwr (L := L) (k := k) (i := n - 1) (j := k + (n - 1)) (by omega) (by omega)
   have a2 : (QjO L k (n - 1)).getD (k + (n - 2)) 0 = w32 (L.getD (k + (n - 1)) 0 - L.getD (k + (n - 2)) 0) := by
    rw [QjO, QS (by omega), qh (by omega), show k + (n - 2) + 1 = k + (n - 1) by omega]
   rw [a1] at e1
   rw [a2] at e2
   have hr := Qn2 (JP (L.getD (k + (n - 1)) 0 - L.getD (k + (n - 2)) 0))
   simp only [QiT, qf hn] at hK
   rw [show k + (n - 2) = k + (n - 1 - 1) by omega] at e2 hK hr
   simp (disch := omega) only [rq, simprocAttr, e1, e2, e3, Jg, ls]
   exact hK
def QdB (c : Int) (n : Nat) : Int := if c < 1 ∨ 6 < c then 2 else if 4000 < n then 4 else if (n : Int) % c ≠ 0 then 2 else 0
def Qh6 (P : Prg) (f : Nat) : Prop := ∀ (c : Int) (l : List Int), VC P f [.int .i64 c, il l] (.int .i64 (QdB c l.length))
theorem Qxb {P : Prg} {f : Nat} (b : Body P f 22 [.tmp 4] Xq) : Qh6 P f := by
 intro c l
 refine Qv (by simp [isDL, isD, Zi]) rfl b ?_
 by_cases h1 : c < 1
 ·simp (disch := omega) only [rq, simprocAttr, Xq, il, QdB]
 by_cases h2 : 6 < c
 ·simp (disch := omega) only [rq, simprocAttr, Xq, il, QdB]
 by_cases h3 : 4000 < l.length
 ·simp (disch := omega) only [rq, simprocAttr, Xq, il, QdB]
 have hm := Qb9 (n := l.length) (c := c) (by omega)
 by_cases h4 : (l.length : Int) % c = 0
 ·simp (disch := omega) only [rq, simprocAttr, Xq, il, QdB, h4]
 ·simp (disch := omega) only [rq, simprocAttr, Xq, il, QdB, h4]
def Qut (c : Nat) (l : List Int) (j : Nat) : Int :=
 if c = 1 then l.getD j 0
 else if j % c + 1 < c then w32 (l.getD (j + 1) 0 - l.getD j 0)
 else w32 (l.getD j 0 - (w32 (l.getD j 0 - l.getD (j - 1) 0)).tdiv 2)
def QnA (c : Nat) (l : List Int) (a : Nat) : List Int := (List.range l.length).map fun j => if j < a then Qut c l j else l.getD j 0
def Z3 (c : Nat) (l : List Int) : List Int := (List.range l.length).map (Qut c l)
theorem QaB (c : Nat) (l : List Int) (a : Nat) : (QnA c l a).length = l.length := by simp [QnA]
theorem QDg (c : Nat) (l : List Int) : QnA c l 0 = l := X9 (QaB _ _ _) fun j hj => by
 rw [QaB] at hj; rw [QnA, QS hj, qf (by omega)]
theorem Qs0 (c : Nat) (l : List Int) : QnA c l l.length = Z3 c l := by
 simp only [QnA, Z3]
 apply yp
 intro j hj
 rw [qh (by simpa using hj)]
theorem QzI {c : Nat} {l : List Int} (h : I32 l) (j : Nat) : -2147483648 ≤ Qut c l j ∧ Qut c l j ≤ 2147483647 := by
 unfold Qut
 split
 ·exact ZG h j
 ·split <;> exact JP _
theorem QtJ {c : Nat} {l : List Int} (h : I32 l) (a : Nat) : I32 (QnA c l a) := by
 intro v hv
 simp only [QnA, qU] at hv
 obtain ⟨j, _, rfl⟩ := hv
 split
 ·exact QzI h j
 ·exact ZG h j
theorem Qlp {c : Nat} {l : List Int} (h : I32 l) : I32 (Z3 c l) := by rw [← Qs0]; exact QtJ h _
theorem QaS (c : Nat) (l : List Int) : (Z3 c l).length = l.length := by simp [Z3]
theorem QBU {c : Nat} {l : List Int} {m : Nat} (hc : 1 ≤ c) (h : c * m + c ≤ l.length) : QiT (QnA c l (c * m)) (c * m) c = QnA c l (c * m + c) := by
 have mod : ∀ j, c * m ≤ j → j < c * m + c → j % c = j - c * m := fun j h1 h2 => by
  rw [show j = c * m + (j - c * m) by omega, Yz]
  rw [qT (by omega)]; omega
 have at' : ∀ j, j < l.length → c * m ≤ j → (QnA c l (c * m)).getD j 0 = l.getD j 0 := fun j h1 h2 => by rw [QnA, QS h1, qf (by omega)]
 by_cases h1 : c = 1
 ·subst h1
  simp only [QiT, qO]
  refine X9 (by simp [QaB]) fun j hj => ?_
  rw [QaB] at hj
  rw [QnA, QnA, QS hj, QS hj]
  by_cases q : j < 1 * m
  ·rw [qh q, qh (by omega)]
  ·rw [qf q]; split
   ·simp [Qut]
   ·rfl
 ·simp only [QiT, qf h1]
  refine X9 (by simp [Qct, QaB]) fun j hj => ?_
  have hj' : j < l.length := by simpa [Qct, QaB] using hj
  rw [QhS (by simpa [Qct, QaB] using hj')]
  rw [QjO, QaB, QS hj']
  conv => rhs; rw [QnA, QS hj']
  by_cases e : c * m + (c - 1) = j
  ·rw [qh e, qh (by omega), at' _ (by omega) (by omega), at' _ (by omega) (by omega)]
   subst e
   have := mod (c * m + (c - 1)) (by omega) (by omega)
   unfold Qut
   rw [qf h1, qf (by rw [this]; omega), show c * m + (c - 1) - 1 = c * m + (c - 2) by omega]
  ·rw [qf e]
   by_cases q : c * m ≤ j ∧ j < c * m + (c - 1)
   ·rw [qh q, qh (by omega), at' _ (by omega) (by omega), at' _ (by omega) (by omega)]
    have := mod j (by omega) (by omega)
    unfold Qut
    rw [qf h1, qh (by rw [this]; omega)]
   ·rw [qf q, QnA, QS hj']
    by_cases r : j < c * m
    ·rw [qh r, qh (by omega)]
    ·rw [qf r, qf (by omega)]
def okM (c : Nat) (l : List Int) : Prop := 1 ≤ c ∧ c ≤ 6 ∧ 0 < l.length ∧ l.length ≤ 4000 ∧ l.length % c = 0 ∧ I32 l
theorem Qou {c : Nat} {l : List Int} (h : okM c l) : QdB c l.length = 0 := by
 obtain ⟨h1, h2, h3, h4, h5, _⟩ := h
 unfold QdB
 rw [qf (by omega), qf (by omega), qf (by rw [← Yv, h5]; simp)]
def Qnk (P : Prg) (f : Nat) : Prop := ∀ (c : Nat) (l : List Int), okM c l → VC P f [.int .i64 c, il l] (.tup [il (Z3 c l), .int .i64 0])
theorem QsZ {c m q : Nat} (h : c * m < c * q) : c * m + c ≤ c * q := by
 have : m < q := jJ h
 have := yt c (show m + 1 ≤ q by omega)
 rw [y9, jp] at this
 exact this
theorem QBW {P : Prg} {f fC fK fM t : Nat} (b : Body P f 32 [.tmp 4, .tmp 5] (QgO fC fK fM)) (hC : Qh6 P fC) (hK : Qid t P fK) (hM : QCJ P fM) : Qnk P f := by
 intro c l hok
 obtain ⟨h1, h2, h3, h4, h5, h6⟩ := id hok
 have hc := Qou hok
 obtain ⟨q, hq⟩ : ∃ q, l.length = c * q := ⟨l.length / c, by have := ji l.length c; omega⟩
 refine Qk 1 (by simp [isDL, isD, Zi]) (by simp [isD, isDL, Zi]) (Qb b (by simp) ?_)
 simp (disch := omega) only [rq, simprocAttr, QgO]
 refine Qa (hC c l) ?_
 have n0 : l.length ≠ 0 := by omega
 simp (disch := omega) only [rq, simprocAttr, hc, n0]
 refine hK l [] _ h3 (by omega) ?_
 simp (disch := omega) only [rq, simprocAttr, n0]
 refine Qg (ι := Nat) (fun m => ⟨[(8, .int .i64 (c * m : Nat)), (7, .own 0 l.length), (0, .int .i64 c)], [⟨t, 1, l.length, ks .i32 (QnA c l (c * m)), 0⟩]⟩) (fun m => m ≤ q) (fun m => q - m) 0 (by rw [Yo, QDg]; exact Ql) (by omega) ?_
 intro m hm
 by_cases hlt : c * m < l.length
 ·have hs := QsZ (c := c) (m := m) (q := q) (by rw [← hq]; exact hlt)
  rw [← hq] at hs
  have hmq : m < q := jJ (a := c) (b := m) (c := q) (by rw [← hq]; exact hlt)
  have e0 : c * m + c - c * m = c := by omega
  have hM' := hM t (QnA c l (c * m)) (c * m) c
  rw [QaB, QBU h1 hs] at hM'
  simp (disch := omega) only [rq, simprocAttr, e0, n0]
  refine hM' _ (QtJ h6 _) h1 hs (by omega) ?_
  simp (disch := omega) only [rq, simprocAttr]
  exact ⟨m + 1, by omega, by omega, by rw [show c * (m + 1) = c * m + c by rw [y9, jp]]; exact Ql⟩
 ·have e : c * m = l.length := by
   have := yt c hm
   omega
  rw [e, Qs0]
  have lm := QaS c l
  simp (disch := omega) only [rq, simprocAttr]
  simp [QO, Qx, frzL, Qy, isDL, isD, il, lm, frzL_T _ (Qq .i32 (Z3 c l))]
theorem Le.drop1 {o : Ob} {xs : List Ob} {fr fr' : List (Nat × AV)} (h : isTL o.cs = true)
  (hfr : ∀ p ∈ fr', p.2 = .any ∨ Qx (fun o => decide (o < 1)) (fun o => decide (1 ≤ o)) (o :: xs) 2 [look fr p.1] = some [p.2]) : Le 0 ⟨fr, o :: xs⟩ ⟨fr', [o]⟩ := by
 refine Le.drop 1 2 (by omega) rfl hfr ?_
 intro i y hy
 match i, hy with
 | 0, hy =>
  simp at hy
  subst hy
  exact ⟨o.cs, by simp, by simp only [Qx]; exact frzL_T _ h⟩
 | i + 1, hy => simp at hy
def Qej (c x : Int) (l : List Int) : Int := if Zz c x ≠ 0 then 2 else if QE x l ≠ 0 then QE x l else if l.length = 0 ∨ (l.length : Int) % c ≠ 0 then 2 else 0
theorem Qm2 {c x : Int} {l : List Int} (h : Zz c x = 2) : Qej c x l = 2 := by simp [Qej, h]
theorem Qm3 {c x : Int} {l : List Int} (h : Zz c x = 0) (h2 : QE x l ≠ 0) : Qej c x l = QE x l := by simp [Qej, h, h2]
theorem Qju {c x : Int} {l : List Int} (h : Zz c x = 0) (h2 : QE x l = 0) (h3 : l.length = 0 ∨ (l.length : Int) % c ≠ 0) : Qej c x l = 2 := by simp only [Qej, h, h2, qh h3]; simp
theorem QBe {c x : Int} {l : List Int} (h : Zz c x = 0) (h2 : QE x l = 0) (h3 : ¬ (l.length = 0 ∨ (l.length : Int) % c ≠ 0)) : Qej c x l = 0 := by simp only [Qej, h, h2, qf h3]; simp
theorem Zd (c x : Int) : Zz c x = 2 ∨ (Zz c x = 0 ∧ Z5 x ≠ 0 ∧ 1 ≤ c ∧ c ≤ 6) := by unfold Zz; split <;> omega
theorem QgF (x : Int) (l : List Int) : QE x l = 2 ∨ QE x l = 4 ∨ QE x l = 16 ∨ (QE x l = 0 ∧ Z5 x ≠ 0 ∧ l.length ≤ 4000) := by
 unfold QE
 by_cases h : Z5 x = 0
 ·simp [h]
 by_cases h2 : 4000 < l.length
 ·simp [h, h2]
 by_cases h3 : l.all (inR x)
 ·simp [h, h2, h3]; omega
 ·simp [h, h2, h3]
theorem QrV {c x : Int} {l : List Int} (hI : I32 l) (h : Qej c x l = 0) : ∃ k : Nat, c = k ∧ okM k l ∧ Z5 x ≠ 0 := by
 rcases Zd c x with h1 | ⟨h1, h2, h3, h4⟩
 ·rw [Qm2 h1] at h; omega
 by_cases h5 : QE x l = 0
 ·by_cases h6 : l.length = 0 ∨ (l.length : Int) % c ≠ 0
  ·rw [Qju h1 h5 h6] at h; omega
  ·obtain ⟨k, rfl⟩ : ∃ k : Nat, c = k := ⟨c.toNat, by omega⟩
   refine ⟨k, rfl, ⟨by omega, by omega, by omega, by rcases QgF x l with h | h | h | h <;> omega, by omega, hI⟩, h2⟩
 ·rw [Qm3 h1 h5] at h; exact absurd h h5
def Qln (P : Prg) (f : Nat) : Prop := ∀ (c x : Int) (l : List Int), I32 l → VC P f [shA c x, il l] (.int .i64 (Qej c x l))
theorem Qmk {P : Prg} {f fE fW t0 : Nat} (b : Body P f 30 [.tmp 4] (Qaq fE fW t0)) (hE : QaP P fE) (hW : QaO P fW) : Qln P f := by
 intro c x l hI
 refine Qv (by simp [isDL, isD, Zi, shA]) rfl b ?_
 have hE' := hE c x
 rw [shA] at hE'
 simp (disch := omega) only [rq, simprocAttr, Qaq, shA]
 refine Qa hE' ?_
 rcases Zd c x with h1 | ⟨h1, h2, h3, h4⟩
 ·simp (disch := omega) only [rq, simprocAttr, h1, Qm2 h1]
 simp (disch := omega) only [rq, simprocAttr, h1]
 refine Qa (hW x l hI) ?_
 by_cases h5 : QE x l = 0
 ·have h9 : l.length ≤ 4000 := by rcases QgF x l with h | h | h | h <;> omega
  by_cases h6 : l.length = 0
  ·simp (disch := omega) only [rq, simprocAttr, h5, il, h6, Qju h1 h5 (.inl h6)]
  ·by_cases h7 : (l.length : Int) % c = 0
   ·have hm := Qb9 (n := l.length) (c := c) (by omega)
    simp (disch := omega) only [rq, simprocAttr, h5, il, h6, h7, QBe h1 h5 (by omega)]
   ·have hm := Qb9 (n := l.length) (c := c) (by omega)
    simp (disch := omega) only [rq, simprocAttr, h5, il, h6, h7, Qju h1 h5 (.inr h7)]
 ·simp (disch := omega) only [rq, simprocAttr, h5, Qm3 h1 h5]
theorem QqH {P : Prg} {f fE fW t0 : Nat} (b : Body P f 28 [.tmp 4] (Xz fE fW t0)) (hE : QaP P fE) (hW : QaO P fW) : Qln P f := by
 intro c x l hI
 refine Qv (by simp [isDL, isD, Zi, shA]) rfl b ?_
 have hE' := hE c x
 rw [shA] at hE'
 simp (disch := omega) only [rq, simprocAttr, Xz, shA]
 refine Qa hE' ?_
 rcases Zd c x with h1 | ⟨h1, h2, h3, h4⟩
 ·simp (disch := omega) only [rq, simprocAttr, h1, Qm2 h1]
 simp (disch := omega) only [rq, simprocAttr, h1]
 refine Qa (hW x l hI) ?_
 by_cases h5 : QE x l = 0
 ·have h9 : l.length ≤ 4000 := by rcases QgF x l with h | h | h | h <;> omega
  by_cases h6 : l.length = 0
  ·simp (disch := omega) only [rq, simprocAttr, h5, il, h6, Qju h1 h5 (.inl h6)]
  ·by_cases h7 : (l.length : Int) % c = 0
   ·have hm := Qb9 (n := l.length) (c := c) (by omega)
    simp (disch := omega) only [rq, simprocAttr, h5, il, h6, h7, QBe h1 h5 (by omega)]
   ·have hm := Qb9 (n := l.length) (c := c) (by omega)
    have hp : 0 < (l.length : Int) % c := by omega
    simp (disch := omega) only [rq, simprocAttr, h5, il, h6, h7, Qju h1 h5 (.inr h7)]
 ·simp (disch := omega) only [rq, simprocAttr, h5]
  refine Qa (hW x l hI) ?_
  simp (disch := omega) only [rq, simprocAttr, Qm3 h1 h5]
def six (S : Nat → XD) : List AV := Zg (S 0) ++ (Zg (S 1) ++ (Zg (S 2) ++ (Zg (S 3) ++ (Zg (S 4) ++ Zg (S 5)))))
def okS (S : Nat → XD) : Prop := ∀ k, Qdg (S k).fl
theorem Qgp {S : Nat → XD} (h : okS S) : (six S).length = 210 := by simp [six, ZY (h _)]
theorem QEz {k : Nat} (h : k < 6) : k = 0 ∨ k = 1 ∨ k = 2 ∨ k = 3 ∨ k = 4 ∨ k = 5 := by omega
theorem QAO {S : Nat → XD} (h : okS S) {k : Nat} (hk : k < 6) : ((six S).drop (k * 35)).take 35 = Zg (S k) := by
 have l := fun k => ZY (h k)
 rcases QEz hk with rfl | rfl | rfl | rfl | rfl | rfl <;> simp [six, jA, jq, l, ya, QG]
def upd (S : Nat → XD) (k : Nat) (c : XD) : Nat → XD := fun j => if j = k then c else S j
theorem QlX {S : Nat → XD} (h : okS S) {k : Nat} (hk : k < 6) (c : XD) : (six S).take (k * 35) ++ Zg c ++ (six S).drop (k * 35 + 35) = six (upd S k c) := by
 have l := fun k => ZY (h k)
 rcases QEz hk with rfl | rfl | rfl | rfl | rfl | rfl <;> simp [six, upd, jA, jq, l, ya, QG]
theorem Qxl (c : XD) : isTL (Zg c) = true := by simp [Zg, Qs, isTL, isT, Xn, Qq]
theorem Qs7 (S : Nat → XD) : isTL (six S) = true := by simp [six, Xn, Qxl]
theorem QyA (S : Nat → XD) : (six S).all AV.one = true := by simp only [six, jY, XG, Yx]
def stC (c : Nat) (L : List Int) (z : XD) (k : Nat) : Nat → XD
 | 0 => z
 | n + 1 => Qcf (stC c L z k n) (L.getD (k + n * c) 0)
def QEi (c : Nat) (L : List Int) (z : XD) (j : Nat) : Int := Qj9 (Qf0 (stC c L z (j % c) (j / c)) (L.getD j 0))
def QkU (c : Nat) (L : List Int) (z : XD) (a : Nat) : List Int := (List.range a).map (QEi c L z)
theorem QhV (c : Nat) (L : List Int) (z : XD) (a : Nat) : (QkU c L z a).length = a := by simp [QkU]
theorem QwX (c : Nat) (L : List Int) (z : XD) (a : Nat) : QkU c L z a ++ [QEi c L z a] = QkU c L z (a + 1) := by simp [QkU, Yj]
theorem Qw0 {c : Nat} {L : List Int} {z : XD} (hL : I32 L) (hz : QsW z) (k : Nat) : ∀ n, QsW (stC c L z k n)
 | 0 => hz
 | n + 1 => QqM (Qw0 hL hz k n) (ZG hL _)
def cnt (c k i : Nat) : Nat := if k < i % c then i / c + 1 else i / c
theorem QDB (c k : Nat) : cnt c k 0 = 0 := by simp [cnt]
theorem Qtn (c i : Nat) : cnt c (i % c) i = i / c := by simp [cnt]
theorem Qtm {c k i : Nat} (hk : k < c) : cnt c k (i + 1) = if k = i % c then i / c + 1 else cnt c k i := by
 have hc : 0 < c := by omega
 have hr := qM i hc
 have hi := ji i c
 unfold cnt
 by_cases h : i % c + 1 < c
 ·have e1 : (i + 1) % c = i % c + 1 := by
   rw [show i + 1 = c * (i / c) + (i % c + 1) by omega, Yz, qT h]
  have e2 : (i + 1) / c = i / c := by
   rw [show i + 1 = (i % c + 1) + c * (i / c) by omega, Nat.add_mul_div_left _ _ hc, y7 h, yB]
  rw [e1, e2]
  split <;> split <;> (try split) <;> omega
 ·have e0 : i + 1 = c * (i / c + 1) := by rw [y9]; omega
  have e1 : (i + 1) % c = 0 := by rw [e0, Nat.mul_mod_right]
  have e2 : (i + 1) / c = i / c + 1 := by rw [e0, Nat.mul_div_cancel_left _ hc]
  rw [e1, e2]
  split <;> split <;> (try split) <;> omega
def stA (c : Nat) (L : List Int) (z : XD) (i : Nat) : Nat → XD := fun k => if k < c then stC c L z k (cnt c k i) else z
theorem QEb (c : Nat) (L : List Int) (z : XD) : stA c L z 0 = fun _ => z := by
 funext k; simp [stA, QDB, stC]
theorem QCX {c : Nat} (hc : 1 ≤ c) (L : List Int) (z : XD) (i : Nat) : stA c L z i (i % c) = stC c L z (i % c) (i / c) := by
 rw [stA, qh (qM _ (by omega)), Qtn]
theorem Qze {c : Nat} (hc : 1 ≤ c) (L : List Int) (z : XD) (i : Nat) : upd (stA c L z i) (i % c) (Qcf (stC c L z (i % c) (i / c)) (L.getD i 0)) = stA c L z (i + 1) := by
 funext k
 have hr := qM i (show 0 < c by omega)
 by_cases hk : k < c
 ·simp only [upd, stA, qh hk, Qtm hk]
  by_cases e : k = i % c
  ·rw [qh e, qh e, e, stC]
   rw [show i % c + i / c * c = i by have := ji i c; rw [yd]; omega]
  ·rw [qf e, qf e]
 ·simp only [upd, stA, qf hk]
  rw [qf (by omega)]
theorem QDd {c : Nat} {L : List Int} {z : XD} (hL : I32 L) (hz : QsW z) (i : Nat) : okS (stA c L z i) := fun k => by
 unfold stA; split
 ·exact (Qw0 hL hz k _).2.2.1
 ·exact hz.2.2.1
def QkM (l : List Int) : AV := .list l.length (ks .u32 l)
theorem Qs8 (l : List Int) : isD (QkM l) = true := by simp [QkM, isD, Zc]
theorem Je (os : List Ob) {xs : List Ob} {fr fr' : List (Nat × AV)} (h : ∀ o ∈ os, isTL o.cs = true)
  (hfr : ∀ p ∈ fr', p.2 = .any ∨ Qx (fun o => decide (o < os.length)) (fun o => decide (os.length ≤ o)) (os ++ xs) 2 [look fr p.1] = some [p.2]) : Le 0 ⟨fr, os ++ xs⟩ ⟨fr', os⟩ := by
 refine Le.drop os.length 2 (by omega) rfl hfr ?_
 intro i y hy
 have hi : i < os.length := by
  rcases yM i os.length with h | h
  ·exact h
  ·rw [qY h] at hy; cases hy
 refine ⟨y.cs, by rw [qp hi]; exact hy, ?_⟩
 simp only [Qx]
 exact frzL_T _ (h y (yk hy))
def Qy3 (c x : Int) (t l : List Int) : AV := if Qej c x l ≠ 0 then .tup [.list 0 [], .int .i64 (Qej c x l)] else .tup [QkM (QkU c.toNat (Z3 c.toNat l) (Qau x t) l.length), .int .i64 0]
theorem QB2 (c x : Int) (t l : List Int) : isD (Qy3 c x t l) = true := by unfold Qy3; split <;> simp [isD, isDL, Qs8]
def Qsf (P : Prg) (f : Nat) : Prop := ∀ (c x : Int) (t l : List Int), t.length = 16 → I32 t → I32 l → VC P f [shA c x, .agg (ks .i32 t), il l] (Qy3 c x t l)
theorem QfO : Qdg Qck.fl := ⟨by simp [Qck, QnB, z16], by simp [Qck, QnB, z16], fun x hx => by simp [Qck, QnB, z16] at hx; omega, fun x hx => by simp [Qck, QnB, z16] at hx; omega⟩
def Qw9 (z : XD) (i : Nat) : Nat → XD := fun k => if k < i then z else Qck
theorem QAU (z : XD) : Qw9 z 0 = fun _ => Qck := by funext k; simp [Qw9]
theorem Qow (z : XD) (i : Nat) : upd (Qw9 z i) i z = Qw9 z (i + 1) := by
 funext k
 simp only [upd, Qw9]
 split <;> split <;> (try split) <;> first | rfl | omega
theorem Qw3 {z : XD} (h : Qdg z.fl) (i : Nat) : okS (Qw9 z i) := fun k => by
 unfold Qw9; split
 ·exact h
 ·exact QfO
theorem QC2 (z : XD) : six (Qw9 z 6) = six (fun _ => z) := by simp [six, Qw9]
theorem Qw4 {x : Int} (hx : Z5 x ≠ 0) {t : List Int} (hl : t.length = 16) (hI : I32 t) : QsW (Qau x t) := ⟨hx, rfl, Qw5 hl hI, by simp [Qau]⟩
set_option maxRecDepth 20000 in
theorem Qkc {P : Prg} {f fA fM fN fF fO t0 t1 t2 t3 t4 : Nat} (b : Body P f 83 [.tmp 6, .tmp 7] (JZ fA fM fN fF fO t0 t1 t2 t3 t4)) (hA : Qln P fA) (hM : Qnk P fM) (hN : QtG P fN) (hF : QgU P fF) (hO : QyG P fO) : Qsf P f := by
 intro c x t l hl hI hL
 have hk : (ks .i32 t).length = 16 := by simp [Qh, hl]
 have ot := Jt .i32 t
 have tt : (ks .i32 t).take 16 = ks .i32 t := QG (by omega)
 refine Qk 1 (by simp [isDL, isD, Zi, Zc, shA]) (QB2 _ _ _ _) (Qb b (by simp) ?_)
 have hA' := hA c x l hL
 rw [shA] at hA'
 unfold JZ
 rw [show (z6L : List AV) = six (fun _ => Qck) from rfl, ← QdX]
 simp (disch := omega) only [rq, simprocAttr, shA, hk, ot, tt]
 refine Qa hA' ?_
 by_cases h0 : Qej c x l = 0
 ·obtain ⟨k, rfl, hok, hx⟩ := QrV hL h0
  have hz := Qw4 hx hl hI
  have l0 := Qgp (S := fun _ => Qck) (fun _ => QfO)
  have o0 := QyA (fun _ => Qck)
  simp (disch := omega) only [rq, simprocAttr, h0]
  refine Qa (hM k l hok) ?_
  obtain ⟨h1, h2, h3, h4, h5, h6⟩ := id hok
  have lm := QaS k l
  have hI2 := Qlp (c := k) hL
  have tm : isTL (ks .i32 (Z3 k l)) = true := Qq _ _
  generalize hm : Z3 k l = m at lm hI2 tm
  simp (disch := omega) only [rq, simprocAttr, l0, o0]
  refine Qg (ι := Nat) (fun i => ⟨[(36, .int .i64 i), (11, .ref 2 1 0), (9, il m), (4, .ref 1 1 0), (3, .ref 0 1 0)], [⟨t0, 2, 1, [.int .i64 k, .int .i64 x], 0⟩, ⟨t1, 16, 1, ks .i32 t, 0⟩, ⟨t2, 210, 1, six (Qw9 (Qau x t) i), 0⟩]⟩) (fun i => i ≤ 6) (fun i => 6 - i) 0 (by rw [QAU]; exact Ql) (by omega) ?_
  intro i hi
  have oS := Qw3 hz.2.2.1 i
  have lS := Qgp oS
  by_cases hlt : i < 6
  ·have e1 := QlX oS hlt (Qau x t)
   rw [Qow] at e1
   have lc := ZY hz.2.2.1
   have oc := XG (Qau x t)
   simp (disch := omega) only [rq, simprocAttr, hk, tt]
   refine Qa (hN x t hl hI) ?_
   simp (disch := omega) only [rq, simprocAttr, Qrr, qf hx, lS, lc, oc, e1]
   exact ⟨i + 1, by omega, by omega, Ql⟩
  ·have : i = 6 := by omega
   subst this
   simp (disch := omega) only [rq, simprocAttr, il]
   refine Qg (ι := Nat) (fun i => ⟨[(51, .int .i64 i), (50, .int .i64 m.length), (49, il m), (13, .own 3 i), (11, .ref 2 1 0), (3, .ref 0 1 0)], [⟨t0, 2, 1, [.int .i64 k, .int .i64 x], 0⟩, ⟨t1, 16, 1, ks .i32 t, 0⟩, ⟨t2, 210, 1, six (stA k m (Qau x t) i), 0⟩, ⟨t4, 1, i, ks .u32 (QkU k m (Qau x t) i), 0⟩]⟩) (fun i => i ≤ m.length) (fun i => m.length - i) 0 (by rw [QEb, ← QC2]; exact Le.trans (XU 13 t4 1 (by omega) rfl) (Qm (by simp [Am.look, QkU, il]))) (by omega) ?_
   intro i hi
   have lo := QhV k m (Qau x t) i
   by_cases hlt : i < m.length
   ·have oS := QDd hI2 hz (c := k) i
    have lS := Qgp oS
    have hr := qM i (show 0 < k by omega)
    have e0 := QAO oS (k := i % k) (by omega)
    rw [QCX h1] at e0
    have e1 := QlX oS (k := i % k) (by omega) (Qcf (stC k m (Qau x t) (i % k) (i / k)) (m.getD i 0))
    rw [Qze h1] at e1
    have hok2 := Qw0 (c := k) hI2 hz (i % k) (i / k)
    have hok3 := QqM hok2 (ZG hI2 i)
    have hF' := hF _ (m.getD i 0) hok2 (ZG hI2 i)
    have hO' := hO (Qf0 (stC k m (Qau x t) (i % k) (i / k)) (m.getD i 0)) (JP _)
    have e2 := Qca (K := .i32) (l := m) (i := i) hlt
    have e3 : ks .u32 (QkU k m (Qau x t) i) ++ [.int .u32 (Qj9 (Qf0 (stC k m (Qau x t) (i % k) (i / k)) (m.getD i 0)))] = ks .u32 (QkU k m (Qau x t) (i + 1)) := by rw [Qe6, ← QwX]; rfl
    have lc := ZY hok3.2.2.1
    have oc := XG (Qcf (stC k m (Qau x t) (i % k) (i / k)) (m.getD i 0))
    have tc : (Zg (Qcf (stC k m (Qau x t) (i % k) (i / k)) (m.getD i 0))).take 35 = Zg (Qcf (stC k m (Qau x t) (i % k) (i / k)) (m.getD i 0)) := QG (by omega)
    have lz := ZY QfO
    have oz := XG Qck
    have dz : (Zg Qck).drop 35 = [] := ya (by omega)
    have em : (i : Int) % k = (i % k : Nat) := by omega
    simp (disch := omega) only [rq, simprocAttr, il, e2, em, e0]
    refine Qa hF' ?_
    simp (disch := omega) only [rq, simprocAttr, lz, oz, lc, oc, tc, e1, lS, dz, q8]
    refine Qa hO' ?_
    simp (disch := omega) only [rq, simprocAttr, e3]
    exact ⟨i + 1, by omega, by omega, Je [_, _, _, _] (by simp [Qs7, Qq, isTL, isT]) (by simp [Am.look, Qx, frzL, Qy, frzL_T _ tm])⟩
   ·have : i = m.length := by omega
    subst this
    have e9 : Qy3 k x t l = .tup [QkM (QkU k m (Qau x t) m.length), .int .i64 0] := by simp [Qy3, h0, hm, lm]
    clear hi hlt
    have hq : ¬ (m.length : Int) < m.length := by omega
    simp (disch := omega) only [rq, simprocAttr, e9]
    simp [QO, Qx, frzL, Qy, isDL, isD, QkM, lo, frzL_T _ (Qq .u32 _)]
 ·have e9 : Qy3 c x t l = .tup [.list 0 [], .int .i64 (Qej c x l)] := by simp [Qy3, h0]
  simp (disch := omega) only [rq, simprocAttr, h0, e9]
  simp [QO, Qx, frzL, Qy, isDL, isD]
theorem QsL (K : IntKind) : ∀ n : Nat, Qf [.int K 0] n = ks K (List.replicate n 0)
 | 0 => rfl
 | n + 1 => by rw [Qf, QsL K n]; simp [ks, jR]
def QCV : Sh := .tuple (List.replicate 16 (.int .i32))
theorem Qk5 (K : IntKind) : ∀ (n : Nat) (cs0 : List AV), FitsL (List.replicate n (.int K)) cs0 → ∃ t : List Int, cs0 = ks K t ∧ t.length = n ∧ ∀ x ∈ t, K.min ≤ x ∧ x ≤ K.max
 | 0, cs0, h => by
  simp only [List.replicate, FitsL] at h
  exact ⟨[], by simpa [ks] using h, rfl, by simp⟩
 | n + 1, cs0, h => by
  simp only [List.replicate, FitsL, Qc7] at h
  obtain ⟨_, r, rfl, ⟨x, rfl, h1, h2⟩, h3⟩ := h
  obtain ⟨t, rfl, h4, h5⟩ := Qk5 K n r h3
  exact ⟨x :: t, by simp [ks], by simp [h4], fun y hy => by
   rcases yH.1 hy with rfl | hy
   ·exact ⟨h1, h2⟩
   ·exact h5 y hy⟩
theorem QDr {cs0 : List AV} (h : Qc7 QCV cs0) : ∃ t : List Int, cs0 = ks .i32 t ∧ t.length = 16 ∧ I32 t := by
 simp only [QCV, Qc7] at h
 obtain ⟨t, h1, h2, h3⟩ := Qk5 .i32 16 cs0 h
 exact ⟨t, h1, h2, fun x hx => by have := h3 x hx; simpa [IntKind.min, IntKind.max, IntKind.signed, IntKind.bits] using this⟩
def ud (l : List Int) (b c : Nat) : Nat → Int
 | 0 => if c = 1 then l.getD b 0 else w32 (l.getD (b + (c - 1)) 0 + (l.getD (b + (c - 2)) 0).tdiv 2)
 | d + 1 => w32 (ud l b c d - l.getD (b + (c - 2 - d)) 0)
theorem Qsx {l l' : List Int} {b b' c : Nat} (hc : 1 ≤ c) (h : ∀ j, j < c → l.getD (b + j) 0 = l'.getD (b' + j) 0) : ∀ d, ud l b c d = ud l' b' c d
 | 0 => by
  unfold ud
  have h0 := h 0 (by omega)
  simp only [yi] at h0
  rw [h0, h (c - 1) (by omega), h (c - 2) (by omega)]
 | d + 1 => by
  unfold ud
  rw [Qsx hc h d, h (c - 2 - d) (by omega)]
theorem QCS {l : List Int} (h : I32 l) (b c : Nat) : ∀ d, -2147483648 ≤ ud l b c d ∧ ud l b c d ≤ 2147483647
 | 0 => by
  unfold ud; split
  ·exact ZG h b
  ·exact JP _
 | d + 1 => by unfold ud; exact JP _
def QjN (L : List Int) (k n d : Nat) : List Int := (List.range L.length).map fun j => if k + (n - 1 - d) ≤ j ∧ j < k + n then ud L k n (k + n - 1 - j) else L.getD j 0
theorem Qaz (L : List Int) (k n d : Nat) : (QjN L k n d).length = L.length := by simp [QjN]
theorem QBK {L : List Int} {k n d j : Nat} (h : j < L.length) (h1 : k + (n - 1 - d) ≤ j) (h2 : j < k + n) : (QjN L k n d).getD j 0 = ud L k n (k + n - 1 - j) := by
 rw [QjN, QS h, qh ⟨h1, h2⟩]
theorem Qzn {L : List Int} {k n d j : Nat} (h : j < L.length) (h1 : j < k + (n - 1 - d)) : (QjN L k n d).getD j 0 = L.getD j 0 := by
 rw [QjN, QS h, qf (by omega)]
theorem QC9 {L : List Int} {k n : Nat} (h1 : 1 ≤ n) (h : k + n ≤ L.length) : L.set (k + (n - 1)) (ud L k n 0) = QjN L k n 0 := X9 (by simp [Qaz]) fun j hj => by
 have hj' : j < L.length := by simpa using hj
 rw [QhS hj', QjN, QS hj']
 by_cases e : k + (n - 1) = j
 ·subst e
  rw [qh rfl, qh (by omega), show k + n - 1 - (k + (n - 1)) = 0 by omega]
 ·rw [qf e, qf (by omega)]
theorem QC8 {L : List Int} {k : Nat} : QjN L k 1 0 = L := X9 (by simp [Qaz]) fun j hj => by
 rw [Qaz] at hj
 rw [QjN, QS hj]
 split
 ·rw [show j = k by omega, show k + 1 - 1 - k = 0 by omega]; simp [ud]
 ·rfl
theorem Qws {L : List Int} {k n d : Nat} (hd : d + 1 < n) (h : k + n ≤ L.length) : (QjN L k n d).set (k + (n - 2 - d)) (w32 (ud L k n d - L.getD (k + (n - 2 - d)) 0)) = QjN L k n (d + 1) := X9 (by simp [Qaz]) fun j hj => by
 have hj' : j < L.length := by simpa [Qaz] using hj
 rw [QhS (by rw [Qaz]; exact hj'), QjN, QjN, QS hj', QS hj']
 by_cases e : k + (n - 2 - d) = j
 ·subst e
  rw [qh rfl, qh (by omega), show k + n - 1 - (k + (n - 2 - d)) = d + 1 by omega]
  rfl
 ·rw [qf e]
  by_cases q : k + (n - 1 - d) ≤ j ∧ j < k + n
  ·rw [qh q, qh (by omega)]
  ·rw [qf q, qf (by omega)]
def Qr4 (P : Prg) (f : Nat) : Prop := ∀ (t : Nat) (L : List Int) (k n : Nat) (K : AV → List Ob → Prop), I32 L → 1 ≤ n → k + n ≤ L.length → L.length ≤ 1000000 →
 K (.tup []) [⟨t, 1, L.length, ks .i32 (QjN L k n (n - 1)), 0⟩] → ACall P f [.view 0 L.length k n] [⟨t, 1, L.length, ks .i32 L, 0⟩] K
theorem Qxa {P : Prg} {f : Nat} (b : Body P f 40 [] QbA) : Qr4 P f := by
 intro t L k n K hL h1 h2 h3 hK
 refine Qb b (by simp) ?_
 by_cases hn : n = 1
 ·subst hn
  simp (disch := omega) only [rq, simprocAttr, QbA]
  refine Qg (ι := Nat) (fun d => ⟨[(3, .int .i64 (-1)), (0, .view 0 L.length k 1)], [⟨t, 1, L.length, ks .i32 (QjN L k 1 0), 0⟩]⟩) (fun _ => True) (fun d => d) 0 (by rw [QC8]; exact Ql) trivial ?_
  intro d _
  simp (disch := omega) only [rq, simprocAttr]
  exact hK
 ·have e1 := Qca (K := .i32) (l := L) (i := k + (n - 1)) (by omega)
  have e2 := Qca (K := .i32) (l := L) (i := k + (n - 1 - 1)) (by omega)
  have e3 := fun v => Qs6 (K := .i32) (l := L) (i := k + (n - 1)) (by omega) v
  have hr := Qn2 (ZG hL (k + (n - 2)))
  have a0 := QC9 (L := L) (k := k) h1 h2
  have u0 : ud L k n 0 = w32 (L.getD (k + (n - 1)) 0 + (L.getD (k + (n - 2)) 0).tdiv 2) := by rw [ud, qf hn]
  rw [u0] at a0
  rw [show n - 1 - 1 = n - 2 by omega] at e2
  have en : n - 1 - 1 = n - 2 := by omega
  simp (disch := omega) only [rq, simprocAttr, QbA, e1, en, e2, e3, Jg, a0]
  refine Qg (ι := Nat) (fun d => ⟨[(3, .int .i64 ((n : Int) - 2 - d)), (0, .view 0 L.length k n)], [⟨t, 1, L.length, ks .i32 (QjN L k n d), 0⟩]⟩) (fun d => d ≤ n - 1) (fun d => n - 1 - d) 0 (Qm (by simp [Am.look]; omega)) (by omega) ?_
  intro d hd
  have ls := Qaz L k n d
  by_cases hlt : d < n - 1
  ·have f1 := Qca (K := .i32) (l := QjN L k n d) (i := k + (n - 1 - d)) (by omega)
   have f2 := Qca (K := .i32) (l := QjN L k n d) (i := k + (n - 2 - d)) (by omega)
   have f3 := fun v => Qs6 (K := .i32) (l := QjN L k n d) (i := k + (n - 2 - d)) (by omega) v
   rw [QBK (by omega) (by omega) (by omega), show k + n - 1 - (k + (n - 1 - d)) = d by omega, show n - 1 - d = n - 2 - d + 1 by omega] at f1
   rw [Qzn (by omega) (by omega)] at f2
   have a3 := Qws (L := L) (k := k) (n := n) (d := d) (by omega) h2
   simp (disch := omega) only [rq, simprocAttr, f1, f2, f3, Jg, a3, ls]
   exact ⟨d + 1, by omega, by omega, Qm (by simp [Am.look]; omega)⟩
  ·have e : d = n - 1 := by omega
   subst e
   simp (disch := omega) only [rq, simprocAttr]
   exact hK
def QCN (c : Nat) (l : List Int) (j : Nat) : Int := ud l (c * (j / c)) c (c - 1 - j % c)
def QDW (c : Nat) (l : List Int) (a : Nat) : List Int := (List.range a).map (QCN c l)
def Qqd (c : Nat) (l : List Int) (a : Nat) : List Int := (List.range l.length).map fun j => if j < a then QCN c l j else l.getD j 0
def QeK (c : Nat) (l : List Int) : List Int := QDW c l l.length
theorem Qd0 (c : Nat) (l : List Int) (a : Nat) : (Qqd c l a).length = l.length := by simp [Qqd]
theorem QCR (c : Nat) (l : List Int) : Qqd c l 0 = l := X9 (Qd0 _ _ _) fun j hj => by
 rw [Qd0] at hj; rw [Qqd, QS hj, qf (by omega)]
theorem Qsw (c : Nat) (l : List Int) : Qqd c l l.length = QeK c l := by
 simp only [Qqd, QeK, QDW]
 apply yp
 intro j hj
 rw [qh (by simpa using hj)]
theorem Qy7 {c : Nat} {l : List Int} (h : I32 l) (j : Nat) : -2147483648 ≤ QCN c l j ∧ QCN c l j ≤ 2147483647 := QCS h _ _ _
theorem QtI {c : Nat} {l : List Int} (h : I32 l) (a : Nat) : I32 (Qqd c l a) := by
 intro v hv
 simp only [Qqd, qU] at hv
 obtain ⟨j, _, rfl⟩ := hv
 split
 ·exact Qy7 h j
 ·exact ZG h j
theorem Qvo {c : Nat} {l : List Int} (h : I32 l) : I32 (QeK c l) := by rw [← Qsw]; exact QtI h _
theorem Qd1 (c : Nat) (l : List Int) : (QeK c l).length = l.length := by simp [QeK, QDW]
theorem QuU {c m r : Nat} (h : r < c) : (c * m + r) / c = m ∧ (c * m + r) % c = r := by
 rw [Yz, qT h, Nat.mul_add_div (by omega), y7 h]; simp
theorem QBp {c : Nat} {l : List Int} {m : Nat} (hc : 1 ≤ c) (h : c * m + c ≤ l.length) : QjN (Qqd c l (c * m)) (c * m) c (c - 1) = Qqd c l (c * m + c) := X9 (by simp [Qaz, Qd0]) fun j hj => by
 have hj' : j < l.length := by simpa [Qaz, Qd0] using hj
 rw [QjN, Qd0, QS hj']
 conv => rhs; rw [Qqd, QS hj']
 by_cases q : c * m ≤ j ∧ j < c * m + c
 ·rw [qh (by omega), qh q.2]
  have e := QuU (c := c) (m := m) (r := j - c * m) (by omega)
  rw [show c * m + (j - c * m) = j by omega] at e
  rw [QCN, e.1, e.2, show c * m + c - 1 - j = c - 1 - (j - c * m) by omega]
  refine Qsx hc (fun i hi => ?_) _
  rw [Qqd, QS (by omega), qf (by omega)]
 ·rw [qf (by omega), Qqd, QS hj']
  by_cases r : j < c * m
  ·rw [qh r, qh (by omega)]
  ·rw [qf r, qf (by omega)]
def QjE (P : Prg) (f : Nat) : Prop := ∀ (c : Nat) (l : List Int), okM c l → VC P f [.int .i64 c, il l] (.tup [il (QeK c l), .int .i64 0])
theorem QzH {P : Prg} {f fC fK fM t : Nat} (b : Body P f 32 [.tmp 4, .tmp 5] (Qfi fC fK fM)) (hC : Qh6 P fC) (hK : Qid t P fK) (hM : Qr4 P fM) : QjE P f := by
 intro c l hok
 obtain ⟨h1, h2, h3, h4, h5, h6⟩ := id hok
 have hc := Qou hok
 obtain ⟨q, hq⟩ : ∃ q, l.length = c * q := ⟨l.length / c, by have := ji l.length c; omega⟩
 refine Qk 1 (by simp [isDL, isD, Zi]) (by simp [isD, isDL, Zi]) (Qb b (by simp) ?_)
 simp (disch := omega) only [rq, simprocAttr, Qfi]
 refine Qa (hC c l) ?_
 have n0 : l.length ≠ 0 := by omega
 simp (disch := omega) only [rq, simprocAttr, hc, n0]
 refine hK l [] _ h3 (by omega) ?_
 simp (disch := omega) only [rq, simprocAttr, n0]
 refine Qg (ι := Nat) (fun m => ⟨[(8, .int .i64 (c * m : Nat)), (7, .own 0 l.length), (0, .int .i64 c)], [⟨t, 1, l.length, ks .i32 (Qqd c l (c * m)), 0⟩]⟩) (fun m => m ≤ q) (fun m => q - m) 0 (by rw [Yo, QCR]; exact Ql) (by omega) ?_
 intro m hm
 by_cases hlt : c * m < l.length
 ·have hs := QsZ (c := c) (m := m) (q := q) (by rw [← hq]; exact hlt)
  rw [← hq] at hs
  have hmq : m < q := jJ (a := c) (b := m) (c := q) (by rw [← hq]; exact hlt)
  have e0 : c * m + c - c * m = c := by omega
  have hM' := hM t (Qqd c l (c * m)) (c * m) c
  rw [Qd0, QBp h1 hs] at hM'
  simp (disch := omega) only [rq, simprocAttr, e0, n0]
  refine hM' _ (QtI h6 _) h1 hs (by omega) ?_
  simp (disch := omega) only [rq, simprocAttr]
  exact ⟨m + 1, by omega, by omega, by rw [show c * (m + 1) = c * m + c by rw [y9, jp]]; exact Ql⟩
 ·have e : c * m = l.length := by
   have := yt c hm
   omega
  rw [e, Qsw]
  have lm := Qd1 c l
  simp (disch := omega) only [rq, simprocAttr]
  simp [QO, Qx, frzL, Qy, isDL, isD, il, lm, frzL_T _ (Qq .i32 (QeK c l))]
def stB (c : Nat) (L : List Int) (z : XD) (k : Nat) : Nat → XD
 | 0 => z
 | n + 1 => Qcg (stB c L z k n) (L.getD (k + n * c) 0)
def QEt (c : Nat) (L : List Int) (z : XD) (j : Nat) : Int := Qmz (stB c L z (j % c) (j / c)) (L.getD j 0)
def Qpk (c : Nat) (L : List Int) (z : XD) (a : Nat) : List Int := (List.range a).map (QEt c L z)
theorem QcK (c : Nat) (L : List Int) (z : XD) (a : Nat) : (Qpk c L z a).length = a := by simp [Qpk]
theorem Qyp (c : Nat) (L : List Int) (z : XD) (a : Nat) : Qpk c L z a ++ [QEt c L z a] = Qpk c L z (a + 1) := by simp [Qpk, Yj]
theorem QtK (c : Nat) (L : List Int) (z : XD) (a : Nat) : I32 (Qpk c L z a) := by
 intro v hv
 simp only [Qpk, qU] at hv
 obtain ⟨j, _, rfl⟩ := hv
 exact JP _
theorem Qw1 {c : Nat} {L : List Int} {z : XD} (hz : QsW z) (k : Nat) : ∀ n, QsW (stB c L z k n)
 | 0 => hz
 | n + 1 => QqN (Qw1 hz k n) _
def Qv2 (c : Nat) (L : List Int) (z : XD) (i : Nat) : Nat → XD := fun k => if k < c then stB c L z k (cnt c k i) else z
theorem QCY (c : Nat) (L : List Int) (z : XD) : Qv2 c L z 0 = fun _ => z := by
 funext k; simp [Qv2, QDB, stB]
theorem QBu {c : Nat} (hc : 1 ≤ c) (L : List Int) (z : XD) (i : Nat) : Qv2 c L z i (i % c) = stB c L z (i % c) (i / c) := by
 rw [Qv2, qh (qM _ (by omega)), Qtn]
theorem Qv1 {c : Nat} (hc : 1 ≤ c) (L : List Int) (z : XD) (i : Nat) : upd (Qv2 c L z i) (i % c) (Qcg (stB c L z (i % c) (i / c)) (L.getD i 0)) = Qv2 c L z (i + 1) := by
 funext k
 have hr := qM i (show 0 < c by omega)
 by_cases hk : k < c
 ·simp only [upd, Qv2, qh hk, Qtm hk]
  by_cases e : k = i % c
  ·rw [qh e, qh e, e, stB]
   rw [show i % c + i / c * c = i by have := ji i c; rw [yd]; omega]
  ·rw [qf e, qf e]
 ·simp only [upd, Qv2, qf hk]
  rw [qf (by omega)]
theorem QBR {c : Nat} {L : List Int} {z : XD} (hz : QsW z) (i : Nat) : okS (Qv2 c L z i) := fun k => by
 unfold Qv2; split
 ·exact (Qw1 hz k _).2.2.1
 ·exact hz.2.2.1
def U32 (l : List Int) : Prop := ∀ x ∈ l, 0 ≤ x ∧ x < 4294967296
theorem QAE {l : List Int} (h : U32 l) (j : Nat) : 0 ≤ l.getD j 0 ∧ l.getD j 0 < 4294967296 := by
 by_cases hj : j < l.length
 ·rw [qd, qc hj]
  exact h _ (ye hj)
 ·rw [qd, qY (by omega)]; simp
theorem Qli {v : List Int} {j : Nat} (h : j < v.length) : (v.map XZ).getD j 0 = XZ (v.getD j 0) := by
 simp [qd, qH, qc h]
def unB (c : Nat) (x : Int) (t v : List Int) : List Int := QeK c (Qpk c (v.map XZ) (Qau x t) v.length)
theorem QvQ (c : Nat) (x : Int) (t v : List Int) : (unB c x t v).length = v.length := by simp [unB, Qd1, QcK]
def okV (c : Nat) (v : List Int) : Prop := 1 ≤ c ∧ c ≤ 6 ∧ 0 < v.length ∧ v.length ≤ 4000 ∧ v.length % c = 0 ∧ U32 v
theorem QEj {c : Nat} {v : List Int} (h : okV c v) (x : Int) (t : List Int) : okM c (Qpk c (v.map XZ) (Qau x t) v.length) := by
 obtain ⟨h1, h2, h3, h4, h5, _⟩ := h
 exact ⟨h1, h2, by rw [QcK]; omega, by rw [QcK]; omega, by rw [QcK]; exact h5, QtK _ _ _ _⟩
def Qvs (x : Int) (l : List Int) : AV := if QE x l ≠ 0 then .tup [.list 0 [], .int .i64 (QE x l)] else .tup [il l, .int .i64 0]
theorem Qxn (x : Int) (l : List Int) : isD (Qvs x l) = true := by unfold Qvs; split <;> simp [isD, isDL, Zi]
def QyJ (P : Prg) (f : Nat) : Prop := ∀ (c : Nat) (x : Int) (t v : List Int), t.length = 16 → I32 t → okV c v → Z5 x ≠ 0 → VC P f [shA c x, .agg (ks .i32 t), QkM v] (Qvs x (unB c x t v))
set_option maxRecDepth 20000 in
theorem Qi7 {P : Prg} {f fN fO fB fU fW t0 t1 t2 t3 t4 : Nat} (b : Body P f 84 [.tmp 6, .tmp 7] (JC fN fO fB fU fW t0 t1 t2 t3 t4)) (hN : QtG P fN) (hO : Qr5 P fO) (hB : Qsj P fB) (hU : QjE P fU) (hW : QaO P fW) : QyJ P f := by
 intro k x t v hl hI hok hx
 have hk : (ks .i32 t).length = 16 := by simp [Qh, hl]
 have ot := Jt .i32 t
 have tt : (ks .i32 t).take 16 = ks .i32 t := QG (by omega)
 refine Qk 1 (by simp [isDL, isD, Qs8, Zc, shA]) (Qxn _ _) (ACall.of_cut 5 b (by simp) ?_)
 have hz := Qw4 hx hl hI
 have l0 := Qgp (S := fun _ => Qck) (fun _ => QfO)
 have o0 := QyA (fun _ => Qck)
 obtain ⟨h1, h2, h3, h4, h5, h6⟩ := id hok
 unfold JC
 rw [show (z6L : List AV) = six (fun _ => Qck) from rfl, ← QdX]
 simp (disch := omega) only [rq, simprocAttr, QeR, shA, QkM, hk, ot, tt, l0, o0]
 refine Qg (ι := Nat) (fun i => ⟨[(20, .int .i64 i), (8, .ref 2 1 0), (4, .ref 1 1 0), (3, .ref 0 1 0), (2, QkM v)], [⟨t0, 2, 1, [.int .i64 k, .int .i64 x], 0⟩, ⟨t1, 16, 1, ks .i32 t, 0⟩, ⟨t2, 210, 1, six (Qw9 (Qau x t) i), 0⟩]⟩) (fun i => i ≤ 6) (fun i => 6 - i) 0 (by rw [QAU]; exact Qm (by simp [Am.look, QkM])) (by omega) ?_
 intro i hi
 have oS := Qw3 hz.2.2.1 i
 have lS := Qgp oS
 by_cases hlt : i < 6
 ·have e1 := QlX oS hlt (Qau x t)
  rw [Qow] at e1
  have lc := ZY hz.2.2.1
  have oc := XG (Qau x t)
  simp (disch := omega) only [rq, simprocAttr, hk, tt]
  refine Qa (hN x t hl hI) ?_
  simp (disch := omega) only [rq, simprocAttr, Qrr, qf hx, lS, lc, oc, e1]
  exact ⟨i + 1, by omega, by omega, Ql⟩
 ·have : i = 6 := by omega
  subst this
  simp (disch := omega) only [rq, simprocAttr, QeR, QkM]
  have tv : isTL (ks .u32 v) = true := Qq _ _
  refine Qg (ι := Nat) (fun i => ⟨[(35, .int .i64 i), (34, .int .i64 v.length), (33, QkM v), (10, .own 3 i), (8, .ref 2 1 0), (3, .ref 0 1 0)], [⟨t0, 2, 1, [.int .i64 k, .int .i64 x], 0⟩, ⟨t1, 16, 1, ks .i32 t, 0⟩, ⟨t2, 210, 1, six (Qv2 k (v.map XZ) (Qau x t) i), 0⟩, ⟨t4, 1, i, ks .i32 (Qpk k (v.map XZ) (Qau x t) i), 0⟩]⟩) (fun i => i ≤ v.length) (fun i => v.length - i) 0 (by rw [QCY, ← QC2]; exact Le.trans (XU 10 t4 1 (by omega) rfl) (Qm (by simp [Am.look, Qpk, QkM]))) (by omega) ?_
  intro i hi
  have lo := QcK k (v.map XZ) (Qau x t) i
  have to : isTL (ks .i32 (Qpk k (v.map XZ) (Qau x t) i)) = true := Qq _ _
  by_cases hlt : i < v.length
  ·have oS := QBR hz (c := k) (L := v.map XZ) i
   have lS := Qgp oS
   have hr := qM i (show 0 < k by omega)
   have e0 := QAO oS (k := i % k) (by omega)
   rw [QBu h1] at e0
   have e1 := QlX oS (k := i % k) (by omega) (Qcg (stB k (v.map XZ) (Qau x t) (i % k) (i / k)) ((v.map XZ).getD i 0))
   rw [Qv1 h1] at e1
   have hok2 := Qw1 (c := k) (L := v.map XZ) hz (i % k) (i / k)
   have eb := Qli hlt
   have hO' := hO (v.getD i 0) (QAE h6 i)
   rw [← eb] at hO'
   have hB' := hB _ ((v.map XZ).getD i 0) hok2
   have hok3 := QqN hok2 ((v.map XZ).getD i 0)
   have e2 := Qca (K := .u32) (l := v) (i := i) hlt
   have e3 : ks .i32 (Qpk k (v.map XZ) (Qau x t) i) ++ [.int .i32 (Qmz (stB k (v.map XZ) (Qau x t) (i % k) (i / k)) ((v.map XZ).getD i 0))] = ks .i32 (Qpk k (v.map XZ) (Qau x t) (i + 1)) := by rw [Qe6, ← Qyp]; rfl
   have lc := ZY hok3.2.2.1
   have oc := XG (Qcg (stB k (v.map XZ) (Qau x t) (i % k) (i / k)) ((v.map XZ).getD i 0))
   have tc : (Zg (Qcg (stB k (v.map XZ) (Qau x t) (i % k) (i / k)) ((v.map XZ).getD i 0))).take 35 = Zg (Qcg (stB k (v.map XZ) (Qau x t) (i % k) (i / k)) ((v.map XZ).getD i 0)) := QG (by omega)
   have lz := ZY QfO
   have oz := XG Qck
   have dz : (Zg Qck).drop 35 = [] := ya (by omega)
   have em : (i : Int) % k = (i % k : Nat) := by omega
   simp (disch := omega) only [rq, simprocAttr, QkM, e2, em, e0]
   refine QX hO' ?_
   simp (disch := omega) only [rq, simprocAttr]
   refine QX hB' ?_
   simp (disch := omega) only [rq, simprocAttr, lz, oz, lc, oc, tc, e1, lS, dz, e3, q8, yW, qX]
   exact ⟨i + 1, by omega, by omega, Je [_, _, _, _] (by simp [Qs7, Qq, isTL, isT]) (by simp [Am.look, Qx, frzL, Qy, frzL_T _ tv])⟩
  ·have e : i = v.length := by omega
   subst e
   simp (disch := omega) only [rq, simprocAttr, QeR]
   refine ⟨⟨[(10, il (Qpk k (v.map XZ) (Qau x t) v.length)), (3, .ref 0 1 0)], [⟨t0, 2, 1, [.int .i64 k, .int .i64 x], 0⟩]⟩, Je [_] (by simp [isTL, isT]) (by simp [Am.look, Qx, frzL, Qy, il, lo, frzL_T _ to]), ?_⟩
   simp (disch := omega) only [rq, simprocAttr]
   refine Qa (hU k _ (QEj hok x t)) ?_
   simp (disch := omega) only [rq, simprocAttr]
   refine Qa (hW x (unB k x t v) (Qvo (QtK _ _ _ _))) ?_
   have lu := QvQ k x t v
   by_cases h9 : QE x (unB k x t v) = 0
   ·have e9 : Qvs x (unB k x t v) = .tup [il (unB k x t v), .int .i64 0] := by simp [Qvs, h9]
    simp (disch := omega) only [rq, simprocAttr, h9, e9]
    simp only [unB] at *
    simp [QO, Qx, frzL, Qy, isDL, isD, il, frzL_T _ (Qq .i32 _)]
   ·have e9 : Qvs x (unB k x t v) = .tup [.list 0 [], .int .i64 (QE x (unB k x t v))] := by simp [Qvs, h9]
    simp (disch := omega) only [rq, simprocAttr, h9, e9]
    simp [QO, Qx, frzL, Qy, isDL, isD]
def erA (e : Int) : AV := .tup [.list 0 [], .int .i64 e]
def Qi8 (r n : Int) : AV := if r < 1 ∨ 1048576 < r then .tup [.int .i64 0, .int .i64 2] else if n < 1 ∨ 4000 < n then .tup [.int .i64 0, .int .i64 2] else if 1000 < (n + QC r - 1) / QC r then .tup [.int .i64 0, .int .i64 4] else .tup [.int .i64 ((n + QC r - 1) / QC r), .int .i64 0]
theorem Qxq (r n : Int) : isD (Qi8 r n) = true := by unfold Qi8; split <;> (try split) <;> (try split) <;> rfl
def Qah (P : Prg) (f : Nat) : Prop := ∀ r n : Int, VC P f [.int .i64 r, .int .i64 n] (Qi8 r n)
theorem Ql9 {P : Prg} {f fL : Nat} (b : Body P f 32 [.tmp 4, .tmp 5] (Qan fL)) (hL : Qc6 P fL) : Qah P f := by
 intro r n
 refine Qv rfl (Qxq _ _) b ?_
 have hL' := hL r
 simp (disch := omega) only [rq, simprocAttr, Qan]
 refine Qa hL' ?_
 by_cases h1 : r < 1 ∨ 1048576 < r
 ·have e1 : Qdd r = .tup [.int .i64 0, .int .i64 2] := by rw [Qdd, qh h1]
  have e2 : Qi8 r n = .tup [.int .i64 0, .int .i64 2] := by rw [Qi8, qh h1]
  simp (disch := omega) only [rq, simprocAttr, e1, e2]
 have e1 : Qdd r = .tup [.int .i64 (QC r), .int .i64 0] := by rw [Qdd, qf h1]
 have p1 := Z4 r
 have p2 := Qs4 (r := r) (by omega)
 by_cases h2 : n < 1
 ·have e2 : Qi8 r n = .tup [.int .i64 0, .int .i64 2] := by rw [Qi8, qf h1, qh (.inl h2)]
  simp (disch := omega) only [rq, simprocAttr, e1, e2]
 by_cases h3 : 4000 < n
 ·have e2 : Qi8 r n = .tup [.int .i64 0, .int .i64 2] := by rw [Qi8, qf h1, qh (.inr h3)]
  simp (disch := omega) only [rq, simprocAttr, e1, e2]
 have e2 : Qi8 r n = if 1000 < (n + QC r - 1) / QC r then .tup [.int .i64 0, .int .i64 4] else .tup [.int .i64 ((n + QC r - 1) / QC r), .int .i64 0] := by
  rw [Qi8, qf h1, qf (by omega)]
 generalize QC r = L at *
 have q0 : (n + L - 1).tdiv L = (n + L - 1) / L := qK (by omega)
 have q1 : 0 ≤ (n + L - 1) / L := jM (by omega) (by omega)
 have q2 : (n + L - 1) / L ≤ n + L - 1 := js _ (by omega)
 generalize hq : (n + L - 1) / L = Q at *
 by_cases h4 : 1000 < Q
 ·rw [qh h4] at e2
  simp (disch := omega) only [rq, simprocAttr, e1, q0, hq, e2]
 ·rw [qf h4] at e2
  simp (disch := omega) only [rq, simprocAttr, e1, q0, hq, e2]
def Qag (P : Prg) (f : Nat) : Prop := ∀ (c x r : Int) (l : List Int), VC P f [.agg [.int .i64 c, .int .i64 x, .int .i64 r, il l]] (shA c x)
theorem QuZ {P : Prg} {f t0 t1 : Nat} (b : Body P f 8 [.cell 2 t1] (XN t0 t1)) (ht : Zu P t1 = some (some 2)) : Qag P f := by
 intro c x r l
 refine Qv (by simp [isDL, isD, Zi]) rfl b ?_
 simp (disch := omega) only [rq, simprocAttr, XN, il, Q1, ht, shA]
theorem QqC {P : Prg} {f t0 t1 : Nat} (b : Body P f 8 [.cell 2 t1] (Xw t0 t1)) (ht : Zu P t1 = some (some 2)) : Qag P f := by
 intro c x r l
 refine Qv (by simp [isDL, isD, Zi]) rfl b ?_
 simp (disch := omega) only [rq, simprocAttr, Xw, il, Q1, ht, shA]
def QhB (r n : Int) : Int := if r < 1 ∨ 1048576 < r then 2 else if n < 1 ∨ 4000 < n then 2 else if 1000 < (n + QC r - 1) / QC r then 4 else 0
theorem Qmx (r n : Int) : ∃ k : Int, Qi8 r n = .tup [.int .i64 k, .int .i64 (QhB r n)] := by
 unfold Qi8 QhB
 split
 ·exact ⟨_, rfl⟩
 split
 ·exact ⟨_, rfl⟩
 split
 ·exact ⟨_, rfl⟩
 ·exact ⟨_, rfl⟩
def ZX (c x r n : Int) : Int := if Zz c x ≠ 0 then 8 else if n < 1 then 8 else if 4000 / c < n then 8 else if QhB r n ≠ 0 then 8 else 0
def Qnt (P : Prg) (f : Nat) : Prop := ∀ (c x r n : Int) (l : List Int), VC P f [.agg [.int .i64 c, .int .i64 x, .int .i64 r, il l], .int .i64 n] (.int .i64 (ZX c x r n))
theorem Qx6 {P : Prg} {f fS fE fC t0 : Nat} (b : Body P f 31 [.tmp 4] (QdT fS fE fC t0)) (hS : Qag P fS) (hE : QaP P fE) (hC : Qah P fC) : Qnt P f := by
 intro c x r n l
 refine Qv (by simp [isDL, isD, Zi]) rfl b ?_
 have hS' := hS c x r l
 have hE' := hE c x
 rw [shA] at hS' hE'
 rw [il] at hS'
 obtain ⟨k, ek⟩ := Qmx r n
 have hC' := hC r n
 rw [ek] at hC'
 simp (disch := omega) only [rq, simprocAttr, QdT, il]
 refine Qa hS' ?_
 simp (disch := omega) only [rq, simprocAttr]
 refine Qa hE' ?_
 rcases Zd c x with h1 | ⟨h1, h2, h3, h4⟩
 ·have e9 : ZX c x r n = 8 := by simp [ZX, h1]
  simp (disch := omega) only [rq, simprocAttr, h1, e9]
 have q0 : (4000 : Int).tdiv c = 4000 / c := qK (by omega)
 have q1 : 0 ≤ (4000 : Int) / c := jM (by omega) (by omega)
 have q2 : (4000 : Int) / c ≤ 4000 := js _ (by omega)
 by_cases h5 : n < 1
 ·have e9 : ZX c x r n = 8 := by simp [ZX, h5]
  simp (disch := omega) only [rq, simprocAttr, h1, e9]
 by_cases h6 : 4000 / c < n
 ·have e9 : ZX c x r n = 8 := by simp [ZX, h6]
  simp (disch := omega) only [rq, simprocAttr, h1, e9, q0]
 simp (disch := omega) only [rq, simprocAttr, h1, q0]
 refine Qa hC' ?_
 by_cases h7 : QhB r n = 0
 ·have e9 : ZX c x r n = 0 := by simp [ZX, h1, h5, h6, h7]
  simp (disch := omega) only [rq, simprocAttr, h7, e9]
 ·have e9 : ZX c x r n = 8 := by simp [ZX, h7]
  simp (disch := omega) only [rq, simprocAttr, h7, e9]
def QT (c x r : Int) (l : List Int) : Int := if c < 1 then 8 else if (l.length : Int) % c ≠ 0 then 8 else if ZX c x r (l.length / c) ≠ 0 then 8 else if QE x l ≠ 0 then 8 else 0
theorem Qk3 (c x r n : Int) : ZX c x r n = 8 ∨ ZX c x r n = 0 := by
 unfold ZX; split <;> (try split) <;> (try split) <;> (try split) <;> simp
def Z1 (P : Prg) (f : Nat) : Prop := ∀ (c x r : Int) (l : List Int), I32 l → l.length ≤ 1000000 → VC P f [.agg [.int .i64 c, .int .i64 x, .int .i64 r, il l]] (.int .i64 (QT c x r l))
theorem Qu1 {P : Prg} {f fH fW t0 : Nat} (b : Body P f 33 [.tmp 2] (JE fH fW t0)) (hH : Qnt P fH) (hW : QaO P fW) : Z1 P f := by
 intro c x r l hI hl
 ·refine Qv (by simp [isDL, isD, Zi]) rfl b ?_
  by_cases h1 : c < 1
  ·have e9 : QT c x r l = 8 := by simp [QT, h1]
   simp (disch := omega) only [rq, simprocAttr, JE, il, e9]
  have hm := Qb9 (n := l.length) (c := c) (by omega)
  have hd := Qo2 (n := l.length) (c := c) (by omega)
  have q0 : (l.length : Int).tdiv c = l.length / c := qK (by omega)
  by_cases h2 : (l.length : Int) % c = 0
  ·have hH' := hH c x r (l.length / c) l
   have hW' := hW x l hI
   rw [il] at hH' hW'
   simp (disch := omega) only [rq, simprocAttr, JE, il, h2, q0]
   refine QX hH' ?_
   rcases Qk3 c x r (l.length / c) with h3 | h3
   ·have e9 : QT c x r l = 8 := by simp [QT, h3]
    simp (disch := omega) only [rq, simprocAttr, h3, e9]
   ·simp (disch := omega) only [rq, simprocAttr, h3]
    refine Qa hW' ?_
    by_cases h4 : QE x l = 0
    ·have e9 : QT c x r l = 0 := by simp [QT, h1, h2, h3, h4]
     simp (disch := omega) only [rq, simprocAttr, h4, e9]
    ·have e9 : QT c x r l = 8 := by simp [QT, h4]
     simp (disch := omega) only [rq, simprocAttr, h4, e9]
  ·have e9 : QT c x r l = 8 := by simp [QT, h2]
   simp (disch := omega) only [rq, simprocAttr, JE, il, h2, e9]
def X2 (c x n : Int) : Int := if Zz c x ≠ 0 then 2 else if n < 1 then 2 else if 4000 / c < n then 2 else 0
def Qsk (P : Prg) (f : Nat) : Prop := ∀ c x n : Int, VC P f [shA c x, .int .i64 n] (.int .i64 (X2 c x n))
theorem QqF {P : Prg} {f fE t0 : Nat} (b : Body P f 19 [.tmp 4] (Xy fE t0)) (hE : QaP P fE) : Qsk P f := by
 intro c x n
 refine Qv (by simp [isDL, isD, shA]) rfl b ?_
 have hE' := hE c x
 rw [shA] at hE'
 simp (disch := omega) only [rq, simprocAttr, Xy, shA]
 refine Qa hE' ?_
 rcases Zd c x with h1 | ⟨h1, h2, h3, h4⟩
 ·have e9 : X2 c x n = 2 := by simp [X2, h1]
  simp (disch := omega) only [rq, simprocAttr, h1, e9]
 have q0 : (4000 : Int).tdiv c = 4000 / c := qK (by omega)
 have q1 : 0 ≤ (4000 : Int) / c := jM (by omega) (by omega)
 have q2 : (4000 : Int) / c ≤ 4000 := js _ (by omega)
 by_cases h5 : n < 1
 ·have e9 : X2 c x n = 2 := by simp [X2, h5]
  simp (disch := omega) only [rq, simprocAttr, h1, e9]
 by_cases h6 : 4000 / c < n
 ·have e9 : X2 c x n = 2 := by simp [X2, h6]
  simp (disch := omega) only [rq, simprocAttr, h1, e9, q0]
 ·have e9 : X2 c x n = 0 := by simp [X2, h1, h5, h6]
  simp (disch := omega) only [rq, simprocAttr, h1, e9, q0]
def Q2 (L n : Nat) : List Int := List.replicate ((n - 1) / L) (L : Int) ++ [(n : Int) - ((n - 1) / L * L : Nat)]
theorem ZL (L n : Nat) : (Q2 L n).length = (n - 1) / L + 1 := by simp [Q2]
theorem Qzx (k : Nat) (a : Int) : List.replicate k a ++ [a] = List.replicate (k + 1) a := by rw [List.replicate_succ']
def Qfq (l : List Int) : AV := .list l.length (ks .i64 l)
theorem Qcy (l : List Int) : isD (Qfq l) = true := by simp [Qfq, isD, Zc]
def QpK (r n : Int) : AV := if r < 1 ∨ 1048576 < r ∨ n < 1 ∨ 4000 < n then .tup [.list 0 [], .int .i64 2] else if 1000 < (Q2 (QC r).toNat n.toNat).length then .tup [.list 0 [], .int .i64 4] else .tup [Qfq (Q2 (QC r).toNat n.toNat), .int .i64 0]
theorem QCb (r n : Int) : isD (QpK r n) = true := by unfold QpK; split <;> (try split) <;> simp [isD, isDL, Qcy]
def Qsl (P : Prg) (f : Nat) : Prop := ∀ r n : Int, VC P f [.int .i64 r, .int .i64 n] (QpK r n)
theorem QwH {P : Prg} {f fL t0 : Nat} (b : Body P f 41 [.tmp 4, .tmp 5] (Q8 fL t0)) (hL : Qc6 P fL) : Qsl P f := by
 intro r n
 refine Qk 1 rfl (QCb _ _) (Qb b (by simp) ?_)
 have hL' := hL r
 by_cases h1 : r < 1 ∨ 1048576 < r
 ·have e1 : Qdd r = .tup [.int .i64 0, .int .i64 2] := by rw [Qdd, qh h1]
  have e2 : QpK r n = .tup [.list 0 [], .int .i64 2] := by rw [QpK, qh (by omega)]
  simp (disch := omega) only [rq, simprocAttr, Q8]
  refine Qa hL' ?_
  simp (disch := omega) only [rq, simprocAttr, e1, e2]
  simp [QO, Qx, frzL, Qy, isDL, isD]
 have e1 : Qdd r = .tup [.int .i64 (QC r), .int .i64 0] := by rw [Qdd, qf h1]
 rw [e1] at hL'
 have p1 := Z4 r
 have p2 := Qs4 (r := r) (by omega)
 by_cases h2 : n < 1
 ·have e2 : QpK r n = .tup [.list 0 [], .int .i64 2] := by rw [QpK, qh (by omega)]
  simp (disch := omega) only [rq, simprocAttr, Q8]
  refine Qa hL' ?_
  simp (disch := omega) only [rq, simprocAttr, e2]
  simp [QO, Qx, frzL, Qy, isDL, isD]
 by_cases h3 : 4000 < n
 ·have e2 : QpK r n = .tup [.list 0 [], .int .i64 2] := by rw [QpK, qh (by omega)]
  simp (disch := omega) only [rq, simprocAttr, Q8]
  refine Qa hL' ?_
  simp (disch := omega) only [rq, simprocAttr, e2]
  simp [QO, Qx, frzL, Qy, isDL, isD]
 have e2 : QpK r n = if 1000 < (Q2 (QC r).toNat n.toNat).length then .tup [.list 0 [], .int .i64 4] else .tup [Qfq (Q2 (QC r).toNat n.toNat), .int .i64 0] := by rw [QpK, qf (by omega)]
 generalize QC r = Li at *
 obtain ⟨L, rfl⟩ : ∃ L : Nat, Li = L := ⟨Li.toNat, by omega⟩
 obtain ⟨m, rfl⟩ : ∃ m : Nat, n = m := ⟨n.toNat, by omega⟩
 simp only [qm] at e2
 have g1 : (m - 1) / L * L ≤ m - 1 := jS _ _
 have g2 : m - 1 < ((m - 1) / L + 1) * L := by
  have := Nat.lt_div_mul_add (a := m - 1) (b := L) (by omega)
  rw [ym, yG]; omega
 rw [ym, yG] at g2
 have g3 : (m - 1) / L ≤ m - 1 := jO _ _
 have ll := ZL L m
 have lf : Q2 L m = List.replicate ((m - 1) / L) (L : Int) ++ [(m : Int) - ((m - 1) / L * L : Nat)] := rfl
 generalize hq : (m - 1) / L = q at *
 simp (disch := omega) only [rq, simprocAttr, Q8]
 refine Qa hL' ?_
 simp (disch := omega) only [rq, simprocAttr]
 refine Qg (ι := Option Nat) (fun i => match i with
   | some k => ⟨[(1, .int .i64 ((m : Int) - (k * L : Nat))), (8, .own 0 k), (6, .int .i64 L)], [⟨t0, 1, k, ks .i64 (List.replicate k (L : Int)), 0⟩]⟩
   | none => ⟨[(1, .int .i64 0), (8, .own 0 (q + 1)), (6, .int .i64 L)], [⟨t0, 1, q + 1, ks .i64 (Q2 L m), 0⟩]⟩)
  (fun i => match i with | some k => k ≤ q | none => True) (fun i => match i with | some k => q - k + 1 | none => 0) (some 0)
  (by simp only [Yn]; exact Le.trans (XU 8 t0 1 (by omega) rfl) (Ql)) (by simp) ?_
 intro i hi
 cases i with
 | some k =>
  simp only at hi
  have g4 : k * L ≤ q * L := qA L hi
  have lr : (List.replicate k (L : Int)).length = k := by simp
  by_cases hk : k < q
  ·have g5 : (k + 1) * L ≤ q * L := qA L (by omega)
   rw [ym, yG] at g5
   simp (disch := omega) only [rq, simprocAttr, Qe6, Qzx, lr]
   refine ⟨some (k + 1), by simp only; omega, by simp only; omega, ?_⟩
   exact Le.drop1 (Qq _ _) (by simp [Am.look, Qx, frzL, Qy, ym]; omega)
  ·have : k = q := by omega
   subst this
   simp (disch := omega) only [rq, simprocAttr, Qe6, lr, ← lf]
   refine ⟨none, trivial, by simp only; omega, ?_⟩
   exact Le.drop1 (Qq _ _) (by simp [Am.look, Qx, frzL, Qy])
 | none =>
  by_cases h9 : 1000 < (Q2 L m).length
  ·rw [qh h9] at e2
   simp (disch := omega) only [rq, simprocAttr, e2]
   simp [QO, Qx, frzL, Qy, isDL, isD]
  ·rw [qf h9] at e2
   simp (disch := omega) only [rq, simprocAttr, e2]
   simp [QO, Qx, frzL, Qy, isDL, isD, Qfq, ll, frzL_T _ (Qq .i64 _)]
theorem QCG (r n : Int) : (∃ k : Int, QpK r n = .tup [.list 0 [], .int .i64 k] ∧ Qi8 r n = .tup [.int .i64 0, .int .i64 k]) ∨
  (∃ l : List Int, QpK r n = .tup [Qfq l, .int .i64 0] ∧ Qi8 r n = .tup [.int .i64 l.length, .int .i64 0]) := by
 by_cases h1 : r < 1 ∨ 1048576 < r
 ·exact .inl ⟨2, by rw [QpK, qh (by omega)], by rw [Qi8, qh h1]⟩
 by_cases h2 : n < 1 ∨ 4000 < n
 ·exact .inl ⟨2, by rw [QpK, qh (by omega)], by rw [Qi8, qf h1, qh h2]⟩
 have p1 := Z4 r
 have e : (n + QC r - 1) / QC r = (Q2 (QC r).toNat n.toNat).length := by
  generalize QC r = Li at *
  obtain ⟨L, rfl⟩ : ∃ L : Nat, Li = L := ⟨Li.toNat, by omega⟩
  obtain ⟨m, rfl⟩ : ∃ m : Nat, n = m := ⟨n.toNat, by omega⟩
  rw [qm, qm, ZL]
  have : (m : Int) + L - 1 = ((m - 1 + L : Nat) : Int) := by omega
  rw [this, ← yC, jN _ (by omega)]
 by_cases h3 : 1000 < (Q2 (QC r).toNat n.toNat).length
 ·exact .inl ⟨4, by rw [QpK, qf (by omega), qh h3], by rw [Qi8, qf h1, qf h2, e, qh (by omega)]⟩
 ·exact .inr ⟨_, by rw [QpK, qf (by omega), qf h3], by rw [Qi8, qf h1, qf h2, e, qf (by omega)]⟩
theorem QqE {P : Prg} {f fA : Nat} (b : Body P f 17 [.tmp 4, .tmp 5] (ZJ fA)) (hA : Qsl P fA) : Qah P f := by
 intro r n
 refine Qv rfl (Qxq _ _) b ?_
 have hA' := hA r n
 rcases QCG r n with ⟨k, e1, e2⟩ | ⟨l, e1, e2⟩
 ·rw [e1] at hA'
  simp (disch := omega) only [rq, simprocAttr, ZJ]
  refine Qa hA' ?_
  simp (disch := omega) only [rq, simprocAttr, e2, yg]
  try simp
 ·rw [e1] at hA'
  simp (disch := omega) only [rq, simprocAttr, ZJ]
  refine Qa hA' ?_
  simp (disch := omega) only [rq, simprocAttr, Qfq, e2]
theorem QgB (c x r n : Int) : ZX c x r n = if X2 c x n = 0 ∧ QhB r n = 0 then 0 else 8 := by
 unfold ZX X2
 by_cases h1 : Zz c x = 0 <;> by_cases h2 : n < 1 <;> by_cases h3 : 4000 / c < n <;> by_cases h4 : QhB r n = 0 <;> simp [h1, h2, h3, h4]
theorem QcE {c x r : Int} {l : List Int} : QT c x r l = if Qej c x l = 0 ∧ ZX c x r (l.length / c) = 0 then 0 else 8 := by
 unfold QT Qej
 by_cases h0 : ZX c x r (l.length / c) = 0
 ·have h0' := h0
  rw [QgB] at h0'
  have ha : X2 c x (l.length / c) = 0 := by
   by_cases h : X2 c x (l.length / c) = 0 ∧ QhB r (l.length / c) = 0
   ·exact h.1
   ·rw [qf h] at h0'; cases h0'
  have hE : Zz c x = 0 := by
   by_cases h : Zz c x = 0
   ·exact h
   ·simp [X2, h] at ha
  have hn : ¬ (l.length : Int) / c < 1 := by
   intro h
   simp [X2, h] at ha
  have hc : ¬ c < 1 := by
   rcases Zd c x with h | h <;> omega
  have hl : l.length ≠ 0 := by
   intro h
   rw [h] at hn
   simp at hn
  by_cases h2 : (l.length : Int) % c = 0 <;> by_cases h3 : QE x l = 0 <;> simp [hE, hc, hl, h0, h2, h3]
 ·simp [h0]
def QjA (P : Prg) (f : Nat) : Prop := ∀ (c x r n : Int) (l : List Int), VC P f [.agg [.int .i64 c, .int .i64 x, .int .i64 r, il l], .int .i64 n] (.bool (decide (ZX c x r n = 0)))
theorem Qum {P : Prg} {f fS fA fC t0 : Nat} (b : Body P f 21 [.tmp 4] (XS fS fA fC t0)) (hS : Qag P fS) (hA : Qsk P fA) (hC : Qah P fC) : QjA P f := by
 intro c x r n l
 refine Qv (by simp [isDL, isD, Zi]) rfl b ?_
 have hS' := hS c x r l
 have hA' := hA c x n
 rw [shA] at hS' hA'
 rw [il] at hS'
 obtain ⟨k, ek⟩ := Qmx r n
 have hC' := hC r n
 rw [ek] at hC'
 simp (disch := omega) only [rq, simprocAttr, XS, il]
 refine Qa hS' ?_
 simp (disch := omega) only [rq, simprocAttr]
 refine Qa hA' ?_
 by_cases h1 : X2 c x n = 0
 ·simp (disch := omega) only [rq, simprocAttr, h1]
  refine Qa hC' ?_
  by_cases h7 : QhB r n = 0
  ·have e9 : ZX c x r n = 0 := by rw [QgB, qh ⟨h1, h7⟩]
   simp (disch := omega) only [rq, simprocAttr, h7, e9]
   try simp
  ·have e9 : ZX c x r n = 8 := by rw [QgB, qf (by simp [h7])]
   simp (disch := omega) only [rq, simprocAttr, e9]
   try simp [h7]
 ·have e9 : ZX c x r n = 8 := by rw [QgB, qf (by simp [h1])]
  simp (disch := omega) only [rq, simprocAttr, h1, e9]
  try simp
theorem QqD {P : Prg} {f fS fA fH t0 : Nat} (b : Body P f 20 [.tmp 2] (Xx fS fA fH t0)) (hS : Qag P fS) (hA : Qln P fA) (hH : QjA P fH) : Z1 P f := by
 intro c x r l hI hl
 refine Qv (by simp [isDL, isD, Zi]) rfl b ?_
 have hS' := hS c x r l
 have hA' := hA c x l hI
 have hH' := hH c x r (l.length / c) l
 rw [shA] at hS' hA'
 rw [il] at hS' hA' hH'
 simp (disch := omega) only [rq, simprocAttr, Xx, il]
 refine QX hS' ?_
 simp (disch := omega) only [rq, simprocAttr]
 refine QX hA' ?_
 by_cases h1 : Qej c x l = 0
 ·have hc : 1 ≤ c := by
   obtain ⟨k, rfl, hk, _⟩ := QrV hI h1
   have := hk.1
   omega
  have hd := Qo2 (n := l.length) hc
  have q0 : (l.length : Int).tdiv c = l.length / c := qK (by omega)
  simp (disch := omega) only [rq, simprocAttr, h1, q0]
  refine QX hH' ?_
  by_cases h2 : ZX c x r (l.length / c) = 0
  ·have e9 : QT c x r l = 0 := by rw [QcE, qh ⟨h1, h2⟩]
   simp (disch := omega) only [rq, simprocAttr, h2, e9, qG, Bool.not_true]
  ·have e9 : QT c x r l = 8 := by rw [QcE, qf (by simp [h2])]
   have e8 : decide (ZX c x r (l.length / c) = 0) = false := by simp [h2]
   simp (disch := omega) only [rq, simprocAttr, e8, e9, Bool.not_false]
 ·have e9 : QT c x r l = 8 := by rw [QcE, qf (by simp [h1])]
  simp (disch := omega) only [rq, simprocAttr, h1, e9]
def clA (c x r : Int) (l : List Int) : AV := .agg [.int .i64 c, .int .i64 x, .int .i64 r, il l]
open Go.RowKit Go.Shelf Go.Proofs
def Xh (tB : Nat) (c : AV) (lr : Int) : Ob := ⟨tB, 3, 1, [c, .int .i64 0, .int .i8 lr], 0⟩
theorem Qdt {P : Prg} {f : Nat} (b : Body P f 33 [.tmp 4, .tmp 5] Qi) {ob : List Ob} {p o n c m tB t5 : Nat} {lr : Int} {cs : List AV} (hp : ob[p]? = some (Xh tB (.ownc o n c) lr)) (ho : ob[o]? = some ⟨t5, 1, n, cs, 0⟩)
  (hpo : p ≠ o) (hm : n + m ≤ c) (hc : c ≤ maxLen) {K : AV → List Ob → Prop}
  (hK : K (.tup [.int .i64 n, .bool true]) ((ob.set o ⟨t5, 1, n + m, cs ++ List.replicate m .any, 0⟩).set p (Xh tB (.ownc o (n + m) c) lr))) : ACall P f [.ref p 1 0, .int .i64 m] ob K := by
 refine Qb b (by simp) ?_
 have hol : o < ob.length := (qa.1 ho).1
 have hpl : p < ob.length := (qa.1 hp).1
 simp only [maxLen] at hc
 simp only [Xh] at hp hK
 have e1 : ∀ x, (ob.set o x)[p]? = some ⟨tB, 3, 1, [.ownc o n c, .int .i64 0, .int .i8 lr], 0⟩ := fun x => by rw [qz (fun h => hpo h.symm)]; exact hp
 have e2 : ((n : Int) + m).toNat = n + m := by omega
 have e3 : n + m - n = m := by omega
 rcases yS m with hm | hm
 ·subst hm
  have e5 : ob.set o ⟨t5, 1, n, cs, 0⟩ = ob := Qd3 ho
  simp only [List.replicate_zero, q8, yi, e5] at hK
  have e6 : ((n : Int) + 0).toNat = n := by omega
  simp (disch := omega) only [rq, simprocAttr, Qi, hp, ho, e1, Qj2, e6, jy]
  exact hK
 ·have e4 : (n + m = n) = False := eq_false (by omega)
  simp (disch := omega) only [rq, simprocAttr, Qi, hp, ho, e1, Qj2, e2, e3, e4, jy]
  exact hK
theorem Qdu {P : Prg} {f : Nat} (b : Body P f 33 [.tmp 4, .tmp 5] Qi) {ob : List Ob} {p o n c m tB t5 : Nat} {lr : Int} {cs : List AV} (hp : ob[p]? = some (Xh tB (.ownc o n c) lr)) (ho : ob[o]? = some ⟨t5, 1, n, cs, 0⟩)
  (hn : n ≤ c) (hm : c < n + m) (hc : c ≤ maxLen) (hm2 : m < 4611686018427387904) {K : AV → List Ob → Prop} (hK : K (.tup [.int .i64 0, .bool false]) ob) : ACall P f [.ref p 1 0, .int .i64 m] ob K := by
 refine Qb b (by simp) ?_
 simp only [maxLen] at hc
 simp only [Xh] at hp
 simp (disch := omega) only [rq, simprocAttr, Qi, hp, ho]
 exact hK
theorem QiA {P : Prg} {f : Nat} (b : Body P f 33 [.tmp 4, .tmp 5] Qi) {ob : List Ob} {p m tB : Nat} {lr : Int} (hp : ob[p]? = some (Xh tB (.emp true) lr)) (hm : 0 < m)
  {K : AV → List Ob → Prop} (hK : K (.tup [.int .i64 0, .bool false]) ob) : ACall P f [.ref p 1 0, .int .i64 m] ob K := by
 refine Qb b (by simp) ?_
 simp only [Xh] at hp
 simp (disch := omega) only [rq, simprocAttr, Qi, hp]
 exact hK
theorem Qry {P : Prg} {f : Nat} (b : Body P f 13 [.tmp 2] Zw) {ob : List Ob} {p tB : Nat} {lr : Int} (hp : ob[p]? = some (Xh tB (.emp true) lr)) {K : AV → List Ob → Prop} (hK : K (.int .i64 0) ob) : ACall P f [.ref p 1 0] ob K := by
 refine Qb b (by simp) ?_
 simp only [Xh] at hp
 simp (disch := omega) only [rq, simprocAttr, Zw, hp]
 exact hK
theorem QAb {P : Prg} {f fL fR fT fG t5 g0 : Nat} (b : Body P f 110 [.tmp 4] (QV fL fR fT fG t5 g0)) (bL : Body P fL 13 [.tmp 2] Zw) (bT : Body P fT 33 [.tmp 4, .tmp 5] Qi)
  {ob : List Ob} {p m tB : Nat} {lr : Int} (hp : ob[p]? = some (Xh tB (.emp true) lr)) (hm : 0 < m) (hm2 : m ≤ 64) {K : AV → List Ob → Prop}
  (hK : K (.int .i64 0) ((ob ++ ([⟨t5, 1, m, Qf [.int .u8 0] m, 0⟩] : List Ob)).set p (Xh tB (.own ob.length m) lr))) : ACall P f [.ref p 1 0, .int .i64 m] ob K := by
 refine Qb b (by simp) ?_
 have hpl : p < ob.length := (qa.1 hp).1
 have hp' := hp
 simp only [Xh] at hp hK
 have e1 : ∀ x : Ob, (ob ++ [x])[p]? = some ⟨tB, 3, 1, [.emp true, .int .i64 0, .int .i8 lr], 0⟩ := fun x => by rw [qp hpl]; exact hp
 simp (disch := omega) only [rq, simprocAttr, QV]
 refine Qry bL hp' ?_
 simp (disch := omega) only [rq, simprocAttr, QV, hp]
 refine QiA bT hp' hm ?_
 by_cases h64 : m = 64
 ·simp (disch := omega) only [rq, simprocAttr, QV, hp, QpQ, e1, qe, jy]
  exact hK
 ·simp (disch := omega) only [rq, simprocAttr, QV, hp, QpQ, e1, qe, jy]
  exact hK
structure QDU (P : Prg) (fT fG fL fR fS : Nat) (t5 g0 : Nat) : Prop where
 T : Body P fT 33 [.tmp 4, .tmp 5] Qi
 G : Body P fG 110 [.tmp 4] (QV fL fR fT fS t5 g0)
 L : Body P fL 13 [.tmp 2] Zw
theorem Body.enters {P : Prg} {f N : Nat} {rl : List ResultVar} {ac : AC} (b : Body P f N rl ac) : Enters P f := by
 obtain ⟨fn, hf, hn, _, _, hc⟩ := b
 obtain ⟨c, hb, _⟩ := qi.1 hc
 exact ⟨fn, hf, hn, by rw [hb]; rfl⟩
set_option maxHeartbeats 1000000 in
theorem Qdh {P : Prg} {ρ : Ren} {f fT fL fR fS g0 : Nat} (L : LaysM.n252 P.prog ρ) (B : QDU P fT (ρ.f 252) fL fR fS (ρ.t 5) g0) (b : Body P f 32 [.tmp 4, .tmp 5] (QH fT (ρ.f 252)))
  {ob : List Ob} {p o n tB : Nat} {lr : Int} {cs : List AV} {s : List UInt8} (hp : ob[p]? = some (Xh tB (.own o n) lr)) (ho : ob[o]? = some ⟨ρ.t 5, 1, n, cs, 0⟩) (hl : cs.length = n) (hpo : p ≠ o) (hn : 0 < n) (hlim : n + s.length ≤ 140737488355328)
  {K : AV → List Ob → Prop} (hK : K (.tup [.int .i64 s.length, .lit .nilIface]) (Zn ob o p ⟨ρ.t 5, 1, n + s.length, cs ++ u8 s, 0⟩ (Xh tB (.own o (n + s.length)) 0))) : ACall P f [.ref p 1 0, .str s] ob K := by
 refine ACall.cap hp rfl ho rfl b.enters fun c hc1 hc2 => ?_
 have hol : o < ob.length := (qa.1 ho).1
 have hpl : p < ob.length := (qa.1 hp).1
 refine ACall.uncap (Qb b (by simp) ?_)
 have e0 : ob.set p { Xh tB (.own o n) lr with cs := .ownc o n c :: [.int .i64 0, .int .i8 lr] } = Zn ob o p ⟨ρ.t 5, 1, n, cs, 0⟩ (Xh tB (.ownc o n c) lr) := by
  conv => lhs; rw [← Qdr ho hp hpo]
  rw [QeJ]
  rfl
 rw [e0]
 simp only [maxLen] at hc2
 have gp : ∀ x y, (Zn ob o p x y)[p]? = some y := fun x y => QeY hpl
 have go : ∀ x y, (Zn ob o p x y)[o]? = some x := fun x y => QeZ hol hpo
 have sp : ∀ x y y', (Zn ob o p x y).set p y' = Zn ob o p x y' := fun x y y' => QeJ
 have so : ∀ x y x', (Zn ob o p x y).set o x' = Zn ob o p x' y := fun x y x' => Qiy hpo
 have ln : ∀ x y, (Zn ob o p x y).length = ob.length := fun x y => Zh
 have m1 : ∀ a : Nat, Nat.min a a = a := fun a => Nat.min_self a
 have tk : (cs ++ List.replicate s.length AV.any).take n = cs := by rw [qZ hl]
 have tk2 : (u8 s).take s.length = u8 s := by rw [qg (by simp [Qr])]
 have tk3 : (cs ++ List.replicate s.length AV.any).drop (n + s.length) = [] := by rw [yf (by simp; omega)]
 have nz : (n + s.length = 0) = False := eq_false (by omega)
 have z1 : n + s.length - n = s.length := by omega
 have z2 : ((n : Int) + s.length - n).toNat = s.length := by omega
 simp (disch := omega) only [rq, simprocAttr, QH, Xh, gp, go, sp, so, ln]
 by_cases hr : n + s.length ≤ c
 ·refine Qdt B.T (gp _ _) (go _ _) hpo hr (by simpa [maxLen] using hc2) ?_
  rw [so, sp]
  simp (disch := omega) only [rq, simprocAttr, Xh, gp, go, sp, so, ln, m1, z1, z2, Qj2, nz, tk, tk2, tk3, hl, Qiz]
  refine .inr ⟨p, _, o, n + s.length, c, _, gp _ _, rfl, ?_⟩
  rw [sp]
  exact hK
 ·refine Qdu B.T (gp _ _) (go _ _) hc1 (by omega) (by simpa [maxLen] using hc2) (by omega) ?_
  simp (disch := omega) only [rq, simprocAttr, Xh, gp, go, sp, so, ln]
  refine ACall.grow_row L B.G.enters (gp _ _) (go _ _) hpo hn (by omega) hlim ?_
  rw [so, sp]
  simp (disch := omega) only [rq, simprocAttr, Xh, gp, go, sp, so, ln, m1, z1, z2, nz, tk, tk2, tk3, hl, Qiz]
  exact .inl hK
set_option maxHeartbeats 1000000 in
theorem Qgj {P : Prg} {ρ : Ren} {f fT fL fR fS g0 : Nat} (L : LaysM.n252 P.prog ρ) (B : QDU P fT (ρ.f 252) fL fR fS (ρ.t 5) g0) (b : Body P f 32 [.tmp 4, .tmp 5] (Q0 fT (ρ.f 252)))
  {ob : List Ob} {p o n tB : Nat} {lr : Int} {cs : List AV} {s : List UInt8} (hp : ob[p]? = some (Xh tB (.own o n) lr)) (ho : ob[o]? = some ⟨ρ.t 5, 1, n, cs, 0⟩) (hl : cs.length = n) (hpo : p ≠ o) (hn : 0 < n) (hlim : n + s.length ≤ 140737488355328)
  {K : AV → List Ob → Prop} (hK : K (.tup [.int .i64 s.length, .lit .nilIface]) (Zn ob o p ⟨ρ.t 5, 1, n + s.length, cs ++ u8 s, 0⟩ (Xh tB (.own o (n + s.length)) 0))) : ACall P f [.ref p 1 0, .list s.length (u8 s)] ob K := by
 refine ACall.cap hp rfl ho rfl b.enters fun c hc1 hc2 => ?_
 have hol : o < ob.length := (qa.1 ho).1
 have hpl : p < ob.length := (qa.1 hp).1
 refine ACall.uncap (Qb b (by simp) ?_)
 have e0 : ob.set p { Xh tB (.own o n) lr with cs := .ownc o n c :: [.int .i64 0, .int .i8 lr] } = Zn ob o p ⟨ρ.t 5, 1, n, cs, 0⟩ (Xh tB (.ownc o n c) lr) := by
  conv => lhs; rw [← Qdr ho hp hpo]
  rw [QeJ]
  rfl
 rw [e0]
 simp only [maxLen] at hc2
 have gp : ∀ x y, (Zn ob o p x y)[p]? = some y := fun x y => QeY hpl
 have go : ∀ x y, (Zn ob o p x y)[o]? = some x := fun x y => QeZ hol hpo
 have sp : ∀ x y y', (Zn ob o p x y).set p y' = Zn ob o p x y' := fun x y y' => QeJ
 have so : ∀ x y x', (Zn ob o p x y).set o x' = Zn ob o p x' y := fun x y x' => Qiy hpo
 have ln : ∀ x y, (Zn ob o p x y).length = ob.length := fun x y => Zh
 have m1 : ∀ a : Nat, Nat.min a a = a := fun a => Nat.min_self a
 have tk : (cs ++ List.replicate s.length AV.any).take n = cs := by rw [qZ hl]
 have tk2 : (u8 s).take s.length = u8 s := by rw [qg (by simp [Qr])]
 have tk3 : (cs ++ List.replicate s.length AV.any).drop (n + s.length) = [] := by rw [yf (by simp; omega)]
 have nz : (n + s.length = 0) = False := eq_false (by omega)
 have z1 : n + s.length - n = s.length := by omega
 have z2 : ((n : Int) + s.length - n).toNat = s.length := by omega
 simp (disch := omega) only [rq, simprocAttr, Q0, Xh, gp, go, sp, so, ln]
 by_cases hr : n + s.length ≤ c
 ·refine Qdt B.T (gp _ _) (go _ _) hpo hr (by simpa [maxLen] using hc2) ?_
  rw [so, sp]
  simp (disch := omega) only [rq, simprocAttr, Xh, gp, go, sp, so, ln, m1, z1, z2, Qj2, nz, tk, tk2, tk3, hl, Qiz]
  refine .inr ⟨p, _, o, n + s.length, c, _, gp _ _, rfl, ?_⟩
  rw [sp]
  exact hK
 ·refine Qdu B.T (gp _ _) (go _ _) hc1 (by omega) (by simpa [maxLen] using hc2) (by omega) ?_
  simp (disch := omega) only [rq, simprocAttr, Xh, gp, go, sp, so, ln]
  refine ACall.grow_row L B.G.enters (gp _ _) (go _ _) hpo hn (by omega) hlim ?_
  rw [so, sp]
  simp (disch := omega) only [rq, simprocAttr, Xh, gp, go, sp, so, ln, m1, z1, z2, nz, tk, tk2, tk3, hl, Qiz]
  exact .inl hK
set_option maxHeartbeats 1000000 in
theorem Qvy {P : Prg} {ρ : Ren} {f fT fL fR fS g0 : Nat} (L : LaysM.n252 P.prog ρ) (B : QDU P fT (ρ.f 252) fL fR fS (ρ.t 5) g0) (b : Body P f 32 [.tmp 4, .tmp 5] (Q0 fT (ρ.f 252)))
  {ob : List Ob} {p o n tB : Nat} {lr : Int} {cs : List AV} {s : List UInt8} (hp : ob[p]? = some (Xh tB (.own o n) lr)) (ho : ob[o]? = some ⟨ρ.t 5, 1, n, cs, 0⟩) (hl : cs.length = n) (hpo : p ≠ o) (hn : 0 < n) {q t : Nat} (hq : ob[q]? = some ⟨t, 1, s.length, u8 s, 0⟩) (hqp : q ≠ p) (hqo : q ≠ o) (hlim : n + s.length ≤ 140737488355328)
  {K : AV → List Ob → Prop} (hK : K (.tup [.int .i64 s.length, .lit .nilIface]) (Zn ob o p ⟨ρ.t 5, 1, n + s.length, cs ++ u8 s, 0⟩ (Xh tB (.own o (n + s.length)) 0))) : ACall P f [.ref p 1 0, .own q s.length] ob K := by
 refine ACall.cap hp rfl ho rfl b.enters fun c hc1 hc2 => ?_
 have hol : o < ob.length := (qa.1 ho).1
 have hpl : p < ob.length := (qa.1 hp).1
 refine ACall.uncap (Qb b (by simp) ?_)
 have e0 : ob.set p { Xh tB (.own o n) lr with cs := .ownc o n c :: [.int .i64 0, .int .i8 lr] } = Zn ob o p ⟨ρ.t 5, 1, n, cs, 0⟩ (Xh tB (.ownc o n c) lr) := by
  conv => lhs; rw [← Qdr ho hp hpo]
  rw [QeJ]
  rfl
 rw [e0]
 simp only [maxLen] at hc2
 have gp : ∀ x y, (Zn ob o p x y)[p]? = some y := fun x y => QeY hpl
 have go : ∀ x y, (Zn ob o p x y)[o]? = some x := fun x y => QeZ hol hpo
 have sp : ∀ x y y', (Zn ob o p x y).set p y' = Zn ob o p x y' := fun x y y' => QeJ
 have so : ∀ x y x', (Zn ob o p x y).set o x' = Zn ob o p x' y := fun x y x' => Qiy hpo
 have ln : ∀ x y, (Zn ob o p x y).length = ob.length := fun x y => Zh
 have gq : ∀ x y, (Zn ob o p x y)[q]? = some ⟨t, 1, s.length, u8 s, 0⟩ := fun x y => by
  unfold Zn
  rw [qz hqp.symm, qz hqo.symm]
  exact hq
 have m1 : ∀ a : Nat, Nat.min a a = a := fun a => Nat.min_self a
 have tk : (cs ++ List.replicate s.length AV.any).take n = cs := by rw [qZ hl]
 have tk2 : (u8 s).take s.length = u8 s := by rw [qg (by simp [Qr])]
 have tk3 : (cs ++ List.replicate s.length AV.any).drop (n + s.length) = [] := by rw [yf (by simp; omega)]
 have nz : (n + s.length = 0) = False := eq_false (by omega)
 have z1 : n + s.length - n = s.length := by omega
 have z2 : ((n : Int) + s.length - n).toNat = s.length := by omega
 simp (disch := omega) only [rq, simprocAttr, gq, Q0, Xh, gp, go, sp, so, ln]
 by_cases hr : n + s.length ≤ c
 ·refine Qdt B.T (gp _ _) (go _ _) hpo hr (by simpa [maxLen] using hc2) ?_
  rw [so, sp]
  simp (disch := omega) only [rq, simprocAttr, gq, Xh, gp, go, sp, so, ln, m1, z1, z2, Qj2, nz, tk, tk2, tk3, hl, Qiz]
  refine .inr ⟨p, _, o, n + s.length, c, _, gp _ _, rfl, ?_⟩
  rw [sp]
  exact hK
 ·refine Qdu B.T (gp _ _) (go _ _) hc1 (by omega) (by simpa [maxLen] using hc2) (by omega) ?_
  simp (disch := omega) only [rq, simprocAttr, gq, Xh, gp, go, sp, so, ln]
  refine ACall.grow_row L B.G.enters (gp _ _) (go _ _) hpo hn (by omega) hlim ?_
  rw [so, sp]
  simp (disch := omega) only [rq, simprocAttr, gq, Xh, gp, go, sp, so, ln, m1, z1, z2, nz, tk, tk2, tk3, hl, Qiz]
  exact .inl hK
theorem Qif {P : Prg} {f fT fG fL fR fS t5 g0 : Nat} (B : QDU P fT fG fL fR fS t5 g0) (b : Body P f 32 [.tmp 4, .tmp 5] (QH fT fG))
  {ob : List Ob} {p tB : Nat} {lr : Int} {s : List UInt8} (hp : ob[p]? = some (Xh tB (.emp true) lr)) (h0 : 0 < s.length) (h64 : s.length ≤ 64)
  {K : AV → List Ob → Prop} (hK : K (.tup [.int .i64 s.length, .lit .nilIface]) ((ob ++ ([⟨t5, 1, s.length, u8 s, 0⟩] : List Ob)).set p (Xh tB (.own ob.length s.length) 0))) : ACall P f [.ref p 1 0, .str s] ob K := by
 refine Qb b (by simp) ?_
 have hpl : p < ob.length := (qa.1 hp).1
 have hpn : p ≠ ob.length := by omega
 simp only [Xh] at hp hK
 have g1 : ∀ x, (ob.set p x)[p]? = some x := fun x => by simp [hpl]
 have s1 : ∀ x y : Ob, (ob.set p x).set p y = ob.set p y := fun x y => Yq _
 have l1 : ∀ x, (ob.set p x).length = ob.length := fun x => jy
 have g2 : ∀ x y : Ob, ((ob.set p x ++ [y]).set p (Xh tB (.own ob.length s.length) 0))[p]? = some (Xh tB (.own ob.length s.length) 0) := fun x y => by rw [jV (by simp; omega)]
 have g3 : ∀ x y : Ob, ((ob.set p x ++ [y]).set p (Xh tB (.own ob.length s.length) 0))[ob.length]? = some y := fun x y => by
  rw [qz hpn, qC (by rw [jy]; exact qo _)]; simp
 have l2 : ∀ x y : Ob, ((ob.set p x ++ [y]).set p (Xh tB (.own ob.length s.length) 0)).length = ob.length + 1 := fun x y => by simp
 have f1 : ∀ x y z : Ob, ((ob.set p x ++ [y]).set p (Xh tB (.own ob.length s.length) 0)).set ob.length z = (ob ++ ([z] : List Ob)).set p (Xh tB (.own ob.length s.length) 0) := fun x y z => by
  apply jb
  intro j
  simp only [qE, ju, jy, qe]
  by_cases h1 : j = p
  ·subst h1; simp [hpn.symm, hpl]
  ·by_cases h2 : j = ob.length
   ·subst h2; simp [hpn]
   ·have h3 : ¬ ob.length = j := fun h => h2 h.symm
    have h4 : ¬ p = j := fun h => h1 h.symm
    simp only [h3, h4, qI]
    by_cases h5 : j < ob.length
    ·simp [h5]
    ·have : j - ob.length ≠ 0 := by omega
     simp [h5, this]
 have m1 : ∀ a : Nat, Nat.min a a = a := fun a => Nat.min_self a
 have tk2 : (u8 s).take s.length = u8 s := by rw [qg (by simp [Qr])]
 have rl : (Qf [AV.int .u8 0] s.length).length = s.length := by rw [Q4]; simp
 have tk3 : (Qf [AV.int .u8 0] s.length).drop s.length = [] := by rw [yf (by omega)]
 have nz : (s.length = 0) = False := eq_false (by omega)
 have z3 : ((s.length : Int) - 0).toNat = s.length := by omega
 simp only [Xh] at g2 g3 l2 f1
 simp (disch := omega) only [rq, simprocAttr, QH, hp, g1, s1, l1]
 refine QiA B.T (g1 _) h0 ?_
 simp (disch := omega) only [rq, simprocAttr, g1, s1, l1]
 refine QAb B.G B.L B.T (g1 _) h0 h64 ?_
 simp (disch := omega) only [rq, simprocAttr, Xh, l1, g2, g3, l2, f1, m1, tk2, tk3, nz, rl, z3, Qiz]
 exact hK
def leB (n : Nat) : Nat → List UInt8
 | 0 => []
 | k + 1 => UInt8.ofNat (n % 256) :: leB (n / 256) k
theorem Qc : ∀ (k n : Nat), (leB n k).length = k
 | 0, _ => rfl
 | k + 1, n => by simp [leB, Qc k]
theorem QqT : ∀ (k n i : Nat) (h : i < k), (leB n k)[i]? = some (UInt8.ofNat (n / 256 ^ i % 256))
 | k + 1, n, 0, _ => by simp [leB]
 | k + 1, n, i + 1, h => by
  simp only [leB, List.getElem?_cons_succ]
  rw [QqT k (n / 256) i (by omega), yT, yx, yd]
theorem QfS {n k i : Nat} (h : i < k) : (leB n k).take (i + 1) = (leB n k).take i ++ [UInt8.ofNat (n / 256 ^ i % 256)] := by
 rw [List.take_add_one, QqT k n i h]
 rfl
theorem QEA {K : IntKind} {n k : Nat} (hk : k ≤ K.bits) : Qj false K (n : Int) (k : Int) = some (.int K ((n / 2 ^ k : Nat) : Int)) := by
 have h3 : ¬ ((k : Int) < 0) := by omega
 have h5 : min k K.bits = k := by omega
 have h6 : (n : Int).fdiv (2 ^ k) = ((n / 2 ^ k : Nat) : Int) := by
  rw [qF _ (Int.pow_nonneg (by decide))]
  simp [yC, Int.natCast_pow]
 simp only [Qj, qf h3, yo, qI, qm, h5, h6]
def QyC (P : Prg) (f : Nat) : Prop := ∀ n w : Nat, 1 ≤ w → w ≤ 8 → VC P f [.int .u64 n, .int .i64 w] (.bool (decide (w = 8) || decide (n / 2 ^ (8 * w) = 0)))
theorem QBY {P : Prg} {f : Nat} (b : Body P f 14 [.tmp 4] Qch) : QyC P f := by
 intro n w h1 h2
 refine Qv rfl rfl b ?_
 by_cases h8 : w = 8
 ·subst h8
  simp (disch := omega) only [rq, simprocAttr, Qch]
 ·have e1 : (decide (w = 8)) = false := by simpa using h8
  have e2 : Qj false .u64 (n : Int) (8 * (w : Int)) = some (.int .u64 ((n / 2 ^ (8 * w) : Nat) : Int)) := by
   have := QEA (K := .u64) (n := n) (k := 8 * w) (by simp [IntKind.bits]; omega)
   rwa [jh] at this
  have e3 : (((n / 2 ^ (8 * w) : Nat) : Int) == 0) = decide (n / 2 ^ (8 * w) = 0) := by rw [Ye]; simp only [beq_iff_eq, qx]; omega
  have e4 : ((w : Int) = 8) = False := eq_false (by omega)
  by_cases h9 : n / 2 ^ (8 * w) = 0
  ·have e5 : (decide (n / 2 ^ (8 * w) = 0)) = true := by simpa using h9
   have e6 : (((n / 2 ^ (8 * w) : Nat) : Int) = 0) = True := eq_true (by omega)
   rw [e5]
   simp (disch := omega) only [rq, simprocAttr, Qch, e1, e2, e4, e6]
  ·have e5 : (decide (n / 2 ^ (8 * w) = 0)) = false := by simpa using h9
   have e6 : (((n / 2 ^ (8 * w) : Nat) : Int) = 0) = False := eq_false (by omega)
   rw [e5]
   simp (disch := omega) only [rq, simprocAttr, Qch, e1, e2, e4, e6]
def X7 (P : Prg) (f : Nat) : Prop := ∀ n w : Nat, 1 ≤ w → w ≤ 8 → n < 256 ^ w → VC P f [.int .u64 n, .int .i64 w] (.tup [bs (leB n w), .int .i64 0])
theorem QAe {t n : Nat} {l : List UInt8} (h : n = l.length) {e : Int} : QO (fun _ => true) [⟨t, 1, n, u8 l, 0⟩] 2 [.tup [.own 0 n, .int .i64 e]] = some [.tup [bs l, .int .i64 e]] := by
 subst h
 simp only [QO, Qx, frzL, Qy, yo, qI, Yi, and_self, qO, frzL_T _ (QF l), yD, bs]
theorem QzP {P : Prg} {f fF t0 : Nat} (b : Body P f 35 [.tmp 4, .tmp 5] (QcX fF t0)) (hF : QyC P fF) : X7 P f := by
 intro n w h1 h2 hn
 refine Qk 1 (by simp [isDL, isD]) (by simp [isD, isDL, QD]) (Qb b (by simp) ?_)
 have hn8 : n < 18446744073709551616 := yF hn (yL (qr (by omega) h2) (by decide))
 simp (disch := omega) only [rq, simprocAttr, QcX]
 refine Qa (hF n w h1 h2) ?_
 have e0 : (decide (w = 8) || decide (n / 2 ^ (8 * w) = 0)) = true := by
  have : n / 2 ^ (8 * w) = 0 := y7 (by rw [Nat.pow_mul]; exact hn)
  simp [this]
 rw [e0]
 have r0 : Qf [.int .u8 0] w = u8 ([] : List UInt8) ++ List.replicate w (.int .u8 0) := by
  have : ∀ k, Qf [AV.int .u8 0] k = List.replicate k (.int .u8 0) := fun k => by
   induction k with
   | zero => rfl
   | succ k ih => simp [Qf, ih, jR]
  rw [this]; rfl
 simp (disch := omega) only [rq, simprocAttr, QcX]
 rw [r0]
 refine Qg (ι := Nat) (fun k => ⟨[(22, .int .i64 k), (21, .int .i64 w), (6, .own 0 w), (0, .int .u64 n)], [⟨t0, 1, w, u8 ((leB n w).take k) ++ List.replicate (w - k) (.int .u8 0), 0⟩]⟩) (fun k => k ≤ w) (fun k => w - k) 0 (Ql) (by omega) ?_
 intro k hk
 by_cases hlt : k < w
 ·have e2 : Qj false .u64 (n : Int) (8 * (k : Int)) = some (.int .u64 ((n / 256 ^ k : Nat) : Int)) := by
   have := QEA (K := .u64) (n := n) (k := 8 * k) (by simp [IntKind.bits]; omega)
   rwa [jh, Nat.pow_mul] at this
  have e3 : IntKind.u8.wrap ((n / 256 ^ k : Nat) : Int) = ((UInt8.ofNat (n / 256 ^ k % 256)).toNat : Int) := by
   simp [IntKind.wrap, IntKind.signed, IntKind.bits]
  have hl : (u8 ((leB n w).take k)).length = k := by simp [Qr, Qc]; omega
  have e4 : (u8 ((leB n w).take k) ++ List.replicate (w - k) (AV.int .u8 0)).take k = u8 ((leB n w).take k) := by rw [qZ hl]
  have e5 : (u8 ((leB n w).take k) ++ List.replicate (w - k) (AV.int .u8 0)).drop (k + 1) = List.replicate (w - (k + 1)) (.int .u8 0) := by
   rw [jA, yf (by omega), hl]
   simp
   omega
  have e6 : u8 ((leB n w).take k) ++ [AV.int .u8 ((UInt8.ofNat (n / 256 ^ k % 256)).toNat : Int)] = u8 ((leB n w).take (k + 1)) := by
   rw [QfS hlt, ← Zb]; rfl
  simp (disch := omega) only [rq, simprocAttr, e2, e3, hl, e4, e5, e6]
  refine ⟨k + 1, by omega, by omega, ?_⟩
  refine Qm ?_
  simp [Am.look]
 ·have ek : k = w := by omega
  subst ek
  have e7 : (leB n k).take k = leB n k := qg (by rw [Qc]; exact qo _)
  have e8 : u8 (leB n k) ++ List.replicate (k - k) (AV.int .u8 0) = u8 (leB n k) := by simp
  simp (disch := omega) only [rq, simprocAttr, e7]
  rw [e8, QAe (Qc k n).symm]
def okL (l : List Ck) : Prop := l.length ≤ 25 ∧ ∀ c ∈ l, c.1.length ≤ 20 ∧ c.2.length ≤ 100200
def szC (c : Ck) : Nat := 8 + c.2.length + c.2.length % 2
def szL (l : List Ck) : Nat := (l.map szC).sum
theorem QsV {l : List Ck} (h : okL l) {k : Nat} (hk : k < l.length) : (l[k]).1.length ≤ 20 ∧ (l[k]).2.length ≤ 100200 := h.2 _ (ye hk)
theorem Qsy {l : List Ck} {k : Nat} (h : k < l.length) : szL (l.take (k + 1)) = szL (l.take k) + szC l[k] := by
 simp only [szL]
 rw [qq h, yr, List.sum_append]
 simp
theorem QvZ {l : List Ck} (h : okL l) : ∀ k, k ≤ l.length → szL (l.take k) ≤ k * 100209
 | 0, _ => by simp [szL]
 | k + 1, hk => by
  have h1 := QvZ h k (by omega)
  have h2 := QsV h (k := k) (by omega)
  rw [Qsy (by omega)]
  simp only [szC]
  omega
theorem QAT {l : List Ck} (h : okL l) : szL l ≤ 2505225 := by
 have := QvZ h l.length (qo _)
 rw [qD] at this
 have := h.1
 omega
theorem Qtv {n : Nat} (h : n < 9223372036854775808) : IntKind.i64.wrap (BitVec.ofInt IntKind.i64.bits (n : Int) &&& BitVec.ofInt IntKind.i64.bits 1).toNat = ((n % 2 : Nat) : Int) := by
 have e1 : (BitVec.ofInt 64 (n : Int)).toNat = n := by
  rw [Yf]
  show ((n : Int) % 18446744073709551616).toNat = n
  omega
 have e2 : (BitVec.ofInt 64 1).toNat = 1 := by decide
 have : (BitVec.ofInt 64 (n : Int) &&& BitVec.ofInt 64 1).toNat = n % 2 := by
  rw [j9, e1, e2, Yg]
 show IntKind.i64.wrap ((BitVec.ofInt 64 (n : Int) &&& BitVec.ofInt 64 1).toNat : Int) = _
 rw [this, wrap_i64] <;> omega
def Qtw (P : Prg) (f a : Nat) : Prop := ∀ l : List Ck, okL l → VC P f [.list l.length (ckL l)] (.int .i64 ((a + szL l : Nat) : Int))
theorem Qcz (l : List Ck) : isDL (ckL l) = true := QoC (QdF l)
theorem Qwy {P : Prg} {f t0 : Nat} (b : Body P f 25 [.tmp 2] (QdR t0)) : Qtw P f 4 := by
 intro l hl
 refine Qv (by simp [isDL, isD, Qcz]) rfl b ?_
 have h25 := hl.1
 simp (disch := omega) only [rq, simprocAttr, QdR]
 refine Qg (ι := Nat) (fun k => ⟨[(8, .int .i64 k), (7, .int .i64 l.length), (6, .list l.length (ckL l)), (3, .int .i64 ((4 + szL (l.take k) : Nat) : Int))], []⟩) (fun k => k ≤ l.length) (fun k => l.length - k) 0 (Qm (by simp [Am.look, szL])) (by omega) ?_
 intro k hk
 have hs := QvZ hl k hk
 by_cases hlt : k < l.length
 ·obtain ⟨o1, o2⟩ := QsV hl hlt
  have e1 := Qeh hlt
  have e2 := Jo l
  have e3 := Qtv (n := (l[k]).2.length) (by omega)
  have e4 := Qsy hlt
  simp only [szC] at e4
  simp (disch := omega) only [rq, simprocAttr, e1, e2, bs, e3]
  refine ⟨k + 1, by omega, by omega, Le.drop 0 1 (by omega) rfl ?_ ?_⟩
  ·have e5 : (4 : Int) + szL (l.take k) + (8 + (l[k]).2.length + ((l[k]).2.length % 2 : Nat)) = ((4 + szL (l.take (k + 1)) : Nat) : Int) := by omega
   simp [Am.look, Qx, frzL, Qy, frzL_T _ (QdF l)]
   omega
  ·intro i y hy; simp at hy
 ·have ek : k = l.length := by omega
  subst ek
  rw [qD]
  simp (disch := omega) only [rq, simprocAttr]
def Qgg (P : Prg) (f : Nat) : Prop := ∀ (l : List Ck) (p : Ck → Bool) (g : Nat) (cs : List AV), isDL cs = true → l.length ≤ 4611686018427387904 →
 (∀ x ∈ l, VC P g ([ckA x] ++ cs) (.bool (p x))) → VC P f [.list l.length (ckL l), .fn (.func g) [] cs] (.int .i64 (Qz6 p l))
theorem QqY {P : Prg} {f : Nat} (b : Body P f 19 [.tmp 4] QQ) : Qgg P f := by
 intro l p g cs h2 hlen hp
 refine Qv (by simp [isDL, isD, h2, Qcz]) rfl b ?_
 simp (disch := omega) only [rq, simprocAttr, QQ]
 refine Qg (ι := Nat) (fun k => ⟨[(8, .int .i64 k), (7, .int .i64 l.length), (1, .fn (.func g) [] cs), (0, .list l.length (ckL l))], []⟩) (fun k => k ≤ l.length ∧ (l.take k).all (fun x => !p x) = true) (fun k => l.length - k) 0 (Ql) ⟨by omega, by simp⟩ ?_
 intro k ⟨hk, hg⟩
 by_cases hlt : k < l.length
 ·have e1 := Qeh hlt
  have e2 := Jo l
  simp (disch := omega) only [rq, simprocAttr, e1, e2]
  refine Qa (hp _ (ye hlt)) ?_
  cases hpk : p l[k] with
  | true => simp (disch := omega) only [rq, simprocAttr, hpk, Qz6, QCh hlt hg hpk]
  | false =>
   simp (disch := omega) only [rq, simprocAttr, hpk]
   exact ⟨k + 1, ⟨by omega, by rw [QrY hlt, hg, hpk]; rfl⟩, by omega, Ql⟩
 ·have e2 : k = l.length := by omega
  subst e2
  rw [qD] at hg
  simp (disch := omega) only [rq, simprocAttr, Qz6, QxM hg]
def QdW (P : Prg) (f : Nat) : Prop := ∀ (l : List Ck) (p : Ck → Bool) (g : Nat) (cs : List AV), isDL cs = true → l.length ≤ 4611686018427387904 →
 (∀ x ∈ l, VC P g ([ckA x] ++ cs) (.bool (p x))) → VC P f [.list l.length (ckL l), .fn (.func g) [] cs] (.bool (l.any p))
theorem Qkm {P : Prg} {f fI : Nat} (b : Body P f 9 [.tmp 4] (QI fI)) (hI : Qgg P fI) : QdW P f := by
 intro l p g cs h2 hlen hp
 refine Qv (by simp [isDL, isD, h2, Qcz]) rfl b ?_
 have hi := hI l p g cs h2 hlen hp
 simp (disch := omega) only [rq, simprocAttr, QI]
 refine Qa hi ?_
 simp (disch := omega) only [rq, simprocAttr, QCc]
def Qns (P : Prg) (f : Nat) : Prop := ∀ c : Ck, c.1.length < 4611686018427387904 → VC P f [ckA c] (.bool (!Xg c.1))
theorem Qqx {P : Prg} {f fN t0 : Nat} (b : Body P f 7 [.tmp 2] (Qbf fN t0)) (hN : Qem P fN) : Qns P f := by
 intro c hc
 refine Qv (by simp [isDL, isD, ckA, QD]) rfl b ?_
 simp (disch := omega) only [rq, simprocAttr, Qbf, ckA, bs]
 refine Qa (hN c.1 hc) ?_
 simp (disch := omega) only [rq, simprocAttr]
def Xd (form : List UInt8) (l : List Ck) : Nat :=
 if 20 < l.length then 4 else if Xg form = false ∨ 100000 < 12 + szL l ∨ l.any (fun c => !Xg c.1) = true then 8 else 0
def Qsh (P : Prg) (f : Nat) : Prop := ∀ (form : List UInt8) (l : List Ck), form.length ≤ 20 → okL l → VC P f [.str form, .list l.length (ckL l)] (.int .i64 (Xd form l))
theorem Quj {P : Prg} {f fN fS fC f1 : Nat} (b : Body P f 21 [.tmp 4] (QaG fN fS fC f1)) (hN : Qem P fN) (hS : Qtw P fS 4) (hC : QdW P fC) (h1 : Qns P f1) : Qsh P f := by
 intro form l hf hl
 refine Qv (by simp [isDL, isD, Qcz]) rfl b ?_
 have h25 := hl.1
 have hsz := QAT hl
 by_cases h20 : 20 < l.length
 ·have e0 : Xd form l = 4 := by simp [Xd, h20]
  rw [e0]
  simp (disch := omega) only [rq, simprocAttr, QaG]
 ·simp (disch := omega) only [rq, simprocAttr, QaG]
  refine Qa (hN form (by omega)) ?_
  cases hn : Xg form with
  | false =>
   have e0 : Xd form l = 8 := by simp [Xd, h20, hn]
   rw [e0]
   simp (disch := omega) only [rq, simprocAttr, hn]
  | true =>
   simp (disch := omega) only [rq, simprocAttr, hn]
   refine Qa (hS l hl) ?_
   by_cases hbig : 100000 < 12 + szL l
   ·have e0 : Xd form l = 8 := by simp [Xd, h20, hbig]
    rw [e0]
    simp (disch := omega) only [rq, simprocAttr]
   ·simp (disch := omega) only [rq, simprocAttr]
    refine Qa (hC l (fun c => !Xg c.1) f1 [] rfl (by omega) (fun x hx => h1 x (by have := (hl.2 x hx).1; omega))) ?_
    cases ha : l.any (fun c => !Xg c.1) with
    | true =>
     have e0 : Xd form l = 8 := by simp only [Xd, ha]; simp [h20]
     rw [e0]
     simp (disch := omega) only [rq, simprocAttr]
    | false =>
     have e0 : Xd form l = 0 := by simp only [Xd, ha, hn]; simp [h20, hbig]
     rw [e0]
     simp (disch := omega) only [rq, simprocAttr]
def Qka (l : List Ck) (id : List UInt8) : Option Nat := l.findIdx? (fun c => c.1 == id)
def QoS : Option Nat → AV
 | none => .tup [.int .i64 0, .int .i64 6]
 | some i => .tup [.int .i64 i, .int .i64 0]
theorem Qz1 (r : Option Nat) : isD (QoS r) = true := by cases r <;> rfl
def Qse (P : Prg) (f : Nat) : Prop := ∀ (c : Ck) (id : List UInt8), VC P f [ckA c, .cell [.str id]] (.bool (c.1 == id))
theorem Qui {P : Prg} {f t0 : Nat} (b : Body P f 8 [.tmp 3] (QbP t0)) : Qse P f := by
 intro c id
 refine Qv (by simp [isDL, isD, ckA, QD]) rfl b ?_
 simp (disch := omega) only [rq, simprocAttr, QbP, ckA, bs, QhP]
def QyH (P : Prg) (f : Nat) : Prop := ∀ (l : List Ck) (id : List UInt8), l.length ≤ 4611686018427387904 → VC P f [.list l.length (ckL l), .str id] (QoS (Qka l id))
theorem Qmi {l : List Ck} {id : List UInt8} {i : Nat} (h : Qka l id = some i) : i < l.length := by
 have := jB.1 h
 exact this.1
theorem QwB {P : Prg} {f f1 fI t0 : Nat} (b : Body P f 13 [.tmp 4, .tmp 5] (QdS f1 fI t0)) (h1 : Qse P f1) (hI : Qgg P fI) : QyH P f := by
 intro l id hl
 refine Qk 1 (by simp [isDL, isD, Qcz]) (Qz1 _) (Qb b (by simp) ?_)
 simp (disch := omega) only [rq, simprocAttr, QdS]
 have hv := hI l (fun c => c.1 == id) f1 [.cell [.str id]] rfl hl (fun x _ => h1 x id)
 refine QgG 1 hv rfl ?_ ?_
 ·simp [QO, Qx, frzL, Qy, frzL_T _ (QdF l), isDL, isD]
 ·cases hf : Qka l id with
  | none =>
   have e1 : Qz6 (fun c : Ck => c.1 == id) l = -1 := by simp only [Qz6]; rw [show List.findIdx? (fun c : Ck => c.1 == id) l = none from hf]
   rw [e1]
   simp (disch := omega) only [rq, simprocAttr]
   simp [QO, Qx, frzL, Qy, QoS]
  | some i =>
   have e1 : Qz6 (fun c : Ck => c.1 == id) l = i := by simp only [Qz6]; rw [show List.findIdx? (fun c : Ck => c.1 == id) l = some i from hf]
   have hi := Qmi hf
   rw [e1]
   simp (disch := omega) only [rq, simprocAttr]
   simp [QO, Qx, frzL, Qy, QoS]
open Go.RowKit Go.Shelf Go.Proofs
def ckB (c : Ck) : List UInt8 := c.1 ++ leB c.2.length 4 ++ c.2 ++ List.replicate (c.2.length % 2) 0
def Jp (form : List UInt8) (l : List Ck) : List UInt8 := Qaj ++ leB (4 + szL l) 4 ++ form ++ l.flatMap ckB
structure QDT (P : Prg) (ρ : Ren) (fT fL fR fS g0 fW fX fB : Nat) : Prop where
 L : LaysM.n252 P.prog ρ
 B : QDU P fT (ρ.f 252) fL fR fS (ρ.t 5) g0
 W : Body P fW 32 [.tmp 4, .tmp 5] (QH fT (ρ.f 252))
 X : Body P fX 32 [.tmp 4, .tmp 5] (Q0 fT (ρ.f 252))
 Y : Body P fB 12 [.tmp 2] XB
section
variable {P : Prg} {ρ : Ren} {fT fL fR fS g0 fW fX fB : Nat}
theorem Qym (A : QDT P ρ fT fL fR fS g0 fW fX fB) {ob : List Ob} {p o n tB t5 : Nat} {lr : Int} {cs : List AV} (hp : ob[p]? = some (Xh tB (.own o n) lr)) (ho : ob[o]? = some ⟨t5, 1, n, cs, 0⟩) (hn : 0 < n) {K : AV → List Ob → Prop} (hK : K (.view o n 0 n) ob) :
  ACall P fB [.ref p 1 0] ob K := by
 refine Qb A.Y (by simp) ?_
 simp only [Xh] at hp
 have nz : (n = 0) = False := eq_false (by omega)
 have z : ((n : Int) - 0).toNat = n := by omega
 simp (disch := omega) only [rq, simprocAttr, XB, hp, ho, nz, z, not_false_eq_true, and_true]
 exact hK
theorem Qz9 {f fLe : Nat} (A : QDT P ρ fT fL fR fS g0 fW fX fB) (b : Body P f 17 [] (ZO fLe fW fX)) (hLe : X7 P fLe)
  {ob : List Ob} {p tB n : Nat} {lr : Int} {s : List UInt8} (hp : ob[p]? = some (Xh tB (.emp true) lr)) (h0 : 0 < s.length) (h64 : s.length ≤ 64) (hn : n < 4294967296)
  {K : AV → List Ob → Prop} (hK : K (.tup []) ((ob ++ ([⟨ρ.t 5, 1, s.length + 4, u8 (s ++ leB n 4), 0⟩] : List Ob)).set p (Xh tB (.own ob.length (s.length + 4)) 0))) : ACall P f [.str s, .int .i64 n, .ref p 1 0] ob K := by
 refine Qb b (by simp) ?_
 have hpl : p < ob.length := (qa.1 hp).1
 simp (disch := omega) only [rq, simprocAttr, ZO]
 refine Qa (hLe n 4 (by omega) (by omega) (by omega)) ?_
 simp (disch := omega) only [rq, simprocAttr, bs]
 refine Qif A.B A.W hp h0 h64 ?_
 simp (disch := omega) only [rq, simprocAttr, Qc]
 have g1 : ((ob ++ ([⟨ρ.t 5, 1, s.length, u8 s, 0⟩] : List Ob)).set p (Xh tB (.own ob.length s.length) 0))[p]? = some (Xh tB (.own ob.length s.length) 0) := by rw [jV (by simp; omega)]
 have g2 : ((ob ++ ([⟨ρ.t 5, 1, s.length, u8 s, 0⟩] : List Ob)).set p (Xh tB (.own ob.length s.length) 0))[ob.length]? = some ⟨ρ.t 5, 1, s.length, u8 s, 0⟩ := by
  rw [qz (by omega), qC (by omega)]; simp
 have hw := Qgj (K := fun r ob' => wpQ P [] (QhY P [] K) ⟨ZQ ([(15, .list 4 (u8 (leB n 4))), (14, .tup [.int .i64 s.length, .lit .nilIface]), (13, .str s), (6, .int .i64 0), (5, .list 4 (u8 (leB n 4))), (12, .int .i64 0), (11, .list 4 (u8 (leB n 4))), (7, .tup [.list 4 (u8 (leB n 4)), .int .i64 0]), (10, .tup [.list 4 (u8 (leB n 4)), .int .i64 0]), (9, .int .u64 n), (8, .int .i64 n), (0, .str s), (1, .int .i64 n), (2, .ref p 1 0)]) (some 16) r, ob'⟩)
  A.L A.B A.X (s := leB n 4) g1 g2 (by rw [Qr]) (by omega) h0 (by rw [Qc]; omega)
 rw [Qc] at hw
 refine hw ?_
 simp (disch := omega) only [rq, simprocAttr]
 have e1 : Zn ((ob ++ ([⟨ρ.t 5, 1, s.length, u8 s, 0⟩] : List Ob)).set p (Xh tB (.own ob.length s.length) 0)) ob.length p ⟨ρ.t 5, 1, s.length + 4, u8 s ++ u8 (leB n 4), 0⟩ (Xh tB (.own ob.length (s.length + 4)) 0) = (ob ++ ([⟨ρ.t 5, 1, s.length + 4, u8 (s ++ leB n 4), 0⟩] : List Ob)).set p (Xh tB (.own ob.length (s.length + 4)) 0) := by
  unfold Zn
  rw [List.set_comm _ _ (by omega : p ≠ ob.length), Yq, Zb]
  congr 1
  rw [List.set_append_right _ _ (by omega)]
  simp
 simp only [Zb] at e1 ⊢
 rw [e1]
 exact hK
theorem Qz8 {f fLe : Nat} (A : QDT P ρ fT fL fR fS g0 fW fX fB) (b : Body P f 17 [] (ZO fLe fW fX)) (hLe : X7 P fLe)
  {ob : List Ob} {p o tB n : Nat} {lr : Int} {s pre : List UInt8} (hp : ob[p]? = some (Xh tB (.own o pre.length) lr)) (ho : ob[o]? = some ⟨ρ.t 5, 1, pre.length, u8 pre, 0⟩) (hpo : p ≠ o) (h0 : 0 < pre.length) (hl : pre.length + s.length ≤ 140737488355320) (hn : n < 4294967296)
  {K : AV → List Ob → Prop} (hK : K (.tup []) (Zn ob o p ⟨ρ.t 5, 1, (pre ++ s ++ leB n 4).length, u8 (pre ++ s ++ leB n 4), 0⟩ (Xh tB (.own o (pre ++ s ++ leB n 4).length) 0))) : ACall P f [.str s, .int .i64 n, .ref p 1 0] ob K := by
 refine Qb b (by simp) ?_
 have hpl : p < ob.length := (qa.1 hp).1
 have hol : o < ob.length := (qa.1 ho).1
 simp (disch := omega) only [rq, simprocAttr, ZO]
 refine Qa (hLe n 4 (by omega) (by omega) (by omega)) ?_
 simp (disch := omega) only [rq, simprocAttr, bs]
 refine Qdh A.L A.B A.W hp ho (by rw [Qr]) hpo h0 (by omega) ?_
 simp (disch := omega) only [rq, simprocAttr, Qc]
 have hw := Qgj (K := fun r ob' => wpQ P [] (QhY P [] K) ⟨ZQ ([(15, .list 4 (u8 (leB n 4))), (14, .tup [.int .i64 s.length, .lit .nilIface]), (13, .str s), (6, .int .i64 0), (5, .list 4 (u8 (leB n 4))), (12, .int .i64 0), (11, .list 4 (u8 (leB n 4))), (7, .tup [.list 4 (u8 (leB n 4)), .int .i64 0]), (10, .tup [.list 4 (u8 (leB n 4)), .int .i64 0]), (9, .int .u64 n), (8, .int .i64 n), (0, .str s), (1, .int .i64 n), (2, .ref p 1 0)]) (some 16) r, ob'⟩)
  (ob := Zn ob o p ⟨ρ.t 5, 1, pre.length + s.length, u8 (pre ++ s), 0⟩ (Xh tB (.own o (pre.length + s.length)) 0)) (cs := u8 (pre ++ s)) (n := pre.length + s.length) A.L A.B A.X (s := leB n 4) (QeY hpl) (QeZ hol hpo) (by rw [Qr, qe]) hpo (by omega) (by rw [Qc]; omega)
 rw [Qc] at hw
 simp only [Zb] at hw ⊢
 refine hw ?_
 simp (disch := omega) only [rq, simprocAttr]
 have e1 : Zn (Zn ob o p ⟨ρ.t 5, 1, pre.length + s.length, u8 (pre ++ s), 0⟩ (Xh tB (.own o (pre.length + s.length)) 0)) o p ⟨ρ.t 5, 1, pre.length + s.length + 4, u8 (pre ++ s) ++ u8 (leB n 4), 0⟩ (Xh tB (.own o (pre.length + s.length + 4)) 0)
   = Zn ob o p ⟨ρ.t 5, 1, (pre ++ s ++ leB n 4).length, u8 (pre ++ s ++ leB n 4), 0⟩ (Xh tB (.own o (pre ++ s ++ leB n 4).length) 0) := by
  rw [show Zn (Zn ob o p ⟨ρ.t 5, 1, pre.length + s.length, u8 (pre ++ s), 0⟩ (Xh tB (.own o (pre.length + s.length)) 0)) o p ⟨ρ.t 5, 1, pre.length + s.length + 4, u8 (pre ++ s) ++ u8 (leB n 4), 0⟩ (Xh tB (.own o (pre.length + s.length + 4)) 0) = ((Zn ob o p ⟨ρ.t 5, 1, pre.length + s.length, u8 (pre ++ s), 0⟩ (Xh tB (.own o (pre.length + s.length)) 0)).set o ⟨ρ.t 5, 1, pre.length + s.length + 4, u8 (pre ++ s) ++ u8 (leB n 4), 0⟩).set p (Xh tB (.own o (pre.length + s.length + 4)) 0) from rfl, Qiy hpo, QeJ, Zb]
  simp only [qe, Qc]
 simp only [Zb] at e1
 rw [e1]
 exact hK
end
open Go.RowKit Go.Shelf Go.Proofs
theorem QgE (c : Ck) : (ckB c).length = c.1.length + c.2.length + c.2.length % 2 + 4 := by
 simp only [ckB, qe, Qc, yn]; omega
theorem QeP {l : List Ck} {k : Nat} (h : k < l.length) : (l.take (k + 1)).flatMap ckB = (l.take k).flatMap ckB ++ ckB l[k] := by
 rw [qq h, List.flatMap_append]; simp
theorem Qtg {l : List Ck} (h : okL l) : ∀ k, k ≤ l.length → ((l.take k).flatMap ckB).length ≤ k * 100300
 | 0, _ => by simp
 | k + 1, hk => by
  have h1 := Qtg h k (by omega)
  obtain ⟨h2, h3⟩ := QsV h (k := k) (by omega)
  rw [QeP (by omega), qe, QgE]
  omega
def Qnz (form : List UInt8) (l : List Ck) (k : Nat) : List UInt8 := Qaj ++ leB (4 + szL l) 4 ++ form ++ (l.take k).flatMap ckB
theorem QzE {form : List UInt8} {l : List Ck} (k : Nat) : (Qnz form l k).length = 8 + form.length + ((l.take k).flatMap ckB).length := by
 simp only [Qnz, qe, Qc, Qaj, qJ, yg]
def Qig (form : List UInt8) (l : List Ck) : AV := if Xd form l = 0 then .tup [bs (Jp form l), .int .i64 0] else .tup [bs [], .int .i64 (Xd form l)]
theorem Qxm (form : List UInt8) (l : List Ck) : isD (Qig form l) = true := by
 unfold Qig; split <;> simp [isD, isDL, QD]
def Qne (P : Prg) (f : Nat) : Prop := ∀ (form : List UInt8) (l : List Ck), form.length ≤ 20 → okL l → VC P f [.str form, .list l.length (ckL l)] (Qig form l)
theorem QEI (k : Nat) : Qf [AV.int .u8 0] k = u8 (List.replicate k 0) := by
 induction k with
 | zero => rfl
 | succ k ih => simp [Qf, ih, jR, u8]
set_option maxHeartbeats 1000000 in
theorem Quh {P : Prg} {ρ : Ren} {fT fL fR fS g0 fW fX fB f fC f1 fZ fLe t0 t1 t2 : Nat} (A : QDT P ρ fT fL fR fS g0 fW fX fB) (b : Body P f 48 [.tmp 4, .tmp 5] (QcV fC f1 fZ fW fX fB t0 t1 t2))
  (hC : Qsh P fC) (b1 : Body P f1 17 [] (ZO fLe fW fX)) (hLe : X7 P fLe) (hZ : Qtw P fZ 4) : Qne P f := by
 intro form l hf hl
 refine Qk 1 (by simp [isDL, isD, Qcz]) (Qxm _ _) (Qb b (by simp) ?_)
 have h25 := hl.1
 have hsz := QAT hl
 simp (disch := omega) only [rq, simprocAttr, QcV]
 refine Qa (hC form l hf hl) ?_
 by_cases h0 : Xd form l = 0
 ·simp only [Qig, qh h0]
  rw [h0]
  simp (disch := omega) only [rq, simprocAttr]
  refine Qa (hZ l hl) ?_
  simp (disch := omega) only [rq, simprocAttr]
  have e0 : ([82, 73, 70, 70] : List UInt8) = Qaj := rfl
  rw [e0]
  refine Qz9 A b1 hLe (ob := [Xh t0 (.emp true) 0]) rfl (by decide) (by decide) (n := 4 + szL l) (by omega) ?_
  simp (disch := omega) only [rq, simprocAttr, Xh]
  have e1 : Qaj.length + 4 = (Qaj ++ leB (4 + szL l) 4).length := by rw [qe, Qc]
  rw [e1]
  refine Qdh (cs := u8 (Qaj ++ leB (4 + szL l) 4)) (o := 1) A.L A.B A.W rfl rfl (Qr _) (by decide) (by rw [qe, Qc]; omega) (by rw [qe, Qc]; simp [Qaj]; omega) ?_
  simp only [Zn, Xh, jG, jD, Zb]
  rw [← qe]
  simp (disch := omega) only [rq, simprocAttr]
  have p0 : Qaj ++ leB (4 + szL l) 4 ++ form = Qnz form l 0 := by simp [Qnz]
  have p1 : Qaj.length + (leB (4 + szL l) 4).length + form.length = (Qnz form l 0).length := by rw [← p0]; simp only [qe]
  rw [p0, p1]
  refine Qg (ι := Nat) (fun k => ⟨[(26, .int .i64 k), (25, .int .i64 l.length), (24, .list l.length (ckL l)), (8, .fn (.func f1) [] [.ref 0 1 0]), (7, .ref 0 1 0)],
    [⟨t0, 3, 1, [.own 1 (Qnz form l k).length, .int .i64 0, .int .i8 0], 0⟩, ⟨ρ.t 5, 1, (Qnz form l k).length, u8 (Qnz form l k), 0⟩]⟩) (fun k => k ≤ l.length) (fun k => l.length - k) 0
    (Ql) (by omega) ?_
  intro k hk
  have hpl := QzE (form := form) (l := l) k
  have hfl := Qtg hl k hk
  by_cases hlt : k < l.length
  ·obtain ⟨o1, o2⟩ := QsV hl hlt
   have d1 := Qeh hlt
   have d2 := Jo l
   have d3 := Qtv (n := (l[k]).2.length) (by omega)
   simp (disch := omega) only [rq, simprocAttr, d1, d2, bs]
   refine Qz8 A b1 hLe (ob := _) (p := 0) (o := 1) (tB := t0) (lr := 0) (n := (l[k]).2.length) (s := (l[k]).1) (pre := Qnz form l k) rfl rfl (by decide) (by omega) (by omega) (by omega) ?_
   simp only [Zn, Xh, jG, jD]
   generalize hq1 : Qnz form l k ++ (l[k]).1 ++ leB (l[k]).2.length 4 = q1
   have hl1 : q1.length = (Qnz form l k).length + (l[k]).1.length + 4 := by rw [← hq1]; simp only [qe, Qc]
   simp (disch := omega) only [rq, simprocAttr]
   refine Qgj (o := 1) (cs := u8 q1) A.L A.B A.X rfl rfl (Qr _) (by decide) (by omega) (by omega) ?_
   simp only [Zn, Xh, jG, jD, Zb]
   rw [← qe]
   generalize hq2 : q1 ++ (l[k]).2 = q2
   have hl2 : q2.length = q1.length + (l[k]).2.length := by rw [← hq2, qe]
   have hm : (l[k]).2.length % 2 < 2 := qM _ (by decide)
   simp (disch := omega) only [rq, simprocAttr, d3, QEI]
   have hw := fun (K : AV → List Ob → Prop) (hK : K _ _) => Qvy (K := K) (q := 3) (t := t2) (o := 1) (p := 0) (s := List.replicate ((l[k]).2.length % 2) 0) (cs := u8 q2) A.L A.B A.X
    (ob := [⟨t0, 3, 1, [.own 1 q2.length, .int .i64 0, .int .i8 0], 0⟩, ⟨ρ.t 5, 1, q2.length, u8 q2, 0⟩, ⟨t1, 2, 1, [.str (l[k]).1, .list (l[k]).2.length (u8 (l[k]).2)], 0⟩, ⟨t2, 1, (l[k]).2.length % 2, u8 (List.replicate ((l[k]).2.length % 2) 0), 0⟩])
    (n := q2.length) (tB := t0) (lr := 0) rfl rfl (Qr _) (by decide) (by omega) (by simp) (by decide) (by decide) (by rw [yn]; omega) hK
   rw [yn] at hw
   refine hw _ ?_
   simp only [Zn, Xh, jG, jD, Zb]
   have e9 : q2 ++ List.replicate ((l[k]).2.length % 2) 0 = Qnz form l (k + 1) := by
    rw [← hq2, ← hq1]
    simp only [Qnz, QeP hlt, ckB, qj]
   have e10 : q2.length + (l[k]).2.length % 2 = (Qnz form l (k + 1)).length := by
    rw [← e9, qe, yn]
   rw [e9, e10]
   simp (disch := omega) only [rq, simprocAttr]
   refine ⟨k + 1, by omega, by omega, Le.drop 2 2 (by omega) rfl ?_ ?_⟩
   ·simp [Am.look, Qx, frzL, Qy, frzL_T _ (QdF l)]
   ·intro i y hy
    match i, hy with
    | 0, hy =>
     simp at hy
     subst hy
     exact ⟨[.own 1 (Qnz form l (k + 1)).length, .int .i64 0, .int .i8 0], by simp, by simp [Qx, frzL, Qy]⟩
    | 1, hy =>
     simp at hy
     subst hy
     exact ⟨u8 (Qnz form l (k + 1)), by simp, by simp only [Qx]; exact frzL_T _ (QF _)⟩
    | i + 2, hy => simp at hy
  ·have ek : k = l.length := by omega
   subst ek
   have e2 : Qnz form l l.length = Jp form l := by simp only [Qnz, Jp, qD]
   rw [e2] at hpl ⊢
   simp (disch := omega) only [rq, simprocAttr]
   refine Qym A (o := 1) (n := (Jp form l).length) (cs := u8 (Jp form l)) rfl rfl (by omega) ?_
   simp (disch := omega) only [rq, simprocAttr]
   have n0 : (Jp form l).length ≠ 0 := by omega
   have n1 : (Jp form l).length ≠ 1 := by omega
   have e3 : (u8 (Jp form l)).take (Jp form l).length = u8 (Jp form l) := qg (by rw [Qr]; exact qo _)
   simp [QO, Qx, frzL, Qy, n0, n1, e3, frzL_T _ (QF _), bs]
 ·simp only [Qig, qf h0]
  simp (disch := omega) only [rq, simprocAttr]
  simp [QO, Qx, frzL, Qy, bs, Qg7]
end Go.Am
