/- What the functions that the law reaches return, for every program that has their code; the conditions stand in each statement. -/
import Derived.Test.YtpipccfcpeemfaaGreatDoorEncodeWavsL1
set_option linter.unusedSectionVars false
set_option linter.unusedSimpArgs false
set_option linter.unusedVariables false
namespace Go.Am
open Go.RowKit
def leB (n : Nat) : Nat → List UInt8
 | 0 => []
 | k + 1 => UInt8.ofNat (n % 256) :: leB (n / 256) k
theorem Qd : ∀ (k n : Nat), (leB n k).length = k
 | 0, _ => rfl
 | k + 1, n => by simp [leB, Qd k]
theorem QqE : ∀ (k n i : Nat) (h : i < k), (leB n k)[i]? = some (UInt8.ofNat (n / 256 ^ i % 256))
 | k + 1, n, 0, _ => by simp [leB]
 | k + 1, n, i + 1, h => by
  simp only [leB, List.getElem?_cons_succ]
  rw [QqE k (n / 256) i (by omega), Nat.div_div_eq_div_mul, Nat.pow_succ, Nat.mul_comm]
theorem QaX {n k i : Nat} (h : i < k) : (leB n k).take (i + 1) = (leB n k).take i ++ [UInt8.ofNat (n / 256 ^ i % 256)] := by
 rw [List.take_add_one, QqE k n i h]
 rfl
theorem QCj {K : IntKind} {n k : Nat} (hk : k ≤ K.bits) : Qn false K (n : Int) (k : Int) = some (.int K ((n / 2 ^ k : Nat) : Int)) := by
 have h3 : ¬ ((k : Int) < 0) := by omega
 have h5 : min k K.bits = k := by omega
 have h6 : (n : Int).fdiv (2 ^ k) = ((n / 2 ^ k : Nat) : Int) := by
  rw [Int.fdiv_eq_ediv_of_nonneg _ (Int.pow_nonneg (by decide))]
  simp [Int.natCast_ediv, Int.natCast_pow]
 simp only [Qn, if_neg h3, Bool.false_eq_true, if_false, Int.toNat_natCast, h5, h6]
def Qxs (P : Prg) (f : Nat) : Prop := ∀ n w : Nat, 1 ≤ w → w ≤ 8 → VC P f [.int .u64 n, .int .i64 w] (.bool (decide (w = 8) || decide (n / 2 ^ (8 * w) = 0)))
theorem QAf {P : Prg} {f : Nat} (b : Qf P f 14 [.tmp 4] Qck) : Qxs P f := by
 intro n w h1 h2
 refine VC.of_acall rfl rfl (ACall.of_body b (by simp) ?_)
 by_cases h8 : w = 8
 ·subst h8
  simp (disch := omega) only [rq, simprocAttr, Qck]
 ·have e1 : (decide (w = 8)) = false := by simpa using h8
  have e2 : Qn false .u64 (n : Int) (8 * (w : Int)) = some (.int .u64 ((n / 2 ^ (8 * w) : Nat) : Int)) := by
   have := QCj (K := .u64) (n := n) (k := 8 * w) (by simp [IntKind.bits]; omega)
   rwa [Int.natCast_mul] at this
  have e3 : (((n / 2 ^ (8 * w) : Nat) : Int) == 0) = decide (n / 2 ^ (8 * w) = 0) := by rw [Bool.eq_iff_iff]; simp only [beq_iff_eq, decide_eq_true_eq]; omega
  have e4 : ((w : Int) = 8) = False := eq_false (by omega)
  by_cases h9 : n / 2 ^ (8 * w) = 0
  ·have e5 : (decide (n / 2 ^ (8 * w) = 0)) = true := by simpa using h9
   have e6 : (((n / 2 ^ (8 * w) : Nat) : Int) = 0) = True := eq_true (by omega)
   rw [e5]
   simp (disch := omega) only [rq, simprocAttr, Qck, e1, e2, e4, e6]
  ·have e5 : (decide (n / 2 ^ (8 * w) = 0)) = false := by simpa using h9
   have e6 : (((n / 2 ^ (8 * w) : Nat) : Int) = 0) = False := eq_false (by omega)
   rw [e5]
   simp (disch := omega) only [rq, simprocAttr, Qck, e1, e2, e4, e6]
def Qbt (P : Prg) (f : Nat) : Prop := ∀ n w : Nat, 1 ≤ w → w ≤ 8 → n < 256 ^ w → VC P f [.int .u64 n, .int .i64 w] (.tup [bs (leB n w), .int .i64 0])
theorem QyT {t n : Nat} {l : List UInt8} (h : n = l.length) {e : Int} : QF (fun _ => true) [⟨t, 1, n, u8 l, 0⟩] 2 [.tup [.own 0 n, .int .i64 e]] = some [.tup [bs l, .int .i64 e]] := by
 subst h
 simp only [QF, Qu, frzL, Qs, Bool.false_eq_true, if_false, List.getElem?_cons_zero, and_self, if_true, frzL_T _ (Qv l), Option.map_some, bs]
theorem QyK {P : Prg} {f fF t0 : Nat} (b : Qf P f 35 [.tmp 4, .tmp 5] (QcK fF t0)) (hF : Qxs P fF) : Qbt P f := by
 intro n w h1 h2 hn
 refine VC.of_walk 1 (by simp [isDL, isD]) (by simp [isD, isDL, QC]) (ACall.of_body b (by simp) ?_)
 have hn8 : n < 18446744073709551616 := Nat.lt_of_lt_of_le hn (Nat.le_trans (Nat.pow_le_pow_right (by omega) h2) (by decide))
 simp (disch := omega) only [rq, simprocAttr, QcK]
 refine Qb.vc (hF n w h1 h2) ?_
 have e0 : (decide (w = 8) || decide (n / 2 ^ (8 * w) = 0)) = true := by
  have : n / 2 ^ (8 * w) = 0 := Nat.div_eq_of_lt (by rw [Nat.pow_mul]; exact hn)
  simp [this]
 rw [e0]
 have r0 : Qe [.int .u8 0] w = u8 ([] : List UInt8) ++ List.replicate w (.int .u8 0) := by
  have : ∀ k, Qe [AV.int .u8 0] k = List.replicate k (.int .u8 0) := fun k => by
   induction k with
   | zero => rfl
   | succ k ih => simp [Qe, ih, List.replicate_succ]
  rw [this]; rfl
 simp (disch := omega) only [rq, simprocAttr, QcK]
 rw [r0]
 refine Qx.by (ι := Nat) (fun k => ⟨[(22, .int .i64 k), (21, .int .i64 w), (6, .own 0 w), (0, .int .u64 n)], [⟨t0, 1, w, u8 ((leB n w).take k) ++ List.replicate (w - k) (.int .u8 0), 0⟩]⟩) (fun k => k ≤ w) (fun k => w - k) 0 (Le.slots (by simp [Am.look])) (by omega) ?_
 intro k hk
 by_cases hlt : k < w
 ·have e2 : Qn false .u64 (n : Int) (8 * (k : Int)) = some (.int .u64 ((n / 256 ^ k : Nat) : Int)) := by
   have := QCj (K := .u64) (n := n) (k := 8 * k) (by simp [IntKind.bits]; omega)
   rwa [Int.natCast_mul, Nat.pow_mul] at this
  have e3 : IntKind.u8.wrap ((n / 256 ^ k : Nat) : Int) = ((UInt8.ofNat (n / 256 ^ k % 256)).toNat : Int) := by
   simp [IntKind.wrap, IntKind.signed, IntKind.bits]
  have hl : (u8 ((leB n w).take k)).length = k := by simp [Qy, Qd]; omega
  have e4 : (u8 ((leB n w).take k) ++ List.replicate (w - k) (AV.int .u8 0)).take k = u8 ((leB n w).take k) := by rw [List.take_left' hl]
  have e5 : (u8 ((leB n w).take k) ++ List.replicate (w - k) (AV.int .u8 0)).drop (k + 1) = List.replicate (w - (k + 1)) (.int .u8 0) := by
   rw [List.drop_append, List.drop_of_length_le (by omega), hl]
   simp
   omega
  have e6 : u8 ((leB n w).take k) ++ [AV.int .u8 ((UInt8.ofNat (n / 256 ^ k % 256)).toNat : Int)] = u8 ((leB n w).take (k + 1)) := by
   rw [QaX hlt, ← JS]; rfl
  simp (disch := omega) only [rq, simprocAttr, e2, e3, hl, e4, e5, e6]
  refine ⟨k + 1, by omega, by omega, ?_⟩
  refine Le.slots ?_
  simp [Am.look]
 ·have ek : k = w := by omega
  subst ek
  have e7 : (leB n k).take k = leB n k := List.take_of_length_le (by rw [Qd]; exact Nat.le_refl _)
  have e8 : u8 (leB n k) ++ List.replicate (k - k) (AV.int .u8 0) = u8 (leB n k) := by simp
  simp (disch := omega) only [rq, simprocAttr, e7]
  rw [e8, QyT (Qd k n).symm]
def Qbu (P : Prg) (f : Nat) : Prop := ∀ n w : Nat, w ≤ 8 → n < 18446744073709551616 → VC P f [.int .u64 n, .int .i64 w] (bs (leB n w))
theorem Qlx {P : Prg} {f t0 : Nat} (b : Qf P f 21 [.tmp 4] (Q0 t0)) : Qbu P f := by
 intro n w hw hn
 refine VC.of_walk 1 rfl (QC _) (ACall.of_body b (by simp) ?_)
 simp (disch := omega) only [rq, simprocAttr, Q0]
 refine Qx.by (ι := Nat) (fun k => ⟨[(6, .int .i64 k), (5, .own 0 k), (1, .int .i64 w), (0, .int .u64 ((n / 256 ^ k : Nat) : Int))], [⟨t0, 1, k, u8 ((leB n w).take k), 0⟩]⟩) (fun k => k ≤ w) (fun k => w - k) 0
  (Le.trans (Le.virt 5 t0 1 (by omega) rfl) (Le.slots (by simp [Am.look]))) (by omega) ?_
 intro k hk
 have hdiv : n / 256 ^ k ≤ n := Nat.div_le_self _ _
 by_cases hlt : k < w
 ·have hl : (u8 ((leB n w).take k)).length = k := by simp [Qy, Qd]; omega
  have e6 := QaX (n := n) hlt
  have e2 : n / 256 ^ (k + 1) = n / 256 ^ k / 256 := by rw [Nat.pow_succ, ← Nat.div_div_eq_div_mul]
  generalize hm : n / 256 ^ k = m at *
  have e3 : (UInt8.ofNat (m % 256)).toNat = m % 256 := by simp
  have e5 : ((m : Int) % 256) = ((m % 256 : Nat) : Int) := by omega
  have e7 : u8 ((leB n w).take k) ++ [AV.int .u8 ((m : Int) % 256)] = u8 ((leB n w).take (k + 1)) := by
   rw [e6, ← JS, QhX, Qj6, e3, e5]
  simp (disch := omega) only [rq, simprocAttr, hl]
  rw [e7]
  refine ⟨k + 1, by omega, by omega, Le.drop 1 2 (by omega) rfl ?_ ?_⟩
  ·rw [e2]; simp [Am.look, Qu, frzL, Qs]
  ·intro i y hy
   match i, hy with
   | 0, hy =>
    simp at hy
    subst hy
    exact ⟨u8 ((leB n w).take (k + 1)), by simp, by simp only [Qu]; exact frzL_T _ (Qv _)⟩
   | i + 1, hy => simp at hy
 ·have ek : k = w := by omega
  subst ek
  have e7 : (leB n k).take k = leB n k := List.take_of_length_le (by rw [Qd]; exact Nat.le_refl _)
  simp (disch := omega) only [rq, simprocAttr, e7]
  have e9 : k = (leB n k).length := (Qd k n).symm
  simp only [QF, Qu, frzL, Qs, Bool.false_eq_true, if_false, List.getElem?_cons_zero, and_self, if_true, frzL_T _ (Qv _), Option.map_some, bs, Qd]
def szC (c : Ck) : Nat := 8 + c.2.length + c.2.length % 2
def szL (l : List Ck) : Nat := (l.map szC).sum
theorem QhA (l : List Ck) : isDL (ckL l) = true := QeB (Qcy l)
def Qi5 (P : Prg) (f : Nat) : Prop := ∀ (l : List Ck) (p : Ck → Bool) (g : Nat) (cs : List AV), isDL cs = true → l.length ≤ 4611686018427387904 →
 (∀ x ∈ l, VC P g ([ckA x] ++ cs) (.bool (p x))) → VC P f [.list l.length (ckL l), .fn (.func g) [] cs] (.int .i64 (QAq p l))
theorem QqJ {P : Prg} {f : Nat} (b : Qf P f 19 [.tmp 4] QM) : Qi5 P f := by
 intro l p g cs h2 hlen hp
 refine VC.of_acall (by simp [isDL, isD, h2, QhA]) rfl (ACall.of_body b (by simp) ?_)
 simp (disch := omega) only [rq, simprocAttr, QM]
 refine Qx.by (ι := Nat) (fun k => ⟨[(8, .int .i64 k), (7, .int .i64 l.length), (1, .fn (.func g) [] cs), (0, .list l.length (ckL l))], []⟩) (fun k => k ≤ l.length ∧ (l.take k).all (fun x => !p x) = true) (fun k => l.length - k) 0 (Le.slots (by simp [Am.look])) ⟨by omega, by simp⟩ ?_
 intro k ⟨hk, hg⟩
 by_cases hlt : k < l.length
 ·have e1 := QcC hlt
  have e2 := Xa l
  simp (disch := omega) only [rq, simprocAttr, e1, e2]
  refine Qb.vc (hp _ (List.getElem_mem hlt)) ?_
  cases hpk : p l[k] with
  | true => simp (disch := omega) only [rq, simprocAttr, hpk, QAq, QAv hlt hg hpk]
  | false =>
   simp (disch := omega) only [rq, simprocAttr, hpk]
   exact ⟨k + 1, ⟨by omega, by rw [Qry hlt, hg, hpk]; rfl⟩, by omega, Le.slots (by simp [Am.look])⟩
 ·have e2 : k = l.length := by omega
  subst e2
  rw [List.take_length] at hg
  simp (disch := omega) only [rq, simprocAttr, QAq, QwC hg]
def Qzx (form : List UInt8) (l : List Ck) : Nat :=
 if 20 < l.length then 4 else if Xt form = false ∨ 100000 < 12 + szL l ∨ l.any (fun c => !Xt c.1) = true then 8 else 0
def Qgz (l : List Ck) (id : List UInt8) : Option Nat := l.findIdx? (fun c => c.1 == id)
def QoG : Option Nat → AV
 | none => .tup [.int .i64 0, .int .i64 6]
 | some i => .tup [.int .i64 i, .int .i64 0]
theorem QyR (r : Option Nat) : isD (QoG r) = true := by cases r <;> rfl
def QrI (P : Prg) (f : Nat) : Prop := ∀ (c : Ck) (id : List UInt8), VC P f [ckA c, .cell [.str id]] (.bool (c.1 == id))
theorem Qtp {P : Prg} {f t0 : Nat} (b : Qf P f 8 [.tmp 3] (QbZ t0)) : QrI P f := by
 intro c id
 refine VC.of_acall (by simp [isDL, isD, ckA, QC]) rfl (ACall.of_body b (by simp) ?_)
 simp (disch := omega) only [rq, simprocAttr, QbZ, ckA, bs, Qfo]
def QxE (P : Prg) (f : Nat) : Prop := ∀ (l : List Ck) (id : List UInt8), l.length ≤ 4611686018427387904 → VC P f [.list l.length (ckL l), .str id] (QoG (Qgz l id))
theorem QlL {l : List Ck} {id : List UInt8} {i : Nat} (h : Qgz l id = some i) : i < l.length := by
 have := List.findIdx?_eq_some_iff_getElem.1 h
 exact this.1
theorem Qvy {P : Prg} {f f1 fI t0 : Nat} (b : Qf P f 13 [.tmp 4, .tmp 5] (QdB f1 fI t0)) (h1 : QrI P f1) (hI : Qi5 P fI) : QxE P f := by
 intro l id hl
 refine VC.of_walk 1 (by simp [isDL, isD, QhA]) (QyR _) (ACall.of_body b (by simp) ?_)
 simp (disch := omega) only [rq, simprocAttr, QdB]
 have hv := hI l (fun c => c.1 == id) f1 [.cell [.str id]] rfl hl (fun x _ => h1 x id)
 refine Qb.flat 1 hv rfl ?_ ?_
 ·simp [QF, Qu, frzL, Qs, frzL_T _ (Qcy l), isDL, isD]
 ·cases hf : Qgz l id with
  | none =>
   have e1 : QAq (fun c : Ck => c.1 == id) l = -1 := by simp only [QAq]; rw [show List.findIdx? (fun c : Ck => c.1 == id) l = none from hf]
   rw [e1]
   simp (disch := omega) only [rq, simprocAttr]
   simp [QF, Qu, frzL, Qs, QoG]
  | some i =>
   have e1 : QAq (fun c : Ck => c.1 == id) l = i := by simp only [QAq]; rw [show List.findIdx? (fun c : Ck => c.1 == id) l = some i from hf]
   have hi := QlL hf
   rw [e1]
   simp (disch := omega) only [rq, simprocAttr]
   simp [QF, Qu, frzL, Qs, QoG]
open Go.RowKit Go.Shelf Go.Proofs
def ckB (c : Ck) : List UInt8 := c.1 ++ leB c.2.length 4 ++ c.2 ++ List.replicate (c.2.length % 2) 0
def Qzz (form : List UInt8) (l : List Ck) : List UInt8 := Qh3 ++ leB (4 + szL l) 4 ++ form ++ l.flatMap ckB
section
variable {P : Prg} {ρ : Ren} {fT fL fR fS g0 fW fX fB : Nat}
end
open Go.RowKit Go.Shelf Go.Proofs
theorem Quk (c : Ck) : (ckB c).length = c.1.length + c.2.length + c.2.length % 2 + 4 := by
 simp only [ckB, List.length_append, Qd, List.length_replicate]; omega
theorem QqD : ∀ l : List UInt8, leB (leN l) l.length = l
 | [] => rfl
 | b :: l => by
  have h1 := b.toNat_lt
  have e1 : (b.toNat + 256 * leN l) % 256 = b.toNat := by omega
  have e2 : (b.toNat + 256 * leN l) / 256 = leN l := by omega
  simp only [leN, List.length_cons, leB, e1, e2, QqD l]
  simp
theorem QBe {s : List UInt8} (h : Xt s = true) : s.length = 4 := by
 simp only [Xt, Bool.and_eq_true, beq_iff_eq] at h; exact h.2
theorem Qv5 {l r : List UInt8} {c : Ck} (h : QaI l = some (c, r)) : l = ckB c ++ r ∧ Xt c.1 = true ∧ c.2.length < 4294967296 := by
 unfold QaI at h
 split at h
 ·cases h
 rename_i h0
 have h8 : 8 ≤ l.length := by
  rcases Nat.lt_or_ge l.length 8 with h' | h'
  ·exact absurd (.inl h') h0
  ·exact h'
 have hn : Xt (l.take 4) = true := by
  cases hb : Xt (l.take 4) with
  | true => rfl
  | false => exact absurd (.inr hb) h0
 simp only at h
 generalize hm : leN ((l.drop 4).take 4) = m at h
 have hB : (l.drop 4).take 4 = leB m 4 := by
  have := QqD ((l.drop 4).take 4)
  rw [hm, Xy (by omega)] at this
  exact this.symm
 have hm4 : m < 4294967296 := by
  have := QeA ((l.drop 4).take 4)
  rw [hm, Xy (by omega)] at this
  exact this
 split at h
 ·cases h
 rename_i hs
 have d1 : ((l.drop 8).take m).length = m := by simp; omega
 have key : l = l.take 4 ++ ((l.drop 4).take 4 ++ ((l.drop 8).take m ++ l.drop (8 + m))) := by
  conv => lhs; rw [← List.take_append_drop 4 l]
  congr 1
  conv => lhs; rw [← List.take_append_drop 4 (l.drop 4)]
  congr 1
  rw [List.drop_drop]
  conv => lhs; rw [← List.take_append_drop m (l.drop 8)]
  congr 1
  rw [List.drop_drop]
 split at h
 ·rename_i hodd
  split at h
  ·cases h
  rename_i hz
  cases h
  refine ⟨?_, hn, by simp only [d1]; exact hm4⟩
  have hlen : 8 + m < l.length := by
   rcases Nat.lt_or_ge (8 + m) l.length with h' | h'
   ·exact h'
   ·exact absurd (.inl (by omega)) hz
  have hz0 : l[8 + m] = 0 := by
   by_cases h' : l.getD (8 + m) 0 = 0
   ·rwa [List.getD_eq_getElem?_getD, List.getElem?_eq_getElem hlen] at h'
   ·exact absurd (.inr h') hz
  have e : l.drop (8 + m) = 0 :: l.drop (9 + m) := by
   rw [List.drop_eq_getElem_cons hlen, hz0, show 8 + m + 1 = 9 + m by omega]
  simp only [ckB, d1, hodd]
  rw [e, hB] at key
  simpa [List.append_assoc] using key
 ·rename_i hodd
  cases h
  refine ⟨?_, hn, by simp only [d1]; exact hm4⟩
  have h0 : m % 2 = 0 := by omega
  simp only [ckB, d1, h0]
  rw [hB] at key
  simpa [List.append_assoc] using key
def QBn (l : List Ck) : Prop := ∀ c ∈ l, Xt c.1 = true ∧ c.2.length < 4294967296
theorem Qiu : ∀ (k : Nat) (out : List Ck) (rest : List UInt8) (r : List Ck), XB k out rest = .inr r → out.length ≤ 20 → ∃ l, r = out ++ l ∧ rest = l.flatMap ckB ∧ QBn l ∧ r.length ≤ 20
 | 0, _, _, _, h, _ => by simp [XB] at h
 | k + 1, out, rest, r, h, hl => by
  simp only [XB] at h
  split at h
  ·rename_i he
   cases h
   exact ⟨[], by simp, by simp [he], (fun x hx => by cases hx), hl⟩
  ·split at h
   ·cases h
   rename_i h20
   split at h
   ·cases h
   ·rename_i c left hnx
    obtain ⟨e1, e2, e3⟩ := Qv5 hnx
    obtain ⟨l, q1, q2, q3, q4⟩ := Qiu k _ _ _ h (by simp; omega)
    refine ⟨c :: l, by rw [q1]; simp, by rw [e1, q2]; simp, fun x hx => ?_, q4⟩
    rcases List.mem_cons.1 hx with rfl | hx
    ·exact ⟨e2, e3⟩
    ·exact q3 x hx
theorem Qwx : ∀ {l : List Ck}, (∀ c ∈ l, c.1.length = 4) → (l.flatMap ckB).length = szL l
 | [], _ => rfl
 | c :: l, h => by
  have h1 := h c (by simp)
  have h2 := Qwx (l := l) fun x hx => h x (by simp [hx])
  have h3 : szL (c :: l) = szC c + szL l := by simp [szL]
  simp only [List.flatMap_cons, List.length_append, Quk, h2, h3, szC]
  omega
theorem Qze : ∀ {l : List Ck} {c : Ck}, c ∈ l → szC c ≤ szL l
 | x :: l, c, h => by
  have e : szL (x :: l) = szC x + szL l := by simp [szL]
  rcases List.mem_cons.1 h with rfl | h
  ·omega
  ·have := Qze h; omega
theorem QtR {b form : List UInt8} {l : List Ck} (h : ZV b = .inr (form, l)) : Qzz form l = b ∧ Qzx form l = 0 ∧ l.length ≤ 20 ∧ QBn l ∧ 12 + szL l = b.length ∧ b.length ≤ 100000 ∧ form.length = 4 ∧ 12 ≤ b.length ∧ leN ((b.drop 4).take 4) + 8 = b.length := by
 unfold ZV at h
 split at h
 ·cases h
 rename_i h12
 simp only at h
 generalize hm : leN ((b.drop 4).take 4) = m at h
 generalize hfm : (b.drop 8).take 4 = fm at h
 split at h
 ·cases h
 rename_i hc
 split at h
 ·cases h
 rename_i hbig
 split at h
 ·cases h
 rename_i hsh
 have hr : b.take 4 = Qh3 := Classical.not_not.1 fun h' => hc (.inl h')
 have hf : Xt fm = true := by
  cases hb : Xt fm with
  | true => rfl
  | false => exact absurd (.inr (.inl hb)) hc
 have hm4 : ¬ m < 4 := fun h' => hc (.inr (.inr h'))
 split at h
 ·cases h
 rename_i out hout
 split at h
 ·cases h
 rename_i hmore
 cases h
 obtain ⟨l', q1, q2, q3, q4⟩ := Qiu _ _ _ _ hout (by simp)
 simp only [List.nil_append] at q1
 subst q1
 have hlen : b.length = m + 8 := by omega
 have hf4 := QBe hf
 have q5 : (b.drop 12).take (m - 4) = b.drop 12 := List.take_of_length_le (by simp; omega)
 rw [q5] at q2
 have hns : ∀ c ∈ l, c.1.length = 4 := fun c hc => QBe (q3 c hc).1
 have hfl := Qwx hns
 have hsz : 4 + szL l = m := by
  have := congrArg List.length q2
  rw [hfl, List.length_drop] at this
  omega
 have hB : (b.drop 4).take 4 = leB m 4 := by
  have := QqD ((b.drop 4).take 4)
  rw [hm, Xy (by omega)] at this
  exact this.symm
 have key : b = b.take 4 ++ ((b.drop 4).take 4 ++ ((b.drop 8).take 4 ++ b.drop 12)) := by
  conv => lhs; rw [← List.take_append_drop 4 b]
  congr 1
  conv => lhs; rw [← List.take_append_drop 4 (b.drop 4)]
  congr 1
  rw [List.drop_drop]
  conv => lhs; rw [← List.take_append_drop 4 (b.drop 8)]
  congr 1
  rw [List.drop_drop]
 refine ⟨?_, ?_, q4, q3, by omega, by omega, hf4, by omega, by omega⟩
 ·rw [hr, hB, hfm, q2] at key
  rw [key, Qzz, hsz]
  simp [List.append_assoc]
 ·unfold Qzx
  rw [if_neg (by omega), if_neg]
  rintro (h' | h' | h')
  ·rw [hf] at h'; cases h'
  ·omega
  ·obtain ⟨c, hc, hcn⟩ := List.any_eq_true.1 h'
   rw [(q3 c hc).1] at hcn
   cases hcn
theorem Qku : ∀ (k : Nat) (out : List Ck) (rest : List UInt8), rest.length < k → XB k out rest ≠ .inl 0
 | 0, _, _, h => by omega
 | k + 1, out, rest, hk => by
  simp only [XB]
  split
  ·intro h; cases h
  ·split
   ·intro h; cases h
   ·split
    ·intro h; cases h
    ·rename_i c left hnx
     have := (Qsl hnx).1
     exact Qku k _ _ (by omega)
theorem Qh5 {b : List UInt8} {e : Nat} (h : ZV b = .inl e) : e ≠ 0 := by
 unfold ZV at h
 split at h
 ·cases h; omega
 simp only at h
 split at h
 ·cases h; omega
 split at h
 ·cases h; omega
 split at h
 ·cases h; omega
 split at h
 ·rename_i e' he
  cases h
  intro h0
  subst h0
  exact Qku _ _ _ (by simp; omega) he
 ·split at h
  ·cases h; omega
  ·cases h
theorem Qko {l : List Ck} {id : List UInt8} {i : Nat} (h : Qgz l id = some i) : ∃ hi : i < l.length, (l[i].1 = id) ∧ ∀ j (hj : j < i), ¬ (l[j]'(by omega)).1 = id := by
 obtain ⟨h1, h2, h3⟩ := List.findIdx?_eq_some_iff_getElem.1 h
 refine ⟨h1, by simpa using h2, fun j hj => ?_⟩
 have := h3 j hj
 simpa using this
theorem Qgy {l : List Ck} {id : List UInt8} (h : Qgz l id = none) {j : Nat} (hj : j < l.length) : ¬ (l[j]).1 = id := by
 have := List.findIdx?_eq_none_iff.1 h (l[j]) (List.getElem_mem hj)
 simpa using this
def Qbd (c b r : Int) : Prop := 1 ≤ c ∧ c ≤ 6 ∧ Jk b ≠ 0 ∧ 1 ≤ r ∧ r ≤ 1048576
instance (c b r : Int) : Decidable (Qbd c b r) := by unfold Qbd; exact inferInstance
def Qq9 (c b r : Int) : Int := if Qbd c b r then 0 else 8
def JI (c b r : Int) : AV := .agg [.int .i64 c, .int .i64 b, .int .i64 r]
def Qif : List UInt8 := [1, 0, 0, 0, 0, 0, 16, 0, 128, 0, 0, 170, 0, 56, 155, 113]
def Qbv : List Nat := [2, 2, 4, 4, 2, 2, 2, 2, 4]
def QrU (c b r tag m : Nat) : List Nat := [tag, c, r, r * (c * b / 8), c * b / 8, b, 22, b, m]
def QjF (l : List (Nat × Nat)) : List UInt8 := l.flatMap fun p => leB p.1 p.2
def Qci (c b r tag : Nat) : List UInt8 := leB tag 2 ++ leB c 2 ++ leB r 4 ++ leB (r * (c * b / 8)) 4 ++ leB (c * b / 8) 2 ++ leB b 2
def Qos (c b r m : Nat) : List UInt8 := Qci c b r 65534 ++ leB 22 2 ++ leB b 2 ++ leB m 4 ++ Qif
def Z9 (c b r : Nat) (wide : Bool) (m : Nat) : List UInt8 := if wide then Qos c b r m else Qci c b r 1
theorem QvU (c b r : Nat) (wide : Bool) (m : Nat) : Z9 c b r wide m = QjF (((QrU c b r (if wide then 65534 else 1) m).zip Qbv).take (if wide then 9 else 6)) ++ (if wide then Qif else []) := by
 cases wide <;> simp [Z9, Qos, Qci, QjF, QrU, Qbv]
def J9 : List AV := [.int .i64 2, .int .i64 2, .int .i64 4, .int .i64 4, .int .i64 2, .int .i64 2, .int .i64 2, .int .i64 2, .int .i64 4]
def QlK : List AV := [.int .u8 1, .int .u8 0, .int .u8 0, .int .u8 0, .int .u8 0, .int .u8 0, .int .u8 16, .int .u8 0, .int .u8 128, .int .u8 0, .int .u8 0, .int .u8 170, .int .u8 0, .int .u8 56, .int .u8 155, .int .u8 113]
theorem QuN : J9 = ks .i64 (Qbv.map fun n : Nat => (n : Int)) := by simp [J9, Qbv, ks]
theorem QsH : QlK = u8 Qif := by simp [QlK, Qif, u8]
def QdY (P : Prg) (f : Nat) : Prop := ∀ c b r : Int, VC P f [JI c b r] (.int .i64 (Qq9 c b r))
theorem Qag (b : Int) : Jk b ≠ 0 ↔ b = 8 ∨ b = 16 ∨ b = 24 := by
 rcases Zb b with ⟨rfl, h⟩ | ⟨rfl, h⟩ | ⟨rfl, h⟩ | ⟨h1, h2, h3, h⟩ <;> simp [h] <;> omega
theorem Qwv {P : Prg} {f t0 : Nat} (b : Qf P f 27 [.tmp 2] (QG t0)) : QdY P f := by
 intro c x r
 refine VC.of_acall rfl rfl (ACall.of_body b (by simp) ?_)
 by_cases h : Qbd c x r
 ·obtain ⟨h1, h2, h3, h4, h5⟩ := h
  have e : Qq9 c x r = 0 := by simp [Qq9, Qbd, h1, h2, h3, h4, h5]
  rw [e]
  rcases (Qag x).1 h3 with rfl | rfl | rfl
  ·simp (disch := omega) only [rq, simprocAttr, QG, JI]
  ·simp (disch := omega) only [rq, simprocAttr, QG, JI]
  ·simp (disch := omega) only [rq, simprocAttr, QG, JI]
 ·have e : Qq9 c x r = 8 := by simp [Qq9, h]
  rw [e]
  by_cases h1 : c < 1
  ·simp (disch := omega) only [rq, simprocAttr, QG, JI]
  by_cases h2 : 6 < c
  ·simp (disch := omega) only [rq, simprocAttr, QG, JI]
  by_cases h3 : r < 1
  ·simp (disch := omega) only [rq, simprocAttr, QG, JI]
  by_cases h4 : 1048576 < r
  ·simp (disch := omega) only [rq, simprocAttr, QG, JI]
  have h5 : ¬ Jk x ≠ 0 := fun h5 => h ⟨by omega, by omega, h5, by omega, by omega⟩
  rw [Qag] at h5
  by_cases h6 : x = 8
  ·omega
  by_cases h7 : x = 16
  ·omega
  by_cases h8 : x = 24
  ·omega
  simp (disch := omega) only [rq, simprocAttr, QG, JI]
theorem Qqg {P : Prg} {f t0 : Nat} (b : Qf P f 36 [.tmp 2] (Qk t0)) : QdY P f := by
 intro c x r
 refine VC.of_acall rfl rfl (ACall.of_body b (by simp) ?_)
 by_cases h : Qbd c x r
 ·obtain ⟨h1, h2, h3, h4, h5⟩ := h
  have e : Qq9 c x r = 0 := by simp [Qq9, Qbd, h1, h2, h3, h4, h5]
  rw [e]
  rcases (Qag x).1 h3 with rfl | rfl | rfl
  ·simp (disch := omega) only [rq, simprocAttr, Qk, JI]
  ·simp (disch := omega) only [rq, simprocAttr, Qk, JI]
  ·simp (disch := omega) only [rq, simprocAttr, Qk, JI]
 ·have e : Qq9 c x r = 8 := by simp [Qq9, h]
  rw [e]
  by_cases h1 : c < 1
  ·simp (disch := omega) only [rq, simprocAttr, Qk, JI]
  by_cases h2 : 6 < c
  ·simp (disch := omega) only [rq, simprocAttr, Qk, JI]
  by_cases h5 : Jk x ≠ 0
  ·have h3 : r < 1 ∨ 1048576 < r := by
    rcases Int.lt_or_le r 1 with h' | h'
    ·exact .inl h'
    ·rcases Int.lt_or_le 1048576 r with h'' | h''
     ·exact .inr h''
     ·exact absurd ⟨by omega, by omega, h5, by omega, by omega⟩ h
   rw [Qag] at h5
   rcases h3 with h3 | h3
   ·rcases h5 with rfl | rfl | rfl
    ·simp (disch := omega) only [rq, simprocAttr, Qk, JI]
    ·simp (disch := omega) only [rq, simprocAttr, Qk, JI]
    ·simp (disch := omega) only [rq, simprocAttr, Qk, JI]
   ·rcases h5 with rfl | rfl | rfl
    ·simp (disch := omega) only [rq, simprocAttr, Qk, JI]
    ·simp (disch := omega) only [rq, simprocAttr, Qk, JI]
    ·simp (disch := omega) only [rq, simprocAttr, Qk, JI]
  ·rw [Qag] at h5
   by_cases h6 : x = 8
   ·omega
   by_cases h7 : x = 16
   ·omega
   by_cases h8 : x = 24
   ·omega
   simp (disch := omega) only [rq, simprocAttr, Qk, JI]
def QrJ (P : Prg) (f : Nat) : Prop := ∀ (c b r : Nat) (wide : Bool) (m : Nat), Qbd c b r → m < 4294967296 → VC P f [JI c b r, .bool wide, .int .u64 m] (bs (Z9 c b r wide m))
def QCq (V : List Nat) : Prop := ∀ k (h : k < V.length) (h' : k < Qbv.length), V[k] < 256 ^ Qbv[k] ∧ 1 ≤ Qbv[k] ∧ Qbv[k] ≤ 8
theorem Qx2 {c b r tag m : Nat} (h : Qbd c b r) (hm : m < 4294967296) (ht : tag < 65536) : QCq (QrU c b r tag m) := by
 obtain ⟨h1, h2, h3, h4, h5⟩ := h
 have hb : b ≤ 24 := by rcases (Qag b).1 h3 with h | h | h <;> omega
 have e1 : c * b ≤ 6 * 24 := Nat.mul_le_mul (by omega) hb
 have e2 : r * (c * b / 8) ≤ 1048576 * 18 := Nat.mul_le_mul (by omega) (by omega)
 intro k hk _
 have hk : k < 9 := hk
 match k, hk with
 | 0, _ => simp [QrU, Qbv]; omega
 | 1, _ => simp [QrU, Qbv]; omega
 | 2, _ => simp [QrU, Qbv]; omega
 | 3, _ => simp [QrU, Qbv]; omega
 | 4, _ => simp [QrU, Qbv]; omega
 | 5, _ => simp [QrU, Qbv]; omega
 | 6, _ => simp [QrU, Qbv]
 | 7, _ => simp [QrU, Qbv]; omega
 | 8, _ => simp [QrU, Qbv]; omega
theorem Qok {l : List (Nat × Nat)} {k : Nat} (h : k < l.length) : QjF (l.take (k + 1)) = QjF (l.take k) ++ leB (l[k]).1 (l[k]).2 := by
 rw [QjF, List.take_succ_eq_append_getElem h, List.flatMap_append]; simp [QjF]
theorem QvT {V : List Nat} (k : Nat) : (QjF ((V.zip Qbv).take k)).length ≤ 36 := by
 have h : ∀ l : List (Nat × Nat), (∀ p ∈ l, p.2 ≤ 4) → (QjF l).length ≤ l.length * 4 := by
  intro l
  induction l with
  | nil => simp [QjF]
  | cons p l ih =>
   intro h
   have h1 := h p (by simp)
   have h2 := ih fun q hq => h q (by simp [hq])
   have e : QjF (p :: l) = leB p.1 p.2 ++ QjF l := rfl
   rw [e, List.length_append, Qd, List.length_cons]
   omega
 have h2 := h ((V.zip Qbv).take k) fun p hp => by
  have h3 := (List.of_mem_zip (List.mem_of_mem_take hp)).2
  simp [Qbv] at h3; omega
 have h4 : ((V.zip Qbv).take k).length ≤ 9 := by simp [Qbv]; omega
 omega
set_option maxRecDepth 20000 in
set_option maxHeartbeats 1000000 in
theorem QyU {P : Prg} {f fB t0 t1 t2 g0 g1 : Nat} (bd : Qf P f 67 [.tmp 6] (Ju fB t0 t1 t2 g0 g1)) (hB : Qbt P fB) (h0 : P.G.lookup g0 = some J9) (h1 : P.G.lookup g1 = some QlK) : QrJ P f := by
 intro c b r wide m hok hm
 have hok0 := hok
 obtain ⟨q1, q2, q3, q4, q5⟩ := hok0
 have hb : b ≤ 24 := by rcases (Qag b).1 q3 with h | h | h <;> omega
 have e1 : c * b ≤ 6 * 24 := Nat.mul_le_mul (by omega) hb
 have e2 : r * (c * b / 8) ≤ 1048576 * 18 := Nat.mul_le_mul (by omega) (by omega)
 have hpre := QvU c b r wide m
 have hfit : ∀ tag : Nat, tag < 65536 → QCq (QrU c b r tag m) := fun tag ht => Qx2 hok hm ht
 simp only [QrU] at hpre hfit
 generalize hS : c * b / 8 = S at *
 generalize hT : r * S = T at *
 have m1 : (c : Int) * b = ((c * b : Nat) : Int) := by simp
 have m2 : ((c * b : Nat) : Int) / 8 = (S : Int) := by omega
 have m3 : (r : Int) * (S : Int) = (T : Int) := by rw [← hT]; simp
 generalize c * b = cb at *
 refine VC.of_walk 1 rfl (QC _) (ACall.of_body bd (by simp) ?_)
 have g0' : QuE P.G g0 = .cell J9 := by simp [QuE, h0]
 have g1' : QuE P.G g1 = .cell QlK := by simp [QuE, h1]
 cases wide with
 | false =>
  simp (disch := omega) only [rq, simprocAttr, Ju, JI, m1, m2, m3]
  obtain ⟨V, hV⟩ : ∃ V : List Nat, V = [1, c, r, T, S, b, 22, b, m] := ⟨_, rfl⟩
  have hl9 : V.length = 9 := by rw [hV]; rfl
  have hc9 : ([.int .u64 1, .int .u64 c, .int .u64 r, .int .u64 T, .int .u64 S, .int .u64 b, .int .u64 22, .int .u64 b, .int .u64 m] : List AV) = ks .u64 (V.map fun n : Nat => (n : Int)) := by rw [hV]; simp [ks]
  have f1 := hfit 1 (by omega)
  rw [← hV] at f1
  have hp : Z9 c b r false m = QjF ((V.zip Qbv).take 6) := by rw [hpre, hV]; simp
  rw [hc9, hp]
  refine Qx.by (ι := Nat) (fun k => ⟨[(45, .int .i64 k), (44, .int .i64 6), (10, .own 2 (QjF ((V.zip Qbv).take k)).length), (8, .ref 1 1 0), (1, .bool false)], [⟨t0, 3, 1, [.int .i64 c, .int .i64 b, .int .i64 r], 0⟩, ⟨t1, 9, 1, ks .u64 (V.map fun n : Nat => (n : Int)), 0⟩, ⟨t2, 1, (QjF ((V.zip Qbv).take k)).length, u8 (QjF ((V.zip Qbv).take k)), 0⟩]⟩) (fun k => k ≤ 6) (fun k => 6 - k) 0 (Le.trans (Le.virt 10 t2 1 (by omega) rfl) (Le.slots (by simp [Am.look, QjF]))) (by omega) ?_
  intro k hk
  have hs := QvT (V := V) k
  by_cases hlt : k < 6
  ·have f1 := f1 k (by omega) (by simp [Qbv]; omega)
   have d1 := Qah (K := .u64) (l := V.map fun n : Nat => (n : Int)) (k := k) (by simp; omega)
   have d2 := Qah (K := .i64) (l := Qbv.map fun n : Nat => (n : Int)) (k := k) (by simp [Qbv]; omega)
   have d3 := Qok (l := V.zip Qbv) (k := k) (by simp [Qbv]; omega)
   have d4 : (ks .u64 (V.map fun n : Nat => (n : Int))).length = 9 := by rw [Qg]; simpa using hl9
   have d5 : (ks .i64 (Qbv.map fun n : Nat => (n : Int))).length = 9 := by rw [Qg]; rfl
   rw [List.getElem_map] at d1 d2
   rw [List.getElem_zip] at d3
   obtain ⟨f1, f2, f3⟩ := f1
   rw [QuN] at g0'
   generalize V[k]'_ = v at *
   generalize Qbv[k]'_ = w at *
   obtain ⟨W, hW⟩ : ∃ W, (Qbv.map fun n : Nat => (n : Int)) = W := ⟨_, rfl⟩
   rw [hW] at d2 d5 g0'
   simp (disch := omega) only [rq, simprocAttr, g0', d1, d2, d4, d5]
   refine QU.vc (hB v w f2 f3 f1) ?_
   simp (disch := omega) only [rq, simprocAttr, bs, Qd]
   refine ⟨k + 1, by omega, by omega, ?_⟩
   rw [d3, ← JS, List.length_append, Qd]
   exact Le.slots (by simp [Am.look])
  ·have ek : k = 6 := by omega
   subst ek
   simp (disch := omega) only [rq, simprocAttr]
   simp [QF, Qu, frzL, Qs, frzL_T _ (Qv _), bs]
 | true =>
  simp (disch := omega) only [rq, simprocAttr, Ju, JI, m1, m2, m3]
  obtain ⟨V, hV⟩ : ∃ V : List Nat, V = [65534, c, r, T, S, b, 22, b, m] := ⟨_, rfl⟩
  have hl9 : V.length = 9 := by rw [hV]; rfl
  have hc9 : ([.int .u64 65534, .int .u64 c, .int .u64 r, .int .u64 T, .int .u64 S, .int .u64 b, .int .u64 22, .int .u64 b, .int .u64 m] : List AV) = ks .u64 (V.map fun n : Nat => (n : Int)) := by rw [hV]; simp [ks]
  have f1 := hfit 65534 (by omega)
  rw [← hV] at f1
  have hp : Z9 c b r true m = QjF ((V.zip Qbv).take 9) ++ Qif := by rw [hpre, hV]; simp
  rw [hc9, hp]
  refine Qx.by (ι := Nat) (fun k => ⟨[(45, .int .i64 k), (44, .int .i64 9), (10, .own 2 (QjF ((V.zip Qbv).take k)).length), (8, .ref 1 1 0), (1, .bool true)], [⟨t0, 3, 1, [.int .i64 c, .int .i64 b, .int .i64 r], 0⟩, ⟨t1, 9, 1, ks .u64 (V.map fun n : Nat => (n : Int)), 0⟩, ⟨t2, 1, (QjF ((V.zip Qbv).take k)).length, u8 (QjF ((V.zip Qbv).take k)), 0⟩]⟩) (fun k => k ≤ 9) (fun k => 9 - k) 0 (Le.trans (Le.virt 10 t2 1 (by omega) rfl) (Le.slots (by simp [Am.look, QjF]))) (by omega) ?_
  intro k hk
  have hs := QvT (V := V) k
  by_cases hlt : k < 9
  ·have f1 := f1 k (by omega) (by simp [Qbv]; omega)
   have d1 := Qah (K := .u64) (l := V.map fun n : Nat => (n : Int)) (k := k) (by simp; omega)
   have d2 := Qah (K := .i64) (l := Qbv.map fun n : Nat => (n : Int)) (k := k) (by simp [Qbv]; omega)
   have d3 := Qok (l := V.zip Qbv) (k := k) (by simp [Qbv]; omega)
   have d4 : (ks .u64 (V.map fun n : Nat => (n : Int))).length = 9 := by rw [Qg]; simpa using hl9
   have d5 : (ks .i64 (Qbv.map fun n : Nat => (n : Int))).length = 9 := by rw [Qg]; rfl
   rw [List.getElem_map] at d1 d2
   rw [List.getElem_zip] at d3
   obtain ⟨f1, f2, f3⟩ := f1
   rw [QuN] at g0'
   generalize V[k]'_ = v at *
   generalize Qbv[k]'_ = w at *
   obtain ⟨W, hW⟩ : ∃ W, (Qbv.map fun n : Nat => (n : Int)) = W := ⟨_, rfl⟩
   rw [hW] at d2 d5 g0'
   simp (disch := omega) only [rq, simprocAttr, g0', d1, d2, d4, d5]
   refine QU.vc (hB v w f2 f3 f1) ?_
   simp (disch := omega) only [rq, simprocAttr, bs, Qd]
   refine ⟨k + 1, by omega, by omega, ?_⟩
   rw [d3, ← JS, List.length_append, Qd]
   exact Le.slots (by simp [Am.look])
  ·have ek : k = 9 := by omega
   subst ek
   have z1 : (min 16 QlK.length = 16) = True := eq_true rfl
   have z2 : List.take 16 QlK = u8 Qif := by rw [QsH]; rfl
   have z3 : Qif.length = 16 := rfl
   have z4 : (Qif.length = 16) = True := eq_true rfl
   simp (disch := omega) only [rq, simprocAttr, g1', z1, z2, z4]
   simp [QF, Qu, frzL, Qs, JS, frzL_T _ (Qv _), bs, z3]
def QgP (t : Nat) (P : Prg) (f : Nat) : Prop := ∀ n w : Nat, w ≤ 8 → n < 18446744073709551616 → VO P f [.int .u64 n, .int .i64 w] (.own 0 w) ⟨t, 1, w, u8 (leB n w), 0⟩
theorem QjE {P : Prg} {f t0 : Nat} (b : Qf P f 21 [.tmp 4] (Q0 t0)) : QgP t0 P f := by
 intro n w hw hn
 refine VO.of_walk rfl (by simp [QeO]) (by simp [okr]) (ACall.of_body b (by simp) ?_)
 simp (disch := omega) only [rq, simprocAttr, Q0]
 refine Qx.by (ι := Nat) (fun k => ⟨[(6, .int .i64 k), (5, .own 0 k), (1, .int .i64 w), (0, .int .u64 ((n / 256 ^ k : Nat) : Int))], [⟨t0, 1, k, u8 ((leB n w).take k), 0⟩]⟩) (fun k => k ≤ w) (fun k => w - k) 0
  (Le.trans (Le.virt 5 t0 1 (by omega) rfl) (Le.slots (by simp [Am.look]))) (by omega) ?_
 intro k hk
 have hdiv : n / 256 ^ k ≤ n := Nat.div_le_self _ _
 by_cases hlt : k < w
 ·have hl : (u8 ((leB n w).take k)).length = k := by simp [Qy, Qd]; omega
  have e6 := QaX (n := n) hlt
  have e2 : n / 256 ^ (k + 1) = n / 256 ^ k / 256 := by rw [Nat.pow_succ, ← Nat.div_div_eq_div_mul]
  generalize hm : n / 256 ^ k = m at *
  have e3 : (UInt8.ofNat (m % 256)).toNat = m % 256 := by simp
  have e5 : ((m : Int) % 256) = ((m % 256 : Nat) : Int) := by omega
  have e7 : u8 ((leB n w).take k) ++ [AV.int .u8 ((m : Int) % 256)] = u8 ((leB n w).take (k + 1)) := by
   rw [e6, ← JS, QhX, Qj6, e3, e5]
  simp (disch := omega) only [rq, simprocAttr, hl]
  rw [e7]
  refine ⟨k + 1, by omega, by omega, Le.drop 1 2 (by omega) rfl ?_ ?_⟩
  ·rw [e2]; simp [Am.look, Qu, frzL, Qs]
  ·intro i y hy
   match i, hy with
   | 0, hy =>
    simp at hy
    subst hy
    exact ⟨u8 ((leB n w).take (k + 1)), by simp, by simp only [Qu]; exact frzL_T _ (Qv _)⟩
   | i + 1, hy => simp at hy
 ·have ek : k = w := by omega
  subst ek
  have e7 : (leB n k).take k = leB n k := List.take_of_length_le (by rw [Qd]; exact Nat.le_refl _)
  simp (disch := omega) only [rq, simprocAttr, e7]
  exact ⟨0, rfl, rfl⟩
def QmS (t : Nat) (P : Prg) (f : Nat) : Prop := ∀ (c b r tag : Nat), Qbd c b r → tag < 65536 → VO P f [JI c b r, .int .u64 tag] (.own 0 16) ⟨t, 1, 16, u8 (Qci c b r tag), 0⟩
theorem QcB (c b r tag : Nat) : (Qci c b r tag).length = 16 := by simp [Qci, Qd]
set_option maxRecDepth 20000 in
theorem Qqe {P : Prg} {f fW t0 t1 : Nat} (bd : Qf P f 46 [.tmp 4] (XH fW t0 t1)) (hO : QgP t1 P fW) (hW : Qbu P fW) : QmS t1 P f := by
 intro c b r tag hok ht
 obtain ⟨q1, q2, q3, q4, q5⟩ := hok
 have hb : b ≤ 24 := by rcases (Qag b).1 q3 with h | h | h <;> omega
 have e1 : c * b ≤ 6 * 24 := Nat.mul_le_mul (by omega) hb
 have e2 : r * (c * b / 8) ≤ 1048576 * 18 := Nat.mul_le_mul (by omega) (by omega)
 have hfb : Qci c b r tag = Qci c b r tag := rfl
 conv at hfb => rhs; unfold Qci
 generalize Qci c b r tag = F at hfb
 generalize hS : c * b / 8 = S at *
 generalize hT : r * S = T at *
 have m1 : (c : Int) * b = ((c * b : Nat) : Int) := by simp
 have m2 : ((c * b : Nat) : Int) / 8 = (S : Int) := by omega
 have m3 : (r : Int) * (S : Int) = (T : Int) := by rw [← hT]; simp
 generalize c * b = cb at *
 refine VO.of_walk (by simp [isDL, isD, JI]) (by simp [QeO]) (by simp [okr]) (ACall.of_body bd (by simp) ?_)
 simp (disch := omega) only [rq, simprocAttr, XH, JI, m1, m2]
 refine Qb.vo (hO tag 2 (by omega) (by omega)) ?_
 simp (disch := omega) only [rq, simprocAttr, shr]
 refine Qb.vc (hW c 2 (by omega) (by omega)) ?_
 simp (disch := omega) only [rq, simprocAttr, bs, Qd]
 refine Qb.vc (hW r 4 (by omega) (by omega)) ?_
 simp (disch := omega) only [rq, simprocAttr, bs, Qd, m3]
 refine Qb.vc (hW T 4 (by omega) (by omega)) ?_
 simp (disch := omega) only [rq, simprocAttr, bs, Qd]
 refine Qb.vc (hW S 2 (by omega) (by omega)) ?_
 simp (disch := omega) only [rq, simprocAttr, bs, Qd]
 refine Qb.vc (hW b 2 (by omega) (by omega)) ?_
 simp (disch := omega) only [rq, simprocAttr, bs, Qd]
 refine ⟨1, ?_, rfl⟩
 simp [hfb]
def QmI (P : Prg) (f : Nat) : Prop := ∀ (c b r : Nat), Qbd c b r → VC P f [JI c b r] (bs (Z9 c b r false 0))
theorem Qqf {P : Prg} {f fF t0 : Nat} (bd : Qf P f 5 [.tmp 2] (XI fF t0)) (t : Nat) (hF : QmS t P fF) : QmI P f := by
 intro c b r hok
 refine VC.of_walk 1 rfl (QC _) (ACall.of_body bd (by simp) ?_)
 have := hF c b r 1 hok (by omega)
 rw [JI] at this
 simp (disch := omega) only [rq, simprocAttr, XI, JI]
 refine Qb.vo this ?_
 simp (disch := omega) only [rq, simprocAttr, shr]
 simp [QF, Qu, frzL, Qs, frzL_T _ (Qv _), bs, Z9, QcB]
def QrF (P : Prg) (f : Nat) : Prop := ∀ (c b r m : Nat), Qbd c b r → m < 4294967296 → VC P f [JI c b r, .int .u32 m] (bs (Z9 c b r true m))
theorem Qn8 {P : Prg} {f fF fW t0 t1 : Nat} (bd : Qf P f 25 [.tmp 4] (Xf fF fW t0 t1)) (hF : QmS t1 P fF) (hW : Qbu P fW) : QrF P f := by
 intro c b r m hok hm
 obtain ⟨q1, q2, q3, q4, q5⟩ := hok
 have hb : b ≤ 24 := by rcases (Qag b).1 q3 with h | h | h <;> omega
 refine VC.of_walk 1 rfl (QC _) (ACall.of_body bd (by simp) ?_)
 have := hF c b r 65534 ⟨q1, q2, q3, q4, q5⟩ (by omega)
 rw [JI] at this
 simp (disch := omega) only [rq, simprocAttr, Xf, JI]
 refine Qb.vo this ?_
 simp (disch := omega) only [rq, simprocAttr, shr]
 refine Qb.vc (hW b 2 (by omega) (by omega)) ?_
 simp (disch := omega) only [rq, simprocAttr, bs, Qd]
 refine Qb.vc (hW m 4 (by omega) (by omega)) ?_
 simp (disch := omega) only [rq, simprocAttr, bs, Qd]
 have hc : u8 (Qos c b r m) = u8 (Qci c b r 65534) ++ [.int .u8 22, .int .u8 0] ++ u8 (leB b 2) ++ u8 (leB m 4) ++ QlK := by
  rw [QsH, Qos, show leB 22 2 = [22, 0] by decide]
  simp only [← JS]
  rfl
 have hl : (Qos c b r m).length = 40 := by simp [Qos, QcB, Qd, Qif]
 rw [QlK] at hc
 rw [← hc]
 simp [QF, Qu, frzL, Qs, frzL_T _ (Qv _), Z9, hl]
theorem Qa8 (c b r m : Nat) : Z9 c b r false m = Z9 c b r false 0 := rfl
theorem Qsv : ∀ (k n : Nat), n < 256 ^ k → leN (leB n k) = n
 | 0, n, h => by simp at h; subst h; rfl
 | k + 1, n, h => by
  have h1 : n / 256 < 256 ^ k := by rw [Nat.pow_succ] at h; exact Nat.div_lt_of_lt_mul (by omega)
  have h2 : (UInt8.ofNat (n % 256)).toNat = n % 256 := by simp
  simp only [leB, leN, Qsv k _ h1, h2]
  omega
def fld (l : List UInt8) (i n : Nat) : Nat := leN ((l.drop i).take n)
def Fv (l : List UInt8) (i n : Nat) : Nat := if i + n ≤ l.length then fld l i n else 0
theorem QoE (l : List UInt8) (i n : Nat) (hn : n ≤ 4) : fld l i n < 4294967296 := by
 have h1 := QeA ((l.drop i).take n)
 have h2 : 8 * ((l.drop i).take n).length ≤ 32 := by simp; omega
 have h3 := Nat.pow_le_pow_right (n := 2) (by omega) h2
 unfold fld; omega
theorem Qzc (l : List UInt8) (i n : Nat) (hn : n ≤ 4) : Fv l i n < 4294967296 := by
 unfold Fv; split
 ·exact QoE l i n hn
 ·omega
theorem Qfn {l : List UInt8} {i n : Nat} (h : i + n ≤ l.length) : Fv l i n = fld l i n := by simp [Fv, h]
def QaU (l : List UInt8) : Option (Nat × Nat × Nat) :=
 if Qbd (fld l 2 2) (fld l 14 2) (fld l 4 4) ∧ (l = Z9 (fld l 2 2) (fld l 14 2) (fld l 4 4) false 0 ∨ l = Z9 (fld l 2 2) (fld l 14 2) (fld l 4 4) true (fld l 20 4)) then some (fld l 2 2, fld l 14 2, fld l 4 4) else none
def Xl : Option (Nat × Nat × Nat) → AV
 | none => .tup [JI 0 0 0, .int .i64 12]
 | some (c, b, r) => .tup [JI c b r, .int .i64 0]
theorem Qkl (o : Option (Nat × Nat × Nat)) : isD (Xl o) = true := by rcases o with _ | ⟨c, b, r⟩ <;> rfl
theorem Qdj (c b r : Nat) (w : Bool) (m : Nat) : (Z9 c b r w m).length = if w then 40 else 16 := by
 cases w <;> simp [Z9, Qos, QcB, Qd, Qif]
theorem Qww {c b r tag : Nat} (rest : List UInt8) (h : tag < 65536) : fld (Qci c b r tag ++ rest) 0 2 = tag := by
 simp only [fld, List.drop_zero, Qci, List.append_assoc]
 rw [List.take_left' (Qd 2 tag), Qsv 2 tag h]
theorem Qwr {c b r m : Nat} {w : Bool} : fld (Z9 c b r w m) 0 2 = if w then 65534 else 1 := by
 cases w with
 | false =>
  have := Qww (c := c) (b := b) (r := r) (tag := 1) [] (by omega)
  rw [List.append_nil] at this
  exact this
 | true =>
  have := Qww (c := c) (b := b) (r := r) (tag := 65534) (leB 22 2 ++ (leB b 2 ++ (leB m 4 ++ Qif))) (by omega)
  simpa [Z9, Qos, List.append_assoc] using this
theorem Qbf (l : List UInt8) : (QaU l = none ∧ ∀ w, ¬ (Qbd (fld l 2 2) (fld l 14 2) (fld l 4 4) ∧ l = Z9 (fld l 2 2) (fld l 14 2) (fld l 4 4) w (fld l 20 4))) ∨
  (QaU l = some (fld l 2 2, fld l 14 2, fld l 4 4) ∧ Qbd (fld l 2 2) (fld l 14 2) (fld l 4 4) ∧ ∃ w, l = Z9 (fld l 2 2) (fld l 14 2) (fld l 4 4) w (fld l 20 4)) := by
 by_cases h : Qbd (fld l 2 2) (fld l 14 2) (fld l 4 4) ∧ (l = Z9 (fld l 2 2) (fld l 14 2) (fld l 4 4) false 0 ∨ l = Z9 (fld l 2 2) (fld l 14 2) (fld l 4 4) true (fld l 20 4))
 ·refine .inr ⟨by rw [QaU, if_pos h], h.1, ?_⟩
  rcases h.2 with h | h
  ·exact ⟨false, by rw [Qa8]; exact h⟩
  ·exact ⟨true, h⟩
 ·refine .inl ⟨by rw [QaU, if_neg h], fun w h' => h ⟨h'.1, ?_⟩⟩
  cases w with
  | false => exact .inl (by rw [Qa8] at h'; exact h'.2)
  | true => exact .inr h'.2
theorem QfN {l : List UInt8} {c b r m : Nat} {w : Bool} (h : l = Z9 c b r w m) : l.length = if w then 40 else 16 := by
 have := congrArg List.length h
 rwa [Qdj] at this
theorem QxO {l : List UInt8} (h : 16 ≤ l.length) : Fv l 2 2 = fld l 2 2 ∧ Fv l 14 2 = fld l 14 2 ∧ Fv l 4 4 = fld l 4 4 ∧ Fv l 0 2 = fld l 0 2 :=
 ⟨Qfn (by omega), Qfn (by omega), Qfn (by omega), Qfn (by omega)⟩
theorem Qj9 {l : List UInt8} (hok : Qbd (Fv l 2 2) (Fv l 14 2) (Fv l 4 4)) {w : Bool} (h : l = Z9 (Fv l 2 2) (Fv l 14 2) (Fv l 4 4) w (Fv l 20 4)) : QaU l = some (Fv l 2 2, Fv l 14 2, Fv l 4 4) := by
 have hl := QfN h
 obtain ⟨e1, e2, e3, _⟩ := QxO (l := l) (by rw [hl]; split <;> omega)
 rw [e1, e2, e3] at h hok ⊢
 rcases Qbf l with ⟨_, h2⟩ | ⟨h1, _⟩
 ·refine absurd ⟨hok, ?_⟩ (h2 w)
  cases w with
  | false => rw [Qa8] at h ⊢; exact h
  | true =>
   have : Fv l 20 4 = fld l 20 4 := Qfn (by rw [hl]; decide)
   rwa [this] at h
 ·exact h1
theorem Qgl {l : List UInt8} {w : Bool} (hw : decide (Fv l 0 2 = 65534) = w) (h : ¬ Qbd (Fv l 2 2) (Fv l 14 2) (Fv l 4 4) ∨ l ≠ Z9 (Fv l 2 2) (Fv l 14 2) (Fv l 4 4) w (Fv l 20 4)) : QaU l = none := by
 rcases Qbf l with ⟨h1, _⟩ | ⟨_, hok, w', hw'⟩
 ·exact h1
 ·exfalso
  have hl := QfN hw'
  obtain ⟨e1, e2, e3, e0⟩ := QxO (l := l) (by rw [hl]; split <;> omega)
  rw [e1, e2, e3] at h
  rcases h with h | h
  ·exact h hok
  ·have ht : fld l 0 2 = if w' then 65534 else 1 := by
    conv => lhs; rw [hw']
    exact Qwr
   have : w = w' := by
    rw [← hw, e0, ht]
    cases w' <;> simp
   subst this
   apply h
   cases w with
   | false => rw [Qa8]; rw [Qa8] at hw'; exact hw'
   | true =>
    have : Fv l 20 4 = fld l 20 4 := Qfn (by rw [hl]; decide)
    rw [this]; exact hw'
def QgQ (P : Prg) (f : Nat) : Prop := ∀ l : List UInt8, l.length < 4611686018427387904 → VC P f [bs l] (Xl (QaU l))
def QmC (P : Prg) (f : Nat) : Prop := ∀ a b : List UInt8, VC P f [bs a, bs b] (.bool (a == b))
theorem Qrg {P : Prg} {f : Nat} (bd : Qf P f 10 [.tmp 4] Qb8) : QmC P f := by
 intro a b
 refine VC.of_acall (by simp [isDL, QC]) rfl (ACall.of_body bd (by simp) ?_)
 simp (disch := omega) only [rq, simprocAttr, Qb8, bs, Qfo]
def QcW (l : List UInt8) : Nat → List AV
 | 0 => [.int .u64 0, .int .u64 0, .int .u64 0, .int .u64 0, .int .u64 0, .int .u64 0, .int .u64 0, .int .u64 0, .int .u64 0]
 | 1 => [.int .u64 (Fv l 0 2 : Nat), .int .u64 0, .int .u64 0, .int .u64 0, .int .u64 0, .int .u64 0, .int .u64 0, .int .u64 0, .int .u64 0]
 | 2 => [.int .u64 (Fv l 0 2 : Nat), .int .u64 (Fv l 2 2 : Nat), .int .u64 0, .int .u64 0, .int .u64 0, .int .u64 0, .int .u64 0, .int .u64 0, .int .u64 0]
 | 3 => [.int .u64 (Fv l 0 2 : Nat), .int .u64 (Fv l 2 2 : Nat), .int .u64 (Fv l 4 4 : Nat), .int .u64 0, .int .u64 0, .int .u64 0, .int .u64 0, .int .u64 0, .int .u64 0]
 | 4 => [.int .u64 (Fv l 0 2 : Nat), .int .u64 (Fv l 2 2 : Nat), .int .u64 (Fv l 4 4 : Nat), .int .u64 (Fv l 8 4 : Nat), .int .u64 0, .int .u64 0, .int .u64 0, .int .u64 0, .int .u64 0]
 | 5 => [.int .u64 (Fv l 0 2 : Nat), .int .u64 (Fv l 2 2 : Nat), .int .u64 (Fv l 4 4 : Nat), .int .u64 (Fv l 8 4 : Nat), .int .u64 (Fv l 12 2 : Nat), .int .u64 0, .int .u64 0, .int .u64 0, .int .u64 0]
 | 6 => [.int .u64 (Fv l 0 2 : Nat), .int .u64 (Fv l 2 2 : Nat), .int .u64 (Fv l 4 4 : Nat), .int .u64 (Fv l 8 4 : Nat), .int .u64 (Fv l 12 2 : Nat), .int .u64 (Fv l 14 2 : Nat), .int .u64 0, .int .u64 0, .int .u64 0]
 | 7 => [.int .u64 (Fv l 0 2 : Nat), .int .u64 (Fv l 2 2 : Nat), .int .u64 (Fv l 4 4 : Nat), .int .u64 (Fv l 8 4 : Nat), .int .u64 (Fv l 12 2 : Nat), .int .u64 (Fv l 14 2 : Nat), .int .u64 (Fv l 16 2 : Nat), .int .u64 0, .int .u64 0]
 | 8 => [.int .u64 (Fv l 0 2 : Nat), .int .u64 (Fv l 2 2 : Nat), .int .u64 (Fv l 4 4 : Nat), .int .u64 (Fv l 8 4 : Nat), .int .u64 (Fv l 12 2 : Nat), .int .u64 (Fv l 14 2 : Nat), .int .u64 (Fv l 16 2 : Nat), .int .u64 (Fv l 18 2 : Nat), .int .u64 0]
 | 9 => [.int .u64 (Fv l 0 2 : Nat), .int .u64 (Fv l 2 2 : Nat), .int .u64 (Fv l 4 4 : Nat), .int .u64 (Fv l 8 4 : Nat), .int .u64 (Fv l 12 2 : Nat), .int .u64 (Fv l 14 2 : Nat), .int .u64 (Fv l 16 2 : Nat), .int .u64 (Fv l 18 2 : Nat), .int .u64 (Fv l 20 4 : Nat)]
 | _ => []
def Qbh : Nat → Nat
 | 0 => 0
 | 1 => 2
 | 2 => 4
 | 3 => 8
 | 4 => 12
 | 5 => 14
 | 6 => 16
 | 7 => 18
 | 8 => 20
 | 9 => 24
 | _ => 0
set_option maxRecDepth 20000 in
set_option maxHeartbeats 4000000 in
theorem QyV {P : Prg} {f fA fC fF fE t0 t1 g0 : Nat} (bd : Qf P f 61 [.cell 2 t0, .tmp 3] (QaN fA fC fF fE t0 t1 g0)) (hA : QiM P fA) (hC : QdY P fC) (hF : QrJ P fF) (hE : QmC P fE) (h0 : P.G.lookup g0 = some J9) (ht : Q6 P t0 = some (some 3)) : QgQ P f := by
 intro l hl
 refine VC.of_acall (by simp [isDL, QC]) (Qkl _) (ACall.of_body bd (by simp) ?_)
 have g0' : QuE P.G g0 = .cell J9 := by simp [QuE, h0]
 simp (disch := omega) only [rq, simprocAttr, QaN, bs, g0', J9]
 refine Qx.by (ι := Nat) (fun k => ⟨[(11, .int .i64 k), (4, .int .i64 (Qbh k)), (10, .agg J9), (5, .ref 1 1 0), (2, .ref 0 1 0), (3, .int .i64 0), (0, .list l.length (u8 l))], [⟨t0, 3, 1, [.int .i64 0, .int .i64 0, .int .i64 0], 0⟩, ⟨t1, 9, 1, QcW l k, 0⟩]⟩) (fun k => k ≤ 9) (fun k => 9 - k) 0 (Le.slots (by simp [Am.look, Qbh, J9])) (by omega) ?_
 intro k hk
 have hA' := fun a w h1 h2 h3 => hA l a w hl h1 h2 h3
 simp only [bs] at hA'
 by_cases h9 : k = 9
 ·subst h9
  have b1 := Qzc l 2 2 (by omega)
  have b2 := Qzc l 14 2 (by omega)
  have b3 := Qzc l 4 4 (by omega)
  have b8 := Qzc l 20 4 (by omega)
  have hC' := hC (Fv l 2 2) (Fv l 14 2) (Fv l 4 4)
  rw [JI] at hC'
  simp (disch := omega) only [rq, simprocAttr, QcW]
  refine Qb.vc hC' ?_
  by_cases hok : Qbd (Fv l 2 2) (Fv l 14 2) (Fv l 4 4)
  ·have hF' := hF (Fv l 2 2) (Fv l 14 2) (Fv l 4 4) (decide (Fv l 0 2 = 65534)) (Fv l 20 4) hok b8
   rw [JI] at hF'
   simp only [Qq9, if_pos hok]
   by_cases hw : Fv l 0 2 = 65534
   ·have hw' : ((Fv l 0 2 : Int) = 65534) = True := eq_true (by omega)
    have hq : decide (Fv l 0 2 = 65534) = true := by simp [hw]
    rw [hq] at hF'
    simp (disch := omega) only [rq, simprocAttr, hw']
    refine Qb.vc hF' ?_
    simp (disch := omega) only [rq, simprocAttr]
    refine Qb.vc (hE l _) ?_
    by_cases he : l = Z9 (Fv l 2 2) (Fv l 14 2) (Fv l 4 4) true (Fv l 20 4)
    ·have he' : (l == Z9 (Fv l 2 2) (Fv l 14 2) (Fv l 4 4) true (Fv l 20 4)) = true := by simpa using he
     have hr := Qj9 hok (w := true) he
     rw [hr]
     simp (disch := omega) only [rq, simprocAttr, he', Xl, JI, QD, ht, Qz]
    ·have he' : (l == Z9 (Fv l 2 2) (Fv l 14 2) (Fv l 4 4) true (Fv l 20 4)) = false := by simpa using he
     have hr := Qgl (l := l) (w := true) (by simp [hw]) (.inr he)
     rw [hr]
     simp (disch := omega) only [rq, simprocAttr, he', Xl, JI, QD, ht, Qz]
   ·have hw' : ((Fv l 0 2 : Int) = 65534) = False := eq_false (by omega)
    have hq : decide (Fv l 0 2 = 65534) = false := by simp [hw]
    rw [hq] at hF'
    simp (disch := omega) only [rq, simprocAttr, hw']
    refine Qb.vc hF' ?_
    simp (disch := omega) only [rq, simprocAttr]
    refine Qb.vc (hE l _) ?_
    by_cases he : l = Z9 (Fv l 2 2) (Fv l 14 2) (Fv l 4 4) false (Fv l 20 4)
    ·have he' : (l == Z9 (Fv l 2 2) (Fv l 14 2) (Fv l 4 4) false (Fv l 20 4)) = true := by simpa using he
     have hr := Qj9 hok (w := false) he
     rw [hr]
     simp (disch := omega) only [rq, simprocAttr, he', Xl, JI, QD, ht, Qz]
    ·have he' : (l == Z9 (Fv l 2 2) (Fv l 14 2) (Fv l 4 4) false (Fv l 20 4)) = false := by simpa using he
     have hr := Qgl (l := l) (w := false) (by simp [hw]) (.inr he)
     rw [hr]
     simp (disch := omega) only [rq, simprocAttr, he', Xl, JI, QD, ht, Qz]
  ·simp only [Qq9, if_neg hok]
   have hr := Qgl (l := l) (w := decide (Fv l 0 2 = 65534)) rfl (.inl hok)
   rw [hr]
   simp (disch := omega) only [rq, simprocAttr, Xl, JI, QD, ht, Qz]
 have hk9 : k = 0 ∨ k = 1 ∨ k = 2 ∨ k = 3 ∨ k = 4 ∨ k = 5 ∨ k = 6 ∨ k = 7 ∨ k = 8 := by omega
 rcases hk9 with rfl | rfl | rfl | rfl | rfl | rfl | rfl | rfl | rfl
 ·by_cases hfit : 0 + 2 ≤ l.length
  ·have e1 := hA' 0 2 (by omega) (by omega) (by omega)
   rw [if_pos hfit] at e1
   have e2 : leN ((l.drop 0).take 2) = Fv l 0 2 := by rw [Qfn hfit]; rfl
   rw [e2] at e1
   simp (disch := omega) only [rq, simprocAttr, J9, QcW, Qbh]
   refine Qb.vc e1 ?_
   simp (disch := omega) only [rq, simprocAttr, J9, QcW, Qbh]
   exact ⟨1, by omega, by omega, Le.slots (by simp [Am.look, Qbh, J9])⟩
  ·have e2 : Fv l 0 2 = 0 := by simp only [Fv, if_neg hfit]
   simp (disch := omega) only [rq, simprocAttr, J9, QcW, Qbh]
   refine ⟨1, by omega, by omega, ?_⟩
   simp only [QcW, e2]
   exact Le.slots (by simp [Am.look, Qbh, J9])
 ·by_cases hfit : 2 + 2 ≤ l.length
  ·have e1 := hA' 2 2 (by omega) (by omega) (by omega)
   rw [if_pos hfit] at e1
   have e2 : leN ((l.drop 2).take 2) = Fv l 2 2 := by rw [Qfn hfit]; rfl
   rw [e2] at e1
   simp (disch := omega) only [rq, simprocAttr, J9, QcW, Qbh]
   refine Qb.vc e1 ?_
   simp (disch := omega) only [rq, simprocAttr, J9, QcW, Qbh]
   exact ⟨2, by omega, by omega, Le.slots (by simp [Am.look, Qbh, J9])⟩
  ·have e2 : Fv l 2 2 = 0 := by simp only [Fv, if_neg hfit]
   simp (disch := omega) only [rq, simprocAttr, J9, QcW, Qbh]
   refine ⟨2, by omega, by omega, ?_⟩
   simp only [QcW, e2]
   exact Le.slots (by simp [Am.look, Qbh, J9])
 ·by_cases hfit : 4 + 4 ≤ l.length
  ·have e1 := hA' 4 4 (by omega) (by omega) (by omega)
   rw [if_pos hfit] at e1
   have e2 : leN ((l.drop 4).take 4) = Fv l 4 4 := by rw [Qfn hfit]; rfl
   rw [e2] at e1
   simp (disch := omega) only [rq, simprocAttr, J9, QcW, Qbh]
   refine Qb.vc e1 ?_
   simp (disch := omega) only [rq, simprocAttr, J9, QcW, Qbh]
   exact ⟨3, by omega, by omega, Le.slots (by simp [Am.look, Qbh, J9])⟩
  ·have e2 : Fv l 4 4 = 0 := by simp only [Fv, if_neg hfit]
   simp (disch := omega) only [rq, simprocAttr, J9, QcW, Qbh]
   refine ⟨3, by omega, by omega, ?_⟩
   simp only [QcW, e2]
   exact Le.slots (by simp [Am.look, Qbh, J9])
 ·by_cases hfit : 8 + 4 ≤ l.length
  ·have e1 := hA' 8 4 (by omega) (by omega) (by omega)
   rw [if_pos hfit] at e1
   have e2 : leN ((l.drop 8).take 4) = Fv l 8 4 := by rw [Qfn hfit]; rfl
   rw [e2] at e1
   simp (disch := omega) only [rq, simprocAttr, J9, QcW, Qbh]
   refine Qb.vc e1 ?_
   simp (disch := omega) only [rq, simprocAttr, J9, QcW, Qbh]
   exact ⟨4, by omega, by omega, Le.slots (by simp [Am.look, Qbh, J9])⟩
  ·have e2 : Fv l 8 4 = 0 := by simp only [Fv, if_neg hfit]
   simp (disch := omega) only [rq, simprocAttr, J9, QcW, Qbh]
   refine ⟨4, by omega, by omega, ?_⟩
   simp only [QcW, e2]
   exact Le.slots (by simp [Am.look, Qbh, J9])
 ·by_cases hfit : 12 + 2 ≤ l.length
  ·have e1 := hA' 12 2 (by omega) (by omega) (by omega)
   rw [if_pos hfit] at e1
   have e2 : leN ((l.drop 12).take 2) = Fv l 12 2 := by rw [Qfn hfit]; rfl
   rw [e2] at e1
   simp (disch := omega) only [rq, simprocAttr, J9, QcW, Qbh]
   refine Qb.vc e1 ?_
   simp (disch := omega) only [rq, simprocAttr, J9, QcW, Qbh]
   exact ⟨5, by omega, by omega, Le.slots (by simp [Am.look, Qbh, J9])⟩
  ·have e2 : Fv l 12 2 = 0 := by simp only [Fv, if_neg hfit]
   simp (disch := omega) only [rq, simprocAttr, J9, QcW, Qbh]
   refine ⟨5, by omega, by omega, ?_⟩
   simp only [QcW, e2]
   exact Le.slots (by simp [Am.look, Qbh, J9])
 ·by_cases hfit : 14 + 2 ≤ l.length
  ·have e1 := hA' 14 2 (by omega) (by omega) (by omega)
   rw [if_pos hfit] at e1
   have e2 : leN ((l.drop 14).take 2) = Fv l 14 2 := by rw [Qfn hfit]; rfl
   rw [e2] at e1
   simp (disch := omega) only [rq, simprocAttr, J9, QcW, Qbh]
   refine Qb.vc e1 ?_
   simp (disch := omega) only [rq, simprocAttr, J9, QcW, Qbh]
   exact ⟨6, by omega, by omega, Le.slots (by simp [Am.look, Qbh, J9])⟩
  ·have e2 : Fv l 14 2 = 0 := by simp only [Fv, if_neg hfit]
   simp (disch := omega) only [rq, simprocAttr, J9, QcW, Qbh]
   refine ⟨6, by omega, by omega, ?_⟩
   simp only [QcW, e2]
   exact Le.slots (by simp [Am.look, Qbh, J9])
 ·by_cases hfit : 16 + 2 ≤ l.length
  ·have e1 := hA' 16 2 (by omega) (by omega) (by omega)
   rw [if_pos hfit] at e1
   have e2 : leN ((l.drop 16).take 2) = Fv l 16 2 := by rw [Qfn hfit]; rfl
   rw [e2] at e1
   simp (disch := omega) only [rq, simprocAttr, J9, QcW, Qbh]
   refine Qb.vc e1 ?_
   simp (disch := omega) only [rq, simprocAttr, J9, QcW, Qbh]
   exact ⟨7, by omega, by omega, Le.slots (by simp [Am.look, Qbh, J9])⟩
  ·have e2 : Fv l 16 2 = 0 := by simp only [Fv, if_neg hfit]
   simp (disch := omega) only [rq, simprocAttr, J9, QcW, Qbh]
   refine ⟨7, by omega, by omega, ?_⟩
   simp only [QcW, e2]
   exact Le.slots (by simp [Am.look, Qbh, J9])
 ·by_cases hfit : 18 + 2 ≤ l.length
  ·have e1 := hA' 18 2 (by omega) (by omega) (by omega)
   rw [if_pos hfit] at e1
   have e2 : leN ((l.drop 18).take 2) = Fv l 18 2 := by rw [Qfn hfit]; rfl
   rw [e2] at e1
   simp (disch := omega) only [rq, simprocAttr, J9, QcW, Qbh]
   refine Qb.vc e1 ?_
   simp (disch := omega) only [rq, simprocAttr, J9, QcW, Qbh]
   exact ⟨8, by omega, by omega, Le.slots (by simp [Am.look, Qbh, J9])⟩
  ·have e2 : Fv l 18 2 = 0 := by simp only [Fv, if_neg hfit]
   simp (disch := omega) only [rq, simprocAttr, J9, QcW, Qbh]
   refine ⟨8, by omega, by omega, ?_⟩
   simp only [QcW, e2]
   exact Le.slots (by simp [Am.look, Qbh, J9])
 ·by_cases hfit : 20 + 4 ≤ l.length
  ·have e1 := hA' 20 4 (by omega) (by omega) (by omega)
   rw [if_pos hfit] at e1
   have e2 : leN ((l.drop 20).take 4) = Fv l 20 4 := by rw [Qfn hfit]; rfl
   rw [e2] at e1
   simp (disch := omega) only [rq, simprocAttr, J9, QcW, Qbh]
   refine Qb.vc e1 ?_
   simp (disch := omega) only [rq, simprocAttr, J9, QcW, Qbh]
   exact ⟨9, by omega, by omega, Le.slots (by simp [Am.look, Qbh, J9])⟩
  ·have e2 : Fv l 20 4 = 0 := by simp only [Fv, if_neg hfit]
   simp (disch := omega) only [rq, simprocAttr, J9, QcW, Qbh]
   refine ⟨9, by omega, by omega, ?_⟩
   simp only [QcW, e2]
   exact Le.slots (by simp [Am.look, Qbh, J9])
set_option maxRecDepth 20000 in
set_option maxHeartbeats 1000000 in
theorem Qtt {P : Prg} {f fO fC fP fM t0 : Nat} (bd : Qf P f 50 [.cell 2 t0, .tmp 3] (Ze fO fC fP fM t0)) (hO : QdW P fO) (hC : QdY P fC) (hP : QmI P fP) (hM : QrF P fM) (ht : Q6 P t0 = some (some 3)) : QgQ P f := by
 intro l hl
 refine VC.of_acall (by simp [isDL, QC]) (Qkl _) (ACall.of_body bd (by simp) ?_)
 by_cases h1 : l.length = 16 ∨ l.length = 40
 case neg =>
  have hr : QaU l = none := by
   rcases Qbf l with ⟨h, _⟩ | ⟨_, _, w, hw⟩
   ·exact h
   ·have := QfN hw
    cases w <;> simp at this <;> omega
  rw [hr]
  simp (disch := omega) only [rq, simprocAttr, Ze, bs, QD, Xl, JI, ht, Qz]
 have hg : 16 ≤ l.length := by omega
 have d1 := Xy (l := l) (i := 2) (n := 2) (by omega)
 have d2 := Xy (l := l) (i := 4) (n := 4) (by omega)
 have d3 := Xy (l := l) (i := 14) (n := 2) (by omega)
 have b1 := QoE l 2 2 (by omega)
 have b2 := QoE l 14 2 (by omega)
 have b3 := QoE l 4 4 (by omega)
 have b4 := QoE l 20 4 (by omega)
 have hO1 := hO ((l.drop 2).take 2) (by omega)
 have hO2 := hO ((l.drop 4).take 4) (by omega)
 have hO3 := hO ((l.drop 14).take 2) (by omega)
 have hO4 := hO ((l.drop 20).take 4) (by simp; omega)
 have hC' := hC (fld l 2 2) (fld l 14 2) (fld l 4 4)
 rw [JI] at hC'
 have r1 : QaU l = QaU l := rfl
 have rc := Qbf l
 rw [show leN ((l.drop 2).take 2) = fld l 2 2 from rfl] at hO1
 rw [show leN ((l.drop 4).take 4) = fld l 4 4 from rfl] at hO2
 rw [show leN ((l.drop 14).take 2) = fld l 14 2 from rfl] at hO3
 rw [show leN ((l.drop 20).take 4) = fld l 20 4 from rfl] at hO4
 simp only [bs, d1, d2, d3] at hO1 hO2 hO3 hO4
 have hP' := hP (fld l 2 2) (fld l 14 2) (fld l 4 4)
 have hM' := fun hok => hM (fld l 2 2) (fld l 14 2) (fld l 4 4) (fld l 20 4) hok b4
 rw [JI] at hP'
 simp only [JI] at hM'
 have lF : ∀ c b r, (Z9 c b r false 0).length = 16 := fun c b r => by simp [Qdj]
 have lT : ∀ c b r m, (Z9 c b r true m).length = 40 := fun c b r m => by simp [Qdj]
 rcases h1 with h1 | h1
 ·simp (disch := omega) only [rq, simprocAttr, Ze, bs, QaF, QbQ]
  refine QU.vc hO1 ?_
  simp (disch := omega) only [rq, simprocAttr, QaF, QbQ]
  refine QU.vc hO2 ?_
  simp (disch := omega) only [rq, simprocAttr, QaF, QbQ]
  refine QU.vc hO3 ?_
  simp (disch := omega) only [rq, simprocAttr]
  refine Qb.vc hC' ?_
  by_cases hok : Qbd (fld l 2 2) (fld l 14 2) (fld l 4 4)
  ·simp only [Qq9, if_pos hok]
   simp (disch := omega) only [rq, simprocAttr]
   refine Qb.vc (hP' hok) ?_
   by_cases he : l = Z9 (fld l 2 2) (fld l 14 2) (fld l 4 4) false 0
   ·have he' : (Z9 (fld l 2 2) (fld l 14 2) (fld l 4 4) false 0 == l) = true := by simpa using he.symm
    have hr : QaU l = some (fld l 2 2, fld l 14 2, fld l 4 4) := by rw [QaU, if_pos ⟨hok, .inl he⟩]
    rw [hr]
    simp (disch := omega) only [rq, simprocAttr, bs, Qfo, he', Xl, JI, QD, ht, Qz]
   ·have he' : (Z9 (fld l 2 2) (fld l 14 2) (fld l 4 4) false 0 == l) = false := by simpa using fun h => he h.symm
    have hr : QaU l = none := by
     rcases rc with ⟨h, _⟩ | ⟨_, _, w, hw⟩
     ·exact h
     ·cases w with
      | false => rw [Qa8] at hw; exact absurd hw he
      | true => have := QfN hw; simp at this; omega
    rw [hr]
    simp (disch := omega) only [rq, simprocAttr, bs, Qfo, he', Xl, JI, QD, ht, Qz]
  ·simp only [Qq9, if_neg hok]
   have hr : QaU l = none := by rw [QaU, if_neg (fun h => hok h.1)]
   rw [hr]
   simp (disch := omega) only [rq, simprocAttr, Xl, JI, QD, ht, Qz]
 ·have d4 := Xy (l := l) (i := 20) (n := 4) (by omega)
  simp only [d4] at hO4
  simp (disch := omega) only [rq, simprocAttr, Ze, bs, QaF, QbQ]
  refine QU.vc hO1 ?_
  simp (disch := omega) only [rq, simprocAttr, QaF, QbQ]
  refine QU.vc hO2 ?_
  simp (disch := omega) only [rq, simprocAttr, QaF, QbQ]
  refine QU.vc hO3 ?_
  simp (disch := omega) only [rq, simprocAttr]
  refine Qb.vc hC' ?_
  by_cases hok : Qbd (fld l 2 2) (fld l 14 2) (fld l 4 4)
  ·simp only [Qq9, if_pos hok]
   simp (disch := omega) only [rq, simprocAttr]
   refine Qb.vc (hP' hok) ?_
   simp (disch := omega) only [rq, simprocAttr, QaF, QbQ]
   refine QU.vc hO4 ?_
   simp (disch := omega) only [rq, simprocAttr]
   refine QU.vc (hM' hok) ?_
   by_cases he : l = Z9 (fld l 2 2) (fld l 14 2) (fld l 4 4) true (fld l 20 4)
   ·have he' : (Z9 (fld l 2 2) (fld l 14 2) (fld l 4 4) true (fld l 20 4) == l) = true := by simpa using he.symm
    have hr : QaU l = some (fld l 2 2, fld l 14 2, fld l 4 4) := by rw [QaU, if_pos ⟨hok, .inr he⟩]
    rw [hr]
    simp (disch := omega) only [rq, simprocAttr, bs, Qfo, he', Xl, JI, QD, ht, Qz]
   ·have he' : (Z9 (fld l 2 2) (fld l 14 2) (fld l 4 4) true (fld l 20 4) == l) = false := by simpa using fun h => he h.symm
    have hr : QaU l = none := by
     rcases rc with ⟨h, _⟩ | ⟨_, _, w, hw⟩
     ·exact h
     ·cases w with
      | false => have := QfN hw; simp at this; omega
      | true => exact absurd hw he
    rw [hr]
    simp (disch := omega) only [rq, simprocAttr, bs, Qfo, he', Xl, JI, QD, ht, Qz]
  ·simp only [Qq9, if_neg hok]
   have hr : QaU l = none := by rw [QaU, if_neg (fun h => hok h.1)]
   rw [hr]
   simp (disch := omega) only [rq, simprocAttr, Xl, JI, QD, ht, Qz]
theorem QgY (x : Int) : IntKind.i32.wrap x = (x + 2147483648) % 4294967296 - 2147483648 := by
 simp only [IntKind.wrap, IntKind.bits, IntKind.signed]
 simp
 omega
theorem Qon {a c s : Nat} (h : a < 2 ^ s) (h2 : a + c * 2 ^ s < 2147483648) : IntKind.i32.wrap (BitVec.ofInt IntKind.i32.bits (a : Int) ||| BitVec.ofInt IntKind.i32.bits ((c * 2 ^ s : Nat) : Int)).toNat = ((a + c * 2 ^ s : Nat) : Int) := by
 have e1 : (BitVec.ofInt IntKind.i32.bits (a : Int) ||| BitVec.ofInt IntKind.i32.bits ((c * 2 ^ s : Nat) : Int)).toNat = a ||| c * 2 ^ s := by
  rw [BitVec.toNat_or]
  simp only [IntKind.bits, BitVec.toNat_ofInt]
  congr 1
  ·omega
  ·omega
 rw [e1, Qsh h, QbB (by omega) (by omega)]
def Qj7 (b : Int) (s : List UInt8) : Int := if b = 8 then (leN s : Int) - 128 else if Jk b ≤ (leN s : Int) then (leN s : Int) - 2 * Jk b else leN s
def Qg3 (b : Int) (l : List UInt8) : List Int := (List.range (l.length / (b / 8).toNat)).map fun i => Qj7 b ((l.drop (i * (b / 8).toNat)).take (b / 8).toNat)
def X2 (b : Int) (l : List UInt8) : AV :=
 if Jk b = 0 then .tup [.list 0 [], .int .i64 2] else if l.length % (b / 8).toNat ≠ 0 then .tup [.list 0 [], .int .i64 12] else if 4000 < l.length / (b / 8).toNat then .tup [.list 0 [], .int .i64 4] else .tup [il (Qg3 b l), .int .i64 0]
theorem Qg7 (b : Int) (l : List UInt8) : isD (X2 b l) = true := by
 unfold X2; split <;> (try split) <;> (try split) <;> simp [isD, isDL, QZ]
theorem ZT (b : Int) (l : List UInt8) : (Qg3 b l).length = l.length / (b / 8).toNat := by simp [Qg3]
theorem Qyg {b : Int} {l : List UInt8} {i : Nat} (h : i < (Qg3 b l).length) : (Qg3 b l)[i] = Qj7 b ((l.drop (i * (b / 8).toNat)).take (b / 8).toNat) := by simp [Qg3]
theorem Qbe {b : Int} {l : List UInt8} {i : Nat} (h : i < l.length / (b / 8).toNat) : (Qg3 b l).take (i + 1) = (Qg3 b l).take i ++ [Qj7 b ((l.drop (i * (b / 8).toNat)).take (b / 8).toNat)] := by
 rw [List.take_succ_eq_append_getElem (by rw [ZT]; exact h), Qyg]
theorem QCm {l : List UInt8} {a : Nat} (h : a < l.length) : leN ((l.drop a).take 1) = l[a].toNat := by
 rw [List.drop_eq_getElem_cons h]; simp only [List.take_succ_cons, List.take_zero, leN]; omega
theorem QCl {l : List UInt8} {a : Nat} (h : a + 1 < l.length) : leN ((l.drop a).take 2) = l[a].toNat + l[a + 1].toNat * 256 := by
 rw [List.drop_eq_getElem_cons (by omega), List.drop_eq_getElem_cons (by omega)]; simp only [List.take_succ_cons, List.take_zero, leN]; omega
theorem QCk {l : List UInt8} {a : Nat} (h : a + 2 < l.length) : leN ((l.drop a).take 3) = l[a].toNat + l[a + 1].toNat * 256 + l[a + 2].toNat * 65536 := by
 have e : l[a + 2] = l[a + 1 + 1]'h := rfl
 rw [e, List.drop_eq_getElem_cons (by omega), List.drop_eq_getElem_cons (by omega), List.drop_eq_getElem_cons (by omega)]; simp only [List.take_succ_cons, List.take_zero, leN]; omega
def Qcm (P : Prg) (f : Nat) : Prop := ∀ (b : Int) (l : List UInt8), l.length < 4611686018427387904 → VC P f [.int .i64 b, bs l] (X2 b l)
theorem QA4 {n : Nat} (h : n < 65536) : (IntKind.i32.wrap ((n : Int) * 65536)).fdiv 65536 = Qj7 16 [] + (if 32768 ≤ (n : Int) then (n : Int) - 65536 else n) := by
 have : Qj7 16 [] = 0 := by decide
 rw [this, Int.fdiv_eq_ediv_of_nonneg _ (by omega), QgY]
 split <;> omega
theorem QA3 {n : Nat} (h : n < 16777216) : (IntKind.i32.wrap ((n : Int) * 256)).fdiv 256 = Qj7 24 [] + (if 8388608 ≤ (n : Int) then (n : Int) - 16777216 else n) := by
 have : Qj7 24 [] = 0 := by decide
 rw [this, Int.fdiv_eq_ediv_of_nonneg _ (by omega), QgY]
 split <;> omega
theorem Qvi {s : List UInt8} : Qj7 16 s = if 32768 ≤ (leN s : Int) then (leN s : Int) - 65536 else leN s := by simp [Qj7, Jk]
theorem Qvh {s : List UInt8} : Qj7 24 s = if 8388608 ≤ (leN s : Int) then (leN s : Int) - 16777216 else leN s := by simp [Qj7, Jk]
theorem QzO {s : List UInt8} : Qj7 8 s = (leN s : Int) - 128 := by simp [Qj7]
set_option maxRecDepth 20000 in
set_option maxHeartbeats 2000000 in
theorem QkG {P : Prg} {f fR t0 : Nat} (bd : Qf P f 81 [.tmp 4, .tmp 5] (Zx fR t0)) (hR : QiV P fR) : Qcm P f := by
 intro b l hl
 refine VC.of_walk 1 (by simp [isDL, isD, QC]) (Qg7 _ _) (ACall.of_body bd (by simp) ?_)
 have hR' := hR b
 rcases Zb b with ⟨rfl, h⟩ | ⟨rfl, h⟩ | ⟨rfl, h⟩ | ⟨h1, h2, h3, h⟩
 case inr.inr.inr =>
  simp only [Qay, if_pos h] at hR'
  simp only [X2, if_pos h]
  simp (disch := omega) only [rq, simprocAttr, Zx, bs]
  refine Qb.vc hR' ?_
  simp (disch := omega) only [rq, simprocAttr]
  simp [QF, Qu, frzL, Qs]
 ·simp only [Qay, h] at hR'
  rw [if_neg (by omega)] at hR'
  have hw : ((8 : Int) / 8).toNat = 1 := rfl
  simp only [X2, hw, h]
  rw [if_neg (by omega), if_neg (by omega)]
  have hL := ZT 8 l
  have hT := fun i => @Qbe 8 l i
  rw [hw] at hL hT
  generalize hS : Qg3 8 l = S at *
  simp (disch := omega) only [rq, simprocAttr, Zx, bs]
  refine Qb.vc hR' ?_
  by_cases h4 : 4000 < l.length
  ·rw [if_pos (by omega)]
   simp (disch := omega) only [rq, simprocAttr]
   simp [QF, Qu, frzL, Qs]
  rw [if_neg (by omega)]
  simp (disch := omega) only [rq, simprocAttr]
  refine Qx.by (ι := Nat) (fun k => ⟨[(11, .int .i64 k), (10, .own 0 k), (9, .int .i64 1), (0, .int .i64 8), (1, .list l.length (u8 l))], [⟨t0, 1, k, ks .i32 (S.take k), 0⟩]⟩) (fun k => k ≤ l.length) (fun k => l.length - k) 0 (Le.trans (Le.virt 10 t0 1 (by omega) rfl) (Le.slots (by simp [Am.look]))) (by omega) ?_
  intro k hk
  have lk : (ks .i32 (S.take k)).length = k := by rw [Qg, List.length_take]; omega
  by_cases hlt : k < l.length
  ·have e1 := XA hlt
   have e2 := hT k (by omega)
   have b0 := l[k].toNat_lt
   rw [QzO, Nat.mul_one, QCm hlt] at e2
   simp (disch := omega) only [rq, simprocAttr, e1, lk, JA]
   rw [← e2]
   exact ⟨k + 1, by omega, by omega, Le.drop1 (Qm _ _) (by simp [Am.look, Qu, frzL, Qs, frzL_T _ (Qv _)])⟩
  ·have ek : k = l.length := by omega
   subst ek
   have tS : S.take l.length = S := List.take_of_length_le (by omega)
   simp (disch := omega) only [rq, simprocAttr]
   rw [tS]
   simp [QF, Qu, frzL, Qs, frzL_T _ (Qm _ _), il, hL]
 ·simp only [Qay, h] at hR'
  rw [if_neg (by omega)] at hR'
  have hw : ((16 : Int) / 8).toNat = 2 := rfl
  simp only [X2, hw, h]
  rw [if_neg (by omega)]
  have hL := ZT 16 l
  have hT := fun i => @Qbe 16 l i
  rw [hw] at hL hT
  generalize hS : Qg3 16 l = S at *
  have m1 : (l.length : Int).tmod 2 = ((l.length % 2 : Nat) : Int) := by rw [Int.tmod_eq_emod_of_nonneg (by omega)]; omega
  have m2 : (l.length : Int).tdiv 2 = ((l.length / 2 : Nat) : Int) := by rw [Int.tdiv_eq_ediv_of_nonneg (by omega)]; omega
  simp (disch := omega) only [rq, simprocAttr, Zx, bs]
  refine Qb.vc hR' ?_
  by_cases h3 : l.length % 2 ≠ 0
  ·rw [if_pos h3]
   simp (disch := omega) only [rq, simprocAttr, m1]
   simp [QF, Qu, frzL, Qs]
  rw [if_neg h3]
  have h3' : l.length % 2 = 0 := by omega
  by_cases h4 : 4000 < l.length / 2
  ·rw [if_pos h4]
   simp (disch := omega) only [rq, simprocAttr, m1, m2]
   simp [QF, Qu, frzL, Qs]
  rw [if_neg h4]
  simp (disch := omega) only [rq, simprocAttr, m1, m2]
  refine Qx.by (ι := Nat) (fun k => ⟨[(11, .int .i64 ((k * 2 : Nat) : Int)), (10, .own 0 k), (9, .int .i64 2), (0, .int .i64 16), (1, .list l.length (u8 l))], [⟨t0, 1, k, ks .i32 (S.take k), 0⟩]⟩) (fun k => k ≤ l.length / 2) (fun k => l.length / 2 - k) 0 (Le.trans (Le.virt 10 t0 1 (by omega) rfl) (Le.slots (by simp [Am.look]))) (by omega) ?_
  intro k hk
  have lk : (ks .i32 (S.take k)).length = k := by rw [Qg, List.length_take]; omega
  by_cases hlt : k < l.length / 2
  ·have eT := hT k hlt
   have g : k * 2 + 2 ≤ l.length := by omega
   rw [Qvi, QCl (by omega)] at eT
   have e0 := XA (l := l) (k := k * 2 + 0) (by omega)
   have b0 := (l[k * 2 + 0]).toNat_lt
   have e1 := XA (l := l) (k := k * 2 + 1) (by omega)
   have b1 := (l[k * 2 + 1]).toNat_lt
   simp only [Nat.add_zero] at e0 b0
   generalize l[k * 2] = y0 at *
   generalize l[k * 2 + 1] = y1 at *
   generalize hat : k * 2 = at_ at *
   obtain ⟨X, hX⟩ : ∃ X, X = y0.toNat + y1.toNat * 256 := ⟨_, rfl⟩
   rw [← hX] at eT
   simp (disch := omega) only [rq, simprocAttr]
   refine Qx.by (ι := Nat) (fun j => ⟨[(54, .int .i64 j), (53, .int .i64 2), (12, .int .i32 (match j with | 0 => 0 | 1 => (y0.toNat : Int) | _ => (X : Int))), (11, .int .i64 (at_ : Int)), (10, .own 0 k), (9, .int .i64 2), (0, .int .i64 16), (1, .list l.length (u8 l))], [⟨t0, 1, k, ks .i32 (S.take k), 0⟩]⟩) (fun j => j ≤ 2) (fun j => 2 - j) 0 (Le.slots (by simp [Am.look])) (by omega) ?_
   intro j hj
   have o1 := @Qon y0.toNat y1.toNat 8 (by omega) (by omega)
   rw [show y1.toNat * 2 ^ 8 = y1.toNat * 256 by rfl, ← hX] at o1
   generalize hq1 : y1.toNat * 256 = q1 at *
   have o0 : IntKind.i32.wrap (BitVec.ofInt IntKind.i32.bits 0 ||| BitVec.ofInt IntKind.i32.bits (y0.toNat : Int)).toNat = (y0.toNat : Int) := by
    have := @Qon 0 y0.toNat 0 (by omega) (by omega)
    simpa using this
   have s0 : Qn true .i32 (y0.toNat : Int) 0 = some (.int .i32 (y0.toNat : Int)) := by simp [Qn]; rw [QbB] <;> omega
   have s1 : Qn true .i32 (y1.toNat : Int) 8 = some (.int .i32 (q1 : Int)) := by simp [Qn, IntKind.bits]; rw [QbB] <;> omega
   have hj3 : j = 0 ∨ j = 1 ∨ j = 2 := by omega
   rcases hj3 with rfl | rfl | rfl
   ·simp (disch := omega) only [rq, simprocAttr, e0, o0, s0]
    exact ⟨1, by omega, by omega, Le.slots (by simp [Am.look])⟩
   ·simp (disch := omega) only [rq, simprocAttr, e1, o1, s1]
    exact ⟨2, by omega, by omega, Le.slots (by simp [Am.look])⟩
   ·have z1 : ∀ x : Int, Qn true .i32 x 16 = some (.int .i32 (IntKind.i32.wrap (x * 65536))) := fun x => rfl
    have z2 : ∀ x : Int, Qn false .i32 x 16 = some (.int .i32 (x.fdiv 65536)) := fun x => rfl
    have z3 := QA4 (n := X) (by omega)
    rw [show Qj7 16 [] = 0 by decide, Int.zero_add] at z3
    rw [← z3] at eT
    have z4 : (IntKind.i32.wrap ((X : Int) * 65536)).fdiv 65536 ≤ 2147483647 := by rw [z3]; split <;> omega
    have z5 : -2147483648 ≤ (IntKind.i32.wrap ((X : Int) * 65536)).fdiv 65536 := by rw [z3]; split <;> omega
    simp (disch := omega) only [rq, simprocAttr, z1, z2, lk, JA]
    rw [← eT, ← hat]
    exact ⟨k + 1, by omega, by omega, Le.drop1 (Qm _ _) (by simp [Am.look, Qu, frzL, Qs, frzL_T _ (Qv _)]; try omega)⟩
  ·have ek : k = l.length / 2 := by omega
   subst ek
   have tS : S.take (l.length / 2) = S := List.take_of_length_le (by omega)
   have tw : l.length / 2 * 2 = l.length := by omega
   rw [tS, tw]
   simp (disch := omega) only [rq, simprocAttr]
   simp [QF, Qu, frzL, Qs, frzL_T _ (Qm _ _), il, hL]
 ·simp only [Qay, h] at hR'
  rw [if_neg (by omega)] at hR'
  have hw : ((24 : Int) / 8).toNat = 3 := rfl
  simp only [X2, hw, h]
  rw [if_neg (by omega)]
  have hL := ZT 24 l
  have hT := fun i => @Qbe 24 l i
  rw [hw] at hL hT
  generalize hS : Qg3 24 l = S at *
  have m1 : (l.length : Int).tmod 3 = ((l.length % 3 : Nat) : Int) := by rw [Int.tmod_eq_emod_of_nonneg (by omega)]; omega
  have m2 : (l.length : Int).tdiv 3 = ((l.length / 3 : Nat) : Int) := by rw [Int.tdiv_eq_ediv_of_nonneg (by omega)]; omega
  simp (disch := omega) only [rq, simprocAttr, Zx, bs]
  refine Qb.vc hR' ?_
  by_cases h3 : l.length % 3 ≠ 0
  ·rw [if_pos h3]
   simp (disch := omega) only [rq, simprocAttr, m1]
   simp [QF, Qu, frzL, Qs]
  rw [if_neg h3]
  have h3' : l.length % 3 = 0 := by omega
  by_cases h4 : 4000 < l.length / 3
  ·rw [if_pos h4]
   simp (disch := omega) only [rq, simprocAttr, m1, m2]
   simp [QF, Qu, frzL, Qs]
  rw [if_neg h4]
  simp (disch := omega) only [rq, simprocAttr, m1, m2]
  refine Qx.by (ι := Nat) (fun k => ⟨[(11, .int .i64 ((k * 3 : Nat) : Int)), (10, .own 0 k), (9, .int .i64 3), (0, .int .i64 24), (1, .list l.length (u8 l))], [⟨t0, 1, k, ks .i32 (S.take k), 0⟩]⟩) (fun k => k ≤ l.length / 3) (fun k => l.length / 3 - k) 0 (Le.trans (Le.virt 10 t0 1 (by omega) rfl) (Le.slots (by simp [Am.look]))) (by omega) ?_
  intro k hk
  have lk : (ks .i32 (S.take k)).length = k := by rw [Qg, List.length_take]; omega
  by_cases hlt : k < l.length / 3
  ·have eT := hT k hlt
   have g : k * 3 + 3 ≤ l.length := by omega
   rw [Qvh, QCk (by omega)] at eT
   have e0 := XA (l := l) (k := k * 3 + 0) (by omega)
   have b0 := (l[k * 3 + 0]).toNat_lt
   have e1 := XA (l := l) (k := k * 3 + 1) (by omega)
   have b1 := (l[k * 3 + 1]).toNat_lt
   have e2 := XA (l := l) (k := k * 3 + 2) (by omega)
   have b2 := (l[k * 3 + 2]).toNat_lt
   simp only [Nat.add_zero] at e0 b0
   generalize l[k * 3] = y0 at *
   generalize l[k * 3 + 1] = y1 at *
   generalize l[k * 3 + 2] = y2 at *
   generalize hat : k * 3 = at_ at *
   obtain ⟨X, hX⟩ : ∃ X, X = y0.toNat + y1.toNat * 256 := ⟨_, rfl⟩
   rw [← hX] at eT
   obtain ⟨Y, hY⟩ : ∃ Y, Y = X + y2.toNat * 65536 := ⟨_, rfl⟩
   rw [← hY] at eT
   simp (disch := omega) only [rq, simprocAttr]
   refine Qx.by (ι := Nat) (fun j => ⟨[(54, .int .i64 j), (53, .int .i64 3), (12, .int .i32 (match j with | 0 => 0 | 1 => (y0.toNat : Int) | 2 => (X : Int) | _ => (Y : Int))), (11, .int .i64 (at_ : Int)), (10, .own 0 k), (9, .int .i64 3), (0, .int .i64 24), (1, .list l.length (u8 l))], [⟨t0, 1, k, ks .i32 (S.take k), 0⟩]⟩) (fun j => j ≤ 3) (fun j => 3 - j) 0 (Le.slots (by simp [Am.look])) (by omega) ?_
   intro j hj
   have o1 := @Qon y0.toNat y1.toNat 8 (by omega) (by omega)
   rw [show y1.toNat * 2 ^ 8 = y1.toNat * 256 by rfl, ← hX] at o1
   have o2 := @Qon X y2.toNat 16 (by omega) (by omega)
   rw [show y2.toNat * 2 ^ 16 = y2.toNat * 65536 by rfl, ← hY] at o2
   generalize hq2 : y2.toNat * 65536 = q2 at *
   generalize hq1 : y1.toNat * 256 = q1 at *
   have o0 : IntKind.i32.wrap (BitVec.ofInt IntKind.i32.bits 0 ||| BitVec.ofInt IntKind.i32.bits (y0.toNat : Int)).toNat = (y0.toNat : Int) := by
    have := @Qon 0 y0.toNat 0 (by omega) (by omega)
    simpa using this
   have s0 : Qn true .i32 (y0.toNat : Int) 0 = some (.int .i32 (y0.toNat : Int)) := by simp [Qn]; rw [QbB] <;> omega
   have s1 : Qn true .i32 (y1.toNat : Int) 8 = some (.int .i32 (q1 : Int)) := by simp [Qn, IntKind.bits]; rw [QbB] <;> omega
   have s2 : Qn true .i32 (y2.toNat : Int) 16 = some (.int .i32 (q2 : Int)) := by simp [Qn, IntKind.bits]; rw [QbB] <;> omega
   have hj3 : j = 0 ∨ j = 1 ∨ j = 2 ∨ j = 3 := by omega
   rcases hj3 with rfl | rfl | rfl | rfl
   ·simp (disch := omega) only [rq, simprocAttr, e0, o0, s0]
    exact ⟨1, by omega, by omega, Le.slots (by simp [Am.look])⟩
   ·simp (disch := omega) only [rq, simprocAttr, e1, o1, s1]
    exact ⟨2, by omega, by omega, Le.slots (by simp [Am.look])⟩
   ·simp (disch := omega) only [rq, simprocAttr, e2, o2, s2]
    exact ⟨3, by omega, by omega, Le.slots (by simp [Am.look])⟩
   ·have z1 : ∀ x : Int, Qn true .i32 x 8 = some (.int .i32 (IntKind.i32.wrap (x * 256))) := fun x => rfl
    have z2 : ∀ x : Int, Qn false .i32 x 8 = some (.int .i32 (x.fdiv 256)) := fun x => rfl
    have z3 := QA3 (n := Y) (by omega)
    rw [show Qj7 24 [] = 0 by decide, Int.zero_add] at z3
    rw [← z3] at eT
    have z4 : (IntKind.i32.wrap ((Y : Int) * 256)).fdiv 256 ≤ 2147483647 := by rw [z3]; split <;> omega
    have z5 : -2147483648 ≤ (IntKind.i32.wrap ((Y : Int) * 256)).fdiv 256 := by rw [z3]; split <;> omega
    simp (disch := omega) only [rq, simprocAttr, z1, z2, lk, JA]
    rw [← eT, ← hat]
    exact ⟨k + 1, by omega, by omega, Le.drop1 (Qm _ _) (by simp [Am.look, Qu, frzL, Qs, frzL_T _ (Qv _)]; try omega)⟩
  ·have ek : k = l.length / 3 := by omega
   subst ek
   have tS : S.take (l.length / 3) = S := List.take_of_length_le (by omega)
   have tw : l.length / 3 * 3 = l.length := by omega
   rw [tS, tw]
   simp (disch := omega) only [rq, simprocAttr]
   simp [QF, Qu, frzL, Qs, frzL_T _ (Qm _ _), il, hL]
set_option maxRecDepth 20000 in
set_option maxHeartbeats 2000000 in
theorem Qlv {P : Prg} {f fR t0 : Nat} (bd : Qf P f 68 [.tmp 4, .tmp 5] (QQ fR t0)) (hR : Qpl P fR) : Qcm P f := by
 intro b l hl
 refine VC.of_walk 1 (by simp [isDL, isD, QC]) (Qg7 _ _) (ACall.of_body bd (by simp) ?_)
 have hR' := hR b
 rcases Zb b with ⟨rfl, h⟩ | ⟨rfl, h⟩ | ⟨rfl, h⟩ | ⟨h1, h2, h3, h⟩
 case inr.inr.inr =>
  rw [h] at hR'
  simp only [X2, if_pos h]
  simp (disch := omega) only [rq, simprocAttr, QQ, bs]
  refine Qb.vc hR' ?_
  simp (disch := omega) only [rq, simprocAttr]
  simp [QF, Qu, frzL, Qs]
 ·rw [h] at hR'
  have hw : ((8 : Int) / 8).toNat = 1 := rfl
  simp only [X2, hw, h]
  rw [if_neg (by omega)]
  have hL := ZT 8 l
  have hT := fun i => @Qbe 8 l i
  rw [hw] at hL hT
  generalize hS : Qg3 8 l = S at *
  have m1 : (l.length : Int).tmod 1 = ((l.length % 1 : Nat) : Int) := by rw [Int.tmod_eq_emod_of_nonneg (by omega)]; omega
  have m2 : (l.length : Int).tdiv 1 = ((l.length / 1 : Nat) : Int) := by rw [Int.tdiv_eq_ediv_of_nonneg (by omega)]; omega
  simp (disch := omega) only [rq, simprocAttr, QQ, bs]
  refine Qb.vc hR' ?_
  by_cases h3 : l.length % 1 ≠ 0
  ·exact absurd (Nat.mod_one _) h3
  rw [if_neg h3]
  have h3' : l.length % 1 = 0 := by omega
  by_cases h4 : 4000 < l.length / 1
  ·rw [if_pos h4]
   simp (disch := omega) only [rq, simprocAttr, m1, m2]
   simp [QF, Qu, frzL, Qs]
  rw [if_neg h4]
  simp (disch := omega) only [rq, simprocAttr, m1, m2]
  refine Qx.by (ι := Nat) (fun k => ⟨[(9, .int .i64 ((k * 1 : Nat) : Int)), (8, .own 0 k), (7, .int .i64 1), (6, .int .i64 128), (0, .int .i64 8), (1, .list l.length (u8 l))], [⟨t0, 1, k, ks .i32 (S.take k), 0⟩]⟩) (fun k => k ≤ l.length / 1) (fun k => l.length / 1 - k) 0 (Le.trans (Le.virt 8 t0 1 (by omega) rfl) (Le.slots (by simp [Am.look]))) (by omega) ?_
  intro k hk
  have lk : (ks .i32 (S.take k)).length = k := by rw [Qg, List.length_take]; omega
  by_cases hlt : k < l.length / 1
  ·have eT := hT k hlt
   have g : k * 1 + 1 ≤ l.length := by omega
   rw [QzO, QCm (by omega)] at eT
   have e0 := XA (l := l) (k := k * 1 + 0) (by omega)
   have b0 := (l[k * 1 + 0]).toNat_lt
   simp only [Nat.add_zero] at e0 b0
   generalize l[k * 1] = y0 at *
   generalize hat : k * 1 = at_ at *
   obtain ⟨X, hX⟩ : ∃ X, X = y0.toNat := ⟨_, rfl⟩
   rw [← hX] at eT
   simp (disch := omega) only [rq, simprocAttr]
   refine Qx.by (ι := Nat) (fun j => ⟨[(11, .int .i64 (1 - 1 - (j : Int))), (10, .int .i64 (match j with | 0 => 0 | _ => (X : Int))), (9, .int .i64 (at_ : Int)), (8, .own 0 k), (7, .int .i64 1), (6, .int .i64 128), (0, .int .i64 8), (1, .list l.length (u8 l))], [⟨t0, 1, k, ks .i32 (S.take k), 0⟩]⟩) (fun j => j ≤ 1) (fun j => 1 - j) 0 (Le.slots (by simp [Am.look])) (by omega) ?_
   intro j hj
   have hj3 : j = 0 ∨ j = 1 := by omega
   rcases hj3 with rfl | rfl
   ·simp (disch := omega) only [rq, simprocAttr, e0]
    exact ⟨1, by omega, by omega, Le.slots (by simp [Am.look]; try omega)⟩
   ·simp (disch := omega) only [rq, simprocAttr, lk, JA]
    rw [← eT, ← hat]
    exact ⟨k + 1, by omega, by omega, Le.drop1 (Qm _ _) (by simp [Am.look, Qu, frzL, Qs, frzL_T _ (Qv _)]; try omega)⟩
  ·have ek : k = l.length / 1 := by omega
   subst ek
   have tS : S.take (l.length / 1) = S := List.take_of_length_le (by omega)
   have tw : l.length / 1 * 1 = l.length := by omega
   rw [tS, tw]
   simp (disch := omega) only [rq, simprocAttr]
   simp [QF, Qu, frzL, Qs, frzL_T _ (Qm _ _), il, hL]
 ·rw [h] at hR'
  have hw : ((16 : Int) / 8).toNat = 2 := rfl
  simp only [X2, hw, h]
  rw [if_neg (by omega)]
  have hL := ZT 16 l
  have hT := fun i => @Qbe 16 l i
  rw [hw] at hL hT
  generalize hS : Qg3 16 l = S at *
  have m1 : (l.length : Int).tmod 2 = ((l.length % 2 : Nat) : Int) := by rw [Int.tmod_eq_emod_of_nonneg (by omega)]; omega
  have m2 : (l.length : Int).tdiv 2 = ((l.length / 2 : Nat) : Int) := by rw [Int.tdiv_eq_ediv_of_nonneg (by omega)]; omega
  simp (disch := omega) only [rq, simprocAttr, QQ, bs]
  refine Qb.vc hR' ?_
  by_cases h3 : l.length % 2 ≠ 0
  ·rw [if_pos h3]
   simp (disch := omega) only [rq, simprocAttr, m1]
   simp [QF, Qu, frzL, Qs]
  rw [if_neg h3]
  have h3' : l.length % 2 = 0 := by omega
  by_cases h4 : 4000 < l.length / 2
  ·rw [if_pos h4]
   simp (disch := omega) only [rq, simprocAttr, m1, m2]
   simp [QF, Qu, frzL, Qs]
  rw [if_neg h4]
  simp (disch := omega) only [rq, simprocAttr, m1, m2]
  refine Qx.by (ι := Nat) (fun k => ⟨[(9, .int .i64 ((k * 2 : Nat) : Int)), (8, .own 0 k), (7, .int .i64 2), (6, .int .i64 32768), (0, .int .i64 16), (1, .list l.length (u8 l))], [⟨t0, 1, k, ks .i32 (S.take k), 0⟩]⟩) (fun k => k ≤ l.length / 2) (fun k => l.length / 2 - k) 0 (Le.trans (Le.virt 8 t0 1 (by omega) rfl) (Le.slots (by simp [Am.look]))) (by omega) ?_
  intro k hk
  have lk : (ks .i32 (S.take k)).length = k := by rw [Qg, List.length_take]; omega
  by_cases hlt : k < l.length / 2
  ·have eT := hT k hlt
   have g : k * 2 + 2 ≤ l.length := by omega
   rw [Qvi, QCl (by omega)] at eT
   have e0 := XA (l := l) (k := k * 2 + 0) (by omega)
   have b0 := (l[k * 2 + 0]).toNat_lt
   have e1 := XA (l := l) (k := k * 2 + 1) (by omega)
   have b1 := (l[k * 2 + 1]).toNat_lt
   simp only [Nat.add_zero] at e0 b0
   generalize l[k * 2] = y0 at *
   generalize l[k * 2 + 1] = y1 at *
   generalize hat : k * 2 = at_ at *
   obtain ⟨X, hX⟩ : ∃ X, X = y0.toNat + y1.toNat * 256 := ⟨_, rfl⟩
   rw [← hX] at eT
   simp (disch := omega) only [rq, simprocAttr]
   refine Qx.by (ι := Nat) (fun j => ⟨[(11, .int .i64 (2 - 1 - (j : Int))), (10, .int .i64 (match j with | 0 => 0 | 1 => (y1.toNat : Int) | _ => (X : Int))), (9, .int .i64 (at_ : Int)), (8, .own 0 k), (7, .int .i64 2), (6, .int .i64 32768), (0, .int .i64 16), (1, .list l.length (u8 l))], [⟨t0, 1, k, ks .i32 (S.take k), 0⟩]⟩) (fun j => j ≤ 2) (fun j => 2 - j) 0 (Le.slots (by simp [Am.look])) (by omega) ?_
   intro j hj
   have hj3 : j = 0 ∨ j = 1 ∨ j = 2 := by omega
   rcases hj3 with rfl | rfl | rfl
   ·simp (disch := omega) only [rq, simprocAttr, e1]
    exact ⟨1, by omega, by omega, Le.slots (by simp [Am.look]; try omega)⟩
   ·simp (disch := omega) only [rq, simprocAttr, e0]
    exact ⟨2, by omega, by omega, Le.slots (by simp [Am.look]; try omega)⟩
   ·by_cases hh : 32768 ≤ (X : Int)
    ·rw [if_pos hh] at eT
     simp (disch := omega) only [rq, simprocAttr, lk, JA]
     rw [← eT, ← hat]
     exact ⟨k + 1, by omega, by omega, Le.drop1 (Qm _ _) (by simp [Am.look, Qu, frzL, Qs, frzL_T _ (Qv _)]; try omega)⟩
    ·rw [if_neg hh] at eT
     simp (disch := omega) only [rq, simprocAttr, lk, JA]
     rw [← eT, ← hat]
     exact ⟨k + 1, by omega, by omega, Le.drop1 (Qm _ _) (by simp [Am.look, Qu, frzL, Qs, frzL_T _ (Qv _)]; try omega)⟩
  ·have ek : k = l.length / 2 := by omega
   subst ek
   have tS : S.take (l.length / 2) = S := List.take_of_length_le (by omega)
   have tw : l.length / 2 * 2 = l.length := by omega
   rw [tS, tw]
   simp (disch := omega) only [rq, simprocAttr]
   simp [QF, Qu, frzL, Qs, frzL_T _ (Qm _ _), il, hL]
 ·rw [h] at hR'
  have hw : ((24 : Int) / 8).toNat = 3 := rfl
  simp only [X2, hw, h]
  rw [if_neg (by omega)]
  have hL := ZT 24 l
  have hT := fun i => @Qbe 24 l i
  rw [hw] at hL hT
  generalize hS : Qg3 24 l = S at *
  have m1 : (l.length : Int).tmod 3 = ((l.length % 3 : Nat) : Int) := by rw [Int.tmod_eq_emod_of_nonneg (by omega)]; omega
  have m2 : (l.length : Int).tdiv 3 = ((l.length / 3 : Nat) : Int) := by rw [Int.tdiv_eq_ediv_of_nonneg (by omega)]; omega
  simp (disch := omega) only [rq, simprocAttr, QQ, bs]
  refine Qb.vc hR' ?_
  by_cases h3 : l.length % 3 ≠ 0
  ·rw [if_pos h3]
   simp (disch := omega) only [rq, simprocAttr, m1]
   simp [QF, Qu, frzL, Qs]
  rw [if_neg h3]
  have h3' : l.length % 3 = 0 := by omega
  by_cases h4 : 4000 < l.length / 3
  ·rw [if_pos h4]
   simp (disch := omega) only [rq, simprocAttr, m1, m2]
   simp [QF, Qu, frzL, Qs]
  rw [if_neg h4]
  simp (disch := omega) only [rq, simprocAttr, m1, m2]
  refine Qx.by (ι := Nat) (fun k => ⟨[(9, .int .i64 ((k * 3 : Nat) : Int)), (8, .own 0 k), (7, .int .i64 3), (6, .int .i64 8388608), (0, .int .i64 24), (1, .list l.length (u8 l))], [⟨t0, 1, k, ks .i32 (S.take k), 0⟩]⟩) (fun k => k ≤ l.length / 3) (fun k => l.length / 3 - k) 0 (Le.trans (Le.virt 8 t0 1 (by omega) rfl) (Le.slots (by simp [Am.look]))) (by omega) ?_
  intro k hk
  have lk : (ks .i32 (S.take k)).length = k := by rw [Qg, List.length_take]; omega
  by_cases hlt : k < l.length / 3
  ·have eT := hT k hlt
   have g : k * 3 + 3 ≤ l.length := by omega
   rw [Qvh, QCk (by omega)] at eT
   have e0 := XA (l := l) (k := k * 3 + 0) (by omega)
   have b0 := (l[k * 3 + 0]).toNat_lt
   have e1 := XA (l := l) (k := k * 3 + 1) (by omega)
   have b1 := (l[k * 3 + 1]).toNat_lt
   have e2 := XA (l := l) (k := k * 3 + 2) (by omega)
   have b2 := (l[k * 3 + 2]).toNat_lt
   simp only [Nat.add_zero] at e0 b0
   generalize l[k * 3] = y0 at *
   generalize l[k * 3 + 1] = y1 at *
   generalize l[k * 3 + 2] = y2 at *
   generalize hat : k * 3 = at_ at *
   obtain ⟨X, hX⟩ : ∃ X, X = y0.toNat + y1.toNat * 256 + y2.toNat * 65536 := ⟨_, rfl⟩
   obtain ⟨Y, hY⟩ : ∃ Y, Y = y1.toNat + y2.toNat * 256 := ⟨_, rfl⟩
   rw [← hX] at eT
   simp (disch := omega) only [rq, simprocAttr]
   refine Qx.by (ι := Nat) (fun j => ⟨[(11, .int .i64 (3 - 1 - (j : Int))), (10, .int .i64 (match j with | 0 => 0 | 1 => (y2.toNat : Int) | 2 => (Y : Int) | _ => (X : Int))), (9, .int .i64 (at_ : Int)), (8, .own 0 k), (7, .int .i64 3), (6, .int .i64 8388608), (0, .int .i64 24), (1, .list l.length (u8 l))], [⟨t0, 1, k, ks .i32 (S.take k), 0⟩]⟩) (fun j => j ≤ 3) (fun j => 3 - j) 0 (Le.slots (by simp [Am.look])) (by omega) ?_
   intro j hj
   have hj3 : j = 0 ∨ j = 1 ∨ j = 2 ∨ j = 3 := by omega
   rcases hj3 with rfl | rfl | rfl | rfl
   ·simp (disch := omega) only [rq, simprocAttr, e2]
    exact ⟨1, by omega, by omega, Le.slots (by simp [Am.look]; try omega)⟩
   ·simp (disch := omega) only [rq, simprocAttr, e1]
    exact ⟨2, by omega, by omega, Le.slots (by simp [Am.look]; try omega)⟩
   ·simp (disch := omega) only [rq, simprocAttr, e0]
    exact ⟨3, by omega, by omega, Le.slots (by simp [Am.look]; try omega)⟩
   ·by_cases hh : 8388608 ≤ (X : Int)
    ·rw [if_pos hh] at eT
     simp (disch := omega) only [rq, simprocAttr, lk, JA]
     rw [← eT, ← hat]
     exact ⟨k + 1, by omega, by omega, Le.drop1 (Qm _ _) (by simp [Am.look, Qu, frzL, Qs, frzL_T _ (Qv _)]; try omega)⟩
    ·rw [if_neg hh] at eT
     simp (disch := omega) only [rq, simprocAttr, lk, JA]
     rw [← eT, ← hat]
     exact ⟨k + 1, by omega, by omega, Le.drop1 (Qm _ _) (by simp [Am.look, Qu, frzL, Qs, frzL_T _ (Qv _)]; try omega)⟩
  ·have ek : k = l.length / 3 := by omega
   subst ek
   have tS : S.take (l.length / 3) = S := List.take_of_length_le (by omega)
   have tw : l.length / 3 * 3 = l.length := by omega
   rw [tS, tw]
   simp (disch := omega) only [rq, simprocAttr]
   simp [QF, Qu, frzL, Qs, frzL_T _ (Qm _ _), il, hL]
theorem QwY {b : Int} {l : List Int} (h : Q3 b l = 0) : l.length ≤ 4000 ∧ Jk b ≠ 0 := by
 unfold Q3 at h
 split at h
 ·omega
 rename_i h0
 split at h
 ·omega
 ·exact ⟨by omega, h0⟩
theorem QAo (c x r : Int) (l : List Int) : isD (clA c x r l) = true := by simp [clA, isD, isDL, QZ]
def QuG : List UInt8 := [102, 109, 116, 32]
def Qd8 : List UInt8 := [100, 97, 116, 97]
def Qda : List UInt8 := [87, 65, 86, 69]
theorem QAG {c x r : Int} {l : List Int} (h : Zc c x r l = 0) : Qbd c x r ∧ Q3 x l = 0 ∧ (l.length : Int) % c = 0 ∧ Xz c x r (l.length / c) = 0 := by
 unfold Zc at h
 split at h
 ·omega
 split at h
 ·omega
 split at h
 ·omega
 split at h
 ·omega
 rename_i h1 h2 h3 h4
 have h3' : Xz c x r (l.length / c) = 0 := by omega
 refine ⟨?_, by omega, by omega, h3'⟩
 unfold Xz at h3'
 split at h3'
 ·omega
 rename_i e1
 split at h3'
 ·omega
 split at h3'
 ·omega
 split at h3'
 ·omega
 rename_i e4
 have e4' : QjS r (l.length / c) = 0 := by omega
 have e1' : ZC c x = 0 := by omega
 unfold QjS at e4'
 split at e4'
 ·omega
 rename_i q1
 unfold ZC at e1'
 split at e1'
 ·omega
 rename_i q2
 refine ⟨?_, ?_, fun h => q2 (.inl h), ?_, ?_⟩ <;> omega
def Qha (l : List Ck) (id : List UInt8) : Nat := (l.filter fun c => c.1 == id).length
def Qc0 (l : List Ck) (id : List UInt8) : Nat := ((List.range l.length).filter fun i => (l.getD i ([], [])).1 == id).getLast?.getD 0
def Qja (P : Prg) (f : Nat) : Prop := ∀ (l : List Ck) (id : List UInt8), l.length ≤ 1000000 → VC P f [.list l.length (ckL l), .str id] (.tup [.int .i64 (Qha l id), .int .i64 (Qc0 l id)])
theorem QwV {l : List Ck} {id : List UInt8} {k : Nat} (h : k < l.length) : Qha (l.take (k + 1)) id = Qha (l.take k) id + if (l[k]).1 == id then 1 else 0 := by
 simp only [Qha]
 rw [List.take_succ_eq_append_getElem h, List.filter_append, List.length_append]
 congr 1
 by_cases h : ((l[k]).1 == id) = true <;> simp [h]
theorem QtV {l : List Ck} {id : List UInt8} {k : Nat} (h : k < l.length) : Qc0 (l.take (k + 1)) id = if (l[k]).1 == id then k else Qc0 (l.take k) id := by
 simp only [Qc0]
 have e1 : (l.take (k + 1)).length = k + 1 := by simp; omega
 have e2 : (l.take k).length = k := by simp; omega
 rw [e1, e2, List.range_succ, List.filter_append]
 have e3 : (List.range k).filter (fun i => ((l.take (k + 1)).getD i ([], [])).1 == id) = (List.range k).filter (fun i => ((l.take k).getD i ([], [])).1 == id) := by
  apply List.filter_congr
  intro i hi
  have hi' : i < k := by simpa using hi
  simp [List.getD_eq_getElem?_getD, List.getElem?_take, hi', show i < k + 1 by omega]
 have e4 : ((l.take (k + 1)).getD k ([], [])).1 = (l[k]).1 := by simp [List.getD_eq_getElem?_getD, List.getElem?_take, h]
 rw [e3]
 simp only [List.filter_cons, e4, List.filter_nil]
 by_cases hq : ((l[k]).1 == id) = true
 ·simp [hq]
 ·simp [hq]
theorem Qqd {P : Prg} {f : Nat} (bd : Qf P f 27 [.tmp 4, .tmp 5] XG) : Qja P f := by
 intro l id hl
 refine VC.of_acall (by simp [isDL, isD, QhA]) rfl (ACall.of_body bd (by simp) ?_)
 have e2 := Xa l
 simp (disch := omega) only [rq, simprocAttr, XG]
 refine Qx.by (ι := Nat) (fun k => ⟨[(8, .int .i64 k), (7, .int .i64 (Qc0 (l.take k) id)), (6, .int .i64 (Qha (l.take k) id)), (0, .list l.length (ckL l)), (1, .str id)], []⟩) (fun k => k ≤ l.length) (fun k => l.length - k) 0 (Le.slots (by simp [Am.look, Qc0, Qha])) (by omega) ?_
 intro k hk
 have hc : Qha (l.take k) id ≤ l.length := by
  simp only [Qha]
  have h1 := List.length_filter_le (fun c : Ck => c.1 == id) (l.take k)
  have h2 : (l.take k).length ≤ l.length := by simp; omega
  omega
 by_cases hlt : k < l.length
 ·have e1 := QcC hlt
  have t1 := QwV (id := id) hlt
  have t2 := QtV (id := id) hlt
  cases he : ((l[k]).1 == id) with
  | true =>
   rw [he] at t1 t2
   simp only [if_true] at t1 t2
   simp (disch := omega) only [rq, simprocAttr, e1, e2, Qfo, he]
   exact ⟨k + 1, by omega, by omega, Le.slots (by simp [Am.look, t1, t2])⟩
  | false =>
   rw [he] at t1 t2
   simp only [Bool.false_eq_true, if_false] at t1 t2
   simp (disch := omega) only [rq, simprocAttr, e1, e2, Qfo, he]
   exact ⟨k + 1, by omega, by omega, Le.slots (by simp [Am.look, t1, t2])⟩
 ·have ek : k = l.length := by omega
  subst ek
  rw [List.take_length]
  simp (disch := omega) only [rq, simprocAttr]
def JO (l : List Ck) (id : List UInt8) : Nat × Nat :=
 match Qgz l id with
 | none => (0, 6)
 | some i => match Qgz (l.drop (i + 1)) id with
  | some _ => (0, 12)
  | none => (i, 0)
def Qxy (P : Prg) (f : Nat) : Prop := ∀ (l : List Ck) (id : List UInt8), l.length ≤ 1000000 → VC P f [.list l.length (ckL l), .str id] (.tup [.int .i64 (JO l id).1, .int .i64 (JO l id).2])
theorem QoT : ∀ (l : List Ck) (k : Nat), (ckL l).drop (k * 2) = ckL (l.drop k)
 | l, 0 => by simp
 | [], k + 1 => by simp [ckL]
 | c :: l, k + 1 => by
  have := QoT l k
  rw [Nat.add_mul, Nat.one_mul]
  simpa [ckL] using this
set_option maxRecDepth 20000 in
theorem Qx0 {P : Prg} {f fF : Nat} (bd : Qf P f 31 [.tmp 4, .tmp 5] (Qfi fF)) (hF : QxE P fF) : Qxy P f := by
 intro l id hl
 refine VC.of_acall (by simp [isDL, isD, QhA]) rfl (ACall.of_body bd (by simp) ?_)
 have e2 := Xa l
 have hF1 := hF l id (by omega)
 simp (disch := omega) only [rq, simprocAttr, Qfi]
 refine Qb.vc hF1 ?_
 unfold JO
 cases hf : Qgz l id with
 | none =>
  simp (disch := omega) only [rq, simprocAttr, QoG]
 | some i =>
  have hi := QlL hf
  have hF2 := hF (l.drop (i + 1)) id (by simp; omega)
  have hln : (l.drop (i + 1)).length = l.length - (i + 1) := by simp
  have htk : (ckL (l.drop (i + 1))).take ((l.length - (i + 1)) * 2) = ckL (l.drop (i + 1)) := List.take_of_length_le (by rw [Xa, hln]; exact Nat.le_refl _)
  rw [hln] at hF2
  have e3 : (l.length * 2 = (ckL l).length) = True := eq_true (by omega)
  simp (disch := omega) only [rq, simprocAttr, QoG, QoT, htk, e3]
  refine Qb.vc hF2 ?_
  cases hf2 : Qgz (l.drop (i + 1)) id with
  | none =>
   simp (disch := omega) only [rq, simprocAttr, QoG]
  | some j =>
   simp (disch := omega) only [rq, simprocAttr, QoG]
def Qzw (l : List Ck) (i : Nat) : List UInt8 := (l.getD i ([], [])).2
theorem Ql2 {l : List Ck} {i : Nat} (h : i < l.length) : Qzw l i = (l[i]).2 := by simp [Qzw, List.getD_eq_getElem?_getD, List.getElem?_eq_getElem h]
theorem Qh6 (l : List Ck) (id : List UInt8) : ((JO l id).2 = 6) ∨ ((JO l id).2 = 12) ∨ ((JO l id).2 = 0 ∧ (JO l id).1 < l.length) := by
 unfold JO
 cases hf : Qgz l id with
 | none => exact .inl rfl
 | some i =>
  simp only
  cases hf2 : Qgz (l.drop (i + 1)) id with
  | none => exact .inr (.inr ⟨rfl, QlL hf⟩)
  | some j => exact .inr (.inl rfl)
def Qly (b : List UInt8) : Nat ⊕ (Nat × Nat × Nat × List Int) :=
 match ZV b with
 | .inl e => .inl e
 | .inr (form, l) =>
  if form ≠ Qda then .inl 12
  else if (JO l QuG).2 = 6 ∨ (JO l Qd8).2 = 6 then .inl 6
  else if (JO l QuG).2 ≠ 0 ∨ (JO l Qd8).2 ≠ 0 ∨ (JO l Qd8).1 < (JO l QuG).1 then .inl 12
  else
   match QaU (Qzw l (JO l QuG).1) with
   | none => .inl 12
   | some (c, x, r) =>
    if (Qzw l (JO l Qd8).1).length = 0 ∨ (Qzw l (JO l Qd8).1).length % (c * x / 8) ≠ 0 then .inl 12
    else if 4000 < (Qzw l (JO l Qd8).1).length / (x / 8) then .inl 4
    else if Zc c x r (Qg3 x (Qzw l (JO l Qd8).1)) ≠ 0 then .inl 4
    else .inr (c, x, r, Qg3 x (Qzw l (JO l Qd8).1))
def Zl : Nat ⊕ (Nat × Nat × Nat × List Int) → AV
 | .inl e => .tup [clA 0 0 0 [], .int .i64 e]
 | .inr (c, x, r, l) => .tup [clA c x r l, .int .i64 0]
theorem Qkk (o : Nat ⊕ (Nat × Nat × Nat × List Int)) : isD (Zl o) = true := by
 rcases o with e | ⟨c, x, r, l⟩ <;> simp [Zl, isD, isDL, QAo]
theorem Qtk {x : Int} (hx : Jk x ≠ 0) {s : List UInt8} (hs : s.length = (x / 8).toNat) : -Jk x ≤ Qj7 x s ∧ Qj7 x s < Jk x := by
 have h1 := QeA s
 rw [hs] at h1
 rcases Zb x with ⟨rfl, h⟩ | ⟨rfl, h⟩ | ⟨rfl, h⟩ | ⟨_, _, _, h⟩
 ·have e : (2 : Nat) ^ (8 * ((8 : Int) / 8).toNat) = 256 := by decide
  rw [e] at h1
  rw [QzO, h]; omega
 ·have e : (2 : Nat) ^ (8 * ((16 : Int) / 8).toNat) = 65536 := by decide
  rw [e] at h1
  rw [Qvi, h]; split <;> omega
 ·have e : (2 : Nat) ^ (8 * ((24 : Int) / 8).toNat) = 16777216 := by decide
  rw [e] at h1
  rw [Qvh, h]; split <;> omega
 ·exact absurd h hx
theorem Qtj {x : Int} (hx : Jk x ≠ 0) (l : List UInt8) : ∀ y ∈ Qg3 x l, -Jk x ≤ y ∧ y < Jk x := by
 intro y hy
 simp only [Qg3, List.mem_map, List.mem_range] at hy
 obtain ⟨i, hi, rfl⟩ := hy
 refine Qtk hx ?_
 generalize (x / 8).toNat = w at *
 have h0 : 0 < w := by
  rcases Nat.eq_zero_or_pos w with h | h
  ·subst h; simp at hi
  ·exact h
 have : (i + 1) * w ≤ l.length := Nat.le_trans (Nat.mul_le_mul_right w (by omega : i + 1 ≤ l.length / w)) (Nat.div_mul_le_self _ _)
 rw [Nat.add_mul, Nat.one_mul] at this
 rw [List.length_take, List.length_drop]
 omega
theorem Qll {x : Int} (hx : Jk x ≠ 0) (l : List UInt8) : I32 (Qg3 x l) := by
 intro y hy
 have h1 := Qtj hx l y hy
 rcases Zb x with ⟨_, h⟩ | ⟨_, h⟩ | ⟨_, h⟩ | ⟨_, _, _, h⟩ <;> omega
def Qcl (P : Prg) (f : Nat) : Prop := ∀ b : List UInt8, b.length < 140737488355328 → VC P f [bs b] (Zl (Qly b))
theorem Qsb {l : List UInt8} {c x r : Nat} (h : QaU l = some (c, x, r)) : Qbd c x r := by
 rcases Qbf l with ⟨h1, _⟩ | ⟨h1, h2, _⟩
 ·rw [h1] at h; cases h
 ·rw [h1] at h; cases h; exact h2
theorem Qoj {b form : List UInt8} {l : List Ck} (h : ZV b = .inr (form, l)) : ∀ c ∈ l, c.2.length ≤ 100000 := by
 intro c hc
 obtain ⟨_, _, _, _, h5, h6, _⟩ := QtR h
 have := Qze hc
 simp only [szC] at this
 omega
set_option maxRecDepth 20000 in
set_option maxHeartbeats 2000000 in
theorem Qx1 {P : Prg} {f fR fO fF fS fC t0 t1 : Nat} (bd : Qf P f 116 [.cell 2 t0, .tmp 3] (Qfj fR fO fF fS fC t0 t1)) (hR : Qkz P fR) (hO : Qxy P fO) (hF : QgQ P fF) (hS : Qcm P fS) (hC : Z4 P fC) (ht : Q6 P t0 = some (some 4)) : Qcl P f := by
 intro b hb
 refine VC.of_walk 2 (by simp [isDL, QC]) (Qkk _) (ACall.of_body bd (by simp) ?_)
 have hR' := hR b hb
 simp (disch := omega) only [rq, simprocAttr, Qfj, bs]
 refine Qb.vc hR' ?_
 unfold Qly
 cases hm : ZV b with
 | inl e =>
  have hp := Qh5 hm
  have hp' : ((e : Int) = 0) = False := eq_false (by omega)
  simp (disch := omega) only [rq, simprocAttr, QeK, hp', QD, ht, Qz]
  simp [QF, Qu, frzL, Qs, Zl, clA, il, ks]
 | inr p =>
  obtain ⟨form, l⟩ := p
  have h20 := Qsc hm
  have hmb := Qoj hm
  by_cases hform : form = Qda
  case neg =>
   have e1 : (form == [87, 65, 86, 69]) = false := by
    show (form == Qda) = false
    simpa using hform
   simp only [if_pos (show form ≠ Qda from hform)]
   simp (disch := omega) only [rq, simprocAttr, QeK, Qfo, e1, QD, ht, Qz]
   simp [QF, Qu, frzL, Qs, Zl, clA, il, ks]
  simp only [if_neg (show ¬ form ≠ Qda by simp [hform])]
  subst hform
  have e1 : (Qda == [87, 65, 86, 69]) = true := by decide
  simp (disch := omega) only [rq, simprocAttr, QeK, Qfo, e1]
  refine Qb.vc (hO l QuG (by omega)) ?_
  simp (disch := omega) only [rq, simprocAttr]
  refine Qb.vc (hO l Qd8 (by omega)) ?_
  have c1 := Qh6 l QuG
  have c2 := Qh6 l Qd8
  generalize JO l QuG = q1 at *
  generalize JO l Qd8 = q2 at *
  obtain ⟨fi, fe⟩ := q1
  obtain ⟨di, de⟩ := q2
  simp only at c1 c2 ⊢
  by_cases h6 : fe = 6 ∨ de = 6
  ·rw [if_pos h6]
   by_cases h6a : fe = 6
   ·simp (disch := omega) only [rq, simprocAttr, QD, ht, Qz]
    simp [QF, Qu, frzL, Qs, Zl, clA, il, ks]
   ·simp (disch := omega) only [rq, simprocAttr, QD, ht, Qz]
    simp [QF, Qu, frzL, Qs, Zl, clA, il, ks]
  rw [if_neg h6]
  by_cases h12 : fe ≠ 0 ∨ de ≠ 0 ∨ di < fi
  ·rw [if_pos h12]
   by_cases h12a : fe = 0
   ·by_cases h12b : de = 0
    ·simp (disch := omega) only [rq, simprocAttr, QD, ht, Qz]
     simp [QF, Qu, frzL, Qs, Zl, clA, il, ks]
    ·simp (disch := omega) only [rq, simprocAttr, QD, ht, Qz]
     simp [QF, Qu, frzL, Qs, Zl, clA, il, ks]
   ·simp (disch := omega) only [rq, simprocAttr, QD, ht, Qz]
    simp [QF, Qu, frzL, Qs, Zl, clA, il, ks]
  rw [if_neg h12]
  have hfi : fi < l.length := by omega
  have hdi : di < l.length := by omega
  have e2 := Xa l
  have d1 := QcC hfi
  have d2 := QcC hdi
  have m1 := hmb _ (List.getElem_mem hfi)
  have m2 := hmb _ (List.getElem_mem hdi)
  rw [Ql2 hfi, Ql2 hdi]
  generalize (l[fi]).2 = F at *
  generalize (l[di]).2 = D at *
  simp (disch := omega) only [rq, simprocAttr, e2, d1]
  refine Qb.vc (hF F (by omega)) ?_
  cases hs : QaU F with
  | none =>
   simp (disch := omega) only [rq, simprocAttr, Xl, JI, QD, ht, Qz]
   simp [QF, Qu, frzL, Qs, Zl, clA, il, ks]
  | some q =>
   obtain ⟨c, x, r⟩ := q
   have hok := Qsb hs
   obtain ⟨q1, q2, q3, q4, q5⟩ := hok
   have hx := (Qag (x : Int)).1 q3
   have hw : ((x : Int) / 8).toNat = x / 8 := by omega
   have m0 : (c : Int) * x = ((c * x : Nat) : Int) := by simp
   have hcx : c * x / 8 = c * (x / 8) := by
    rcases hx with h | h | h
    ·obtain rfl : x = 8 := by omega
     omega
    ·obtain rfl : x = 16 := by omega
     omega
    ·obtain rfl : x = 24 := by omega
     omega
   have hb0 : c * x ≤ 6 * 24 := Nat.mul_le_mul (by omega) (by omega)
   have hmS : ((c * x : Nat) : Int) / 8 = ((c * x / 8 : Nat) : Int) := by omega
   have hS1 : 0 < c * x / 8 := by rw [hcx]; exact Nat.mul_pos (by omega) (by omega)
   have hS' := hS x D (by omega)
   rw [X2, if_neg q3, hw] at hS'
   have hmm : (D.length : Int) % ((c * x / 8 : Nat) : Int) = ((D.length % (c * x / 8) : Nat) : Int) := (Int.natCast_emod _ _).symm
   by_cases hd0 : D.length = 0 ∨ D.length % (c * x / 8) ≠ 0
   ·simp only [if_pos hd0]
    by_cases hd1 : D.length = 0
    ·simp (disch := omega) only [rq, simprocAttr, Xl, JI, e2, d2, bs, QD, ht, Qz]
     simp [QF, Qu, frzL, Qs, Zl, clA, il, ks]
    ·have hd2 : 0 < D.length % (c * x / 8) := by omega
     generalize c * x / 8 = S at *
     generalize c * x = cx at *
     generalize D.length % S = R at *
     simp (disch := omega) only [rq, simprocAttr, Xl, JI, e2, d2, bs, m0, hmS, hmm, QD, ht, Qz]
     simp [QF, Qu, frzL, Qs, Zl, clA, il, ks]
   simp only [if_neg hd0]
   have hd1 : D.length ≠ 0 := fun h => hd0 (.inl h)
   have hd2 : D.length % (c * x / 8) = 0 := by
    rcases Nat.eq_zero_or_pos (D.length % (c * x / 8)) with h | h
    ·exact h
    ·exact absurd (.inr (by omega)) hd0
   have hd3 : D.length % (x / 8) = 0 := by
    have h1 : x / 8 ∣ D.length := Nat.dvd_trans ⟨c, by rw [hcx]; exact Nat.mul_comm _ _⟩ (Nat.dvd_of_mod_eq_zero hd2)
    exact Nat.mod_eq_zero_of_dvd h1
   rw [if_neg (by omega)] at hS'
   have hI := Qll q3 D
   have hL := ZT x D
   rw [hw] at hL
   generalize Qg3 x D = L at *
   have hC' := hC c x r L hI (by rw [hL]; exact Nat.le_trans (Nat.div_le_self _ _) (by omega))
   rw [hd2] at hmm
   generalize c * x / 8 = S at *
   generalize c * x = cx at *
   generalize D.length / (x / 8) = M at *
   rw [il] at hS' hC'
   by_cases h4 : 4000 < M
   ·rw [if_pos h4] at hS'
    simp only [if_pos h4]
    simp (disch := omega) only [rq, simprocAttr, Xl, JI, e2, d2, bs, m0, hmS, hmm]
    refine Qb.vc hS' ?_
    simp (disch := omega) only [rq, simprocAttr, QD, ht, Qz]
    simp [QF, Qu, frzL, Qs, Zl, clA, il, ks]
   rw [if_neg h4] at hS'
   simp only [if_neg h4]
   simp (disch := omega) only [rq, simprocAttr, Xl, JI, e2, d2, bs, m0, hmS, hmm]
   refine Qb.vc hS' ?_
   simp (disch := omega) only [rq, simprocAttr]
   refine Qb.vc hC' ?_
   by_cases h0 : Zc c x r L ≠ 0
   ·simp only [if_pos h0]
    generalize Zc c x r L = e at *
    simp (disch := omega) only [rq, simprocAttr, QD, ht, Qz]
    simp [QF, Qu, frzL, Qs, Zl, clA, il, ks]
   ·simp only [if_neg h0]
    have h0' : Zc c x r L = 0 := by omega
    rw [h0']
    simp (disch := omega) only [rq, simprocAttr, QD, ht, Qz]
    simp [QF, Qu, frzL, Qs, Zl, clA, il, frzL_T _ (Qm _ _)]
theorem Qis (a b : List Ck) (id : List UInt8) : Qha (a ++ b) id = Qha a id + Qha b id := by simp [Qha, List.filter_append]
theorem Qir {l : List Ck} {id : List UInt8} (h : ∀ c ∈ l, ¬ c.1 = id) : Qha l id = 0 := by
 simp only [Qha, List.length_eq_zero_iff, List.filter_eq_nil_iff]
 intro c hc
 simpa using h c hc
theorem Qwg {l : List Ck} {id : List UInt8} (h : ∃ i, ∃ hi : i < l.length, l[i].1 = id) : ∃ hi : Qc0 l id < l.length, l[Qc0 l id].1 = id := by
 obtain ⟨i, hi, he⟩ := h
 have hne : (List.range l.length).filter (fun i => (l.getD i ([], [])).1 == id) ≠ [] := by
  intro h0
  have : i ∈ (List.range l.length).filter (fun i => (l.getD i ([], [])).1 == id) := by
   rw [List.mem_filter]
   exact ⟨by simpa using hi, by simp [List.getD_eq_getElem?_getD, hi, he]⟩
  rw [h0] at this
  cases this
 have hm := List.getLast_mem hne
 have e : Qc0 l id = ((List.range l.length).filter (fun i => (l.getD i ([], [])).1 == id)).getLast hne := by
  unfold Qc0
  rw [List.getLast?_eq_some_getLast hne]
  rfl
 rw [← e, List.mem_filter] at hm
 have h1 : Qc0 l id < l.length := by simpa using hm.1
 refine ⟨h1, ?_⟩
 have := hm.2
 simpa [List.getD_eq_getElem?_getD, h1] using this
theorem Qke (l : List Ck) (id : List UInt8) :
  ((JO l id).2 = 6 ∧ Qha l id = 0) ∨ ((JO l id).2 = 12 ∧ 1 < Qha l id) ∨ ((JO l id).2 = 0 ∧ Qha l id = 1 ∧ Qc0 l id = (JO l id).1 ∧ (JO l id).1 < l.length) := by
 unfold JO
 cases hf : Qgz l id with
 | none =>
  refine .inl ⟨rfl, Qir fun c hc => ?_⟩
  obtain ⟨j, hj, rfl⟩ := List.getElem_of_mem hc
  exact Qgy hf hj
 | some i =>
  obtain ⟨hi, h1, h2⟩ := Qko hf
  have hsplit : l = l.take i ++ l[i] :: l.drop (i + 1) := by rw [← List.drop_eq_getElem_cons hi, List.take_append_drop]
  have hz : Qha (l.take i) id = 0 := Qir fun c hc => by
   obtain ⟨j, hj, rfl⟩ := List.getElem_of_mem hc
   rw [List.length_take] at hj
   rw [List.getElem_take]
   exact h2 j (by omega)
  have hc : Qha l id = 1 + Qha (l.drop (i + 1)) id := by
   conv => lhs; rw [hsplit]
   rw [Qis, hz, show l[i] :: l.drop (i + 1) = [l[i]] ++ l.drop (i + 1) from rfl, Qis]
   simp [Qha, h1]
  simp only
  cases hf2 : Qgz (l.drop (i + 1)) id with
  | some j =>
   obtain ⟨hj, h3, _⟩ := Qko hf2
   refine .inr (.inl ⟨rfl, ?_⟩)
   have : 0 < Qha (l.drop (i + 1)) id := by
    simp only [Qha, List.length_pos_iff, ne_eq, List.filter_eq_nil_iff]
    intro h
    exact h _ (List.getElem_mem hj) (by simpa using h3)
   omega
  | none =>
   have hz2 : Qha (l.drop (i + 1)) id = 0 := Qir fun c hc => by
    obtain ⟨j, hj, rfl⟩ := List.getElem_of_mem hc
    exact Qgy hf2 hj
   obtain ⟨h4, h5⟩ := Qwg (l := l) (id := id) ⟨i, hi, h1⟩
   refine .inr (.inr ⟨rfl, by omega, ?_, hi⟩)
   rcases Nat.lt_trichotomy (Qc0 l id) i with h6 | h6 | h6
   ·exact absurd h5 (h2 _ h6)
   ·exact h6
   ·exfalso
    have h7 : Qc0 l id - (i + 1) < (l.drop (i + 1)).length := by simp; omega
    refine Qgy hf2 h7 ?_
    rw [List.getElem_drop]
    have : i + 1 + (Qc0 l id - (i + 1)) = Qc0 l id := by omega
    simp only [this]
    exact h5
theorem Qyf {x : Int} {s : List UInt8} (hx : Jk x ≠ 0) (hs : s.length = (x / 8).toNat) : Qg3 x s = [Qj7 x s] := by
 have h0 : 0 < (x / 8).toNat := by rcases (Qag x).1 hx with h | h | h <;> subst h <;> decide
 simp only [Qg3, hs, Nat.div_self h0]
 have : List.range 1 = [0] := rfl
 rw [this]
 simp only [List.map_cons, List.map_nil, Nat.zero_mul, List.drop_zero]
 rw [List.take_of_length_le (by omega)]
set_option maxRecDepth 20000 in
set_option maxHeartbeats 4000000 in
theorem Qts {P : Prg} {f fR fO fF fS fC t0 t1 t2 : Nat} (bd : Qf P f 139 [.cell 2 t0, .tmp 3] (X7 fR fO fF fS fC t0 t1 t2)) (hR : Qkz P fR) (hO : Qja P fO) (hF : QgQ P fF) (hS : Qcm P fS) (hC : Z4 P fC) (ht : Q6 P t0 = some (some 4)) : Qcl P f := by
 intro b hb
 refine VC.of_walk 2 (by simp [isDL, QC]) (Qkk _) (ACall.of_body bd (by simp) ?_)
 have hR' := hR b hb
 simp (disch := omega) only [rq, simprocAttr, X7, bs]
 refine Qb.vc hR' ?_
 unfold Qly
 cases hm : ZV b with
 | inl e =>
  have hp := Qh5 hm
  have hp' : ((e : Int) = 0) = False := eq_false (by omega)
  simp (disch := omega) only [rq, simprocAttr, QeK, hp', QD, ht, Qz]
  simp [QF, Qu, frzL, Qs, Zl, clA, il, ks]
 | inr p =>
  obtain ⟨form, l⟩ := p
  have h20 := Qsc hm
  have hmb := Qoj hm
  by_cases hform : form = Qda
  case neg =>
   have e1 : (form == [87, 65, 86, 69]) = false := by
    show (form == Qda) = false
    simpa using hform
   simp only [if_pos (show form ≠ Qda from hform)]
   simp (disch := omega) only [rq, simprocAttr, QeK, Qfo, e1, QD, ht, Qz]
   simp [QF, Qu, frzL, Qs, Zl, clA, il, ks]
  simp only [if_neg (show ¬ form ≠ Qda by simp [hform])]
  subst hform
  have e1 : (Qda == [87, 65, 86, 69]) = true := by decide
  simp (disch := omega) only [rq, simprocAttr, QeK, Qfo, e1]
  refine Qb.vc (hO l QuG (by omega)) ?_
  simp (disch := omega) only [rq, simprocAttr]
  refine Qb.vc (hO l Qd8 (by omega)) ?_
  have c1 := Qke l QuG
  have c2 := Qke l Qd8
  generalize JO l QuG = q1 at *
  generalize JO l Qd8 = q2 at *
  generalize Qha l QuG = n1 at *
  generalize Qha l Qd8 = n2 at *
  generalize Qc0 l QuG = l1 at *
  generalize Qc0 l Qd8 = l2 at *
  obtain ⟨fi, fe⟩ := q1
  obtain ⟨di, de⟩ := q2
  simp only at c1 c2 ⊢
  by_cases h6 : fe = 6 ∨ de = 6
  ·rw [if_pos h6]
   by_cases h6a : n1 = 0
   ·simp (disch := omega) only [rq, simprocAttr, QD, ht, Qz]
    simp [QF, Qu, frzL, Qs, Zl, clA, il, ks]
   ·have : n2 = 0 := by omega
    simp (disch := omega) only [rq, simprocAttr, QD, ht, Qz]
    simp [QF, Qu, frzL, Qs, Zl, clA, il, ks]
  rw [if_neg h6]
  by_cases h12 : fe ≠ 0 ∨ de ≠ 0 ∨ di < fi
  ·rw [if_pos h12]
   by_cases h12a : n1 ≤ 1
   ·by_cases h12b : n2 ≤ 1
    ·simp (disch := omega) only [rq, simprocAttr, QD, ht, Qz]
     simp [QF, Qu, frzL, Qs, Zl, clA, il, ks]
    ·simp (disch := omega) only [rq, simprocAttr, QD, ht, Qz]
     simp [QF, Qu, frzL, Qs, Zl, clA, il, ks]
   ·simp (disch := omega) only [rq, simprocAttr, QD, ht, Qz]
    simp [QF, Qu, frzL, Qs, Zl, clA, il, ks]
  rw [if_neg h12]
  have hfi : fi < l.length := by omega
  have hdi : di < l.length := by omega
  obtain rfl : l1 = fi := by omega
  obtain rfl : l2 = di := by omega
  have e2 := Xa l
  have d1 := QcC hfi
  have d2 := QcC hdi
  have m1 := hmb _ (List.getElem_mem hfi)
  have m2 := hmb _ (List.getElem_mem hdi)
  rw [Ql2 hfi, Ql2 hdi]
  generalize (l[l1]).2 = F at *
  generalize (l[l2]).2 = D at *
  simp (disch := omega) only [rq, simprocAttr, e2, d1]
  refine Qb.vc (hF F (by omega)) ?_
  cases hs : QaU F with
  | none =>
   simp (disch := omega) only [rq, simprocAttr, Xl, JI, QD, ht, Qz]
   simp [QF, Qu, frzL, Qs, Zl, clA, il, ks]
  | some q =>
   obtain ⟨c, x, r⟩ := q
   have hok := Qsb hs
   obtain ⟨q1, q2, q3, q4, q5⟩ := hok
   have hx := (Qag (x : Int)).1 q3
   have hw : ((x : Int) / 8).toNat = x / 8 := by omega
   have m0 : (c : Int) * x = ((c * x : Nat) : Int) := by simp
   have hcx : c * x / 8 = c * (x / 8) := by
    rcases hx with h | h | h
    ·obtain rfl : x = 8 := by omega
     omega
    ·obtain rfl : x = 16 := by omega
     omega
    ·obtain rfl : x = 24 := by omega
     omega
   have hb0 : c * x ≤ 6 * 24 := Nat.mul_le_mul (by omega) (by omega)
   have hmS : ((c * x : Nat) : Int) / 8 = ((c * x / 8 : Nat) : Int) := by omega
   have hS1 : 0 < c * x / 8 := by rw [hcx]; exact Nat.mul_pos (by omega) (by omega)
   have hmm : (D.length : Int) % ((c * x / 8 : Nat) : Int) = ((D.length % (c * x / 8) : Nat) : Int) := (Int.natCast_emod _ _).symm
   by_cases hd0 : D.length = 0 ∨ D.length % (c * x / 8) ≠ 0
   ·simp only [if_pos hd0]
    by_cases hd1 : D.length = 0
    ·simp (disch := omega) only [rq, simprocAttr, Xl, JI, e2, d2, bs, QD, ht, Qz]
     simp [QF, Qu, frzL, Qs, Zl, clA, il, ks]
    ·have hd2 : 0 < D.length % (c * x / 8) := by omega
     generalize c * x / 8 = S at *
     generalize c * x = cx at *
     generalize D.length % S = R at *
     simp (disch := omega) only [rq, simprocAttr, Xl, JI, e2, d2, bs, m0, hmS, hmm, QD, ht, Qz]
     simp [QF, Qu, frzL, Qs, Zl, clA, il, ks]
   simp only [if_neg hd0]
   have hd1 : D.length ≠ 0 := fun h => hd0 (.inl h)
   have hd2 : D.length % (c * x / 8) = 0 := by
    rcases Nat.eq_zero_or_pos (D.length % (c * x / 8)) with h | h
    ·exact h
    ·exact absurd (.inr (by omega)) hd0
   have hd3 : D.length % (x / 8) = 0 := by
    have h1 : x / 8 ∣ D.length := Nat.dvd_trans ⟨c, by rw [hcx]; exact Nat.mul_comm _ _⟩ (Nat.dvd_of_mod_eq_zero hd2)
    exact Nat.mod_eq_zero_of_dvd h1
   have hI := Qll q3 D
   have hL := ZT x D
   have hT := fun i => @Qbe x D i
   have hS1' : ∀ s : List UInt8, s.length = x / 8 → VC P fS [.int .i64 x, .list (x / 8) (u8 s)] (.tup [.list 1 [.int .i32 (Qj7 x s)], .int .i64 0]) := fun s hs => by
    have h1 := hS x s (by omega)
    have h2 := Qyf q3 (s := s) (by omega)
    rw [X2, if_neg q3, hw, hs, h2, if_neg (by rw [Nat.mod_self]; omega), if_neg (by rw [Nat.div_self (by omega)]; omega), bs, hs] at h1
    exact h1
   simp only [hw] at hL hT
   generalize hSL : Qg3 x D = L at *
   have hC' := hC c x r L hI (by rw [hL]; exact Nat.le_trans (Nat.div_le_self _ _) (by omega))
   rw [hd2] at hmm
   have hw1 : (x : Int) / 8 = ((x / 8 : Nat) : Int) := by omega
   have hwp : 0 < x / 8 := by omega
   have hwd : (D.length : Int) / ((x / 8 : Nat) : Int) = ((D.length / (x / 8) : Nat) : Int) := by omega
   have hMle : D.length / (x / 8) ≤ D.length := Nat.div_le_self _ _
   have hDM : D.length / (x / 8) * (x / 8) = D.length := Nat.div_mul_cancel (Nat.dvd_of_mod_eq_zero hd3)
   generalize c * x / 8 = S at *
   generalize c * x = cx at *
   generalize hM : D.length / (x / 8) = M at *
   generalize hW : x / 8 = W at *
   rw [il] at hC'
   by_cases h4 : 4000 < M
   ·simp only [if_pos h4]
    simp (disch := omega) only [rq, simprocAttr, Xl, JI, e2, d2, bs, m0, hmS, hmm, hw1, hwd, QD, ht, Qz]
    simp [QF, Qu, frzL, Qs, Zl, clA, il, ks]
   simp only [if_neg h4]
   simp (disch := omega) only [rq, simprocAttr, Xl, JI, e2, d2, bs, m0, hmS, hmm, hw1, hwd]
   have hM1 : 0 < M := by
    rcases Nat.eq_zero_or_pos M with h | h
    ·subst h; omega
    ·exact h
   refine Qx.by (ι := Nat) (fun k => ⟨[(15, .int .i64 ((k * W : Nat) : Int)), (14, .int .i64 W), (13, .ref 2 1 0), (12, .list D.length (u8 D)), (11, .ref 1 1 0), (2, .ref 0 1 0)],
     [⟨t0, 4, 1, [.int .i64 0, .int .i64 0, .int .i64 0, .emp true], 0⟩, ⟨t1, 3, 1, [.int .i64 c, .int .i64 x, .int .i64 r], 0⟩] ++
     (match k with | 0 => [⟨t0, 4, 1, [.int .i64 c, .int .i64 x, .int .i64 r, .emp true], 0⟩] | k + 1 => [⟨t0, 4, 1, [.int .i64 c, .int .i64 x, .int .i64 r, .own 3 (k + 1)], 0⟩, ⟨t2, 1, k + 1, ks .i32 (L.take (k + 1)), 0⟩])⟩)
    (fun k => k ≤ M) (fun k => M - k) 0 (Le.slots (by simp [Am.look])) (by omega) ?_
   intro k hk
   by_cases hlt : k < M
   ·have g1 : (k + 1) * W ≤ M * W := Nat.mul_le_mul_right W (by omega)
    rw [Nat.add_mul, Nat.one_mul] at g1
    have hTk := hT k hlt
    have hsl : ((D.drop (k * W)).take W).length = W := Xy (by omega)
    have hS2 := hS1' ((D.drop (k * W)).take W) hsl
    have hk1 : (k + 1) * W = k * W + W := by rw [Nat.add_mul, Nat.one_mul]
    generalize Qj7 x ((D.drop (k * W)).take W) = y at *
    generalize hat : k * W = at_ at *
    have z1 : ((at_ : Int) + W - at_).toNat = W := by omega
    have ul := Qy D
    cases k with
    | zero =>
     simp only [List.take_zero, List.nil_append] at hTk
     simp (disch := omega) only [rq, simprocAttr, z1, QaF, QbQ, ul]
     refine QU.vc hS2 ?_
     simp (disch := omega) only [rq, simprocAttr]
     refine ⟨1, by omega, by omega, ?_⟩
     simp only [Nat.zero_add] at hTk hk1
     simp only [hk1, Nat.zero_add, hTk]
     exact Le.slots (by simp [Am.look])
    | succ k =>
     have lk : (ks .i32 (L.take (k + 1))).length = k + 1 := by rw [Qg, List.length_take]; omega
     simp (disch := omega) only [rq, simprocAttr, z1, QaF, QbQ, ul, lk]
     refine QU.vc hS2 ?_
     simp (disch := omega) only [rq, simprocAttr, JA]
     rw [← hTk]
     refine ⟨k + 2, by omega, by omega, ?_⟩
     rw [show (k + 2) * W = at_ + W from hk1]
     exact Le.slots (by simp [Am.look])
   ·have ek : k = M := by omega
    subst ek
    obtain ⟨k', rfl⟩ : ∃ k', k = k' + 1 := ⟨k - 1, by omega⟩
    have tL : L.take (k' + 1) = L := List.take_of_length_le (by omega)
    rw [hDM]
    simp only [tL]
    have lk : (ks .i32 L).length = k' + 1 := by rw [Qg]; exact hL
    simp (disch := omega) only [rq, simprocAttr]
    refine Qb.flat 2 hC' rfl ?_ ?_
    ·simp [QF, Qu, frzL, Qs, frzL_T _ (Qm _ _), hL]
    by_cases h0 : Zc c x r L ≠ 0
    ·simp only [if_pos h0]
     generalize Zc c x r L = e at *
     simp (disch := omega) only [rq, simprocAttr, QD, ht, Qz]
     simp [QF, Qu, frzL, Qs, Zl, clA, il, ks]
    ·simp only [if_neg h0]
     have h0' : Zc c x r L = 0 := by omega
     rw [h0']
     simp (disch := omega) only [rq, simprocAttr, QD, ht, Qz]
     simp [QF, Qu, frzL, Qs, Zl, clA, il, frzL_T _ (Qm _ _), hL]
theorem Qyx {b : List UInt8} {c x r : Nat} {l : List Int} (h : Qly b = .inr (c, x, r, l)) : Zc c x r l = 0 ∧ I32 l ∧ l.length ≤ 4000 := by
 have key : ∀ L : List UInt8, Zc c x r (Qg3 x L) = 0 → I32 (Qg3 x L) ∧ (Qg3 x L).length ≤ 4000 := by
  intro L h
  obtain ⟨_, h2, _⟩ := QAG h
  obtain ⟨q1, q2⟩ := QwY h2
  exact ⟨Qll q2 _, q1⟩
 unfold Qly at h
 split at h
 ·cases h
 split at h
 ·cases h
 split at h
 ·cases h
 split at h
 ·cases h
 split at h
 ·cases h
 split at h
 ·cases h
 split at h
 ·cases h
 split at h
 ·cases h
 rename_i h9
 cases h
 have h9' := Classical.not_not.1 h9
 exact ⟨h9', key _ h9'⟩
theorem QvN {b : List UInt8} {e : Nat} (h : Qly b = .inl e) : e ≠ 0 := by
 unfold Qly at h
 split at h
 ·rename_i e' he
  cases h
  exact Qh5 he
 split at h
 ·cases h; omega
 split at h
 ·cases h; omega
 split at h
 ·cases h; omega
 split at h
 ·cases h; omega
 split at h
 ·cases h; omega
 split at h
 ·cases h; omega
 split at h
 ·cases h; omega
 ·cases h
theorem QdU {w n : Nat} (h : n < 2 ^ w) : BitVec.ofInt w (n : Int) = BitVec.ofNat w n := by
 apply BitVec.eq_of_toNat_eq
 rw [BitVec.toNat_ofInt, BitVec.toNat_ofNat]
 omega
theorem Qhr {K : IntKind} (hs : K.signed = false) {n : Nat} (h : n < 2 ^ K.bits) : K.wrap (n : Int) = n := by
 have h1 : (n : Int) % 2 ^ K.bits = n := by
  rw [Int.emod_eq_of_lt (by omega)]
  exact_mod_cast h
 unfold IntKind.wrap
 simp [hs, h1]
theorem QuJ {K : IntKind} (hs : K.signed = false) {a b : Nat} (ha : a < 2 ^ K.bits) (hb : b < 2 ^ K.bits) : K.wrap (BitVec.ofInt K.bits (a : Int) ^^^ BitVec.ofInt K.bits (b : Int)).toNat = ((a ^^^ b : Nat) : Int) := by
 rw [QdU ha, QdU hb, BitVec.toNat_xor, BitVec.toNat_ofNat, BitVec.toNat_ofNat, Nat.mod_eq_of_lt ha, Nat.mod_eq_of_lt hb]
 exact Qhr hs (Nat.xor_lt_two_pow ha hb)
theorem QCe {K : IntKind} (hs : K.signed = false) {a b : Nat} (ha : a < 2 ^ K.bits) (hb : b < 2 ^ K.bits) : K.wrap (BitVec.ofInt K.bits (a : Int) &&& BitVec.ofInt K.bits (b : Int)).toNat = ((a &&& b : Nat) : Int) := by
 rw [QdU ha, QdU hb, BitVec.toNat_and, BitVec.toNat_ofNat, BitVec.toNat_ofNat, Nat.mod_eq_of_lt ha, Nat.mod_eq_of_lt hb]
 exact Qhr hs (Nat.and_lt_two_pow _ hb)
theorem orK {K : IntKind} (hs : K.signed = false) {a b : Nat} (ha : a < 2 ^ K.bits) (hb : b < 2 ^ K.bits) : K.wrap (BitVec.ofInt K.bits (a : Int) ||| BitVec.ofInt K.bits (b : Int)).toNat = ((a ||| b : Nat) : Int) := by
 rw [QdU ha, QdU hb, BitVec.toNat_or, BitVec.toNat_ofNat, BitVec.toNat_ofNat, Nat.mod_eq_of_lt ha, Nat.mod_eq_of_lt hb]
 exact Qhr hs (Nat.or_lt_two_pow ha hb)
theorem Qlo {K : IntKind} {n k : Nat} (hk : k ≤ K.bits) : Qn false K (n : Int) (k : Int) = some (.int K ((n / 2 ^ k : Nat) : Int)) := by
 have h3 : ¬ ((k : Int) < 0) := by omega
 have h5 : min k K.bits = k := by omega
 have h6 : (n : Int).fdiv (2 ^ k) = ((n / 2 ^ k : Nat) : Int) := by
  rw [Int.fdiv_eq_ediv_of_nonneg _ (Int.pow_nonneg (by decide))]
  simp [Int.natCast_ediv, Int.natCast_pow]
 simp only [Qn, if_neg h3, Bool.false_eq_true, if_false, Int.toNat_natCast, h5, h6]
theorem Qvo {K : IntKind} (hs : K.signed = false) {c s : Nat} (h : s ≤ K.bits) (h2 : c * 2 ^ s < 2 ^ K.bits) : Qn true K (c : Int) (s : Int) = some (.int K ((c * 2 ^ s : Nat) : Int)) := by
 have h3 : ¬ ((s : Int) < 0) := by omega
 have h5 : min s K.bits = s := by omega
 have h6 : (c : Int) * 2 ^ s = ((c * 2 ^ s : Nat) : Int) := by simp
 simp only [Qn, if_neg h3, if_true, Int.toNat_natCast, h5, h6]
 rw [Qhr hs h2]
def Qpr (c : Nat) : Nat := (c / 2) ^^^ (if c % 2 = 1 then 3988292384 else 0)
def QgB : Nat → Nat → Nat
 | 0, c => c
 | k + 1, c => QgB k (Qpr c)
theorem QwO {c : Nat} (h : c < 4294967296) : Qpr c < 4294967296 := by
 unfold Qpr
 have : (if c % 2 = 1 then 3988292384 else 0) < 2 ^ 32 := by split <;> decide
 exact Nat.xor_lt_two_pow (n := 32) (by omega) this
theorem QlX : ∀ (k : Nat) {c : Nat}, c < 4294967296 → QgB k c < 4294967296
 | 0, _, h => h
 | k + 1, _, h => QlX k (QwO h)
theorem QoQ : ∀ (k c : Nat), QgB (k + 1) c = Qpr (QgB k c)
 | 0, _ => rfl
 | k + 1, c => by rw [QgB, QoQ k, QgB]
theorem QsP (x h : Nat) : Qpr (x ^^^ 2 * h) = Qpr x ^^^ h := by
 have e1 : (x ^^^ 2 * h) % 2 = x % 2 := by
  have := Nat.xor_mod_two_pow (a := x) (b := 2 * h) (n := 1)
  simpa using this
 have e2 : (x ^^^ 2 * h) / 2 = x / 2 ^^^ h := by rw [Nat.xor_div_two, Nat.mul_div_cancel_left _ (by omega)]
 unfold Qpr
 rw [e1, e2, Nat.xor_assoc, Nat.xor_assoc, Nat.xor_comm h]
theorem QsQ : ∀ (k x h : Nat), QgB k (x ^^^ 2 ^ k * h) = QgB k x ^^^ h
 | 0, x, h => by simp [QgB]
 | k + 1, x, h => by
  rw [QgB, Nat.pow_succ, Nat.mul_comm (2 ^ k) 2, Nat.mul_assoc, QsP, QsQ k, QgB]
theorem QhK (b k : Nat) : b = b % 2 ^ k ^^^ 2 ^ k * (b / 2 ^ k) := by
 apply Nat.eq_of_testBit_eq
 intro i
 rw [Nat.testBit_xor, Nat.testBit_mod_two_pow, Nat.testBit_two_pow_mul, Nat.testBit_div_two_pow]
 by_cases h : i < k
 ·have : ¬ k ≤ i := by omega
  simp [h, this]
 ·have h' : k ≤ i := by omega
  simp [h, h', show i - k + k = i by omega]
theorem Qy1 (s b : Nat) : Qpr (s ^^^ b) = Qpr (s ^^^ b % 2) ^^^ (b / 2) := by
 have h : s ^^^ b = (s ^^^ b % 2) ^^^ 2 * (b / 2) := by
  have := QhK b 1
  rw [Nat.pow_one] at this
  rw [Nat.xor_assoc, ← this]
 rw [h, QsP]
def Qzv (s b : Nat) : Nat := QgB 8 (s ^^^ b)
theorem Quc (s b : Nat) : Qzv s b = s / 256 ^^^ QgB 8 (s % 256 ^^^ b) := by
 have h : s ^^^ b = (s % 256 ^^^ b) ^^^ 2 ^ 8 * (s / 256) := by
  have := QhK s 8
  rw [show (2 : Nat) ^ 8 = 256 from rfl] at this ⊢
  rw [Nat.xor_assoc, Nat.xor_comm b, ← Nat.xor_assoc, ← this]
 rw [Qzv, h, QsQ, Nat.xor_comm]
theorem QAD {s b : Nat} (hs : s < 4294967296) (hb : b < 256) : Qzv s b < 4294967296 := QlX 8 (Nat.xor_lt_two_pow (n := 32) (by omega) (by omega))
def Qm5 (s : Nat) (l : List UInt8) : Nat := l.foldl (fun s b => Qzv s b.toNat) s
theorem QoR {s : Nat} {l : List UInt8} {k : Nat} (h : k < l.length) : Qm5 s (l.take (k + 1)) = Qzv (Qm5 s (l.take k)) (l[k]).toNat := by
 rw [List.take_succ_eq_append_getElem h, Qm5, List.foldl_append]; rfl
theorem Qiq : ∀ {l : List UInt8} {s : Nat}, s < 4294967296 → Qm5 s l < 4294967296
 | [], _, h => h
 | b :: l, s, h => Qiq (l := l) (QAD h (UInt8.toNat_lt b))
def QnS (i : Nat) : List Int := (List.range 256).map fun j => if j < i then ((QgB 8 j : Nat) : Int) else 0
theorem Jy (i : Nat) : (QnS i).length = 256 := by simp [QnS]
theorem Qhs {i j : Nat} (h : j < 256) : (QnS i)[j]'(by rw [Jy]; exact h) = if j < i then ((QgB 8 j : Nat) : Int) else 0 := by simp [QnS]
theorem Qx6 {i : Nat} (h : i < 256) : (QnS i).set i ((QgB 8 i : Nat) : Int) = QnS (i + 1) := by
 refine List.ext_getElem (by simp [Jy]) fun j h1 h2 => ?_
 have hj : j < 256 := by simpa [Jy] using h2
 rw [List.getElem_set, Qhs hj]
 split
 ·rename_i e; subst e; rw [Qhs hj, if_pos (by omega)]
 ·rename_i e; rw [Qhs hj]
  by_cases h3 : j < i
  ·rw [if_pos h3, if_pos (by omega)]
  ·rw [if_neg h3, if_neg (by omega)]
def QrA (P : Prg) (f : Nat) : Prop := VC P f [] (.cell (ks .u32 (QnS 256)))
theorem QbD {l : List UInt8} {k : Nat} (h : k < l.length) : (u8 l).drop k = .int .u8 (l[k]).toNat :: u8 (l.drop (k + 1)) := by
 rw [QaF, List.drop_eq_getElem_cons h]; rfl
set_option maxRecDepth 40000 in
theorem Qq5 {P : Prg} {f t0 : Nat} (bd : Qf P f 24 [.tmp 0] (Qb5 t0)) : QrA P f := by
 refine VC.of_walk 1 rfl (by simp [isD, QeB (Qm _ _)]) (ACall.of_body bd (by simp) ?_)
 unfold Qb5
 have z0 : ([.int .u32 0, .int .u32 0] : List AV) = [.int .u32 0, .int .u32 0] := rfl
 simp (disch := omega) only [rq, simprocAttr]
 refine Qx.by (ι := Nat) (fun i => ⟨[(5, .int .i64 i), (1, .ref 0 1 0)], [⟨t0, 256, 1, ks .u32 (QnS i), 0⟩]⟩) (fun i => i ≤ 256) (fun i => 256 - i) 0 (Le.slots (by simp [Am.look])) (by omega) ?_
 intro i hi
 by_cases hlt : i < 256
 ·simp (disch := omega) only [rq, simprocAttr]
  refine Qx.by (ι := Nat) (fun j => ⟨[(10, .int .i64 j), (3, .int .u32 (QgB j i)), (5, .int .i64 i), (2, .int .i64 i), (1, .ref 0 1 0)], [⟨t0, 256, 1, ks .u32 (QnS i), 0⟩]⟩) (fun j => j ≤ 8) (fun j => 8 - j) 0 (Le.slots (by simp [Am.look, QgB])) (by omega) ?_
  intro j hj
  by_cases hjl : j < 8
  ·have hc := QlX j (c := i) (by omega)
   have hn := QoQ j i
   generalize QgB j i = c at *
   have a1 : IntKind.u32.wrap (BitVec.ofInt IntKind.u32.bits (c : Int) &&& BitVec.ofInt IntKind.u32.bits 1).toNat = ((c % 2 : Nat) : Int) := by
    have h := QCe (K := .u32) rfl (a := c) (b := 1) (by exact hc) (by decide)
    rw [Nat.and_one_is_mod] at h
    exact h
   have a2 : Qn false .u32 (c : Int) 1 = some (.int .u32 ((c / 2 : Nat) : Int)) := Qlo (K := .u32) (n := c) (k := 1) (by decide)
   rcases Nat.mod_two_eq_zero_or_one c with h2 | h2
   ·have a3 : IntKind.u32.wrap (BitVec.ofInt IntKind.u32.bits ((c / 2 : Nat) : Int) ^^^ BitVec.ofInt IntKind.u32.bits 0).toNat = ((QgB (j + 1) i : Nat) : Int) := by
     rw [hn, Qpr, h2, if_neg (by decide)]
     exact QuJ (K := .u32) rfl (a := c / 2) (b := 0) (by show c / 2 < 4294967296; omega) (by decide)
    have a1' : IntKind.u32.wrap (BitVec.ofInt IntKind.u32.bits (c : Int) &&& BitVec.ofInt IntKind.u32.bits 1).toNat = 0 := by rw [a1, h2]; rfl
    simp (disch := omega) only [rq, simprocAttr, a1', a2, a3]
    exact ⟨j + 1, by omega, by omega, Le.slots (by simp [Am.look])⟩
   ·have a3 : IntKind.u32.wrap (BitVec.ofInt IntKind.u32.bits ((c / 2 : Nat) : Int) ^^^ BitVec.ofInt IntKind.u32.bits 3988292384).toNat = ((QgB (j + 1) i : Nat) : Int) := by
     rw [hn, Qpr, h2, if_pos rfl]
     exact QuJ (K := .u32) rfl (a := c / 2) (b := 3988292384) (by show c / 2 < 4294967296; omega) (by decide)
    have a1' : IntKind.u32.wrap (BitVec.ofInt IntKind.u32.bits (c : Int) &&& BitVec.ofInt IntKind.u32.bits 1).toNat = 1 := by rw [a1, h2]; rfl
    simp (disch := omega) only [rq, simprocAttr, a1', a2, a3]
    exact ⟨j + 1, by omega, by omega, Le.slots (by simp [Am.look])⟩
  ·obtain rfl : j = 8 := by omega
   have e1 := Jy i
   have e2 := Qg .u32 (QnS i)
   have e3 : (ks .u32 (QnS i)).take i ++ [.int .u32 (QgB 8 i)] ++ (ks .u32 (QnS i)).drop (i + 1) = ks .u32 (QnS (i + 1)) := by
    rw [← Qx6 hlt, List.set_eq_take_append_cons_drop, if_pos (by rw [Jy]; exact hlt)]; simp [ks, List.map_take, List.map_drop]
   simp (disch := omega) only [rq, simprocAttr, e1, e2, e3]
   exact ⟨i + 1, by omega, by omega, Le.slots (by simp [Am.look])⟩
 ·obtain rfl : i = 256 := by omega
  simp (disch := omega) only [rq, simprocAttr]
  simp [QF, Qu, frzL, Qs, frzL_T _ (Qm _ _)]
def QrM (P : Prg) (f : Nat) : Prop := ∀ (s : Nat) (l : List UInt8), s < 4294967296 → VC P f [.int .u32 s, bs l] (if 100000 < l.length then .tup [.int .u32 0, .int .i64 4] else .tup [.int .u32 (Qm5 s l), .int .i64 0])
set_option maxRecDepth 40000 in
theorem Que {P : Prg} {f fT : Nat} (bd : Qf P f 32 [.tmp 4, .tmp 5] (Qa4 fT)) (hT : QrA P fT) : QrM P f := by
 intro s l hs
 refine VC.of_acall (by simp [isDL, isD, QC]) (by split <;> rfl) (ACall.of_body bd (by simp) ?_)
 by_cases hl : 100000 < l.length
 ·rw [if_pos hl]
  simp (disch := omega) only [rq, simprocAttr, Qa4, bs]
 ·rw [if_neg hl]
  have hT' := hT
  have t0 := Qg .u32 (QnS 256)
  rw [Jy] at t0
  simp (disch := omega) only [rq, simprocAttr, Qa4, bs]
  refine Qb.vc hT' ?_
  simp (disch := omega) only [rq, simprocAttr]
  refine Qx.by (ι := Nat) (fun k => ⟨[(15, .int .i64 k), (14, .int .i64 l.length), (13, .list l.length (u8 l)), (6, .cell (ks .u32 (QnS 256))), (0, .int .u32 (Qm5 s (l.take k)))], []⟩) (fun k => k ≤ l.length) (fun k => l.length - k) 0 (Le.slots (by simp [Am.look, Qm5])) (by omega) ?_
  intro k hk
  have hc := Qiq (l := l.take k) hs
  by_cases hlt : k < l.length
  ·have e1 := QbD hlt
   have hn := QoR (s := s) hlt
   generalize Qm5 s (l.take k) = c at *
   rw [Quc] at hn
   have hb := (l[k]).toNat_lt
   have h0 : (c % 256 ^^^ (l[k]).toNat) < 256 := Nat.xor_lt_two_pow (n := 8) (Nat.mod_lt _ (by decide)) hb
   have h1 := QlX 8 (c := c % 256 ^^^ (l[k]).toNat) (by omega)
   have a1 : Qn false .u32 (c : Int) 8 = some (.int .u32 ((c / 256 : Nat) : Int)) := Qlo (K := .u32) (n := c) (k := 8) (by decide)
   have a2 : IntKind.u8.wrap (c : Int) = ((c % 256 : Nat) : Int) := by rw [Jv]; omega
   have a3 : IntKind.u8.wrap (BitVec.ofInt IntKind.u8.bits ((c % 256 : Nat) : Int) ^^^ BitVec.ofInt IntKind.u8.bits ((l[k]).toNat : Int)).toNat = ((c % 256 ^^^ (l[k]).toNat : Nat) : Int) :=
    QuJ (K := .u8) rfl (a := c % 256) (b := (l[k]).toNat) (Nat.mod_lt _ (by decide)) hb
   have a4 : IntKind.u32.wrap (BitVec.ofInt IntKind.u32.bits ((c / 256 : Nat) : Int) ^^^ BitVec.ofInt IntKind.u32.bits ((QgB 8 (c % 256 ^^^ (l[k]).toNat) : Nat) : Int)).toNat = ((Qm5 s (l.take (k + 1)) : Nat) : Int) := by
    rw [hn]; exact QuJ (K := .u32) rfl (by show c / 256 < 4294967296; omega) h1
   generalize c % 256 ^^^ (l[k]).toNat = x at *
   have e2 : (ks .u32 (QnS 256)).drop x = .int .u32 ((QgB 8 x : Nat) : Int) :: ks .u32 ((QnS 256).drop (x + 1)) := by
    rw [QaJ, List.drop_eq_getElem_cons (by rw [Jy]; exact h0), Qic, Qhs h0, if_pos h0]
   simp (disch := omega) only [rq, simprocAttr, e1, a1, a2, a3, a4, e2, t0]
   exact ⟨k + 1, by omega, by omega, Le.slots (by simp [Am.look])⟩
  ·have ek : k = l.length := by omega
   subst ek
   rw [List.take_length]
   simp (disch := omega) only [rq, simprocAttr]
def Qpm (P : Prg) (f : Nat) : Prop := ∀ (l : List UInt8), VC P f [bs l] (if 100000 < l.length then .tup [.int .u32 0, .int .i64 4] else .tup [.int .u32 ((4294967295 - Qm5 4294967295 l : Nat) : Int), .int .i64 0])
theorem QzF {c : Nat} (h : c < 4294967296) : 4294967295 ^^^ c = 4294967295 - c := by
 have h1 : BitVec.allOnes 32 ^^^ BitVec.ofNat 32 c = ~~~ BitVec.ofNat 32 c := by
  apply BitVec.eq_of_getElem_eq
  intro i hi
  rw [BitVec.getElem_xor, BitVec.getElem_allOnes, BitVec.getElem_not, Bool.true_xor]
 have h2 := congrArg BitVec.toNat h1
 rw [BitVec.toNat_xor, BitVec.toNat_not, BitVec.toNat_allOnes, BitVec.toNat_ofNat, Nat.mod_eq_of_lt h] at h2
 exact h2
theorem QwQ {P : Prg} {f fN : Nat} (bd : Qf P f 16 [.tmp 2, .tmp 3] (QbM fN)) (hN : QrM P fN) : Qpm P f := by
 intro l
 refine VC.of_acall (by simp [isDL, isD, QC]) (by split <;> rfl) (ACall.of_body bd (by simp) ?_)
 have hN' := hN 4294967295 l (by decide)
 have hc := Qiq (l := l) (s := 4294967295) (by decide)
 generalize Qm5 4294967295 l = c at *
 simp only [bs] at hN'
 by_cases hl : 100000 < l.length
 ·rw [if_pos hl] at hN' ⊢
  simp (disch := omega) only [rq, simprocAttr, QbM, bs]
  refine Qb.vc hN' ?_
  simp (disch := omega) only [rq, simprocAttr]
 ·rw [if_neg hl] at hN' ⊢
  have a1 : IntKind.u32.wrap (BitVec.ofInt IntKind.u32.bits IntKind.u32.max ^^^ BitVec.ofInt IntKind.u32.bits (c : Int)).toNat = ((4294967295 - c : Nat) : Int) := by
   rw [← QzF hc]
   exact QuJ (K := .u32) rfl (a := 4294967295) (b := c) (by decide) hc
  have a2 : IntKind.u32.signed = false := rfl
  simp (disch := omega) only [rq, simprocAttr, QbM, bs]
  refine Qb.vc hN' ?_
  simp (disch := omega) only [rq, simprocAttr, a1, a2]
def Qxv (P : Prg) (f : Nat) : Prop := ∀ s b : Nat, s < 4294967296 → b < 2 → VC P f [.int .u32 s, .int .i64 b] (.int .u32 (Qpr (s ^^^ b) : Nat))
theorem QzK {s b : Nat} (hb : b < 2) : Qpr (s ^^^ b) = s / 2 ^^^ (if (s + b) % 2 = 1 then 3988292384 else 0) := by
 have e1 : (s ^^^ b) / 2 = s / 2 := by rw [Nat.xor_div_two, show b / 2 = 0 by omega, Nat.xor_zero]
 have e2 : (s ^^^ b) % 2 = (s + b) % 2 := by
  have := Nat.xor_mod_two_pow (a := s) (b := b) (n := 1)
  rw [Nat.pow_one] at this
  rw [this]
  rcases (by omega : b = 0 ∨ b = 1) with rfl | rfl <;> rcases Nat.mod_two_eq_zero_or_one s with h | h <;> rw [h] <;> (try simp) <;> omega
 rw [Qpr, e1, e2]
theorem QtP {P : Prg} {f : Nat} (bd : Qf P f 19 [.tmp 4] Q2) : Qxv P f := by
 intro s b hs hb
 refine VC.of_acall rfl rfl (ACall.of_body bd (by simp) ?_)
 rw [QzK hb]
 have e1 : IntKind.u32.wrap (BitVec.ofInt IntKind.u32.bits ((s / 2 : Nat) : Int) ^^^ BitVec.ofInt IntKind.u32.bits 3988292384).toNat = ((s / 2 ^^^ 3988292384 : Nat) : Int) :=
  QuJ (K := .u32) rfl (a := s / 2) (b := 3988292384) (by show s / 2 < 4294967296; omega) (by decide)
 have e2 : ((s : Int)).tdiv 2 = ((s / 2 : Nat) : Int) := rfl
 have e3 : ((s : Int)).tmod 2 = ((s % 2 : Nat) : Int) := rfl
 have e5 : (s : Int) / 2 = ((s / 2 : Nat) : Int) := by omega
 rcases Nat.mod_two_eq_zero_or_one s with h | h <;> rcases (by omega : b = 0 ∨ b = 1) with rfl | rfl
 ·rw [if_neg (by omega), Nat.xor_zero]
  rw [h] at e3
  simp (disch := omega) only [rq, simprocAttr, Q2, e1, e2, e3, e5]
 ·rw [if_pos (by omega)]
  rw [h] at e3
  simp (disch := omega) only [rq, simprocAttr, Q2, e1, e2, e3, e5]
 ·rw [if_pos (by omega)]
  rw [h] at e3
  simp (disch := omega) only [rq, simprocAttr, Q2, e1, e2, e3, e5]
 ·rw [if_neg (by omega), Nat.xor_zero]
  rw [h] at e3
  simp (disch := omega) only [rq, simprocAttr, Q2, e1, e2, e3, e5]
def QxH (P : Prg) (f : Nat) : Prop := ∀ s b : Nat, s < 4294967296 → b < 256 → VC P f [.int .u32 s, .int .u8 b] (.int .u32 (Qzv s b : Nat))
def byK (s b : Nat) : Nat → Nat
 | 0 => s
 | k + 1 => Qpr (byK s b k ^^^ b / 2 ^ k % 2)
theorem QzA {s b : Nat} (hs : s < 4294967296) : ∀ k, byK s b k < 4294967296
 | 0 => hs
 | k + 1 => QwO (Nat.xor_lt_two_pow (n := 32) (QzA hs k) (by have := Nat.mod_lt (b / 2 ^ k) (show 0 < 2 by decide); omega))
theorem Qxd (s b : Nat) : ∀ k, k ≤ 8 → QgB (8 - k) (byK s b k ^^^ b / 2 ^ k) = Qzv s b
 | 0, _ => by simp [byK, Qzv]
 | k + 1, h => by
  have := Qxd s b k (by omega)
  rw [show 8 - k = (8 - (k + 1)) + 1 by omega, QgB, Qy1] at this
  rw [byK, Nat.pow_succ, ← Nat.div_div_eq_div_mul]
  exact this
theorem QtQ {P : Prg} {f fS : Nat} (bd : Qf P f 18 [.tmp 4] (Jj fS)) (hS : Qxv P fS) : QxH P f := by
 intro s b hs hb
 refine VC.of_acall rfl rfl (ACall.of_body bd (by simp) ?_)
 simp (disch := omega) only [rq, simprocAttr, Jj]
 refine Qx.by (ι := Nat) (fun k => ⟨[(5, .int .i64 k), (0, .int .u32 (byK s b k)), (1, .int .u8 (b / 2 ^ k : Nat))], []⟩) (fun k => k ≤ 8) (fun k => 8 - k) 0 (Le.slots (by simp [Am.look, byK])) (by omega) ?_
 intro k hk
 have hc := QzA (b := b) hs k
 by_cases hlt : k < 8
 ·have hn : byK s b (k + 1) = Qpr (byK s b k ^^^ b / 2 ^ k % 2) := rfl
  have hd : b / 2 ^ (k + 1) = b / 2 ^ k / 2 := by rw [Nat.pow_succ, Nat.div_div_eq_div_mul]
  have hd2 : b / 2 ^ k ≤ b := Nat.div_le_self _ _
  generalize byK s b k = c at *
  generalize b / 2 ^ k = x at *
  have h2 := hS c (x % 2) hc (Nat.mod_lt _ (by decide))
  rw [← hn] at h2
  have e2 : ((x : Int)).tdiv 2 = ((x / 2 : Nat) : Int) := rfl
  have e3 : ((x : Int)).tmod 2 = ((x % 2 : Nat) : Int) := rfl
  have e4 : x % 2 < 2 := Nat.mod_lt _ (by decide)
  simp (disch := omega) only [rq, simprocAttr, e2, e3]
  refine Qb.vc h2 ?_
  simp (disch := omega) only [rq, simprocAttr, e2]
  exact ⟨k + 1, by omega, by omega, Le.slots (by simp [Am.look, hd])⟩
 ·obtain rfl : k = 8 := by omega
  have h8 := Qxd s b 8 (by omega)
  have h9 : b / 2 ^ 8 = 0 := Nat.div_eq_of_lt hb
  rw [h9, Nat.xor_zero, Nat.sub_self, QgB] at h8
  rw [h8]
  simp (disch := omega) only [rq, simprocAttr]
def Qjf (P : Prg) (f : Nat) : Prop := ∀ (s : Nat) (l : List UInt8), s < 4294967296 → l.length ≤ 1000000 → VC P f [.int .u32 s, bs l] (.int .u32 (Qm5 s l : Nat))
theorem Qoi {P : Prg} {f fB : Nat} (bd : Qf P f 19 [.tmp 4] (Xk fB)) (hB : QxH P fB) : Qjf P f := by
 intro s l hs hl
 refine VC.of_acall (by simp [isDL, isD, QC]) rfl (ACall.of_body bd (by simp) ?_)
 simp (disch := omega) only [rq, simprocAttr, Xk, bs]
 refine Qx.by (ι := Nat) (fun k => ⟨[(5, .int .i64 k), (1, .list l.length (u8 l)), (0, .int .u32 (Qm5 s (l.take k)))], []⟩) (fun k => k ≤ l.length) (fun k => l.length - k) 0 (Le.slots (by simp [Am.look, Qm5])) (by omega) ?_
 intro k hk
 have hc := Qiq (l := l.take k) hs
 by_cases hlt : k < l.length
 ·have e1 := QbD hlt
  have hn := QoR (s := s) hlt
  have h2 := hB (Qm5 s (l.take k)) (l[k]).toNat hc (l[k]).toNat_lt
  rw [← hn] at h2
  simp (disch := omega) only [rq, simprocAttr, e1]
  refine Qb.vc h2 ?_
  simp (disch := omega) only [rq, simprocAttr]
  exact ⟨k + 1, by omega, by omega, Le.slots (by simp [Am.look])⟩
 ·have ek : k = l.length := by omega
  subst ek
  rw [List.take_length]
  simp (disch := omega) only [rq, simprocAttr]
def QxG (P : Prg) (f : Nat) : Prop := ∀ (l : List UInt8), l.length ≤ 1000000 → VC P f [bs l] (.int .u32 ((4294967295 - Qm5 4294967295 l : Nat) : Int))
theorem Qyv {P : Prg} {f fB : Nat} (bd : Qf P f 6 [.tmp 2] (J5 fB)) (hB : Qjf P fB) : QxG P f := by
 intro l hl
 refine VC.of_acall (by simp [isDL, isD, QC]) rfl (ACall.of_body bd (by simp) ?_)
 have h := hB 4294967295 l (by decide) hl
 have hc := Qiq (l := l) (s := 4294967295) (by decide)
 simp only [bs] at h
 generalize Qm5 4294967295 l = c at *
 have e1 : ((4294967295 - c : Nat) : Int) = 4294967295 - c := by omega
 simp (disch := omega) only [rq, simprocAttr, J5, bs]
 refine Qb.vc h ?_
 simp (disch := omega) only [rq, simprocAttr, e1]
def nB (N : Nat) : Nat := (N + 7) / 8
theorem QyN (V i : Nat) : leB V (i + 1) = leB V i ++ [UInt8.ofNat (V / 256 ^ i % 256)] := by
 have h1 : (leB V (i + 1)).take (i + 1) = (leB V (i + 1)).take i ++ [UInt8.ofNat (V / 256 ^ i % 256)] := QaX (by omega)
 have h2 : ∀ k j n : Nat, k ≤ j → (leB n j).take k = leB n k := by
  intro k
  induction k with
  | zero => intro j n _; simp [leB]
  | succ k ih =>
   intro j n h
   obtain ⟨j, rfl⟩ : ∃ j', j = j' + 1 := ⟨j - 1, by omega⟩
   simp [leB, ih j (n / 256) (by omega)]
 rw [h2 (i + 1) (i + 1) V (by omega), h2 i (i + 1) V (by omega)] at h1
 exact h1
theorem Qwe : ∀ (i V u : Nat), leB (V + 256 ^ i * u) i = leB V i
 | 0, _, _ => rfl
 | i + 1, V, u => by
  have e : 256 ^ (i + 1) * u = 256 * (256 ^ i * u) := by rw [Nat.pow_succ, Nat.mul_comm (256 ^ i) 256, Nat.mul_assoc]
  have e1 : (V + 256 ^ (i + 1) * u) % 256 = V % 256 := by rw [e]; omega
  have e2 : (V + 256 ^ (i + 1) * u) / 256 = V / 256 + 256 ^ i * u := by rw [e]; omega
  simp only [leB, e1, e2, Qwe i]
theorem QvW (i : Nat) : (256 : Nat) ^ i = 2 ^ (8 * i) := by rw [Nat.pow_mul]
theorem Qbn {V i at_ : Nat} (h : V < 2 ^ (8 * i + at_)) (ha : at_ ≤ 8) : leB V (i + 1) = leB V i ++ [UInt8.ofNat (V / 256 ^ i)] ∧ V / 256 ^ i < 2 ^ at_ := by
 have h1 : V / 256 ^ i < 2 ^ at_ := Nat.div_lt_of_lt_mul (by rw [QvW, ← Nat.pow_add]; exact h)
 have h2 : 2 ^ at_ ≤ 2 ^ 8 := Nat.pow_le_pow_right (by omega) ha
 exact ⟨by rw [QyN, Nat.mod_eq_of_lt (by omega)], h1⟩
theorem Qao {V i at_ w r : Nat} (h : V < 2 ^ (8 * i + at_)) (hw : w < 2 ^ r) (hr : at_ + r ≤ 8) :
  leB (V + 2 ^ (8 * i + at_) * w) (i + 1) = leB V i ++ [UInt8.ofNat (V / 256 ^ i + 2 ^ at_ * w)] ∧ V / 256 ^ i + 2 ^ at_ * w < 2 ^ (at_ + r) ∧ V + 2 ^ (8 * i + at_) * w < 2 ^ (8 * i + (at_ + r)) := by
 obtain ⟨_, h1⟩ := Qbn h (by omega)
 have e : 2 ^ (8 * i + at_) * w = 256 ^ i * (2 ^ at_ * w) := by rw [QvW, Nat.pow_add, Nat.mul_assoc]
 have h2 : V / 256 ^ i + 2 ^ at_ * w < 2 ^ (at_ + r) := by
  have : 2 ^ at_ * (w + 1) ≤ 2 ^ at_ * 2 ^ r := Nat.mul_le_mul_left _ hw
  rw [Nat.pow_add]; rw [Nat.mul_add, Nat.mul_one] at this; omega
 have h3 : V + 2 ^ (8 * i + at_) * w < 2 ^ (8 * i + (at_ + r)) := by
  have : 2 ^ (8 * i + at_) * (w + 1) ≤ 2 ^ (8 * i + at_) * 2 ^ r := Nat.mul_le_mul_left _ hw
  rw [← Nat.add_assoc, Nat.pow_add 2 (8 * i + at_)]; rw [Nat.mul_add, Nat.mul_one] at this; omega
 refine ⟨?_, h2, h3⟩
 have h4 := (Qbn (V := V + 2 ^ (8 * i + at_) * w) (i := i) (at_ := at_ + r) h3 hr).1
 rw [h4, e, Qwe, Nat.add_mul_div_left _ _ (Nat.pow_pos (by omega))]
theorem QzB (V q r : Nat) (hr : r < 8) : V / 256 ^ q % 256 / 2 ^ r % 2 = V / 2 ^ (8 * q + r) % 2 := by
 rw [QvW, show (256 : Nat) = 2 ^ r * 2 ^ (8 - r) by rw [← Nat.pow_add, show r + (8 - r) = 8 by omega], Nat.mod_mul_right_div_self, Nat.div_div_eq_div_mul, ← Nat.pow_add]
 rw [Nat.mod_mod_of_dvd]
 exact ⟨2 ^ (8 - r - 1), by rw [← Nat.pow_succ']; congr 1; omega⟩
def bA (N V : Nat) : AV := .agg [.list (nB N) (u8 (leB V (nB N))), .int .i64 N]
theorem QeC (N V : Nat) : isD (bA N V) = true := by simp [bA, isD, isDL, QeO]
theorem QsV {n : Nat} (h : n < 9223372036854775808) : IntKind.i64.wrap (BitVec.ofInt IntKind.i64.bits (n : Int) &&& BitVec.ofInt IntKind.i64.bits 7).toNat = ((n % 8 : Nat) : Int) := by
 have e1 : (BitVec.ofInt 64 (n : Int)).toNat = n := by
  rw [BitVec.toNat_ofInt]
  show ((n : Int) % 18446744073709551616).toNat = n
  omega
 have e2 : (BitVec.ofInt 64 7).toNat = 7 := by decide
 have : (BitVec.ofInt 64 (n : Int) &&& BitVec.ofInt 64 7).toNat = n % 8 := by
  rw [BitVec.toNat_and, e1, e2]
  exact Nat.and_two_pow_sub_one_eq_mod n 3
 show IntKind.i64.wrap ((BitVec.ofInt 64 (n : Int) &&& BitVec.ofInt 64 7).toNat : Int) = _
 rw [this, QE] <;> omega
theorem QAV {l : List UInt8} {k : Nat} (h : k < l.length) : (u8 l).drop k = .int .u8 (l[k]).toNat :: u8 (l.drop (k + 1)) := by
 rw [QaF, List.drop_eq_getElem_cons h]; rfl
theorem Qwf {V k i : Nat} (h : i < k) : (u8 (leB V k)).drop i = .int .u8 ((V / 256 ^ i % 256 : Nat) : Int) :: u8 ((leB V k).drop (i + 1)) := by
 rw [QAV (by rw [Qd]; exact h)]
 have := QqE k V i h
 rw [List.getElem?_eq_getElem (by rw [Qd]; exact h)] at this
 rw [Option.some.inj this]
 have : (UInt8.ofNat (V / 256 ^ i % 256)).toNat = V / 256 ^ i % 256 := by simp
 rw [this]
def QdX (P : Prg) (f : Nat) : Prop := ∀ N V : Nat, V < 2 ^ N → N ≤ 330000 → VC P f [bA N V] (.int .i64 0)
theorem Qur {P : Prg} {f t0 : Nat} (bd : Qf P f 40 [.tmp 2] (Qa5 t0)) : QdX P f := by
 intro N V hV hN
 refine VC.of_acall (by simp [isDL, QeC]) rfl (ACall.of_body bd (by simp) ?_)
 have e1 : Qn false .i64 ((N : Int) + 7) 3 = some (.int .i64 ((nB N : Nat) : Int)) := by
  rw [show (N : Int) + 7 = ((N + 7 : Nat) : Int) by omega]
  exact Qlo (K := .i64) (n := N + 7) (k := 3) (by decide)
 have e2 := QsV (n := N) (by omega)
 have e3 : (u8 (leB V (nB N))).length = nB N := by simp [u8, Qd]
 by_cases h0 : N % 8 = 0
 ·rw [h0] at e2
  have e2' : IntKind.i64.wrap (BitVec.ofInt IntKind.i64.bits (N : Int) &&& BitVec.ofInt IntKind.i64.bits 7).toNat = 0 := e2
  simp (disch := omega) only [rq, simprocAttr, Qa5, bA, e1, e2', e3]
 ·have hn : nB N = N / 8 + 1 := by unfold nB; omega
  have h8 : N = 8 * (N / 8) + N % 8 := by omega
  obtain ⟨l1, l2⟩ := Qbn (V := V) (i := N / 8) (at_ := N % 8) (by rw [← h8]; exact hV) (by omega)
  have e4 := Qwf (V := V) (k := nB N) (i := N / 8) (by omega)
  have h256 : V / 256 ^ (N / 8) % 256 = V / 256 ^ (N / 8) := Nat.mod_eq_of_lt (by
   have : 2 ^ (N % 8) ≤ 2 ^ 8 := Nat.pow_le_pow_right (by omega) (by omega)
   omega)
  rw [h256] at e4
  have e5 : Qn false .u8 ((V / 256 ^ (N / 8) : Nat) : Int) ((N % 8 : Nat) : Int) = some (.int .u8 0) := by
   have := Qlo (K := .u8) (n := V / 256 ^ (N / 8)) (k := N % 8) (by show N % 8 ≤ 8; omega)
   rw [this, Nat.div_eq_of_lt l2]; rfl
  have e6 : nB N - 1 = N / 8 := by omega
  have hq : ((N % 8 : Nat) : Int) = (N : Int) % 8 := by omega
  generalize V / 256 ^ (N / 8) = y at *
  obtain ⟨a, ha⟩ : ∃ a, a = N % 8 := ⟨_, rfl⟩
  rw [← ha] at e2 e5 hq
  simp (disch := omega) only [rq, simprocAttr, Qa5, bA, e1, e2, e3, e4, e5, e6]
structure Dl where
 k0 : Nat
 k1 : Nat
 s0 : Nat
 s1 : Nat
def dlC (d : Dl) : List AV := [.int .i64 d.k0, .int .i64 d.k1, .int .u64 d.s0, .int .u64 d.s1]
def dlA (d : Dl) : AV := .agg (dlC d)
def okD (d : Dl) : Prop := d.k0 ≤ 24 ∧ d.k1 ≤ 24 ∧ d.s0 ≤ 68719476735 ∧ d.s1 ≤ 68719476735
def QR : Dl := ⟨10, 10, 16384, 16384⟩
def Qbw (k s n : Nat) : Nat × Nat :=
 if 0 < k ∧ s + n - s / 16 < 2 ^ (k + 4) then (k - 1, s + n - s / 16) else if k < 24 ∧ 2 ^ (k + 5) < s + n - s / 16 then (k + 1, s + n - s / 16) else (k, s + n - s / 16)
def Jn (d : Dl) (v : Nat) : Dl :=
 if v < 2 ^ d.k0 then ⟨(Qbw d.k0 d.s0 v).1, d.k1, (Qbw d.k0 d.s0 v).2, d.s1⟩
 else ⟨(Qbw d.k0 d.s0 v).1, (Qbw d.k1 d.s1 (v - 2 ^ d.k0)).1, (Qbw d.k0 d.s0 v).2, (Qbw d.k1 d.s1 (v - 2 ^ d.k0)).2⟩
theorem Qqy {k s n : Nat} (hk : k ≤ 24) (hs : s ≤ 68719476735) (hn : n < 4294967296) : (Qbw k s n).1 ≤ 24 ∧ (Qbw k s n).2 ≤ 68719476735 := by
 unfold Qbw
 have ht : s + n - s / 16 ≤ 68719476735 := by omega
 generalize s + n - s / 16 = t at *
 split
 ·exact ⟨by simp only; omega, ht⟩
 ·split
  ·rename_i h; exact ⟨by have := h.1; simp only; omega, ht⟩
  ·exact ⟨hk, ht⟩
theorem QyI {d : Dl} {v : Nat} (h : okD d) (hv : v < 4294967296) : okD (Jn d v) := by
 obtain ⟨h1, h2, h3, h4⟩ := h
 have p0 := Qqy h1 h3 hv
 have p1 := Qqy (n := v - 2 ^ d.k0) h2 h4 (Nat.lt_of_le_of_lt (Nat.sub_le _ _) hv)
 unfold Jn
 split
 ·exact ⟨p0.1, h2, p0.2, h4⟩
 ·exact ⟨p0.1, p1.1, p0.2, p1.2⟩
theorem Qya : okD QR := by unfold okD QR; decide
theorem QqH (d : Dl) : isD (dlA d) = true := rfl
def QdF (P : Prg) (f : Nat) : Prop := ∀ k : Nat, k ≤ 40 → VC P f [.int .i64 k] (.int .u64 ((2 ^ k : Nat) : Int))
theorem Qqx {P : Prg} {f : Nat} (bd : Qf P f 13 [.tmp 2] XZ) : QdF P f := by
 intro k hk
 refine VC.of_acall rfl rfl (ACall.of_body bd (by simp) ?_)
 simp (disch := omega) only [rq, simprocAttr, XZ]
 refine Qx.by (ι := Nat) (fun i => ⟨[(4, .int .i64 i), (3, .int .u64 ((2 ^ i : Nat) : Int)), (0, .int .i64 k)], []⟩) (fun i => i ≤ k) (fun i => k - i) 0 (Le.slots (by simp [Am.look])) (by omega) ?_
 intro i hi
 by_cases hlt : i < k
 ·have h1 : 2 ^ i ≤ 2 ^ 40 := Nat.pow_le_pow_right (by omega) (by omega)
  have h2 : 2 ^ (i + 1) = 2 ^ i * 2 := Nat.pow_succ 2 i
  generalize 2 ^ i = p at *
  simp (disch := omega) only [rq, simprocAttr]
  exact ⟨i + 1, by omega, by omega, Le.slots (by simp [Am.look, h2])⟩
 ·obtain rfl : i = k := by omega
  generalize 2 ^ i = p at *
  simp (disch := omega) only [rq, simprocAttr]
theorem p24 {k : Nat} (h : k ≤ 24) : 2 ^ k ≤ 16777216 ∧ 2 ^ (k + 4) = 16 * 2 ^ k ∧ 2 ^ (k + 5) = 32 * 2 ^ k := by
 have := Nat.pow_le_pow_right (n := 2) (by omega) h
 refine ⟨by simpa using this, ?_, ?_⟩ <;> rw [Nat.pow_add, Nat.mul_comm]
def QdE (P : Prg) (f : Nat) : Prop := VC P f [] (dlA QR)
theorem Qua {P : Prg} {f t0 : Nat} (bd : Qf P f 2 [.cell 0 t0] (QcL t0)) (ht : Q6 P t0 = some (some 4)) : QdE P f := by
 refine VC.of_acall rfl rfl (ACall.of_body bd (by simp) ?_)
 simp (disch := omega) only [rq, simprocAttr, QcL, QD, ht, Qz, dlA, dlC, QR]
 try rfl
theorem Qqw {P : Prg} {f t0 : Nat} (bd : Qf P f 2 [.cell 0 t0] (XY t0)) (ht : Q6 P t0 = some (some 4)) : QdE P f := by
 refine VC.of_acall rfl rfl (ACall.of_body bd (by simp) ?_)
 simp (disch := omega) only [rq, simprocAttr, XY, QD, ht, Qz, dlA, dlC, QR]
 try rfl
def QmX (P : Prg) (f : Nat) : Prop := ∀ d : Dl, okD d → VC P f [dlA d] (.int .i64 0)
theorem Qub {P : Prg} {f t0 : Nat} (bd : Qf P f 26 [.tmp 2] (QcM t0)) : QmX P f := by
 intro d h
 obtain ⟨k0, k1, s0, s1⟩ := d
 obtain ⟨h1, h2, h3, h4⟩ := h
 simp only at h1 h2 h3 h4
 refine VC.of_acall rfl rfl (ACall.of_cut 1 bd (by simp) ?_)
 simp (disch := omega) only [rq, simprocAttr, QcM, dlA, dlC, Qdl]
 refine ⟨⟨[(2, .int .i64 0), (1, .cell [.int .i64 k0, .int .i64 k1, .int .u64 s0, .int .u64 s1])], []⟩, Le.dropT [] (by simp) (by simp [Am.look, Qu, frzL, Qs]), ?_⟩
 simp (disch := omega) only [rq, simprocAttr]
def QsW (P : Prg) (f : Nat) : Prop := ∀ (d : Dl) (v : Nat), okD d → v < 4294967296 → VC P f [dlA d, .int .u32 v] (.bool (decide (v < 2 ^ d.k0)))
theorem QvI {P : Prg} {f fP t0 : Nat} (bd : Qf P f 11 [.tmp 4] (JF fP t0)) (hP : QdF P fP) : QsW P f := by
 intro d v h hv
 obtain ⟨k0, k1, s0, s1⟩ := d
 obtain ⟨h1, h2, h3, h4⟩ := h
 simp only at h1 h2 h3 h4
 refine VC.of_acall rfl rfl (ACall.of_body bd (by simp) ?_)
 have hP' := hP k0 (by omega)
 generalize 2 ^ k0 = p at *
 have e1 : decide ((v : Int) < (p : Int)) = decide (v < p) := by simp
 simp (disch := omega) only [rq, simprocAttr, JF, dlA, dlC]
 refine Qb.vc hP' ?_
 simp (disch := omega) only [rq, simprocAttr, e1]
def QmO (P : Prg) (f : Nat) : Prop := ∀ (d : Dl) (v : Nat), okD d → v < 4294967296 → 2 ^ d.k0 ≤ v → VC P f [dlA d, .int .u32 v] (.int .u32 ((v - 2 ^ d.k0 : Nat) : Int))
theorem QtJ {P : Prg} {f fP t0 : Nat} (bd : Qf P f 12 [.tmp 4] (Jg fP t0)) (hP : QdF P fP) : QmO P f := by
 intro d v h hv hle
 obtain ⟨k0, k1, s0, s1⟩ := d
 obtain ⟨h1, h2, h3, h4⟩ := h
 simp only at h1 h2 h3 h4 hle
 refine VC.of_acall rfl rfl (ACall.of_body bd (by simp) ?_)
 have hP' := hP k0 (by omega)
 generalize 2 ^ k0 = p at *
 have e1 : ((v - p : Nat) : Int) = (v : Int) - p := by omega
 simp (disch := omega) only [rq, simprocAttr, Jg, dlA, dlC]
 refine Qb.vc hP' ?_
 simp (disch := omega) only [rq, simprocAttr, e1]
def QrB (P : Prg) (f : Nat) : Prop := ∀ k s n : Nat, k ≤ 24 → s ≤ 68719476735 → n < 4294967296 → VC P f [.int .i64 k, .int .u64 s, .int .u64 n] (.tup [.int .i64 (Qbw k s n).1, .int .u64 (Qbw k s n).2])
theorem QtI {P : Prg} {f fP : Nat} (bd : Qf P f 40 [.tmp 6, .tmp 7] (QH fP)) (hP : QdF P fP) : QrB P f := by
 intro k s n hk hs hn
 refine VC.of_acall rfl rfl (ACall.of_body bd (by simp) ?_)
 have hP1 : VC P fP [.int .i64 ((k : Int) + 4)] (.int .u64 ((2 ^ (k + 4) : Nat) : Int)) := hP (k + 4) (by omega)
 have hP2 : VC P fP [.int .i64 ((k : Int) + 5)] (.int .u64 ((2 ^ (k + 5) : Nat) : Int)) := hP (k + 5) (by omega)
 obtain ⟨q1, q2, q3⟩ := p24 hk
 obtain ⟨t, ht⟩ : ∃ t, t = s + n - s / 16 := ⟨_, rfl⟩
 have e1 : (s : Int) + n - (s : Int) / 16 = (t : Int) := by omega
 have e2 : Qbw k s n = if 0 < k ∧ t < 2 ^ (k + 4) then (k - 1, t) else if k < 24 ∧ 2 ^ (k + 5) < t then (k + 1, t) else (k, t) := by rw [Qbw, ← ht]
 rw [e2]
 generalize 2 ^ (k + 4) = p4 at *
 generalize 2 ^ (k + 5) = p5 at *
 by_cases c1 : 0 < k
 ·by_cases c2 : t < p4
  ·rw [if_pos ⟨c1, c2⟩]
   have e5 : ((k - 1 : Nat) : Int) = (k : Int) - 1 := by omega
   simp (disch := omega) only [rq, simprocAttr, QH, e1]
   refine Qb.vc hP1 ?_
   simp (disch := omega) only [rq, simprocAttr, e5]
  ·rw [if_neg (fun h => c2 h.2)]
   by_cases c3 : k < 24
   ·by_cases c4 : p5 < t
    ·rw [if_pos ⟨c3, c4⟩]
     simp (disch := omega) only [rq, simprocAttr, QH, e1]
     refine Qb.vc hP1 ?_
     simp (disch := omega) only [rq, simprocAttr]
     refine Qb.vc hP2 ?_
     simp (disch := omega) only [rq, simprocAttr]
    ·rw [if_neg (fun h => c4 h.2)]
     simp (disch := omega) only [rq, simprocAttr, QH, e1]
     refine Qb.vc hP1 ?_
     simp (disch := omega) only [rq, simprocAttr]
     refine Qb.vc hP2 ?_
     simp (disch := omega) only [rq, simprocAttr]
   ·rw [if_neg (fun h => c3 h.1)]
    simp (disch := omega) only [rq, simprocAttr, QH, e1]
    refine Qb.vc hP1 ?_
    simp (disch := omega) only [rq, simprocAttr]
 ·rw [if_neg (fun h => c1 h.1)]
  obtain rfl : k = 0 := by omega
  by_cases c4 : p5 < t
  ·rw [if_pos ⟨by omega, c4⟩]
   simp (disch := omega) only [rq, simprocAttr, QH, e1]
   refine Qb.vc hP2 ?_
   simp (disch := omega) only [rq, simprocAttr]
  ·rw [if_neg (fun h => c4 h.2)]
   simp (disch := omega) only [rq, simprocAttr, QH, e1]
   refine Qb.vc hP2 ?_
   simp (disch := omega) only [rq, simprocAttr]
def QmP (P : Prg) (f : Nat) : Prop := ∀ (d : Dl) (v : Nat), okD d → v < 4294967296 → VC P f [dlA d, .int .u32 v] (dlA (Jn d v))
theorem Qof {P : Prg} {f fL fF fP t0 : Nat} (bd : Qf P f 38 [.cell 4 t0] (Zu fL fF fP t0)) (hL : QsW P fL) (hF : QmO P fF) (hP : QrB P fP) (ht : Q6 P t0 = some (some 4)) : QmP P f := by
 intro d v h hv
 have hL' := hL d v h hv
 have hF' := hF d v h hv
 obtain ⟨k0, k1, s0, s1⟩ := d
 obtain ⟨h1, h2, h3, h4⟩ := h
 simp only at h1 h2 h3 h4
 have hP0 := hP k0 s0 v h1 h3 hv
 have hP1 := hP k1 s1 (v - 2 ^ k0) h2 h4 (Nat.lt_of_le_of_lt (Nat.sub_le _ _) hv)
 refine VC.of_acall rfl rfl (ACall.of_body bd (by simp) ?_)
 unfold Jn
 simp only [dlA, dlC] at hL' hF' ⊢
 by_cases c : v < 2 ^ k0
 ·rw [if_pos c]
  simp only [c, decide_true] at hL'
  simp (disch := omega) only [rq, simprocAttr, Zu, dlA, dlC]
  refine Qb.vc hL' ?_
  simp (disch := omega) only [rq, simprocAttr]
  refine Qb.vc hP0 ?_
  simp (disch := omega) only [rq, simprocAttr, QD, ht, Qz]
 ·rw [if_neg c]
  simp only [c, decide_false] at hL'
  have hF'' := hF' (by omega)
  generalize 2 ^ k0 = p at *
  simp (disch := omega) only [rq, simprocAttr, Zu, dlA, dlC]
  refine Qb.vc hL' ?_
  simp (disch := omega) only [rq, simprocAttr]
  refine QU.vc hF'' ?_
  simp (disch := omega) only [rq, simprocAttr]
  refine QU.vc hP1 ?_
  simp (disch := omega) only [rq, simprocAttr]
  refine Qb.vc hP0 ?_
  simp (disch := omega) only [rq, simprocAttr, QD, ht, Qz]
def Qi3 (P : Prg) (f : Nat) : Prop := ∀ (d : Dl) (v : Nat), okD d → v < 4294967296 → VC P f [dlA d, .int .u32 v] (if v < 2 ^ d.k0 then .tup [.int .i64 0, .int .u32 v] else .tup [.int .i64 1, .int .u32 ((v - 2 ^ d.k0 : Nat) : Int)])
theorem Qt7 {P : Prg} {f t0 : Nat} (bd : Qf P f 17 [.tmp 4, .tmp 5] (Qa1 t0)) : Qi3 P f := by
 intro d v h hv
 obtain ⟨k0, k1, s0, s1⟩ := d
 obtain ⟨h1, h2, h3, h4⟩ := h
 simp only at h1 h2 h3 h4
 refine VC.of_acall rfl (by simp only; split <;> rfl) (ACall.of_body bd (by simp) ?_)
 have e1 : Qn false .u32 (v : Int) (k0 : Int) = some (.int .u32 ((v / 2 ^ k0 : Nat) : Int)) := Qlo (K := .u32) (by show k0 ≤ 32; omega)
 obtain ⟨q1, _⟩ := p24 h1
 have e2 : Qn true .u32 1 (k0 : Int) = some (.int .u32 ((2 ^ k0 : Nat) : Int)) := by
  have := Qvo (K := .u32) rfl (c := 1) (s := k0) (by show k0 ≤ 32; omega) (by show 1 * 2 ^ k0 < 4294967296; omega)
  rw [Nat.one_mul] at this
  exact this
 simp only
 by_cases c : v < 2 ^ k0
 ·rw [if_pos c]
  rw [Nat.div_eq_of_lt c] at e1
  have e1' : Qn false .u32 (v : Int) (k0 : Int) = some (.int .u32 0) := e1
  simp (disch := omega) only [rq, simprocAttr, Qa1, dlA, dlC, e1']
 ·rw [if_neg c]
  have hpos : 0 < v / 2 ^ k0 := Nat.div_pos (by omega) (Nat.pow_pos (by omega))
  have hle : v / 2 ^ k0 ≤ v := Nat.div_le_self _ _
  have e3 : ((v - 2 ^ k0 : Nat) : Int) = (v : Int) - ((2 ^ k0 : Nat) : Int) := by omega
  generalize v / 2 ^ k0 = w at *
  generalize 2 ^ k0 = p at *
  simp (disch := omega) only [rq, simprocAttr, Qa1, dlA, dlC, e1, e2, e3]
theorem Qgu {P : Prg} {f : Nat} (bd : Qf P f 58 [] Qt) {ob : List Ob} {p : Nat} {t : Nat} {d : Dl} (hp : ob[p]? = some ⟨t, 4, 1, dlC d, 0⟩) (hd : okD d) {n : Nat} (hn : n < 4294967296) (b : Bool) {K : AV → List Ob → Prop}
  (hK : K (.tup []) (ob.set p ⟨t, 4, 1, dlC (if b then ⟨d.k0, (Qbw d.k1 d.s1 n).1, d.s0, (Qbw d.k1 d.s1 n).2⟩ else ⟨(Qbw d.k0 d.s0 n).1, d.k1, (Qbw d.k0 d.s0 n).2, d.s1⟩), 0⟩)) :
  ACall P f [.ref p 1 (if b then 1 else 0), .ref p 1 (if b then 3 else 2), .int .u32 n] ob K := by
 have hpl : p < ob.length := (List.getElem?_eq_some_iff.1 hp).1
 have g1 : ∀ x, (ob.set p x)[p]? = some x := fun x => by simp [hpl]
 have g2 : ∀ x y, (ob.set p x).set p y = ob.set p y := fun x y => List.set_set _
 have key : ∀ k s : Nat, k ≤ 24 → s ≤ 68719476735 → ∃ t p4 p5 : Nat, t ≤ 68719476735 ∧ IntKind.u64.wrap ((s : Int) + IntKind.u64.wrap ((n : Int) - ((s / 16 : Nat) : Int))) = (t : Int) ∧ Qn false .u64 (s : Int) 4 = some (.int .u64 ((s / 16 : Nat) : Int)) ∧
   Qn true .u64 16 (k : Int) = some (.int .u64 (p4 : Int)) ∧ Qn true .u64 32 (k : Int) = some (.int .u64 (p5 : Int)) ∧
   Qn true .u64 16 (k : Int) = some (.int .u64 (p4 : Int)) ∧ Qbw k s n = if 0 < k ∧ t < p4 then (k - 1, t) else if k < 24 ∧ p5 < t then (k + 1, t) else (k, t) := by
  intro k s hk hs
  obtain ⟨q1, q2, q3⟩ := p24 hk
  refine ⟨s + n - s / 16, 2 ^ (k + 4), 2 ^ (k + 5), by omega, ?_, Qlo (K := .u64) (k := 4) (by decide), ?_, ?_, ?_, rfl⟩
  ·rw [ZQ, ZQ]; omega
  ·rw [q2]; exact Qvo (K := .u64) rfl (c := 16) (by show k ≤ 64; omega) (by show 16 * 2 ^ k < 18446744073709551616; omega)
  ·rw [q3]; exact Qvo (K := .u64) rfl (c := 32) (by show k ≤ 64; omega) (by show 32 * 2 ^ k < 18446744073709551616; omega)
  ·rw [q2]; exact Qvo (K := .u64) rfl (c := 16) (by show k ≤ 64; omega) (by show 16 * 2 ^ k < 18446744073709551616; omega)
 obtain ⟨k0, k1, s0, s1⟩ := d
 obtain ⟨h1, h2, h3, h4⟩ := hd
 simp only at h1 h2 h3 h4
 refine ACall.of_body bd (by simp) ?_
 simp only [dlC] at hp hK
 cases b with
 | false =>
  obtain ⟨u, p4, p5, hu, e1, e2, e3, e4, _, e5⟩ := key k0 s0 h1 h3
  simp only [e5, Bool.false_eq_true, if_false] at hK ⊢
  by_cases c1 : 0 < k0
  ·by_cases c2 : u < p4
   ·rw [if_pos ⟨c1, c2⟩] at hK
    have e6 : ((k0 - 1 : Nat) : Int) = (k0 : Int) - 1 := by omega
    simp only [e6] at hK
    simp (disch := omega) only [rq, simprocAttr, Qt, hp, g1, g2, e1, e2, e3, e4, e6]
    exact hK
   ·rw [if_neg (fun h => c2 h.2)] at hK
    by_cases c3 : k0 < 24
    ·by_cases c4 : p5 < u
     ·rw [if_pos ⟨c3, c4⟩] at hK
      simp only [Int.natCast_add] at hK
      simp (disch := omega) only [rq, simprocAttr, Qt, hp, g1, g2, e1, e2, e3, e4]
      exact hK
     ·rw [if_neg (fun h => c4 h.2)] at hK
      simp (disch := omega) only [rq, simprocAttr, Qt, hp, g1, g2, e1, e2, e3, e4]
      exact hK
    ·rw [if_neg (fun h => c3 h.1)] at hK
     simp (disch := omega) only [rq, simprocAttr, Qt, hp, g1, g2, e1, e2, e3, e4]
     exact hK
  ·rw [if_neg (fun h => c1 h.1)] at hK
   by_cases c4 : p5 < u
   ·rw [if_pos ⟨by omega, c4⟩] at hK
    simp only [Int.natCast_add] at hK
    simp (disch := omega) only [rq, simprocAttr, Qt, hp, g1, g2, e1, e2, e3, e4]
    exact hK
   ·rw [if_neg (fun h => c4 h.2)] at hK
    simp (disch := omega) only [rq, simprocAttr, Qt, hp, g1, g2, e1, e2, e3, e4]
    exact hK
 | true =>
  obtain ⟨u, p4, p5, hu, e1, e2, e3, e4, _, e5⟩ := key k1 s1 h2 h4
  simp only [e5, if_true] at hK ⊢
  by_cases c1 : 0 < k1
  ·by_cases c2 : u < p4
   ·rw [if_pos ⟨c1, c2⟩] at hK
    have e6 : ((k1 - 1 : Nat) : Int) = (k1 : Int) - 1 := by omega
    simp only [e6] at hK
    simp (disch := omega) only [rq, simprocAttr, Qt, hp, g1, g2, e1, e2, e3, e4, e6]
    exact hK
   ·rw [if_neg (fun h => c2 h.2)] at hK
    by_cases c3 : k1 < 24
    ·by_cases c4 : p5 < u
     ·rw [if_pos ⟨c3, c4⟩] at hK
      simp only [Int.natCast_add] at hK
      simp (disch := omega) only [rq, simprocAttr, Qt, hp, g1, g2, e1, e2, e3, e4]
      exact hK
     ·rw [if_neg (fun h => c4 h.2)] at hK
      simp (disch := omega) only [rq, simprocAttr, Qt, hp, g1, g2, e1, e2, e3, e4]
      exact hK
    ·rw [if_neg (fun h => c3 h.1)] at hK
     simp (disch := omega) only [rq, simprocAttr, Qt, hp, g1, g2, e1, e2, e3, e4]
     exact hK
  ·rw [if_neg (fun h => c1 h.1)] at hK
   by_cases c4 : p5 < u
   ·rw [if_pos ⟨by omega, c4⟩] at hK
    simp only [Int.natCast_add] at hK
    simp (disch := omega) only [rq, simprocAttr, Qt, hp, g1, g2, e1, e2, e3, e4]
    exact hK
   ·rw [if_neg (fun h => c4 h.2)] at hK
    simp (disch := omega) only [rq, simprocAttr, Qt, hp, g1, g2, e1, e2, e3, e4]
    exact hK
def bO (t o N : Nat) : Ob := ⟨t, 2, 1, [.own o (nB N), .int .i64 N], 0⟩
def bY (t N V : Nat) : Ob := ⟨t, 1, nB N, u8 (leB V (nB N)), 0⟩
theorem ZH (V n : Nat) : isDL (u8 (leB V n)) = true := QeO _
theorem Low.put {ob : List Ob} (h : Low ob.length ob) {t t0 o p N V N' : Nat} (ho : o < ob.length) : Low ob.length (Qac ob o p (bY t0 N V) (bO t o N')) := by
 unfold Qac
 refine (h.set ?_).set ?_
 ·exact lowL_D _ (ZH _ _)
 ·simp [bO, lowL, Xu, ho]
theorem Low.drop {ob : List Ob} (h : Low ob.length ob) {t t0 o p N V : Nat} (ho : o < ob.length) {M : Nat} (hM : M ≤ ob.length) {J : List Ob} {fr fr' : List (Nat × AV)}
  (hfr : ∀ q ∈ fr', q.2 = .any ∨ (q.2 = Am.look fr q.1 ∧ Xu ob.length q.2 = true)) :
  Le M ⟨fr, Qac ob o p (bY t0 N V) (bO t o N) ++ J⟩ ⟨fr', Qac ob o p (bY t0 N V) (bO t o N)⟩ := by
 have hl : (Qac ob o p (bY t0 N V) (bO t o N)).length = ob.length := ZA
 refine Le.low (by omega) (by rw [hl]; exact h.put ho) ?_
 rw [hl]
 exact hfr
theorem QBL {V N v j r : Nat} : V + 2 ^ N * (v % 2 ^ (j + r)) = V + 2 ^ N * (v % 2 ^ j) + 2 ^ (N + j) * (v / 2 ^ j % 2 ^ r) := by
 rw [Nat.pow_add, Nat.mod_mul, Nat.mul_add, Nat.pow_add, Nat.mul_assoc, Nat.add_assoc]
set_option maxHeartbeats 1000000 in
theorem Qy8 {P : Prg} {f t0 t : Nat} (bd : Qf P f 75 [] (QcP t0)) {ob : List Ob} {p o N V v n : Nat} (hp : ob[p]? = some (bO t o N)) (ho : ob[o]? = some (bY t0 N V)) (hpo : p ≠ o) (hV : V < 2 ^ N) (hv : v < 2 ^ n) (hn : n ≤ 64) (hN : N + n ≤ 400000) (hfz : Low ob.length ob)
  {K : AV → List Ob → Prop} (hK : K (.tup []) (Qac ob o p (bY t0 (N + n) (V + 2 ^ N * v)) (bO t o (N + n)))) : ACall P f [.ref p 1 0, .int .u64 v, .int .i64 n] ob K := by
 have hol : o < ob.length := (List.getElem?_eq_some_iff.1 ho).1
 have hpl : p < ob.length := (List.getElem?_eq_some_iff.1 hp).1
 refine ACall.of_body bd (by simp) ?_
 have g0 : ∀ x y J, (Qac ob o p x y ++ J)[p]? = some y := fun x y J => by rw [List.getElem?_append_left (by rw [ZA]; exact hpl)]; exact QpT hpl
 have g1 : ∀ x y J, (Qac ob o p x y ++ J)[o]? = some x := fun x y J => by rw [List.getElem?_append_left (by rw [ZA]; exact hol)]; exact QpU hol hpo
 have g2 : ∀ x y J y', (Qac ob o p x y ++ J).set p y' = Qac ob o p x y' ++ J := fun x y J y' => by rw [List.set_append_left _ _ (by rw [ZA]; exact hpl), QuV]
 have g3 : ∀ x y J x', (Qac ob o p x y ++ J).set o x' = Qac ob o p x' y ++ J := fun x y J x' => by rw [List.set_append_left _ _ (by rw [ZA]; exact hol), QuW hpo]
 have g4 : ∀ x y j, (Qac ob o p x y ++ [j])[ob.length]? = some j := fun x y j => by rw [List.getElem?_append_right (by rw [ZA]; exact Nat.le_refl _), ZA, Nat.sub_self]; rfl
 have gp : ∀ x y, (Qac ob o p x y)[p]? = some y := fun x y => QpT hpl
 have go : ∀ x y, (Qac ob o p x y)[o]? = some x := fun x y => QpU hol hpo
 have sp : ∀ x y y', (Qac ob o p x y).set p y' = Qac ob o p x y' := fun x y y' => QuV
 have so : ∀ x y x', (Qac ob o p x y).set o x' = Qac ob o p x' y := fun x y x' => QuW hpo
 have ln : ∀ x y, (Qac ob o p x y).length = ob.length := fun x y => ZA
 simp (disch := omega) only [rq, simprocAttr, QcP]
 refine Qx.by (ι := Nat) (fun j => ⟨[(2, .int .i64 ((n - j : Nat) : Int)), (1, .int .u64 ((v / 2 ^ j : Nat) : Int)), (0, .ref p 1 0)], Qac ob o p (bY t0 (N + j) (V + 2 ^ N * (v % 2 ^ j))) (bO t o (N + j))⟩) (fun j => j ≤ n) (fun j => n - j) 0 ?_ (by omega) ?_
 ·have : Qac ob o p (bY t0 (N + 0) (V + 2 ^ N * (v % 2 ^ 0))) (bO t o (N + 0)) = ob := by
   rw [Nat.add_zero, Nat.pow_zero, Nat.mod_one, Nat.mul_zero, Nat.add_zero]
   exact QnN ho hp hpo
  rw [this]
  exact Le.slots (by simp [Am.look])
 intro j hj
 by_cases hlt : j < n
 ·obtain ⟨M, hM⟩ : ∃ M, M = N + j := ⟨_, rfl⟩
  obtain ⟨i, hi⟩ : ∃ i, i = M / 8 := ⟨_, rfl⟩
  obtain ⟨a, ha⟩ : ∃ a, a = M % 8 := ⟨_, rfl⟩
  obtain ⟨r, hr⟩ : ∃ r, r = min (n - j) (8 - a) := ⟨_, rfl⟩
  have hM8 : M = 8 * i + a := by omega
  have hW : V + 2 ^ N * (v % 2 ^ j) < 2 ^ M := by
   have h1 : v % 2 ^ j < 2 ^ j := Nat.mod_lt _ (Nat.pow_pos (by omega))
   have h2 : 2 ^ N * (v % 2 ^ j + 1) ≤ 2 ^ N * 2 ^ j := Nat.mul_le_mul_left _ h1
   rw [hM, Nat.pow_add]; rw [Nat.mul_add, Nat.mul_one] at h2; omega
  have hstep := QBL (V := V) (N := N) (v := v) (j := j) (r := r)
  rw [← hM] at hstep ⊢
  have hx : v / 2 ^ j < 18446744073709551616 := by
   have h1 : v / 2 ^ j ≤ v := Nat.div_le_self _ _
   have h2 : 2 ^ n ≤ 2 ^ 64 := Nat.pow_le_pow_right (by omega) hn
   omega
  have hxr : v / 2 ^ (j + r) = v / 2 ^ j / 2 ^ r := by rw [Nat.pow_add, Nat.div_div_eq_div_mul]
  generalize V + 2 ^ N * (v % 2 ^ j) = W at *
  generalize hWW : V + 2 ^ N * (v % 2 ^ (j + r)) = W' at *
  generalize hxx : v / 2 ^ j = x at *
  have h2r : 2 ^ r ≤ 2 ^ 8 := Nat.pow_le_pow_right (by omega) (by omega)
  have h2a : 2 ^ a * 2 ^ r ≤ 2 ^ 8 := by rw [← Nat.pow_add]; exact Nat.pow_le_pow_right (by omega) (by omega)
  have hpos : 0 < 2 ^ r := Nat.pow_pos (by omega)
  have hc : x % 2 ^ r < 2 ^ r := Nat.mod_lt _ hpos
  obtain ⟨l1, l2⟩ := Qbn (V := W) (i := i) (at_ := a) (by rw [← hM8]; exact hW) (by omega)
  obtain ⟨b1, b2, _⟩ := Qao (V := W) (i := i) (at_ := a) (w := x % 2 ^ r) (r := r) (by rw [← hM8]; exact hW) hc (by omega)
  rw [← hM8, ← hstep] at b1
  have hyb : W / 256 ^ i < 256 := by
   have : 2 ^ a ≤ 2 ^ 8 := Nat.pow_le_pow_right (by omega) (by omega)
   omega
  have hyb2 : W / 256 ^ i + 2 ^ a * (x % 2 ^ r) < 256 := by
   have : 2 ^ (a + r) ≤ 2 ^ 8 := Nat.pow_le_pow_right (by omega) (by omega)
   omega
  have hca : x % 2 ^ r * 2 ^ a < 2 ^ 8 := by
   rw [Nat.mul_comm]
   exact Nat.lt_of_lt_of_le (Nat.mul_lt_mul_of_pos_left hc (Nat.pow_pos (by omega))) h2a
  have hu : ∀ y, y < 256 → u8 [UInt8.ofNat y] = [.int .u8 (y : Int)] := fun y hy => by simp [u8]; omega
  have e8 : IntKind.u8.wrap (BitVec.ofInt IntKind.u8.bits ((W / 256 ^ i : Nat) : Int) ||| BitVec.ofInt IntKind.u8.bits ((x % 2 ^ r * 2 ^ a : Nat) : Int)).toNat = ((W / 256 ^ i + 2 ^ a * (x % 2 ^ r) : Nat) : Int) := by
   rw [orK (K := .u8) rfl hyb hca, Qsh l2, Nat.mul_comm]
  have e7 : Qn true .u8 ((x % 2 ^ r : Nat) : Int) (a : Int) = some (.int .u8 ((x % 2 ^ r * 2 ^ a : Nat) : Int)) := Qvo rfl (by show a ≤ 8; omega) hca
  have e6 : IntKind.u8.wrap ((x % 2 ^ r : Nat) : Int) = ((x % 2 ^ r : Nat) : Int) := by rw [Jv]; omega
  have e5 : IntKind.u64.wrap (BitVec.ofInt IntKind.u64.bits (x : Int) &&& BitVec.ofInt IntKind.u64.bits ((2 ^ r - 1 : Nat) : Int)).toNat = ((x % 2 ^ r : Nat) : Int) := by
   rw [Qxq _ _ hx (by omega), Nat.and_two_pow_sub_one_eq_mod]
  have e4 : IntKind.u64.wrap (((2 ^ r : Nat) : Int) - 1) = ((2 ^ r - 1 : Nat) : Int) := by rw [ZQ]; omega
  have e3 : Qn true .u64 1 (r : Int) = some (.int .u64 ((2 ^ r : Nat) : Int)) := by
   have := Qvo (K := .u64) rfl (c := 1) (s := r) (by show r ≤ 64; omega) (by show 1 * 2 ^ r < 18446744073709551616; omega)
   rw [Nat.one_mul] at this
   exact this
  have e9 : Qn false .u64 (x : Int) (r : Int) = some (.int .u64 ((x / 2 ^ r : Nat) : Int)) := Qlo (K := .u64) (by show r ≤ 64; omega)
  have e1 := QsV (n := M) (by omega)
  rw [← ha] at e1
  have e2 : (if (8 : Int) - a < ((n - j : Nat) : Int) then (8 : Int) - a else ((n - j : Nat) : Int)) = (r : Int) := by split <;> omega
  have hnB : nB (M + r) = i + 1 := by unfold nB; omega
  have hcell : u8 (leB W' (i + 1)) = u8 (leB W i) ++ [.int .u8 ((W / 256 ^ i + 2 ^ a * (x % 2 ^ r) : Nat) : Int)] := by
   rw [b1, show u8 (leB W i ++ [UInt8.ofNat (W / 256 ^ i + 2 ^ a * (x % 2 ^ r))]) = u8 (leB W i) ++ u8 [UInt8.ofNat (W / 256 ^ i + 2 ^ a * (x % 2 ^ r))] by simp [u8]]
   rw [hu _ hyb2]
  have hlen : (u8 (leB W i)).length = i := by simp [u8, Qd]
  rw [← hxr] at e9
  generalize W / 256 ^ i + 2 ^ a * (x % 2 ^ r) = y' at *
  generalize x % 2 ^ r * 2 ^ a = ca at *
  generalize x % 2 ^ r = c at *
  generalize 2 ^ r - 1 = mk at *
  generalize 2 ^ r = pr at *
  have d1 : ∀ z : AV, (u8 (leB W i) ++ [z]).drop i = [z] := fun z => by rw [List.drop_left' hlen]
  have d2 : ∀ z : AV, (u8 (leB W i) ++ [z]).take i = u8 (leB W i) := fun z => by rw [List.take_left' hlen]
  have d3 : ∀ z : AV, (u8 (leB W i) ++ [z]).drop (i + 1) = [] := fun z => List.drop_of_length_le (by simp [hlen])
  have jr : n - j - r = n - (j + r) := by omega
  have el : (⟨t0, 1, i + 1, u8 (leB W i) ++ [.int .u8 (y' : Int)], 0⟩ : Ob) = bY t0 (M + r) W' := by rw [bY, hnB, hcell]
  have er : (⟨t, 2, 1, [.own o (i + 1), .int .i64 ((M : Int) + r)], 0⟩ : Ob) = bO t o (M + r) := by rw [bO, hnB, Int.natCast_add]
  have hMr : N + (j + r) = M + r := by omega
  have e10 : ((n - j : Nat) : Int) - r = ((n - (j + r) : Nat) : Int) := by omega
  have e11 : (M : Int) + r = ((M + r : Nat) : Int) := by omega
  by_cases h0 : a = 0
  ·subst h0
   have hnM : nB M = i := by unfold nB; omega
   have hW0 : W / 256 ^ i = 0 := by
    have := l2
    rw [Nat.pow_zero] at this
    exact Nat.lt_one_iff.1 this
   rw [hW0] at e8
   have e8' : IntKind.u8.wrap (BitVec.ofInt IntKind.u8.bits 0 ||| BitVec.ofInt IntKind.u8.bits (ca : Int)).toNat = (y' : Int) := e8
   have e1' : IntKind.i64.wrap (BitVec.ofInt IntKind.i64.bits (M : Int) &&& BitVec.ofInt IntKind.i64.bits 7).toNat = 0 := e1
   have e2' : (if (8 : Int) < ((n - j : Nat) : Int) then (8 : Int) else ((n - j : Nat) : Int)) = (r : Int) := by split <;> omega
   have e12 : i + 1 - 1 = i := by omega
   have e7' : Qn true .u8 (c : Int) 0 = some (.int .u8 (ca : Int)) := e7
   have e13 : (i : Int) + 1 - 1 = i := by omega
   simp (disch := omega) only [rq, simprocAttr, e2', e12, e13, bO, bY, gp, go, sp, so, ln, g0, g1, g2, g3, g4, hnM, hlen, e1', e2, e3, e4, e5, e6, e7', e8', e9, d1, d2, d3]
   refine ⟨j + r, by omega, by omega, ?_⟩
   show Le ob.length _ ⟨[(2, .int .i64 ((n - (j + r) : Nat) : Int)), (1, .int .u64 ((v / 2 ^ (j + r) : Nat) : Int)), (0, .ref p 1 0)], Qac ob o p (bY t0 (N + (j + r)) (V + 2 ^ N * (v % 2 ^ (j + r)))) (bO t o (N + (j + r)))⟩
   rw [hWW, hMr, el, er]
   exact hfz.drop hol (Nat.le_refl _) (by simp [Am.look, Xu, hpl, e10])
  ·have hnM : nB M = i + 1 := by unfold nB; omega
   have l3 : u8 (leB W (i + 1)) = u8 (leB W i) ++ [.int .u8 ((W / 256 ^ i : Nat) : Int)] := by
    rw [l1, show u8 (leB W i ++ [UInt8.ofNat (W / 256 ^ i)]) = u8 (leB W i) ++ u8 [UInt8.ofNat (W / 256 ^ i)] by simp [u8], hu _ hyb]
   have e12 : i + 1 - 1 = i := by omega
   have e13 : (i : Int) + 1 - 1 = i := by omega
   have ha0 : (a : Int) ≠ 0 := by omega
   generalize W / 256 ^ i = y at *
   simp (disch := omega) only [rq, simprocAttr, e12, e13, bO, bY, gp, go, sp, so, ln, hnM, hlen, l3, e1, e2, e3, e4, e5, e6, e7, e8, e9, d1, d2, d3]
   refine ⟨j + r, by omega, by omega, ?_⟩
   show Le ob.length _ ⟨[(2, .int .i64 ((n - (j + r) : Nat) : Int)), (1, .int .u64 ((v / 2 ^ (j + r) : Nat) : Int)), (0, .ref p 1 0)], Qac ob o p (bY t0 (N + (j + r)) (V + 2 ^ N * (v % 2 ^ (j + r)))) (bO t o (N + (j + r)))⟩
   rw [hWW, hMr, el, er]
   exact Le.slots (by simp [Am.look, e10])
 ·obtain rfl : j = n := by omega
  rw [Nat.mod_eq_of_lt hv]
  simp (disch := omega) only [rq, simprocAttr]
  exact hK
theorem Qt8 {P : Prg} {f f1 fL t : Nat} (bd : Qf P f 36 [] (J0 f1 fL)) (b1 : Qf P f1 58 [] Qt) (hL : Qi3 P fL) {ob : List Ob} {p : Nat} {d : Dl} (hp : ob[p]? = some ⟨t, 4, 1, dlC d, 0⟩) (hd : okD d) {v : Nat} (hv : v < 4294967296) {K : AV → List Ob → Prop}
  (hK : K (.tup []) (ob.set p ⟨t, 4, 1, dlC (Jn d v), 0⟩)) : ACall P f [.ref p 1 0, .int .u32 v] ob K := by
 have hpl : p < ob.length := (List.getElem?_eq_some_iff.1 hp).1
 have hL' := hL d v hd hv
 have nph : ∀ cs, (⟨t, 4, 1, cs, 0⟩ : Ob) ≠ ph := fun cs e => by have := congrArg Ob.sz e; simp [ph] at this
 refine ACall.of_body bd (by simp) ?_
 unfold Jn at hK
 have hp0 := hp
 obtain ⟨k0, k1, s0, s1⟩ := d
 simp only [dlC] at hp
 simp only [dlA, dlC] at hL' hK
 by_cases c : v < 2 ^ k0
 ·rw [if_pos c] at hL' hK
  simp (disch := omega) only [rq, simprocAttr, J0, hp]
  refine Qb.vc hL' ?_
  simp (disch := omega) only [rq, simprocAttr, hp]
  refine callE.by hp0 (nph _) (fun K hK => Qgu b1 hp0 hd hv false hK) ?_
  simp (disch := omega) only [rq, simprocAttr]
  exact hK
 ·rw [if_neg c] at hL' hK
  have hv2 : v - 2 ^ k0 < 4294967296 := Nat.lt_of_le_of_lt (Nat.sub_le _ _) hv
  obtain ⟨h1, h2, h3, h4⟩ := hd
  have pk := Qqy h2 h4 hv2
  simp only at h1 h2 h3 h4 pk
  generalize v - 2 ^ k0 = w at *
  simp (disch := omega) only [rq, simprocAttr, J0, hp]
  refine Qb.vc hL' ?_
  simp (disch := omega) only [rq, simprocAttr, hp]
  refine callE.by hp0 (nph _) (fun K hK => Qgu b1 hp0 ⟨h1, h2, h3, h4⟩ hv2 true hK) ?_
  have hp1 : (ob.set p ⟨t, 4, 1, dlC ⟨k0, (Qbw k1 s1 w).1, s0, (Qbw k1 s1 w).2⟩, 0⟩)[p]? = some ⟨t, 4, 1, dlC ⟨k0, (Qbw k1 s1 w).1, s0, (Qbw k1 s1 w).2⟩, 0⟩ := by simp [hpl]
  have hp2 := hp1
  simp only [dlC] at hp2
  simp (disch := omega) only [rq, simprocAttr, dlC, hp2]
  refine callE.by hp1 (nph _) (fun K hK => Qgu b1 hp1 ⟨h1, pk.1, h3, pk.2⟩ hv false hK) ?_
  rw [List.set_set]
  simp (disch := omega) only [rq, simprocAttr]
  exact hK
theorem Qn5 {P : Prg} {f : Nat} (bd : Qf P f 9 [.tmp 4] JX) {v k : Nat} (hk : k ≤ 24) (hv : v < 4294967296) : VC P f [.int .u32 v, .int .i64 k] (.bool (decide (48 ≤ v / 2 ^ k))) := by
 refine VC.of_acall rfl rfl (ACall.of_body bd (by simp) ?_)
 have e1 : Qn false .u32 (v : Int) (k : Int) = some (.int .u32 ((v / 2 ^ k : Nat) : Int)) := Qlo (K := .u32) (by show k ≤ 32; omega)
 generalize v / 2 ^ k = w at *
 have e2 : decide ((48 : Int) ≤ (w : Int)) = decide (48 ≤ w) := decide_eq_decide.2 (by omega)
 simp (disch := omega) only [rq, simprocAttr, JX, e1, e2]
def QAO (P : Prg) (f : Nat) : Prop := ∀ v k : Nat, k ≤ 24 → v < 4294967296 → VC P f [.int .u32 v, .int .i64 k] (.bool (decide (48 ≤ v / 2 ^ k)))
theorem Qyp {P : Prg} {f : Nat} (bd : Qf P f 9 [.tmp 4] JX) : QAO P f := by
 exact fun _ _ h1 h2 => Qn5 bd h1 h2
def QmM (P : Prg) (f : Nat) : Prop := ∀ v k : Nat, k ≤ 24 → v < 4294967296 → VC P f [.int .u32 v, .int .i64 k] (.int .i64 (min 48 (v / 2 ^ k) : Nat))
theorem QtK {P : Prg} {f fP : Nat} (bd : Qf P f 12 [.tmp 4] (Jh fP)) (hP : QdF P fP) : QmM P f := by
 intro v k hk hv
 refine VC.of_acall rfl rfl (ACall.of_body bd (by simp) ?_)
 have hP' := hP k (by omega)
 obtain ⟨pk, _⟩ := p24 hk
 have hp : 0 < 2 ^ k := Nat.pow_pos (by omega)
 have hd : v / 2 ^ k ≤ v := Nat.div_le_self _ _
 have e1 : ((v : Int)) / ((2 ^ k : Nat) : Int) = ((v / 2 ^ k : Nat) : Int) := by simp [Int.natCast_ediv]
 have e0 : ((v : Int)).tdiv ((2 ^ k : Nat) : Int) = ((v / 2 ^ k : Nat) : Int) := by rw [Int.tdiv_eq_ediv_of_nonneg (by omega), e1]
 generalize v / 2 ^ k = w at *
 generalize 2 ^ k = p at *
 obtain ⟨m, hm⟩ : ∃ m, m = min 48 w := ⟨_, rfl⟩
 rw [← hm]
 have e2 : (if (w : Int) < 48 then (w : Int) else 48) = (m : Int) := by split <;> omega
 have e3 : (p : Int) ≠ 0 := by omega
 simp (disch := omega) only [rq, simprocAttr, Jh]
 refine Qb.vc hP' ?_
 simp (disch := omega) only [rq, simprocAttr, e0, e1, e2, e3]
set_option maxHeartbeats 2000000 in
theorem QvM {P : Prg} {f t0 t1 : Nat} (bd : Qf P f 43 [.cell 4 t0] (Qp t0 t1)) (ht : Q6 P t0 = some (some 2)) {ob : List Ob} {o N V b : Nat} (ho : ob[o]? = some (bY t1 N V)) (hV : V < 2 ^ N) (hb : b < 2) (hN : N ≤ 400000)
  (hfz : Low ob.length ob) {K : AV → List Ob → Prop}
  (hK : K (.agg [.own o (nB (N + 1)), .int .i64 ((N + 1 : Nat) : Int)]) (ob.set o (bY t1 (N + 1) (V + 2 ^ N * b)))) : ACall P f [.agg [.own o (nB N), .int .i64 N], .int .i64 b] ob K := by
 have hol : o < ob.length := (List.getElem?_eq_some_iff.1 ho).1
 refine ACall.low ?_
 refine ACall.of_body bd (by simp) ?_
 have s1 : ∀ J y, (ob ++ J).set o y = ob.set o y ++ J := fun J y => List.set_append_left _ _ hol
 have s2 : ∀ x J y, (ob.set o x ++ J).set o y = ob.set o y ++ J := fun x J y => by rw [List.set_append_left _ _ (by simpa using hol), List.set_set]
 have g1 : ∀ J, (ob ++ J)[o]? = some (bY t1 N V) := fun J => by rw [List.getElem?_append_left hol]; exact ho
 have g2 : ∀ x J, (ob.set o x ++ J)[o]? = some x := fun x J => by rw [List.getElem?_append_left (by simpa using hol)]; simp [hol]
 have g3 : ∀ x (J : List Ob), (ob.set o x ++ J)[ob.length]? = J[0]? := fun x J => by rw [List.getElem?_append_right (by simp), List.length_set, Nat.sub_self]
 have g4 : ∀ x (J : List Ob), (ob.set o x ++ J)[ob.length + 1]? = J[1]? := fun x J => by rw [List.getElem?_append_right (by simp), List.length_set, Nat.add_sub_cancel_left]
 have g3' : ∀ (J : List Ob), (ob ++ J)[ob.length]? = J[0]? := fun J => by rw [List.getElem?_append_right (Nat.le_refl _), Nat.sub_self]
 have g4' : ∀ (J : List Ob), (ob ++ J)[ob.length + 1]? = J[1]? := fun J => by rw [List.getElem?_append_right (by omega), Nat.add_sub_cancel_left]
 have g5' : ∀ (J : List Ob), (ob ++ J)[ob.length + 2]? = J[2]? := fun J => by rw [List.getElem?_append_right (by omega), Nat.add_sub_cancel_left]
 have g5 : ∀ x (J : List Ob), (ob.set o x ++ J)[ob.length + 2]? = J[2]? := fun x J => by rw [List.getElem?_append_right (by simp), List.length_set, Nat.add_sub_cancel_left]
 have t3 : ∀ (x : Ob) (J : List Ob) y, (ob.set o x ++ J).set ob.length y = ob.set o x ++ J.set 0 y := fun x J y => by rw [List.set_append_right _ _ (by simp), List.length_set, Nat.sub_self]
 have t4 : ∀ (x : Ob) (J : List Ob) y, (ob.set o x ++ J).set (ob.length + 1) y = ob.set o x ++ J.set 1 y := fun x J y => by rw [List.set_append_right _ _ (by simp), List.length_set, Nat.add_sub_cancel_left]
 have t3' : ∀ (J : List Ob) y, (ob ++ J).set ob.length y = ob ++ J.set 0 y := fun J y => by rw [List.set_append_right _ _ (by simp), Nat.sub_self]
 have e2 : (N : Int) % 8 = ((N % 8 : Nat) : Int) := by omega
 have fin : ∀ J : List Ob, ∃ ob' J', ob.set o (bY t1 (N + 1) (V + 2 ^ N * b)) ++ J = ob' ++ J' ∧ ob.length ≤ ob'.length ∧ Low ob'.length ob' ∧ Xu ob'.length (.agg [.own o (nB (N + 1)), .int .i64 ((N + 1 : Nat) : Int)]) = true ∧ K (.agg [.own o (nB (N + 1)), .int .i64 ((N + 1 : Nat) : Int)]) ob' := by
  intro J
  refine ⟨_, J, rfl, by simp, ?_, by simp [Xu, lowL, hol], hK⟩
  rw [List.length_set]
  exact hfz.set (lowL_D _ (ZH _ _))
 obtain ⟨i, hi⟩ : ∃ i, i = N / 8 := ⟨_, rfl⟩
 obtain ⟨a, ha⟩ : ∃ a, a = N % 8 := ⟨_, rfl⟩
 have hN8 : N = 8 * i + a := by omega
 rw [← ha] at e2
 have e3 : (N : Int) / 8 = (i : Int) := by omega
 obtain ⟨l1, l2⟩ := Qbn (V := V) (i := i) (at_ := a) (by rw [← hN8]; exact hV) (by omega)
 obtain ⟨b1, b2, _⟩ := Qao (V := V) (i := i) (at_ := a) (w := b) (r := 1) (by rw [← hN8]; exact hV) (by omega) (by omega)
 rw [← hN8] at b1
 have h2a : 2 ^ a ≤ 2 ^ 7 := Nat.pow_le_pow_right (by omega) (by omega)
 have h2a1 : 2 ^ (a + 1) ≤ 2 ^ 8 := Nat.pow_le_pow_right (by omega) (by omega)
 have hba : b * 2 ^ a = 2 ^ a * b := Nat.mul_comm _ _
 have hbl : 2 ^ a * b ≤ 2 ^ 7 := by
  rcases (by omega : b = 0 ∨ b = 1) with rfl | rfl
  ·simp
  ·rw [Nat.mul_one]; exact h2a
 have hu : ∀ y, y < 256 → u8 [UInt8.ofNat y] = [.int .u8 (y : Int)] := fun y hy => by simp [u8]; omega
 have hnB : nB (N + 1) = i + 1 := by unfold nB; omega
 have hlen : (u8 (leB V i)).length = i := by simp [u8, Qd]
 have hcell : u8 (leB (V + 2 ^ N * b) (i + 1)) = u8 (leB V i) ++ [.int .u8 ((V / 256 ^ i + 2 ^ a * b : Nat) : Int)] := by
  rw [b1, show u8 (leB V i ++ [UInt8.ofNat (V / 256 ^ i + 2 ^ a * b)]) = u8 (leB V i) ++ u8 [UInt8.ofNat (V / 256 ^ i + 2 ^ a * b)] by simp [u8], hu _ (by omega)]
 have hyb : V / 256 ^ i < 256 := by
  have : 2 ^ a ≤ 2 ^ 8 := Nat.pow_le_pow_right (by omega) (by omega)
  omega
 have hybb : V / 256 ^ i + 2 ^ a * b < 256 := by omega
 have d1 : ∀ z : AV, (u8 (leB V i) ++ [z]).drop i = [z] := fun z => by rw [List.drop_left' hlen]
 have d2 : ∀ z : AV, (u8 (leB V i) ++ [z]).take i = u8 (leB V i) := fun z => by rw [List.take_left' hlen]
 have d3 : ∀ z : AV, (u8 (leB V i) ++ [z]).drop (i + 1) = [] := fun z => List.drop_of_length_le (by simp [hlen])
 have hby : bY t1 (N + 1) (V + 2 ^ N * b) = ⟨t1, 1, i + 1, u8 (leB V i) ++ [.int .u8 ((V / 256 ^ i + 2 ^ a * b : Nat) : Int)], 0⟩ := by rw [bY, hnB, hcell]
 rw [hby, hnB] at fin
 have hp1 : 0 < 2 ^ a := Nat.pow_pos (by omega)
 by_cases h0 : a = 0
 ·have hnN : nB N = i := by unfold nB; omega
  have hy0 : V / 256 ^ i = 0 := by
   have := l2
   rw [h0, Nat.pow_zero] at this
   exact Nat.lt_one_iff.1 this
  rw [hy0, Nat.zero_add] at fin hybb
  subst h0
  have e2' : (N : Int) % 8 = 0 := e2
  have fin := fun J => fin J
  rw [Nat.pow_zero, Nat.one_mul] at fin
  simp (disch := omega) only [rq, simprocAttr, Qp, g3', g4', g5', g2, g3, g4, g5, s2, t3, t4, t3', e2', g1, s1, bY, List.append_assoc, List.cons_append, List.nil_append, hnN, hlen]
  refine Qx.by (ι := Nat) (fun k => ⟨[(6, .int .i64 0), (5, .int .i64 1), (4, .ref (ob.length + 1) 1 0), (2, .ref ob.length 1 0), (1, .int .i64 b)],
   ob.set o ⟨t1, 1, i + 1, u8 (leB V i) ++ [.int .u8 0], 0⟩ ++ [⟨t0, 2, 1, [.own o (i + 1), .int .i64 N], 0⟩, ⟨t0, 2, 1, [.emp true, .int .i64 0], 0⟩, ⟨t1, 1, 1, [.int .u8 0], 0⟩]⟩) (fun k => k = 0) (fun k => 0) 0 (Le.slots (by simp [Am.look])) rfl ?_
  intro k hk
  have e10 : (b : Int) * 1 = b := by omega
  simp (disch := omega) only [rq, simprocAttr, Int.zero_add, g2, g3, g4, g5, s2, t3, t4, e2', e3, e10, d1, d2, d3, hlen, QD, ht, Qz, List.set_cons_zero, List.set_cons_succ]
  exact fin _
 ·have hnN : nB N = i + 1 := by unfold nB; omega
  have l3 : u8 (leB V (i + 1)) = u8 (leB V i) ++ [.int .u8 ((V / 256 ^ i : Nat) : Int)] := by
   rw [l1, show u8 (leB V i ++ [UInt8.ofNat (V / 256 ^ i)]) = u8 (leB V i) ++ u8 [UInt8.ofNat (V / 256 ^ i)] by simp [u8], hu _ hyb]
  have ha0 : (a : Int) ≠ 0 := by omega
  rw [bY, hnN, l3] at ho
  have g1' : ∀ J, (ob ++ J)[o]? = some ⟨t1, 1, i + 1, u8 (leB V i) ++ [.int .u8 ((V / 256 ^ i : Nat) : Int)], 0⟩ := fun J => by rw [List.getElem?_append_left hol]; exact ho
  have t4' : ∀ (J : List Ob) y, (ob ++ J).set (ob.length + 1) y = ob ++ J.set 1 y := fun J y => by rw [List.set_append_right _ _ (by omega), Nat.add_sub_cancel_left]
  have eby : (b : Int) * ((2 ^ a : Nat) : Int) = ((2 ^ a * b : Nat) : Int) := by rw [Nat.mul_comm]; simp
  generalize V / 256 ^ i = y at *
  simp (disch := omega) only [rq, simprocAttr, Qp, g3', g4', g5', e2, g1', s1, t3', t4', List.append_assoc, List.cons_append, List.nil_append, hnN, hlen]
  refine Qx.by (ι := Nat) (fun k => ⟨[(6, .int .i64 k), (5, .int .i64 ((2 ^ k : Nat) : Int)), (4, .ref (ob.length + 1) 1 0), (2, .ref ob.length 1 0), (1, .int .i64 b)],
   ob ++ [⟨t0, 2, 1, [.own o (i + 1), .int .i64 N], 0⟩, ⟨t0, 2, 1, [.emp true, .int .i64 0], 0⟩]⟩) (fun k => k ≤ a) (fun k => a - k) 0 (Le.slots (by simp [Am.look])) (by omega) ?_
  intro k hk
  by_cases hlt : k < a
  ·have h1 : 2 ^ k ≤ 2 ^ 7 := Nat.pow_le_pow_right (by omega) (by omega)
   have h2 : 2 ^ (k + 1) = 2 ^ k * 2 := Nat.pow_succ 2 k
   generalize 2 ^ k = pk at *
   simp (disch := omega) only [rq, simprocAttr, g3', e2]
   exact ⟨k + 1, by omega, by omega, Le.slots (by simp [Am.look, h2])⟩
  ·obtain rfl : k = a := by omega
   generalize 2 ^ k * b = w at *
   generalize 2 ^ k = pk at *
   simp (disch := omega) only [rq, simprocAttr, g3', g4', g1', s1, s2, g2, g3, g4, t3, t4, t3', t4', e2, e3, eby, d1, d2, d3, hlen, QD, ht, Qz, List.set_cons_zero, List.set_cons_succ]
   exact fin _
def Zm (c r : Nat) (v : List Nat) : Dl := ((List.range v.length).filter fun j => j % c == r).foldl (fun d j => Jn d (v.getD j 0)) QR
theorem Qiv {c r x : Nat} {v : List Nat} : Zm c r (v ++ [x]) = if v.length % c = r then Jn (Zm c r v) x else Zm c r v := by
 have h1 : ∀ (l : List Nat) (d : Dl), (∀ j ∈ l, j < v.length) → l.foldl (fun d j => Jn d ((v ++ [x]).getD j 0)) d = l.foldl (fun d j => Jn d (v.getD j 0)) d := by
  intro l
  induction l with
  | nil => intro d _; rfl
  | cons a l ih =>
   intro d h
   simp only [List.foldl_cons]
   have ha : a < v.length := h a (by simp)
   rw [ih _ fun j hj => h j (by simp [hj])]
   congr 2
   rw [List.getD_eq_getElem?_getD, List.getD_eq_getElem?_getD, List.getElem?_append_left ha]
 unfold Zm
 rw [List.length_append, List.length_cons, List.length_nil, Nat.zero_add, List.range_succ, List.filter_append, List.foldl_append]
 have hf := h1 ((List.range v.length).filter fun j => j % c == r) QR (fun j hj => by
  have := (List.mem_filter.1 hj).1
  simpa using this)
 rw [hf]
 have hx : (v ++ [x]).getD v.length 0 = x := by simp [List.getD_eq_getElem?_getD]
 by_cases h : v.length % c = r
 ·rw [if_pos h]
  have : (List.filter (fun j => j % c == r) [v.length]) = [v.length] := by simp [h]
  rw [this]
  simp only [List.foldl_cons, List.foldl_nil]
  rw [hx]
 ·rw [if_neg h]
  have : (List.filter (fun j => j % c == r) [v.length]) = [] := by simp [h]
  rw [this]
  rfl
def N32 (v : List Nat) : Prop := ∀ x ∈ v, x < 4294967296
theorem Ql3 {c r : Nat} {v : List Nat} (h : N32 v) : okD (Zm c r v) := by
 unfold Zm
 have key : ∀ (l : List Nat) (d : Dl), okD d → (∀ j ∈ l, j < v.length) → okD (l.foldl (fun d j => Jn d (v.getD j 0)) d) := by
  intro l
  induction l with
  | nil => intro d h _; exact h
  | cons a l ih =>
   intro d hd hl
   have ha : a < v.length := hl a (by simp)
   refine ih _ (QyI hd ?_) fun j hj => hl j (by simp [hj])
   rw [List.getD_eq_getElem?_getD, List.getElem?_eq_getElem ha]
   exact h _ (List.getElem_mem ha)
 exact key _ _ Qya fun j hj => by
  have := (List.mem_filter.1 hj).1
  simpa using this
def QA9 (V N a : Nat) : Nat := if 7 < N - a then 12 else if V / 2 ^ a = 0 then 0 else 12
def Qcc (p : List UInt8) : Nat := 4294967295 - Qm5 4294967295 p
def QyC (v : List Nat) : AV := QpW (v.map fun n : Nat => (n : Int))
theorem QsA (v : List Nat) : isD (QyC v) = true := by simp [QyC, QpW, isD, QW]
def Qra (c r : Nat) (v : List Nat) (i : Nat) : Dl := ((List.range i).filter fun j => j % c == r).foldl (fun d j => Jn d (v.getD j 0)) QR
theorem QgD {c r i : Nat} {v : List Nat} : Qra c r v (i + 1) = if i % c = r then Jn (Qra c r v i) (v.getD i 0) else Qra c r v i := by
 unfold Qra
 rw [List.range_succ, List.filter_append, List.foldl_append]
 by_cases h : i % c = r
 ·rw [if_pos h, show (List.filter (fun j => j % c == r) [i]) = [i] by simp [h]]; rfl
 ·rw [if_neg h, show (List.filter (fun j => j % c == r) [i]) = [] by simp [h]]; rfl
theorem QgE {c r i : Nat} {v : List Nat} : ∀ j, (∀ t, i ≤ t → t < i + j → t % c ≠ r) → Qra c r v (i + j) = Qra c r v i
 | 0, _ => rfl
 | j + 1, h => by
  rw [← Nat.add_assoc, QgD, if_neg (h (i + j) (by omega) (by omega)), QgE j fun t h1 h2 => h t h1 (by omega)]
theorem QBf {c i t r : Nat} (h : i % c = r) (h1 : i < t) (h2 : t < i + c) : t % c ≠ r := by
 intro h3
 have h4 : (t - i) % c = 0 := Nat.sub_mod_eq_zero_of_mod_eq (by rw [h, h3])
 rw [Nat.mod_eq_of_lt (by omega)] at h4
 omega
theorem Qu3 (p : List UInt8) : Qcc p < 4294967296 := by unfold Qcc; omega
def QmH (P : Prg) (f : Nat) : Prop := ∀ p : List UInt8, p.length ≤ 1000000 → VC P f [bs p] (bs (p ++ leB (Qcc p) 4))
theorem Qoa {P : Prg} {f fO t0 : Nat} (bd : Qf P f 22 [.tmp 2] (Xh fO t0)) (hO : QxG P fO) : QmH P f := by
 intro p hp
 refine VC.of_walk 1 (by simp [isDL, QC]) (QC _) (ACall.of_body bd (by simp) ?_)
 have hO' := hO p hp
 rw [← Qcc] at hO'
 have hs := Qu3 p
 generalize Qcc p = s at *
 simp only [bs] at hO'
 have e1 : IntKind.u8.wrap (s : Int) = ((s % 256 : Nat) : Int) := by rw [Jv]; omega
 have a1 : Qn false .u32 (s : Int) 8 = some (.int .u32 ((s / 256 : Nat) : Int)) := Qlo (K := .u32) (k := 8) (by decide)
 have a2 : Qn false .u32 (s : Int) 16 = some (.int .u32 ((s / 65536 : Nat) : Int)) := Qlo (K := .u32) (k := 16) (by decide)
 have a3 : Qn false .u32 (s : Int) 24 = some (.int .u32 ((s / 16777216 : Nat) : Int)) := Qlo (K := .u32) (k := 24) (by decide)
 have e2 : IntKind.u8.wrap ((s / 256 : Nat) : Int) = ((s / 256 % 256 : Nat) : Int) := by rw [Jv]; omega
 have e3 : IntKind.u8.wrap ((s / 65536 : Nat) : Int) = ((s / 65536 % 256 : Nat) : Int) := by rw [Jv]; omega
 have e4 : IntKind.u8.wrap ((s / 16777216 : Nat) : Int) = ((s / 16777216 % 256 : Nat) : Int) := by rw [Jv]; omega
 have hb : u8 (p ++ leB s 4) = u8 p ++ [.int .u8 ((s % 256 : Nat) : Int), .int .u8 ((s / 256 % 256 : Nat) : Int), .int .u8 ((s / 65536 % 256 : Nat) : Int), .int .u8 ((s / 16777216 % 256 : Nat) : Int)] := by
  simp [u8, leB, Nat.div_div_eq_div_mul]
 have hl : (p ++ leB s 4).length = p.length + 4 := by simp [Qd]
 rw [bs, hb, hl]
 generalize s % 256 = b0 at *
 generalize s / 256 % 256 = b1 at *
 generalize s / 65536 % 256 = b2 at *
 generalize s / 16777216 % 256 = b3 at *
 have tt : isTL (u8 p ++ [.int .u8 (b0 : Int), .int .u8 (b1 : Int), .int .u8 (b2 : Int), .int .u8 (b3 : Int)]) = true := by simp [Qcz, Qv, isTL, isT]
 simp (disch := omega) only [rq, simprocAttr, Xh, bs]
 refine Qb.vc hO' ?_
 simp (disch := omega) only [rq, simprocAttr, e1, a1, a2, a3, e2, e3, e4]
 simp [QF, Qu, frzL, Qs, frzL_T _ tt]
def QfG (F : Nat → Dl) : List AV := dlC (F 0) ++ dlC (F 1) ++ dlC (F 2) ++ dlC (F 3) ++ dlC (F 4) ++ dlC (F 5)
theorem Qwj (F : Nat → Dl) : isTL (QfG F) = true := rfl
theorem QfF (F : Nat → Dl) : (QfG F).length = 24 := rfl
theorem Qyi (F : Nat → Dl) {j : Nat} (h : j < 6) : ∃ r, (QfG F).drop (j * 4) = .int .i64 (F j).k0 :: .int .i64 (F j).k1 :: .int .u64 (F j).s0 :: .int .u64 (F j).s1 :: r := by
 rcases (by omega : j = 0 ∨ j = 1 ∨ j = 2 ∨ j = 3 ∨ j = 4 ∨ j = 5) with rfl | rfl | rfl | rfl | rfl | rfl <;> exact ⟨_, rfl⟩
def QAU (F : Nat → Dl) (j : Nat) (d : Dl) : Nat → Dl := fun i => if i = j then d else F i
theorem Qr2 (F : Nat → Dl) {j : Nat} (h : j < 6) (d : Dl) : (QfG F).take (j * 4) ++ [.int .i64 d.k0, .int .i64 d.k1, .int .u64 d.s0, .int .u64 d.s1] ++ (QfG F).drop (j * 4 + 4) = QfG (QAU F j d) := by
 rcases (by omega : j = 0 ∨ j = 1 ∨ j = 2 ∨ j = 3 ∨ j = 4 ∨ j = 5) with rfl | rfl | rfl | rfl | rfl | rfl <;> rfl
def iL (o : List Nat) : List Int := o.map fun n : Nat => (n : Int)
theorem mod_mul (m c : Nat) : (m * c) % c = 0 := Nat.mul_mod_left m c
def Qd5 (v k : Nat) : Nat := if 48 ≤ v / 2 ^ k then 80 else v / 2 ^ k + 1 + k
def Qhi (v k : Nat) : Nat := if 48 ≤ v / 2 ^ k then 2 ^ 48 - 1 + 2 ^ 48 * v else 2 ^ (v / 2 ^ k) - 1 + 2 ^ (v / 2 ^ k + 1) * (v % 2 ^ k)
def QeQ (d : Dl) (v : Nat) : Nat := if v < 2 ^ d.k0 then 1 + d.k0 else 1 + Qd5 (v - 2 ^ d.k0) d.k1
def QjR (d : Dl) (v : Nat) : Nat := if v < 2 ^ d.k0 then 2 * v else 1 + 2 * Qhi (v - 2 ^ d.k0) d.k1
theorem Z8 {V N W n : Nat} (hV : V < 2 ^ N) (hW : W < 2 ^ n) : V + 2 ^ N * W < 2 ^ (N + n) := by
 have h1 : 2 ^ N * (W + 1) ≤ 2 ^ N * 2 ^ n := Nat.mul_le_mul_left _ hW
 rw [Nat.pow_add]
 rw [Nat.mul_add, Nat.mul_one] at h1
 omega
theorem Qyr {v k : Nat} (hv : v < 4294967296) : Qhi v k < 2 ^ Qd5 v k := by
 unfold Qhi Qd5
 split
 ·exact Z8 (N := 48) (n := 32) (by decide) hv
 ·have h1 : v % 2 ^ k < 2 ^ k := Nat.mod_lt _ (Nat.pow_pos (by omega))
  refine Z8 ?_ h1
  have : 0 < 2 ^ (v / 2 ^ k) := Nat.pow_pos (by omega)
  rw [Nat.pow_succ]
  omega
theorem Qyq {v k : Nat} (hk : k ≤ 24) : Qd5 v k ≤ 80 := by unfold Qd5; split <;> omega
theorem QlY {d : Dl} {v : Nat} (hd : okD d) : QeQ d v ≤ 81 := by
 have := Qyq (v := v - 2 ^ d.k0) hd.2.1
 have := hd.1
 unfold QeQ
 split <;> omega
theorem QwR (d : Dl) (v : Nat) : 1 ≤ QeQ d v := by unfold QeQ; split <;> omega
theorem QlZ {d : Dl} {v : Nat} (hv : v < 4294967296) : QjR d v < 2 ^ QeQ d v := by
 unfold QjR QeQ
 split
 ·rename_i h
  rw [Nat.pow_add, Nat.pow_one]
  omega
 ·have h := Qyr (v := v - 2 ^ d.k0) (k := d.k1) (Nat.lt_of_le_of_lt (Nat.sub_le _ _) hv)
  exact Z8 (N := 1) (V := 1) (by decide) h
def QBq (c : Nat) (v : List Nat) : Nat → Nat × Nat
 | 0 => (0, 0)
 | i + 1 => ((QBq c v i).1 + QeQ (Zm c (i % c) (v.take i)) (v.getD i 0), (QBq c v i).2 + 2 ^ (QBq c v i).1 * QjR (Zm c (i % c) (v.take i)) (v.getD i 0))
def Qg8 (c : Nat) (v : List Nat) (i : Nat) : Nat := (QBq c v i).1
def QtZ (c : Nat) (v : List Nat) (i : Nat) : Nat := (QBq c v i).2
theorem Qii (c : Nat) (v : List Nat) : Qg8 c v 0 = 0 := rfl
theorem Qig (c : Nat) (v : List Nat) : QtZ c v 0 = 0 := rfl
theorem Qij (c : Nat) (v : List Nat) (i : Nat) : Qg8 c v (i + 1) = Qg8 c v i + QeQ (Zm c (i % c) (v.take i)) (v.getD i 0) := rfl
theorem Qih (c : Nat) (v : List Nat) (i : Nat) : QtZ c v (i + 1) = QtZ c v i + 2 ^ Qg8 c v i * QjR (Zm c (i % c) (v.take i)) (v.getD i 0) := rfl
theorem N32.take {v : List Nat} (h : N32 v) (i : Nat) : N32 (v.take i) := fun x hx => h x (List.mem_of_mem_take hx)
theorem N32.getD {v : List Nat} (h : N32 v) (i : Nat) : v.getD i 0 < 4294967296 := by
 rw [List.getD_eq_getElem?_getD]
 cases hx : v[i]? with
 | none => simp
 | some x => exact h x (List.mem_of_getElem? hx)
theorem Qch {c : Nat} {v : List Nat} (h : N32 v) : ∀ i, QtZ c v i < 2 ^ Qg8 c v i ∧ Qg8 c v i ≤ 81 * i ∧ i ≤ Qg8 c v i
 | 0 => by rw [Qii, Qig]; decide
 | i + 1 => by
  obtain ⟨h1, h2, h3⟩ := Qch h i
  have hd := Ql3 (c := c) (r := i % c) (h.take i)
  have h4 := QlY (v := v.getD i 0) hd
  have h5 := QwR (Zm c (i % c) (v.take i)) (v.getD i 0)
  rw [Qij, Qih]
  exact ⟨Z8 h1 (QlZ (h.getD i)), by omega, by omega⟩
def Qd7 (c : Nat) (v : List Nat) : List UInt8 := leB (QtZ c v v.length) (nB (Qg8 c v v.length))
def ZU (p : List UInt8) : List UInt8 := p ++ leB (Qcc p) 4
theorem Qn2 (p : List UInt8) : (ZU p).length = p.length + 4 := by simp [ZU, Qd]
theorem QhB (c : Nat) (v : List Nat) : (Qd7 c v).length = nB (Qg8 c v v.length) := by simp [Qd7, Qd]
theorem QBo (ob J : List Ob) (k : Nat) : (ob ++ J)[ob.length + k]? = J[k]? := by rw [List.getElem?_append_right (by omega), Nat.add_sub_cancel_left]
theorem QtX (ob J : List Ob) : (ob ++ J)[ob.length]? = J[0]? := QBo ob J 0
theorem QB0 (ob J : List Ob) (k : Nat) (y : Ob) : (ob ++ J).set (ob.length + k) y = ob ++ J.set k y := by rw [List.set_append_right _ _ (by omega), Nat.add_sub_cancel_left]
theorem QA5 (ob J : List Ob) (y : Ob) : (ob ++ J).set ob.length y = ob ++ J.set 0 y := QB0 ob J 0 y
def QhJ (t : Nat) (P : Prg) (f : Nat) : Prop := ∀ l : List UInt8, l.length ≤ 1000000 → VO P f [bs l] (.own 0 l.length) ⟨t, 1, l.length, u8 l, 0⟩
theorem QAF {P : Prg} {f t0 : Nat} (b : Qf P f 8 [.tmp 2] (Q8 t0)) : QhJ t0 P f := by
 intro l hl
 refine VO.of_walk (by simp [isDL, QC]) (QeO l) (by simp [okr]) (ACall.virtR t0 1 (by decide) (ACall.of_body b (by simp) ?_))
 by_cases h0 : l = []
 ·subst h0
  simp (disch := omega) only [rq, simprocAttr, Q8, bs, Qsk, Qj6]
  exact ⟨.inr ⟨true, rfl, 0, rfl, rfl⟩, .inl ⟨0, rfl, rfl⟩⟩
 ·have h1 : l.length ≠ 0 := by simpa using h0
  simp (disch := omega) only [rq, simprocAttr, Q8, bs, Qsk, h1]
  exact .inl ⟨0, rfl, rfl⟩
theorem Qxf {P : Prg} {f fC t0 tb : Nat} (bd : Qf P f 9 [.cell 2 t0] (QbN fC t0)) (hC : QhJ tb P fC) (ht : Q6 P t0 = some (some 2)) {N V : Nat} (hN : N ≤ 400000) {ob : List Ob} (hl : Low ob.length ob) {K : AV → List Ob → Prop}
  (hK : K (.agg [.own ob.length (nB N), .int .i64 N]) (ob ++ [bY tb N V])) : ACall P f [bA N V] ob K := by
 refine ACall.low (ACall.pad (ACall.of_body bd (by simp) ?_))
 have hC' := hC (leB V (nB N)) (by rw [Qd]; unfold nB; omega)
 rw [bs, Qd] at hC'
 have hlow : Low (ob.length + 1) (ob ++ [bY tb N V]) := (hl.mono (by omega)).append (Low.cons (lowL_D _ (ZH _ _)) Low.nil)
 simp (disch := omega) only [rq, simprocAttr, QbN, bA, List.append_assoc, List.cons_append, List.nil_append, QBo, QtX, QB0, QA5]
 refine QU.vo hC' ob.length (by rw [QtX]; rfl) Nat.one_ne_zero ?_
 simp (disch := omega) only [rq, simprocAttr, shr, List.append_assoc, List.cons_append, List.nil_append, QBo, QtX, QB0, QA5, QD, ht, Qz]
 exact ⟨ob ++ [bY tb N V], [_, _], by simp [bY]; exact ⟨rfl, rfl⟩, by simp, by simpa using hlow, by simp [Xu, lowL], hK⟩
def Qpk (P : Prg) (f : Nat) : Prop := ∀ N V v n : Nat, V < 2 ^ N → v < 2 ^ n → n ≤ 64 → N + n ≤ 330000 → VC P f [bA N V, .int .u64 v, .int .i64 n] (.tup [bA (N + n) (V + 2 ^ N * v), .int .i64 0])
theorem Qy9 {P : Prg} {f fC fT fK fP t0 t1 tb : Nat} (bd : Qf P f 44 [.cell 6 t0, .tmp 7] (QcQ fC fT fP t0)) (hC : QdX P fC) (bT : Qf P fT 9 [.cell 2 t1] (QbN fK t1)) (bP : Qf P fP 75 [] (QcP tb)) (hK : QhJ tb P fK) (ht : Q6 P t0 = some (some 2)) (ht1 : Q6 P t1 = some (some 2)) : Qpk P f := by
 intro N V v n hV hv hn hN
 refine VC.of_walk 2 (by simp [isDL, QeC, isD]) (by simp [isD, isDL, QeC]) (ACall.of_body bd (by simp) ?_)
 have hC' := hC N V hV (by omega)
 rw [bA] at hC'
 have e1 : n < 64 → Qn false .u64 (v : Int) (n : Int) = some (.int .u64 0) := fun h => by
  rw [Qlo (K := .u64) (by show n ≤ 64; omega), Nat.div_eq_of_lt hv]; rfl
 have tu : isTL (u8 (leB V (nB N))) = true := Qv _
 have tl : ∀ W M, isTL (u8 (leB W M)) = true := fun W M => Qv _
 have tw : ∀ (Q : Exit → St → Prop) os fr dst, wpQ P os Q ⟨Z7 fr dst (.agg [.own 2 (nB N), .int .i64 N]), [⟨t0, 2, 1, [.list (nB N) (u8 (leB V (nB N))), .int .i64 N], 0⟩, ⟨t0, 2, 1, [.emp true, .int .i64 0], 0⟩, bY tb N V]⟩ →
   Qb P fT [.agg [.list (nB N) (u8 (leB V (nB N))), .int .i64 N]] [⟨t0, 2, 1, [.list (nB N) (u8 (leB V (nB N))), .int .i64 N], 0⟩, ⟨t0, 2, 1, [.emp true, .int .i64 0], 0⟩] os Q fr dst := fun Q os fr dst h =>
  Qxf bT hK ht1 (N := N) (V := V) (by omega) (Low.cons (by simp [lowL, Xu, lowL_D _ (ZH _ _)]) (Low.cons (by simp [lowL, Xu]) Low.nil)) h
 have pt : ∀ (Q : Exit → St → Prop) os fr dst, wpQ P os Q ⟨Z7 fr dst (.tup []), [⟨t0, 2, 1, [.own 2 (nB (N + n)), .int .i64 ((N + n : Nat) : Int)], 0⟩, ⟨t0, 2, 1, [.emp true, .int .i64 0], 0⟩, bY tb (N + n) (V + 2 ^ N * v)]⟩ →
   Qb P fP [.ref 0 1 0, .int .u64 v, .int .i64 n] [⟨t0, 2, 1, [.own 2 (nB N), .int .i64 N], 0⟩, ⟨t0, 2, 1, [.emp true, .int .i64 0], 0⟩, bY tb N V] os Q fr dst := fun Q os fr dst h =>
  Qy8 bP (ob := [⟨t0, 2, 1, [.own 2 (nB N), .int .i64 N], 0⟩, ⟨t0, 2, 1, [.emp true, .int .i64 0], 0⟩, bY tb N V]) (p := 0) (o := 2) (t := t0) rfl rfl (by decide) hV hv hn (by omega)
   (Low.cons (by simp [lowL, Xu]) (Low.cons (by simp [lowL, Xu]) (Low.cons (lowL_D _ (ZH _ _)) Low.nil))) h
 have tu' := tl (V + 2 ^ N * v) (nB (N + n))
 generalize V + 2 ^ N * v = W at *
 by_cases h64 : n < 64
 ·have e1' := e1 h64
  simp (disch := omega) only [rq, simprocAttr, QcQ, bA]
  refine Qb.vc hC' ?_
  simp (disch := omega) only [rq, simprocAttr, e1']
  refine tw _ _ _ _ ?_
  simp (disch := omega) only [rq, simprocAttr]
  refine pt _ _ _ _ ?_
  simp (disch := omega) only [rq, simprocAttr, QD, ht, Qz]
  simp [QF, Qu, frzL, Qs, bY, frzL_T _ tu']
 ·simp (disch := omega) only [rq, simprocAttr, QcQ, bA]
  refine Qb.vc hC' ?_
  simp (disch := omega) only [rq, simprocAttr]
  refine tw _ _ _ _ ?_
  simp (disch := omega) only [rq, simprocAttr]
  refine pt _ _ _ _ ?_
  simp (disch := omega) only [rq, simprocAttr, QD, ht, Qz]
  simp [QF, Qu, frzL, Qs, bY, frzL_T _ tu']
end Go.Am
