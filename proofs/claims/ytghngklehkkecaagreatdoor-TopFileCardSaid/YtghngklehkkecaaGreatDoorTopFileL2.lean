/- What the functions that the law reaches return, for every program that has their code; the conditions stand in each statement. -/
import Derived.Test.YtghngklehkkecaaGreatDoorTopFileL1
set_option linter.unusedSectionVars false
set_option linter.unusedSimpArgs false
set_option linter.unusedVariables false
namespace Go.Am
open Go.RowKit
theorem QdE : ∀ (k n : Nat), n < 256 ^ k → leN (leB n k) = n
 | 0, n, h => by simp at h; subst h; rfl
 | k + 1, n, h => by
  have h1 : n / 256 < 256 ^ k := by rw [yx] at h; exact j5 (by omega)
  have h2 : (UInt8.ofNat (n % 256)).toNat = n % 256 := by simp
  simp only [leB, leN, QdE k _ h1, h2]
  omega
theorem Qma : ∀ l : List UInt8, leB (leN l) l.length = l
 | [] => rfl
 | b :: l => by
  have h1 := b.toNat_lt
  have e1 : (b.toNat + 256 * leN l) % 256 = b.toNat := by omega
  have e2 : (b.toNat + 256 * leN l) / 256 = leN l := by omega
  simp only [leN, qJ, leB, e1, e2, Qma l]
  simp
theorem Qox {s : List UInt8} (h : Xg s = true) : s.length = 4 := by
 simp only [Xg, qn, beq_iff_eq] at h; exact h.2
theorem QzF {c : Ck} (hn : Xg c.1 = true) (hl : c.2.length < 4294967296) (r : List UInt8) : Qa2 (ckB c ++ r) = some (c, r) := by
 have h4 := Qox hn
 obtain ⟨s, d⟩ := c
 simp only at hn hl h4
 generalize hm : d.length = m at hl
 have hB := Qc 4 m
 have e0 : ckB (s, d) ++ r = s ++ (leB m 4 ++ (d ++ (List.replicate (m % 2) 0 ++ r))) := by simp [ckB, qj, hm]
 rw [e0]
 have t1 : (s ++ (leB m 4 ++ (d ++ (List.replicate (m % 2) 0 ++ r)))).take 4 = s := qZ h4
 have t2 : (s ++ (leB m 4 ++ (d ++ (List.replicate (m % 2) 0 ++ r)))).drop 4 = leB m 4 ++ (d ++ (List.replicate (m % 2) 0 ++ r)) := yI h4
 have t3 : (leB m 4 ++ (d ++ (List.replicate (m % 2) 0 ++ r))).take 4 = leB m 4 := qZ hB
 have t4 : (s ++ (leB m 4 ++ (d ++ (List.replicate (m % 2) 0 ++ r)))).drop 8 = d ++ (List.replicate (m % 2) 0 ++ r) := by
  rw [show 8 = 4 + 4 by rfl, ← yl, t2, yI hB]
 have t5 : ∀ j, (s ++ (leB m 4 ++ (d ++ (List.replicate (m % 2) 0 ++ r)))).drop (8 + m + j) = (List.replicate (m % 2) 0 ++ r).drop j := fun j => by
  rw [show 8 + m + j = 8 + (m + j) by omega, ← yl, t4, ← yl, yI hm]
 have tl : (s ++ (leB m 4 ++ (d ++ (List.replicate (m % 2) 0 ++ r)))).length = 8 + m + (m % 2 + r.length) := by simp [hB, hm, h4]; omega
 unfold Qa2
 rw [t1, t2, t3, QdE 4 m (by omega), tl, t4]
 rw [qf (by rintro (h | h); omega; rw [hn] at h; cases h)]
 simp only
 rw [qf (by omega), qZ hm]
 by_cases hodd : m % 2 = 1
 ·have g0 : (s ++ (leB m 4 ++ (d ++ (List.replicate (m % 2) 0 ++ r)))).getD (8 + m) 0 = 0 := by
   have := congrArg (·[0]?) (t5 0)
   simp only [jF, yi, yJ] at this
   rw [qd, this, hodd]
   rfl
  rw [qh hodd, qf (by rintro (h | h); omega; exact h g0), show 9 + m = 8 + m + 1 by omega, t5 1, hodd]
  rfl
 ·have h0 : m % 2 = 0 := by omega
  have := t5 0
  rw [yi] at this
  rw [qf hodd, this, h0]
  rfl
theorem Qw8 {l r : List UInt8} {c : Ck} (h : Qa2 l = some (c, r)) : l = ckB c ++ r ∧ Xg c.1 = true ∧ c.2.length < 4294967296 := by
 unfold Qa2 at h
 split at h
 ·cases h
 rename_i h0
 have h8 : 8 ≤ l.length := by
  rcases yM l.length 8 with h' | h'
  ·exact absurd (.inl h') h0
  ·exact h'
 have hn : Xg (l.take 4) = true := by
  cases hb : Xg (l.take 4) with
  | true => rfl
  | false => exact absurd (.inr hb) h0
 simp only at h
 generalize hm : leN ((l.drop 4).take 4) = m at h
 have hB : (l.drop 4).take 4 = leB m 4 := by
  have := Qma ((l.drop 4).take 4)
  rw [hm, QdC (by omega)] at this
  exact this.symm
 have hm4 : m < 4294967296 := by
  have := QdD ((l.drop 4).take 4)
  rw [hm, QdC (by omega)] at this
  exact this
 split at h
 ·cases h
 rename_i hs
 have d1 : ((l.drop 8).take m).length = m := by simp; omega
 have key : l = l.take 4 ++ ((l.drop 4).take 4 ++ ((l.drop 8).take m ++ l.drop (8 + m))) := by
  conv => lhs; rw [← qN 4 l]
  congr 1
  conv => lhs; rw [← qN 4 (l.drop 4)]
  congr 1
  rw [yl]
  conv => lhs; rw [← qN m (l.drop 8)]
  congr 1
  rw [yl]
 split at h
 ·rename_i hodd
  split at h
  ·cases h
  rename_i hz
  cases h
  refine ⟨?_, hn, by simp only [d1]; exact hm4⟩
  have hlen : 8 + m < l.length := by
   rcases yM (8 + m) l.length with h' | h'
   ·exact h'
   ·exact absurd (.inl (by omega)) hz
  have hz0 : l[8 + m] = 0 := by
   by_cases h' : l.getD (8 + m) 0 = 0
   ·rwa [qd, qc hlen] at h'
   ·exact absurd (.inr h') hz
  have e : l.drop (8 + m) = 0 :: l.drop (9 + m) := by
   rw [qy hlen, hz0, show 8 + m + 1 = 9 + m by omega]
  simp only [ckB, d1, hodd]
  rw [e, hB] at key
  simpa [qj] using key
 ·rename_i hodd
  cases h
  refine ⟨?_, hn, by simp only [d1]; exact hm4⟩
  have h0 : m % 2 = 0 := by omega
  simp only [ckB, d1, h0]
  rw [hB] at key
  simpa [qj] using key
def QAd (l : List Ck) : Prop := ∀ c ∈ l, Xg c.1 = true ∧ c.2.length < 4294967296
theorem Qhf : ∀ (l : List Ck) (k : Nat) (out : List Ck), QAd l → out.length + l.length ≤ 20 → l.length < k → XQ k out (l.flatMap ckB) = .inr (out ++ l)
 | [], k + 1, out, _, _, _ => by simp [XQ]
 | c :: l, k + 1, out, hg, h20, hk => by
  obtain ⟨h1, h2⟩ := hg c (by simp)
  have h4 := Qox h1
  have hne : ckB c ++ l.flatMap ckB ≠ [] := by
   intro h
   have := congrArg List.length h
   rw [qe, QgE] at this
   simp at this
   try omega
  simp only [j2, XQ, qf hne]
  simp only [qJ] at h20
  rw [qf (by omega), QzF h1 h2]
  simp only
  rw [Qhf l k (out ++ [c]) (fun x hx => hg x (by simp [hx])) (by simp; omega) (by simp at hk; omega)]
  simp
theorem Qja : ∀ (k : Nat) (out : List Ck) (rest : List UInt8) (r : List Ck), XQ k out rest = .inr r → out.length ≤ 20 → ∃ l, r = out ++ l ∧ rest = l.flatMap ckB ∧ QAd l ∧ r.length ≤ 20
 | 0, _, _, _, h, _ => by simp [XQ] at h
 | k + 1, out, rest, r, h, hl => by
  simp only [XQ] at h
  split at h
  ·rename_i he
   cases h
   exact ⟨[], by simp, by simp [he], (fun x hx => by cases hx), hl⟩
  ·split at h
   ·cases h
   rename_i h20
   split at h
   ·cases h
   ·rename_i c left hnx
    obtain ⟨e1, e2, e3⟩ := Qw8 hnx
    obtain ⟨l, q1, q2, q3, q4⟩ := Qja k _ _ _ h (by simp; omega)
    refine ⟨c :: l, by rw [q1]; simp, by rw [e1, q2]; simp, fun x hx => ?_, q4⟩
    rcases yH.1 hx with rfl | hx
    ·exact ⟨e2, e3⟩
    ·exact q3 x hx
theorem Qmg : ∀ {l : List Ck}, (∀ c ∈ l, c.1.length = 4) → (l.flatMap ckB).length = szL l
 | [], _ => rfl
 | c :: l, h => by
  have h1 := h c (by simp)
  have h2 := Qmg (l := l) fun x hx => h x (by simp [hx])
  have h3 : szL (c :: l) = szC c + szL l := by simp [szL]
  simp only [j2, qe, QgE, h2, h3, szC]
  omega
theorem QvY : ∀ {l : List Ck} {c : Ck}, c ∈ l → szC c ≤ szL l
 | x :: l, c, h => by
  have e : szL (x :: l) = szC x + szL l := by simp [szL]
  rcases yH.1 h with rfl | h
  ·omega
  ·have := QvY h; omega
theorem QAW : ∀ l : List Ck, l.length * 8 ≤ szL l
 | [] => by simp [szL]
 | x :: l => by
  have e : szL (x :: l) = szC x + szL l := by simp [szL]
  have := QAW l
  simp only [qJ, e, szC]
  omega
theorem Qf1 {form : List UInt8} {l : List Ck} (hf : form.length = 4) (hl : ∀ c ∈ l, c.1.length = 4) : (Jp form l).length = 12 + szL l := by
 simp only [Jp, qe, Qc, Qmg hl, Qaj, qJ, yg, hf]
theorem QfM {form : List UInt8} {l : List Ck} (h0 : Xd form l = 0) (x : List UInt8) (hsz : 12 + szL l ≤ 100000) :
  JH (Jp form l ++ x) = if x = [] then .inr (form, l) else .inl 38 := by
 have hc : l.length ≤ 20 ∧ Xg form = true ∧ ∀ c ∈ l, Xg c.1 = true := by
  unfold Xd at h0
  split at h0
  ·cases h0
  ·rename_i h20
   split at h0
   ·cases h0
   ·rename_i hn
    refine ⟨by omega, ?_, fun c hc => ?_⟩
    ·cases hb : Xg form with
     | true => rfl
     | false => exact absurd (.inl hb) hn
    ·cases hb : Xg c.1 with
     | true => rfl
     | false => exact absurd (.inr (.inr (Yu.2 ⟨c, hc, by simp [hb]⟩))) hn
 obtain ⟨h20, hf, hns⟩ := hc
 have hf4 := Qox hf
 have hg : QAd l := fun c hc => ⟨hns c hc, by
  have : szC c ≤ szL l := by
   exact QvY hc
  simp only [szC] at this
  omega⟩
 have hbl := Qf1 hf4 fun c hc => Qox (hns c hc)
 have hfl := Qmg (l := l) fun c hc => Qox (hns c hc)
 have hm4 : 4 + szL l < 256 ^ 4 := by omega
 generalize hm : 4 + szL l = m at hm4
 have e0 : Jp form l ++ x = Qaj ++ (leB m 4 ++ (form ++ (l.flatMap ckB ++ x))) := by simp [Jp, qj, hm]
 have hB := Qc 4 m
 have r4 : Qaj.length = 4 := rfl
 have t1 : (Qaj ++ (leB m 4 ++ (form ++ (l.flatMap ckB ++ x)))).take 4 = Qaj := qZ r4
 have t2 : (Qaj ++ (leB m 4 ++ (form ++ (l.flatMap ckB ++ x)))).drop 4 = leB m 4 ++ (form ++ (l.flatMap ckB ++ x)) := yI r4
 have t3 : (leB m 4 ++ (form ++ (l.flatMap ckB ++ x))).take 4 = leB m 4 := qZ hB
 have t4 : (Qaj ++ (leB m 4 ++ (form ++ (l.flatMap ckB ++ x)))).drop 8 = form ++ (l.flatMap ckB ++ x) := by
  rw [show 8 = 4 + 4 by rfl, ← yl, t2, yI hB]
 have t5 : (Qaj ++ (leB m 4 ++ (form ++ (l.flatMap ckB ++ x)))).drop 12 = l.flatMap ckB ++ x := by
  rw [show 12 = 8 + 4 by rfl, ← yl, t4, yI hf4]
 have t6 : (form ++ (l.flatMap ckB ++ x)).take 4 = form := qZ hf4
 have t7 : (l.flatMap ckB ++ x).take (m - 4) = l.flatMap ckB := qZ (by omega)
 have tl : (Qaj ++ (leB m 4 ++ (form ++ (l.flatMap ckB ++ x)))).length = m + 8 + x.length := by simp [hB, r4, hf4, hfl]; omega
 rw [e0]
 unfold JH
 rw [tl, t1, t2, t3, t4, t5, t6, QdE 4 m hm4]
 rw [qf (by omega)]
 simp only
 rw [qf (by rintro (h | h | h); exact h rfl; rw [hf] at h; cases h; omega), qf (by omega), qf (by omega)]
 rw [t7, Qhf l (m + 1) [] hg (by simp; omega) (by have := QAW l; omega)]
 simp only [qX]
 by_cases hx : x = []
 ·subst hx; simp
 ·have : 0 < x.length := List.length_pos_iff.2 hx
  rw [qh (by omega), qf hx]
theorem Quq {b form : List UInt8} {l : List Ck} (h : JH b = .inr (form, l)) : Jp form l = b ∧ Xd form l = 0 ∧ l.length ≤ 20 ∧ QAd l ∧ 12 + szL l = b.length ∧ b.length ≤ 100000 ∧ form.length = 4 ∧ 12 ≤ b.length ∧ leN ((b.drop 4).take 4) + 8 = b.length := by
 unfold JH at h
 split at h
 ·cases h
 rename_i h12
 simp only at h
 generalize hm : leN ((b.drop 4).take 4) = m at h
 generalize hfm : (b.drop 8).take 4 = fm at h
 split at h
 ·cases h
 rename_i hc
 split at h
 ·cases h
 rename_i hbig
 split at h
 ·cases h
 rename_i hsh
 have hr : b.take 4 = Qaj := Classical.not_not.1 fun h' => hc (.inl h')
 have hf : Xg fm = true := by
  cases hb : Xg fm with
  | true => rfl
  | false => exact absurd (.inr (.inl hb)) hc
 have hm4 : ¬ m < 4 := fun h' => hc (.inr (.inr h'))
 split at h
 ·cases h
 rename_i out hout
 split at h
 ·cases h
 rename_i hmore
 cases h
 obtain ⟨l', q1, q2, q3, q4⟩ := Qja _ _ _ _ hout (by simp)
 simp only [qX] at q1
 subst q1
 have hlen : b.length = m + 8 := by omega
 have hf4 := Qox hf
 have q5 : (b.drop 12).take (m - 4) = b.drop 12 := qg (by simp; omega)
 rw [q5] at q2
 have hns : ∀ c ∈ l, c.1.length = 4 := fun c hc => Qox (q3 c hc).1
 have hfl := Qmg hns
 have hsz : 4 + szL l = m := by
  have := congrArg List.length q2
  rw [hfl, jl] at this
  omega
 have hB : (b.drop 4).take 4 = leB m 4 := by
  have := Qma ((b.drop 4).take 4)
  rw [hm, QdC (by omega)] at this
  exact this.symm
 have key : b = b.take 4 ++ ((b.drop 4).take 4 ++ ((b.drop 8).take 4 ++ b.drop 12)) := by
  conv => lhs; rw [← qN 4 b]
  congr 1
  conv => lhs; rw [← qN 4 (b.drop 4)]
  congr 1
  rw [yl]
  conv => lhs; rw [← qN 4 (b.drop 8)]
  congr 1
  rw [yl]
 refine ⟨?_, ?_, q4, q3, by omega, by omega, hf4, by omega, by omega⟩
 ·rw [hr, hB, hfm, q2] at key
  rw [key, Jp, hsz]
  simp [qj]
 ·unfold Xd
  rw [qf (by omega), qf]
  rintro (h' | h' | h')
  ·rw [hf] at h'; cases h'
  ·omega
  ·obtain ⟨c, hc, hcn⟩ := Yu.1 h'
   rw [(q3 c hc).1] at hcn
   cases hcn
theorem Qle : ∀ (k : Nat) (out : List Ck) (rest : List UInt8), rest.length < k → XQ k out rest ≠ .inl 0
 | 0, _, _, h => by omega
 | k + 1, out, rest, hk => by
  simp only [XQ]
  split
  ·intro h; cases h
  ·split
   ·intro h; cases h
   ·split
    ·intro h; cases h
    ·rename_i c left hnx
     have := (QsY hnx).1
     exact Qle k _ _ (by omega)
theorem Qol {b : List UInt8} {e : Nat} (h : JH b = .inl e) : e ≠ 0 := by
 unfold JH at h
 split at h
 ·cases h; omega
 simp only at h
 split at h
 ·cases h; omega
 split at h
 ·cases h; omega
 split at h
 ·cases h; omega
 split at h
 ·rename_i e' he
  cases h
  intro h0
  subst h0
  exact Qle _ _ _ (by simp; omega) he
 ·split at h
  ·cases h; omega
  ·cases h
theorem Qjb {form : List UInt8} {l : List Ck} (h : Xd form l = 0) : 12 + szL l ≤ 100000 ∧ l.length ≤ 20 := by
 unfold Xd at h
 split at h
 ·cases h
 ·split at h
  ·cases h
  ·rename_i h2
   generalize szL l = s at *
   exact ⟨by
    rcases yM 100000 (12 + s) with h' | h'
    ·exact absurd (.inr (.inl h')) h2
    ·exact h', by omega⟩
theorem Qpa {form : List UInt8} {l : List Ck} (h0 : Xd form l = 0) : Xg form = true ∧ ∀ c ∈ l, Xg c.1 = true := by
 unfold Xd at h0
 split at h0
 ·cases h0
 ·split at h0
  ·cases h0
  ·rename_i hn
   refine ⟨?_, fun c hc => ?_⟩
   ·cases hb : Xg form with
    | true => rfl
    | false => exact absurd (.inl hb) hn
   ·cases hb : Xg c.1 with
    | true => rfl
    | false => exact absurd (.inr (.inr (Yu.2 ⟨c, hc, by simp [hb]⟩))) hn
def QaY (c b r : Int) : Prop := 1 ≤ c ∧ c ≤ 6 ∧ Z5 b ≠ 0 ∧ 1 ≤ r ∧ r ≤ 1048576
instance (c b r : Int) : Decidable (QaY c b r) := by unfold QaY; exact inferInstance
def QAu (c b r : Int) : Int := if QaY c b r then 0 else 8
def Qdf (c b r : Int) : AV := .agg [.int .i64 c, .int .i64 b, .int .i64 r]
def Qhw : List UInt8 := [1, 0, 0, 0, 0, 0, 16, 0, 128, 0, 0, 170, 0, 56, 155, 113]
def Qbl : List Nat := [2, 2, 4, 4, 2, 2, 2, 2, 4]
def Qsv (c b r tag m : Nat) : List Nat := [tag, c, r, r * (c * b / 8), c * b / 8, b, 22, b, m]
def Qj6 (l : List (Nat × Nat)) : List UInt8 := l.flatMap fun p => leB p.1 p.2
def Qbv (c b r tag : Nat) : List UInt8 := leB tag 2 ++ leB c 2 ++ leB r 4 ++ leB (r * (c * b / 8)) 4 ++ leB (c * b / 8) 2 ++ leB b 2
def Quw (c b r m : Nat) : List UInt8 := Qbv c b r 65534 ++ leB 22 2 ++ leB b 2 ++ leB m 4 ++ Qhw
def Xp (c b r : Nat) (wide : Bool) (m : Nat) : List UInt8 := if wide then Quw c b r m else Qbv c b r 1
theorem QwT (c b r : Nat) (wide : Bool) (m : Nat) : Xp c b r wide m = Qj6 (((Qsv c b r (if wide then 65534 else 1) m).zip Qbl).take (if wide then 9 else 6)) ++ (if wide then Qhw else []) := by
 cases wide <;> simp [Xp, Quw, Qbv, Qj6, Qsv, Qbl]
def JK : List AV := [.int .i64 2, .int .i64 2, .int .i64 4, .int .i64 4, .int .i64 2, .int .i64 2, .int .i64 2, .int .i64 2, .int .i64 4]
def Qq4 : List AV := [.int .u8 1, .int .u8 0, .int .u8 0, .int .u8 0, .int .u8 0, .int .u8 0, .int .u8 16, .int .u8 0, .int .u8 128, .int .u8 0, .int .u8 0, .int .u8 170, .int .u8 0, .int .u8 56, .int .u8 155, .int .u8 113]
theorem QvC : JK = ks .i64 (Qbl.map fun n : Nat => (n : Int)) := by simp [JK, Qbl, ks]
theorem QAa : Qq4 = u8 Qhw := by simp [Qq4, Qhw, u8]
def Qh5 (P : Prg) (f : Nat) : Prop := ∀ c b r : Int, VC P f [Qdf c b r] (.int .i64 (QAu c b r))
theorem Qa5 (b : Int) : Z5 b ≠ 0 ↔ b = 8 ∨ b = 16 ∨ b = 24 := by
 rcases Zj b with ⟨rfl, h⟩ | ⟨rfl, h⟩ | ⟨rfl, h⟩ | ⟨h1, h2, h3, h⟩ <;> simp [h] <;> omega
theorem QxF {P : Prg} {f t0 : Nat} (b : Body P f 27 [.tmp 2] (QJ t0)) : Qh5 P f := by
 intro c x r
 refine Qv rfl rfl b ?_
 by_cases h : QaY c x r
 ·obtain ⟨h1, h2, h3, h4, h5⟩ := h
  have e : QAu c x r = 0 := by simp [QAu, QaY, h1, h2, h3, h4, h5]
  rw [e]
  rcases (Qa5 x).1 h3 with rfl | rfl | rfl
  ·simp (disch := omega) only [rq, simprocAttr, QJ, Qdf]
  ·simp (disch := omega) only [rq, simprocAttr, QJ, Qdf]
  ·simp (disch := omega) only [rq, simprocAttr, QJ, Qdf]
 ·have e : QAu c x r = 8 := by simp [QAu, h]
  rw [e]
  by_cases h1 : c < 1
  ·simp (disch := omega) only [rq, simprocAttr, QJ, Qdf]
  by_cases h2 : 6 < c
  ·simp (disch := omega) only [rq, simprocAttr, QJ, Qdf]
  by_cases h3 : r < 1
  ·simp (disch := omega) only [rq, simprocAttr, QJ, Qdf]
  by_cases h4 : 1048576 < r
  ·simp (disch := omega) only [rq, simprocAttr, QJ, Qdf]
  have h5 : ¬ Z5 x ≠ 0 := fun h5 => h ⟨by omega, by omega, h5, by omega, by omega⟩
  rw [Qa5] at h5
  by_cases h6 : x = 8
  ·omega
  by_cases h7 : x = 16
  ·omega
  by_cases h8 : x = 24
  ·omega
  simp (disch := omega) only [rq, simprocAttr, QJ, Qdf]
def Qf2 (c b : Int) : Bool := decide (2 < c) || decide (16 < b)
def Qsa (P : Prg) (f : Nat) : Prop := ∀ c b r : Int, VC P f [Qdf c b r] (if QaY c b r then .tup [.bool (Qf2 c b), .int .i64 0] else .tup [.bool false, .int .i64 8])
theorem QAg {P : Prg} {f fC t0 : Nat} (b : Body P f 18 [.tmp 2, .tmp 3] (Qao fC t0)) (hC : Qh5 P fC) : Qsa P f := by
 intro c x r
 refine Qv rfl (by split <;> rfl) b ?_
 have hC' := hC c x r
 rw [Qdf] at hC'
 simp (disch := omega) only [rq, simprocAttr, Qao, Qdf]
 refine Qa hC' ?_
 by_cases h : QaY c x r
 ·simp only [QAu, qh h]
  by_cases h2 : 2 < c
  ·have e : Qf2 c x = true := by simp [Qf2, h2]
   simp (disch := omega) only [rq, simprocAttr, e]
  ·by_cases h3 : 16 < x
   ·have e : Qf2 c x = true := by simp [Qf2, h3]
    simp (disch := omega) only [rq, simprocAttr, e]
   ·have e : Qf2 c x = false := by simp [Qf2, h2, h3]
    simp (disch := omega) only [rq, simprocAttr, e]
 ·simp only [QAu, qf h]
  simp (disch := omega) only [rq, simprocAttr]
def Qno (P : Prg) (f : Nat) : Prop := ∀ (c b r : Nat) (wide : Bool) (m : Nat), QaY c b r → m < 4294967296 → VC P f [Qdf c b r, .bool wide, .int .u64 m] (bs (Xp c b r wide m))
def QEG (V : List Nat) : Prop := ∀ k (h : k < V.length) (h' : k < Qbl.length), V[k] < 256 ^ Qbl[k] ∧ 1 ≤ Qbl[k] ∧ Qbl[k] ≤ 8
theorem Qy2 {c b r tag m : Nat} (h : QaY c b r) (hm : m < 4294967296) (ht : tag < 65536) : QEG (Qsv c b r tag m) := by
 obtain ⟨h1, h2, h3, h4, h5⟩ := h
 have hb : b ≤ 24 := by rcases (Qa5 b).1 h3 with h | h | h <;> omega
 have e1 : c * b ≤ 6 * 24 := yX (by omega) hb
 have e2 : r * (c * b / 8) ≤ 1048576 * 18 := yX (by omega) (by omega)
 intro k hk _
 have hk : k < 9 := hk
 match k, hk with
 | 0, _ => simp [Qsv, Qbl]; omega
 | 1, _ => simp [Qsv, Qbl]; omega
 | 2, _ => simp [Qsv, Qbl]; omega
 | 3, _ => simp [Qsv, Qbl]; omega
 | 4, _ => simp [Qsv, Qbl]; omega
 | 5, _ => simp [Qsv, Qbl]; omega
 | 6, _ => simp [Qsv, Qbl]
 | 7, _ => simp [Qsv, Qbl]; omega
 | 8, _ => simp [Qsv, Qbl]; omega
theorem Qon {l : List (Nat × Nat)} {k : Nat} (h : k < l.length) : Qj6 (l.take (k + 1)) = Qj6 (l.take k) ++ leB (l[k]).1 (l[k]).2 := by
 rw [Qj6, qq h, List.flatMap_append]; simp [Qj6]
theorem QwS {V : List Nat} (k : Nat) : (Qj6 ((V.zip Qbl).take k)).length ≤ 36 := by
 have h : ∀ l : List (Nat × Nat), (∀ p ∈ l, p.2 ≤ 4) → (Qj6 l).length ≤ l.length * 4 := by
  intro l
  induction l with
  | nil => simp [Qj6]
  | cons p l ih =>
   intro h
   have h1 := h p (by simp)
   have h2 := ih fun q hq => h q (by simp [hq])
   have e : Qj6 (p :: l) = leB p.1 p.2 ++ Qj6 l := rfl
   rw [e, qe, Qc, qJ]
   omega
 have h2 := h ((V.zip Qbl).take k) fun p hp => by
  have h3 := (List.of_mem_zip (qP hp)).2
  simp [Qbl] at h3; omega
 have h4 : ((V.zip Qbl).take k).length ≤ 9 := by simp [Qbl]; omega
 omega
set_option maxRecDepth 20000 in
set_option maxHeartbeats 1000000 in
theorem QAf {P : Prg} {f fB t0 t1 t2 g0 g1 : Nat} (bd : Body P f 67 [.tmp 6] (Jd fB t0 t1 t2 g0 g1)) (hB : X7 P fB) (h0 : P.G.lookup g0 = some JK) (h1 : P.G.lookup g1 = some Qq4) : Qno P f := by
 intro c b r wide m hok hm
 have hok0 := hok
 obtain ⟨q1, q2, q3, q4, q5⟩ := hok0
 have hb : b ≤ 24 := by rcases (Qa5 b).1 q3 with h | h | h <;> omega
 have e1 : c * b ≤ 6 * 24 := yX (by omega) hb
 have e2 : r * (c * b / 8) ≤ 1048576 * 18 := yX (by omega) (by omega)
 have hpre := QwT c b r wide m
 have hfit : ∀ tag : Nat, tag < 65536 → QEG (Qsv c b r tag m) := fun tag ht => Qy2 hok hm ht
 simp only [Qsv] at hpre hfit
 generalize hS : c * b / 8 = S at *
 generalize hT : r * S = T at *
 have m1 : (c : Int) * b = ((c * b : Nat) : Int) := by simp
 have m2 : ((c * b : Nat) : Int) / 8 = (S : Int) := by omega
 have m3 : (r : Int) * (S : Int) = (T : Int) := by rw [← hT]; simp
 generalize c * b = cb at *
 refine Qk 1 rfl (QD _) (Qb bd (by simp) ?_)
 have g0' : QpS P.G g0 = .cell JK := by simp [QpS, h0]
 have g1' : QpS P.G g1 = .cell Qq4 := by simp [QpS, h1]
 cases wide with
 | false =>
  simp (disch := omega) only [rq, simprocAttr, Jd, Qdf, m1, m2, m3]
  obtain ⟨V, hV⟩ : ∃ V : List Nat, V = [1, c, r, T, S, b, 22, b, m] := ⟨_, rfl⟩
  have hl9 : V.length = 9 := by rw [hV]; rfl
  have hc9 : ([.int .u64 1, .int .u64 c, .int .u64 r, .int .u64 T, .int .u64 S, .int .u64 b, .int .u64 22, .int .u64 b, .int .u64 m] : List AV) = ks .u64 (V.map fun n : Nat => (n : Int)) := by rw [hV]; simp [ks]
  have f1 := hfit 1 (by omega)
  rw [← hV] at f1
  have hp : Xp c b r false m = Qj6 ((V.zip Qbl).take 6) := by rw [hpre, hV]; simp
  rw [hc9, hp]
  refine Qg (ι := Nat) (fun k => ⟨[(45, .int .i64 k), (44, .int .i64 6), (10, .own 2 (Qj6 ((V.zip Qbl).take k)).length), (8, .ref 1 1 0), (1, .bool false)], [⟨t0, 3, 1, [.int .i64 c, .int .i64 b, .int .i64 r], 0⟩, ⟨t1, 9, 1, ks .u64 (V.map fun n : Nat => (n : Int)), 0⟩, ⟨t2, 1, (Qj6 ((V.zip Qbl).take k)).length, u8 (Qj6 ((V.zip Qbl).take k)), 0⟩]⟩) (fun k => k ≤ 6) (fun k => 6 - k) 0 (Le.trans (XU 10 t2 1 (by omega) rfl) (Qm (by simp [Am.look, Qj6]))) (by omega) ?_
  intro k hk
  have hs := QwS (V := V) k
  by_cases hlt : k < 6
  ·have f1 := f1 k (by omega) (by simp [Qbl]; omega)
   have d1 := Xa (K := .u64) (l := V.map fun n : Nat => (n : Int)) (k := k) (by simp; omega)
   have d2 := Xa (K := .i64) (l := Qbl.map fun n : Nat => (n : Int)) (k := k) (by simp [Qbl]; omega)
   have d3 := Qon (l := V.zip Qbl) (k := k) (by simp [Qbl]; omega)
   have d4 : (ks .u64 (V.map fun n : Nat => (n : Int))).length = 9 := by rw [Qh]; simpa using hl9
   have d5 : (ks .i64 (Qbl.map fun n : Nat => (n : Int))).length = 9 := by rw [Qh]; rfl
   rw [j8] at d1 d2
   rw [List.getElem_zip] at d3
   obtain ⟨f1, f2, f3⟩ := f1
   rw [QvC] at g0'
   generalize V[k]'_ = v at *
   generalize Qbl[k]'_ = w at *
   obtain ⟨W, hW⟩ : ∃ W, (Qbl.map fun n : Nat => (n : Int)) = W := ⟨_, rfl⟩
   rw [hW] at d2 d5 g0'
   simp (disch := omega) only [rq, simprocAttr, g0', d1, d2, d4, d5]
   refine QX (hB v w f2 f3 f1) ?_
   simp (disch := omega) only [rq, simprocAttr, bs, Qc]
   refine ⟨k + 1, by omega, by omega, ?_⟩
   rw [d3, ← Zb, qe, Qc]
   exact Ql
  ·have ek : k = 6 := by omega
   subst ek
   simp (disch := omega) only [rq, simprocAttr]
   simp [QO, Qx, frzL, Qy, frzL_T _ (QF _), bs]
 | true =>
  simp (disch := omega) only [rq, simprocAttr, Jd, Qdf, m1, m2, m3]
  obtain ⟨V, hV⟩ : ∃ V : List Nat, V = [65534, c, r, T, S, b, 22, b, m] := ⟨_, rfl⟩
  have hl9 : V.length = 9 := by rw [hV]; rfl
  have hc9 : ([.int .u64 65534, .int .u64 c, .int .u64 r, .int .u64 T, .int .u64 S, .int .u64 b, .int .u64 22, .int .u64 b, .int .u64 m] : List AV) = ks .u64 (V.map fun n : Nat => (n : Int)) := by rw [hV]; simp [ks]
  have f1 := hfit 65534 (by omega)
  rw [← hV] at f1
  have hp : Xp c b r true m = Qj6 ((V.zip Qbl).take 9) ++ Qhw := by rw [hpre, hV]; simp
  rw [hc9, hp]
  refine Qg (ι := Nat) (fun k => ⟨[(45, .int .i64 k), (44, .int .i64 9), (10, .own 2 (Qj6 ((V.zip Qbl).take k)).length), (8, .ref 1 1 0), (1, .bool true)], [⟨t0, 3, 1, [.int .i64 c, .int .i64 b, .int .i64 r], 0⟩, ⟨t1, 9, 1, ks .u64 (V.map fun n : Nat => (n : Int)), 0⟩, ⟨t2, 1, (Qj6 ((V.zip Qbl).take k)).length, u8 (Qj6 ((V.zip Qbl).take k)), 0⟩]⟩) (fun k => k ≤ 9) (fun k => 9 - k) 0 (Le.trans (XU 10 t2 1 (by omega) rfl) (Qm (by simp [Am.look, Qj6]))) (by omega) ?_
  intro k hk
  have hs := QwS (V := V) k
  by_cases hlt : k < 9
  ·have f1 := f1 k (by omega) (by simp [Qbl]; omega)
   have d1 := Xa (K := .u64) (l := V.map fun n : Nat => (n : Int)) (k := k) (by simp; omega)
   have d2 := Xa (K := .i64) (l := Qbl.map fun n : Nat => (n : Int)) (k := k) (by simp [Qbl]; omega)
   have d3 := Qon (l := V.zip Qbl) (k := k) (by simp [Qbl]; omega)
   have d4 : (ks .u64 (V.map fun n : Nat => (n : Int))).length = 9 := by rw [Qh]; simpa using hl9
   have d5 : (ks .i64 (Qbl.map fun n : Nat => (n : Int))).length = 9 := by rw [Qh]; rfl
   rw [j8] at d1 d2
   rw [List.getElem_zip] at d3
   obtain ⟨f1, f2, f3⟩ := f1
   rw [QvC] at g0'
   generalize V[k]'_ = v at *
   generalize Qbl[k]'_ = w at *
   obtain ⟨W, hW⟩ : ∃ W, (Qbl.map fun n : Nat => (n : Int)) = W := ⟨_, rfl⟩
   rw [hW] at d2 d5 g0'
   simp (disch := omega) only [rq, simprocAttr, g0', d1, d2, d4, d5]
   refine QX (hB v w f2 f3 f1) ?_
   simp (disch := omega) only [rq, simprocAttr, bs, Qc]
   refine ⟨k + 1, by omega, by omega, ?_⟩
   rw [d3, ← Zb, qe, Qc]
   exact Ql
  ·have ek : k = 9 := by omega
   subst ek
   have z1 : (min 16 Qq4.length = 16) = True := eq_true rfl
   have z2 : List.take 16 Qq4 = u8 Qhw := by rw [QAa]; rfl
   have z3 : Qhw.length = 16 := rfl
   have z4 : (Qhw.length = 16) = True := eq_true rfl
   simp (disch := omega) only [rq, simprocAttr, g1', z1, z2, z4]
   simp [QO, Qx, frzL, Qy, Zb, frzL_T _ (QF _), bs, z3]
theorem QfW (c b r tag : Nat) : (Qbv c b r tag).length = 16 := by simp [Qbv, Qc]
theorem Qcd (c b r m : Nat) : Xp c b r false m = Xp c b r false 0 := rfl
theorem Qea : ∀ (k n : Nat), n < 256 ^ k → leN (leB n k) = n
 | 0, n, h => by simp at h; subst h; rfl
 | k + 1, n, h => by
  have h1 : n / 256 < 256 ^ k := by rw [yx] at h; exact j5 (by omega)
  have h2 : (UInt8.ofNat (n % 256)).toNat = n % 256 := by simp
  simp only [leB, leN, Qea k _ h1, h2]
  omega
def Qer (c b r : Int) : List UInt8 := Xp c.toNat b.toNat r.toNat (Qf2 c b) (2 ^ c.toNat - 1)
def Qni (P : Prg) (f : Nat) : Prop := ∀ (c b r : Int), VC P f [Qdf c b r] (if QaY c b r then .tup [bs (Qer c b r), .int .i64 0] else .tup [.list 0 [], .int .i64 8])
theorem QiD {c b r : Int} (h : QaY c b r) : ∃ c' b' r' : Nat, c = c' ∧ b = b' ∧ r = r' := by
 obtain ⟨h1, h2, h3, h4, h5⟩ := h
 rw [Qa5] at h3
 exact ⟨c.toNat, b.toNat, r.toNat, by omega, by omega, by omega⟩
theorem QxE {P : Prg} {f fF fW t0 : Nat} (bd : Body P f 21 [.tmp 2, .tmp 3] (XJ fW fF t0)) (hF : Qno P fF) (hW : Qsa P fW) : Qni P f := by
 intro c b r
 have hW' := hW c b r
 rw [Qdf] at hW'
 by_cases hok : QaY c b r
 ·rw [qh hok] at hW' ⊢
  obtain ⟨c, b, r, rfl, rfl, rfl⟩ := QiD hok
  refine Qv rfl (by simp [isD, isDL, QD]) bd ?_
  have hF' := hF c b r (Qf2 c b) (2 ^ c - 1) hok (by
   have := qr (n := 2) (by omega) (show c ≤ 6 by have := hok.2.1; omega)
   omega)
  have hc1 := hok.1
  have hc6 := hok.2.1
  rw [Qdf] at hF'
  simp only [Qer, qm]
  simp (disch := omega) only [rq, simprocAttr, XJ, Qdf]
  refine Qa hW' ?_
  have sh1 : Qj true .u64 1 1 = some (.int .u64 2) := rfl
  have sh2 : Qj true .u64 1 2 = some (.int .u64 4) := rfl
  have sh3 : Qj true .u64 1 3 = some (.int .u64 8) := rfl
  have sh4 : Qj true .u64 1 4 = some (.int .u64 16) := rfl
  have sh5 : Qj true .u64 1 5 = some (.int .u64 32) := rfl
  have sh6 : Qj true .u64 1 6 = some (.int .u64 64) := rfl
  have hc : c = 1 ∨ c = 2 ∨ c = 3 ∨ c = 4 ∨ c = 5 ∨ c = 6 := by omega
  rcases hc with rfl | rfl | rfl | rfl | rfl | rfl
  all_goals
   simp (disch := omega) only [rq, simprocAttr, sh1, sh2, sh3, sh4, sh5, sh6]
   refine QX hF' ?_
   simp (disch := omega) only [rq, simprocAttr]
 ·rw [qf hok] at hW' ⊢
  refine Qk 1 rfl rfl (Qb bd (by simp) ?_)
  simp (disch := omega) only [rq, simprocAttr, XJ, Qdf]
  refine Qa hW' ?_
  simp (disch := omega) only [rq, simprocAttr]
  simp [QO, Qx, frzL, Qy]
def fld (l : List UInt8) (i n : Nat) : Nat := leN ((l.drop i).take n)
def Fv (l : List UInt8) (i n : Nat) : Nat := if i + n ≤ l.length then fld l i n else 0
theorem QDq (l : List UInt8) (i n : Nat) (hn : n ≤ 4) : fld l i n < 4294967296 := by
 have h1 := QdD ((l.drop i).take n)
 have h2 : 8 * ((l.drop i).take n).length ≤ 32 := by simp; omega
 have h3 := qr (n := 2) (by omega) h2
 unfold fld; omega
theorem QAH (l : List UInt8) (i n : Nat) (hn : n ≤ 4) : Fv l i n < 4294967296 := by
 unfold Fv; split
 ·exact QDq l i n hn
 ·omega
theorem Qfp {l : List UInt8} {i n : Nat} (h : i + n ≤ l.length) : Fv l i n = fld l i n := by simp [Fv, h]
def Qgu (l : List UInt8) : Option (Nat × Nat × Nat) :=
 if QaY (fld l 2 2) (fld l 14 2) (fld l 4 4) ∧ (l = Xp (fld l 2 2) (fld l 14 2) (fld l 4 4) false 0 ∨ l = Xp (fld l 2 2) (fld l 14 2) (fld l 4 4) true (fld l 20 4)) then some (fld l 2 2, fld l 14 2, fld l 4 4) else none
def Qb5 : Option (Nat × Nat × Nat) → AV
 | none => .tup [Qdf 0 0 0, .int .i64 12]
 | some (c, b, r) => .tup [Qdf c b r, .int .i64 0]
theorem QuB (o : Option (Nat × Nat × Nat)) : isD (Qb5 o) = true := by rcases o with _ | ⟨c, b, r⟩ <;> rfl
theorem QdH (c b r : Nat) (w : Bool) (m : Nat) : (Xp c b r w m).length = if w then 40 else 16 := by
 cases w <;> simp [Xp, Quw, QfW, Qc, Qhw]
theorem QxG {c b r tag : Nat} (rest : List UInt8) (h : tag < 65536) : fld (Qbv c b r tag ++ rest) 0 2 = tag := by
 simp only [fld, yJ, Qbv, qj]
 rw [qZ (Qc 2 tag), Qea 2 tag h]
theorem Qxz {c b r m : Nat} {w : Bool} : fld (Xp c b r w m) 0 2 = if w then 65534 else 1 := by
 cases w with
 | false =>
  have := QxG (c := c) (b := b) (r := r) (tag := 1) [] (by omega)
  rw [q8] at this
  exact this
 | true =>
  have := QxG (c := c) (b := b) (r := r) (tag := 65534) (leB 22 2 ++ (leB b 2 ++ (leB m 4 ++ Qhw))) (by omega)
  simpa [Xp, Quw, qj] using this
theorem Qe3 (l : List UInt8) : (Qgu l = none ∧ ∀ w, ¬ (QaY (fld l 2 2) (fld l 14 2) (fld l 4 4) ∧ l = Xp (fld l 2 2) (fld l 14 2) (fld l 4 4) w (fld l 20 4))) ∨
  (Qgu l = some (fld l 2 2, fld l 14 2, fld l 4 4) ∧ QaY (fld l 2 2) (fld l 14 2) (fld l 4 4) ∧ ∃ w, l = Xp (fld l 2 2) (fld l 14 2) (fld l 4 4) w (fld l 20 4)) := by
 by_cases h : QaY (fld l 2 2) (fld l 14 2) (fld l 4 4) ∧ (l = Xp (fld l 2 2) (fld l 14 2) (fld l 4 4) false 0 ∨ l = Xp (fld l 2 2) (fld l 14 2) (fld l 4 4) true (fld l 20 4))
 ·refine .inr ⟨by rw [Qgu, qh h], h.1, ?_⟩
  rcases h.2 with h | h
  ·exact ⟨false, by rw [Qcd]; exact h⟩
  ·exact ⟨true, h⟩
 ·refine .inl ⟨by rw [Qgu, qf h], fun w h' => h ⟨h'.1, ?_⟩⟩
  cases w with
  | false => exact .inl (by rw [Qcd] at h'; exact h'.2)
  | true => exact .inr h'.2
theorem Qs5 {l : List UInt8} {c b r m : Nat} {w : Bool} (h : l = Xp c b r w m) : l.length = if w then 40 else 16 := by
 have := congrArg List.length h
 rwa [QdH] at this
theorem QyO {l : List UInt8} (h : 16 ≤ l.length) : Fv l 2 2 = fld l 2 2 ∧ Fv l 14 2 = fld l 14 2 ∧ Fv l 4 4 = fld l 4 4 ∧ Fv l 0 2 = fld l 0 2 :=
 ⟨Qfp (by omega), Qfp (by omega), Qfp (by omega), Qfp (by omega)⟩
theorem QkP {l : List UInt8} (hok : QaY (Fv l 2 2) (Fv l 14 2) (Fv l 4 4)) {w : Bool} (h : l = Xp (Fv l 2 2) (Fv l 14 2) (Fv l 4 4) w (Fv l 20 4)) : Qgu l = some (Fv l 2 2, Fv l 14 2, Fv l 4 4) := by
 have hl := Qs5 h
 obtain ⟨e1, e2, e3, _⟩ := QyO (l := l) (by rw [hl]; split <;> omega)
 rw [e1, e2, e3] at h hok ⊢
 rcases Qe3 l with ⟨_, h2⟩ | ⟨h1, _⟩
 ·refine absurd ⟨hok, ?_⟩ (h2 w)
  cases w with
  | false => rw [Qcd] at h ⊢; exact h
  | true =>
   have : Fv l 20 4 = fld l 20 4 := Qfp (by rw [hl]; decide)
   rwa [this] at h
 ·exact h1
theorem Qgt {l : List UInt8} {w : Bool} (hw : decide (Fv l 0 2 = 65534) = w) (h : ¬ QaY (Fv l 2 2) (Fv l 14 2) (Fv l 4 4) ∨ l ≠ Xp (Fv l 2 2) (Fv l 14 2) (Fv l 4 4) w (Fv l 20 4)) : Qgu l = none := by
 rcases Qe3 l with ⟨h1, _⟩ | ⟨_, hok, w', hw'⟩
 ·exact h1
 ·exfalso
  have hl := Qs5 hw'
  obtain ⟨e1, e2, e3, e0⟩ := QyO (l := l) (by rw [hl]; split <;> omega)
  rw [e1, e2, e3] at h
  rcases h with h | h
  ·exact h hok
  ·have ht : fld l 0 2 = if w' then 65534 else 1 := by
    conv => lhs; rw [hw']
    exact Qxz
   have : w = w' := by
    rw [← hw, e0, ht]
    cases w' <;> simp
   subst this
   apply h
   cases w with
   | false => rw [Qcd]; rw [Qcd] at hw'; exact hw'
   | true =>
    have : Fv l 20 4 = fld l 20 4 := Qfp (by rw [hl]; decide)
    rw [this]; exact hw'
def Qnj (P : Prg) (f : Nat) : Prop := ∀ l : List UInt8, l.length < 4611686018427387904 → VC P f [bs l] (Qb5 (Qgu l))
def Qga (P : Prg) (f : Nat) : Prop := ∀ a b : List UInt8, VC P f [bs a, bs b] (.bool (a == b))
theorem Qrx {P : Prg} {f : Nat} (bd : Body P f 10 [.tmp 4] QbY) : Qga P f := by
 intro a b
 refine Qv (by simp [isDL, QD]) rfl bd ?_
 simp (disch := omega) only [rq, simprocAttr, QbY, bs, QhP]
def Qc9 (l : List UInt8) : Nat → List AV
 | 0 => [.int .u64 0, .int .u64 0, .int .u64 0, .int .u64 0, .int .u64 0, .int .u64 0, .int .u64 0, .int .u64 0, .int .u64 0]
 | 1 => [.int .u64 (Fv l 0 2 : Nat), .int .u64 0, .int .u64 0, .int .u64 0, .int .u64 0, .int .u64 0, .int .u64 0, .int .u64 0, .int .u64 0]
 | 2 => [.int .u64 (Fv l 0 2 : Nat), .int .u64 (Fv l 2 2 : Nat), .int .u64 0, .int .u64 0, .int .u64 0, .int .u64 0, .int .u64 0, .int .u64 0, .int .u64 0]
 | 3 => [.int .u64 (Fv l 0 2 : Nat), .int .u64 (Fv l 2 2 : Nat), .int .u64 (Fv l 4 4 : Nat), .int .u64 0, .int .u64 0, .int .u64 0, .int .u64 0, .int .u64 0, .int .u64 0]
 | 4 => [.int .u64 (Fv l 0 2 : Nat), .int .u64 (Fv l 2 2 : Nat), .int .u64 (Fv l 4 4 : Nat), .int .u64 (Fv l 8 4 : Nat), .int .u64 0, .int .u64 0, .int .u64 0, .int .u64 0, .int .u64 0]
 | 5 => [.int .u64 (Fv l 0 2 : Nat), .int .u64 (Fv l 2 2 : Nat), .int .u64 (Fv l 4 4 : Nat), .int .u64 (Fv l 8 4 : Nat), .int .u64 (Fv l 12 2 : Nat), .int .u64 0, .int .u64 0, .int .u64 0, .int .u64 0]
 | 6 => [.int .u64 (Fv l 0 2 : Nat), .int .u64 (Fv l 2 2 : Nat), .int .u64 (Fv l 4 4 : Nat), .int .u64 (Fv l 8 4 : Nat), .int .u64 (Fv l 12 2 : Nat), .int .u64 (Fv l 14 2 : Nat), .int .u64 0, .int .u64 0, .int .u64 0]
 | 7 => [.int .u64 (Fv l 0 2 : Nat), .int .u64 (Fv l 2 2 : Nat), .int .u64 (Fv l 4 4 : Nat), .int .u64 (Fv l 8 4 : Nat), .int .u64 (Fv l 12 2 : Nat), .int .u64 (Fv l 14 2 : Nat), .int .u64 (Fv l 16 2 : Nat), .int .u64 0, .int .u64 0]
 | 8 => [.int .u64 (Fv l 0 2 : Nat), .int .u64 (Fv l 2 2 : Nat), .int .u64 (Fv l 4 4 : Nat), .int .u64 (Fv l 8 4 : Nat), .int .u64 (Fv l 12 2 : Nat), .int .u64 (Fv l 14 2 : Nat), .int .u64 (Fv l 16 2 : Nat), .int .u64 (Fv l 18 2 : Nat), .int .u64 0]
 | 9 => [.int .u64 (Fv l 0 2 : Nat), .int .u64 (Fv l 2 2 : Nat), .int .u64 (Fv l 4 4 : Nat), .int .u64 (Fv l 8 4 : Nat), .int .u64 (Fv l 12 2 : Nat), .int .u64 (Fv l 14 2 : Nat), .int .u64 (Fv l 16 2 : Nat), .int .u64 (Fv l 18 2 : Nat), .int .u64 (Fv l 20 4 : Nat)]
 | _ => []
def Qa1 : Nat → Nat
 | 0 => 0
 | 1 => 2
 | 2 => 4
 | 3 => 8
 | 4 => 12
 | 5 => 14
 | 6 => 16
 | 7 => 18
 | 8 => 20
 | 9 => 24
 | _ => 0
set_option maxRecDepth 20000 in
set_option maxHeartbeats 4000000 in
theorem QAh {P : Prg} {f fA fC fF fE t0 t1 g0 : Nat} (bd : Body P f 61 [.cell 2 t0, .tmp 3] (Qap fA fC fF fE t0 t1 g0)) (hA : Qfo P fA) (hC : Qh5 P fC) (hF : Qno P fF) (hE : Qga P fE) (h0 : P.G.lookup g0 = some JK) (ht : Zu P t0 = some (some 3)) : Qnj P f := by
 intro l hl
 refine Qv (by simp [isDL, QD]) (QuB _) bd ?_
 have g0' : QpS P.G g0 = .cell JK := by simp [QpS, h0]
 simp (disch := omega) only [rq, simprocAttr, Qap, bs, g0', JK]
 refine Qg (ι := Nat) (fun k => ⟨[(11, .int .i64 k), (4, .int .i64 (Qa1 k)), (10, .agg JK), (5, .ref 1 1 0), (2, .ref 0 1 0), (3, .int .i64 0), (0, .list l.length (u8 l))], [⟨t0, 3, 1, [.int .i64 0, .int .i64 0, .int .i64 0], 0⟩, ⟨t1, 9, 1, Qc9 l k, 0⟩]⟩) (fun k => k ≤ 9) (fun k => 9 - k) 0 (Qm (by simp [Am.look, Qa1, JK])) (by omega) ?_
 intro k hk
 have hA' := fun a w h1 h2 h3 => hA l a w hl h1 h2 h3
 simp only [bs] at hA'
 by_cases h9 : k = 9
 ·subst h9
  have b1 := QAH l 2 2 (by omega)
  have b2 := QAH l 14 2 (by omega)
  have b3 := QAH l 4 4 (by omega)
  have b8 := QAH l 20 4 (by omega)
  have hC' := hC (Fv l 2 2) (Fv l 14 2) (Fv l 4 4)
  rw [Qdf] at hC'
  simp (disch := omega) only [rq, simprocAttr, Qc9]
  refine Qa hC' ?_
  by_cases hok : QaY (Fv l 2 2) (Fv l 14 2) (Fv l 4 4)
  ·have hF' := hF (Fv l 2 2) (Fv l 14 2) (Fv l 4 4) (decide (Fv l 0 2 = 65534)) (Fv l 20 4) hok b8
   rw [Qdf] at hF'
   simp only [QAu, qh hok]
   by_cases hw : Fv l 0 2 = 65534
   ·have hw' : ((Fv l 0 2 : Int) = 65534) = True := eq_true (by omega)
    have hq : decide (Fv l 0 2 = 65534) = true := by simp [hw]
    rw [hq] at hF'
    simp (disch := omega) only [rq, simprocAttr, hw']
    refine Qa hF' ?_
    simp (disch := omega) only [rq, simprocAttr]
    refine Qa (hE l _) ?_
    by_cases he : l = Xp (Fv l 2 2) (Fv l 14 2) (Fv l 4 4) true (Fv l 20 4)
    ·have he' : (l == Xp (Fv l 2 2) (Fv l 14 2) (Fv l 4 4) true (Fv l 20 4)) = true := by simpa using he
     have hr := QkP hok (w := true) he
     rw [hr]
     simp (disch := omega) only [rq, simprocAttr, he', Qb5, Qdf, Q1, ht, QL]
    ·have he' : (l == Xp (Fv l 2 2) (Fv l 14 2) (Fv l 4 4) true (Fv l 20 4)) = false := by simpa using he
     have hr := Qgt (l := l) (w := true) (by simp [hw]) (.inr he)
     rw [hr]
     simp (disch := omega) only [rq, simprocAttr, he', Qb5, Qdf, Q1, ht, QL]
   ·have hw' : ((Fv l 0 2 : Int) = 65534) = False := eq_false (by omega)
    have hq : decide (Fv l 0 2 = 65534) = false := by simp [hw]
    rw [hq] at hF'
    simp (disch := omega) only [rq, simprocAttr, hw']
    refine Qa hF' ?_
    simp (disch := omega) only [rq, simprocAttr]
    refine Qa (hE l _) ?_
    by_cases he : l = Xp (Fv l 2 2) (Fv l 14 2) (Fv l 4 4) false (Fv l 20 4)
    ·have he' : (l == Xp (Fv l 2 2) (Fv l 14 2) (Fv l 4 4) false (Fv l 20 4)) = true := by simpa using he
     have hr := QkP hok (w := false) he
     rw [hr]
     simp (disch := omega) only [rq, simprocAttr, he', Qb5, Qdf, Q1, ht, QL]
    ·have he' : (l == Xp (Fv l 2 2) (Fv l 14 2) (Fv l 4 4) false (Fv l 20 4)) = false := by simpa using he
     have hr := Qgt (l := l) (w := false) (by simp [hw]) (.inr he)
     rw [hr]
     simp (disch := omega) only [rq, simprocAttr, he', Qb5, Qdf, Q1, ht, QL]
  ·simp only [QAu, qf hok]
   have hr := Qgt (l := l) (w := decide (Fv l 0 2 = 65534)) rfl (.inl hok)
   rw [hr]
   simp (disch := omega) only [rq, simprocAttr, Qb5, Qdf, Q1, ht, QL]
 have hk9 : k = 0 ∨ k = 1 ∨ k = 2 ∨ k = 3 ∨ k = 4 ∨ k = 5 ∨ k = 6 ∨ k = 7 ∨ k = 8 := by omega
 rcases hk9 with rfl | rfl | rfl | rfl | rfl | rfl | rfl | rfl | rfl
 ·by_cases hfit : 0 + 2 ≤ l.length
  ·have e1 := hA' 0 2 (by omega) (by omega) (by omega)
   rw [qh hfit] at e1
   have e2 : leN ((l.drop 0).take 2) = Fv l 0 2 := by rw [Qfp hfit]; rfl
   rw [e2] at e1
   simp (disch := omega) only [rq, simprocAttr, JK, Qc9, Qa1]
   refine Qa e1 ?_
   simp (disch := omega) only [rq, simprocAttr, JK, Qc9, Qa1]
   exact ⟨1, by omega, by omega, Qm (by simp [Am.look, Qa1, JK])⟩
  ·have e2 : Fv l 0 2 = 0 := by simp only [Fv, qf hfit]
   simp (disch := omega) only [rq, simprocAttr, JK, Qc9, Qa1]
   refine ⟨1, by omega, by omega, ?_⟩
   simp only [Qc9, e2]
   exact Qm (by simp [Am.look, Qa1, JK])
 ·by_cases hfit : 2 + 2 ≤ l.length
  ·have e1 := hA' 2 2 (by omega) (by omega) (by omega)
   rw [qh hfit] at e1
   have e2 : leN ((l.drop 2).take 2) = Fv l 2 2 := by rw [Qfp hfit]; rfl
   rw [e2] at e1
   simp (disch := omega) only [rq, simprocAttr, JK, Qc9, Qa1]
   refine Qa e1 ?_
   simp (disch := omega) only [rq, simprocAttr, JK, Qc9, Qa1]
   exact ⟨2, by omega, by omega, Qm (by simp [Am.look, Qa1, JK])⟩
  ·have e2 : Fv l 2 2 = 0 := by simp only [Fv, qf hfit]
   simp (disch := omega) only [rq, simprocAttr, JK, Qc9, Qa1]
   refine ⟨2, by omega, by omega, ?_⟩
   simp only [Qc9, e2]
   exact Qm (by simp [Am.look, Qa1, JK])
 ·by_cases hfit : 4 + 4 ≤ l.length
  ·have e1 := hA' 4 4 (by omega) (by omega) (by omega)
   rw [qh hfit] at e1
   have e2 : leN ((l.drop 4).take 4) = Fv l 4 4 := by rw [Qfp hfit]; rfl
   rw [e2] at e1
   simp (disch := omega) only [rq, simprocAttr, JK, Qc9, Qa1]
   refine Qa e1 ?_
   simp (disch := omega) only [rq, simprocAttr, JK, Qc9, Qa1]
   exact ⟨3, by omega, by omega, Qm (by simp [Am.look, Qa1, JK])⟩
  ·have e2 : Fv l 4 4 = 0 := by simp only [Fv, qf hfit]
   simp (disch := omega) only [rq, simprocAttr, JK, Qc9, Qa1]
   refine ⟨3, by omega, by omega, ?_⟩
   simp only [Qc9, e2]
   exact Qm (by simp [Am.look, Qa1, JK])
 ·by_cases hfit : 8 + 4 ≤ l.length
  ·have e1 := hA' 8 4 (by omega) (by omega) (by omega)
   rw [qh hfit] at e1
   have e2 : leN ((l.drop 8).take 4) = Fv l 8 4 := by rw [Qfp hfit]; rfl
   rw [e2] at e1
   simp (disch := omega) only [rq, simprocAttr, JK, Qc9, Qa1]
   refine Qa e1 ?_
   simp (disch := omega) only [rq, simprocAttr, JK, Qc9, Qa1]
   exact ⟨4, by omega, by omega, Qm (by simp [Am.look, Qa1, JK])⟩
  ·have e2 : Fv l 8 4 = 0 := by simp only [Fv, qf hfit]
   simp (disch := omega) only [rq, simprocAttr, JK, Qc9, Qa1]
   refine ⟨4, by omega, by omega, ?_⟩
   simp only [Qc9, e2]
   exact Qm (by simp [Am.look, Qa1, JK])
 ·by_cases hfit : 12 + 2 ≤ l.length
  ·have e1 := hA' 12 2 (by omega) (by omega) (by omega)
   rw [qh hfit] at e1
   have e2 : leN ((l.drop 12).take 2) = Fv l 12 2 := by rw [Qfp hfit]; rfl
   rw [e2] at e1
   simp (disch := omega) only [rq, simprocAttr, JK, Qc9, Qa1]
   refine Qa e1 ?_
   simp (disch := omega) only [rq, simprocAttr, JK, Qc9, Qa1]
   exact ⟨5, by omega, by omega, Qm (by simp [Am.look, Qa1, JK])⟩
  ·have e2 : Fv l 12 2 = 0 := by simp only [Fv, qf hfit]
   simp (disch := omega) only [rq, simprocAttr, JK, Qc9, Qa1]
   refine ⟨5, by omega, by omega, ?_⟩
   simp only [Qc9, e2]
   exact Qm (by simp [Am.look, Qa1, JK])
 ·by_cases hfit : 14 + 2 ≤ l.length
  ·have e1 := hA' 14 2 (by omega) (by omega) (by omega)
   rw [qh hfit] at e1
   have e2 : leN ((l.drop 14).take 2) = Fv l 14 2 := by rw [Qfp hfit]; rfl
   rw [e2] at e1
   simp (disch := omega) only [rq, simprocAttr, JK, Qc9, Qa1]
   refine Qa e1 ?_
   simp (disch := omega) only [rq, simprocAttr, JK, Qc9, Qa1]
   exact ⟨6, by omega, by omega, Qm (by simp [Am.look, Qa1, JK])⟩
  ·have e2 : Fv l 14 2 = 0 := by simp only [Fv, qf hfit]
   simp (disch := omega) only [rq, simprocAttr, JK, Qc9, Qa1]
   refine ⟨6, by omega, by omega, ?_⟩
   simp only [Qc9, e2]
   exact Qm (by simp [Am.look, Qa1, JK])
 ·by_cases hfit : 16 + 2 ≤ l.length
  ·have e1 := hA' 16 2 (by omega) (by omega) (by omega)
   rw [qh hfit] at e1
   have e2 : leN ((l.drop 16).take 2) = Fv l 16 2 := by rw [Qfp hfit]; rfl
   rw [e2] at e1
   simp (disch := omega) only [rq, simprocAttr, JK, Qc9, Qa1]
   refine Qa e1 ?_
   simp (disch := omega) only [rq, simprocAttr, JK, Qc9, Qa1]
   exact ⟨7, by omega, by omega, Qm (by simp [Am.look, Qa1, JK])⟩
  ·have e2 : Fv l 16 2 = 0 := by simp only [Fv, qf hfit]
   simp (disch := omega) only [rq, simprocAttr, JK, Qc9, Qa1]
   refine ⟨7, by omega, by omega, ?_⟩
   simp only [Qc9, e2]
   exact Qm (by simp [Am.look, Qa1, JK])
 ·by_cases hfit : 18 + 2 ≤ l.length
  ·have e1 := hA' 18 2 (by omega) (by omega) (by omega)
   rw [qh hfit] at e1
   have e2 : leN ((l.drop 18).take 2) = Fv l 18 2 := by rw [Qfp hfit]; rfl
   rw [e2] at e1
   simp (disch := omega) only [rq, simprocAttr, JK, Qc9, Qa1]
   refine Qa e1 ?_
   simp (disch := omega) only [rq, simprocAttr, JK, Qc9, Qa1]
   exact ⟨8, by omega, by omega, Qm (by simp [Am.look, Qa1, JK])⟩
  ·have e2 : Fv l 18 2 = 0 := by simp only [Fv, qf hfit]
   simp (disch := omega) only [rq, simprocAttr, JK, Qc9, Qa1]
   refine ⟨8, by omega, by omega, ?_⟩
   simp only [Qc9, e2]
   exact Qm (by simp [Am.look, Qa1, JK])
 ·by_cases hfit : 20 + 4 ≤ l.length
  ·have e1 := hA' 20 4 (by omega) (by omega) (by omega)
   rw [qh hfit] at e1
   have e2 : leN ((l.drop 20).take 4) = Fv l 20 4 := by rw [Qfp hfit]; rfl
   rw [e2] at e1
   simp (disch := omega) only [rq, simprocAttr, JK, Qc9, Qa1]
   refine Qa e1 ?_
   simp (disch := omega) only [rq, simprocAttr, JK, Qc9, Qa1]
   exact ⟨9, by omega, by omega, Qm (by simp [Am.look, Qa1, JK])⟩
  ·have e2 : Fv l 20 4 = 0 := by simp only [Fv, qf hfit]
   simp (disch := omega) only [rq, simprocAttr, JK, Qc9, Qa1]
   refine ⟨9, by omega, by omega, ?_⟩
   simp only [Qc9, e2]
   exact Qm (by simp [Am.look, Qa1, JK])
theorem QgW (x : Int) : IntKind.i32.wrap x = (x + 2147483648) % 4294967296 - 2147483648 := by
 simp only [IntKind.wrap, IntKind.bits, IntKind.signed]
 simp
 omega
theorem Qoq {a c s : Nat} (h : a < 2 ^ s) (h2 : a + c * 2 ^ s < 2147483648) : IntKind.i32.wrap (BitVec.ofInt IntKind.i32.bits (a : Int) ||| BitVec.ofInt IntKind.i32.bits ((c * 2 ^ s : Nat) : Int)).toNat = ((a + c * 2 ^ s : Nat) : Int) := by
 have e1 : (BitVec.ofInt IntKind.i32.bits (a : Int) ||| BitVec.ofInt IntKind.i32.bits ((c * 2 ^ s : Nat) : Int)).toNat = a ||| c * 2 ^ s := by
  rw [BitVec.toNat_or]
  simp only [IntKind.bits, Yf]
  congr 1
  ·omega
  ·omega
 rw [e1, QkX h, Qbq (by omega) (by omega)]
def Qnx (b : Int) (s : List UInt8) : Int := if b = 8 then (leN s : Int) - 128 else if Z5 b ≤ (leN s : Int) then (leN s : Int) - 2 * Z5 b else leN s
def QjM (b : Int) (l : List UInt8) : List Int := (List.range (l.length / (b / 8).toNat)).map fun i => Qnx b ((l.drop (i * (b / 8).toNat)).take (b / 8).toNat)
def J1 (b : Int) (l : List UInt8) : AV :=
 if Z5 b = 0 then .tup [.list 0 [], .int .i64 2] else if l.length % (b / 8).toNat ≠ 0 then .tup [.list 0 [], .int .i64 12] else if 4000 < l.length / (b / 8).toNat then .tup [.list 0 [], .int .i64 4] else .tup [il (QjM b l), .int .i64 0]
theorem QoD (b : Int) (l : List UInt8) : isD (J1 b l) = true := by
 unfold J1; split <;> (try split) <;> (try split) <;> simp [isD, isDL, Zi]
theorem Jj (b : Int) (l : List UInt8) : (QjM b l).length = l.length / (b / 8).toNat := by simp [QjM]
theorem QsB {b : Int} {l : List UInt8} {i : Nat} (h : i < (QjM b l).length) : (QjM b l)[i] = Qnx b ((l.drop (i * (b / 8).toNat)).take (b / 8).toNat) := by simp [QjM]
theorem QiE {b : Int} {l : List UInt8} {i : Nat} (h : i < l.length / (b / 8).toNat) : (QjM b l).take (i + 1) = (QjM b l).take i ++ [Qnx b ((l.drop (i * (b / 8).toNat)).take (b / 8).toNat)] := by
 rw [qq (by rw [Jj]; exact h), QsB]
theorem QER {l : List UInt8} {a : Nat} (h : a < l.length) : leN ((l.drop a).take 1) = l[a].toNat := by
 rw [qy h]; simp only [y8, yW, leN]; omega
theorem QEQ {l : List UInt8} {a : Nat} (h : a + 1 < l.length) : leN ((l.drop a).take 2) = l[a].toNat + l[a + 1].toNat * 256 := by
 rw [qy (by omega), qy (by omega)]; simp only [y8, yW, leN]; omega
theorem QEP {l : List UInt8} {a : Nat} (h : a + 2 < l.length) : leN ((l.drop a).take 3) = l[a].toNat + l[a + 1].toNat * 256 + l[a + 2].toNat * 65536 := by
 have e : l[a + 2] = l[a + 1 + 1]'h := rfl
 rw [e, qy (by omega), qy (by omega), qy (by omega)]; simp only [y8, yW, leN]; omega
def Qgd (P : Prg) (f : Nat) : Prop := ∀ (b : Int) (l : List UInt8), l.length < 4611686018427387904 → VC P f [.int .i64 b, bs l] (J1 b l)
theorem QC5 {n : Nat} (h : n < 65536) : (IntKind.i32.wrap ((n : Int) * 65536)).fdiv 65536 = Qnx 16 [] + (if 32768 ≤ (n : Int) then (n : Int) - 65536 else n) := by
 have : Qnx 16 [] = 0 := by decide
 rw [this, qF _ (by omega), QgW]
 split <;> omega
theorem QC4 {n : Nat} (h : n < 16777216) : (IntKind.i32.wrap ((n : Int) * 256)).fdiv 256 = Qnx 24 [] + (if 8388608 ≤ (n : Int) then (n : Int) - 16777216 else n) := by
 have : Qnx 24 [] = 0 := by decide
 rw [this, qF _ (by omega), QgW]
 split <;> omega
theorem Qwg {s : List UInt8} : Qnx 16 s = if 32768 ≤ (leN s : Int) then (leN s : Int) - 65536 else leN s := by simp [Qnx, Z5]
theorem Qwf {s : List UInt8} : Qnx 24 s = if 8388608 ≤ (leN s : Int) then (leN s : Int) - 16777216 else leN s := by simp [Qnx, Z5]
theorem QBy {s : List UInt8} : Qnx 8 s = (leN s : Int) - 128 := by simp [Qnx]
set_option maxRecDepth 20000 in
set_option maxHeartbeats 2000000 in
theorem Qlq {P : Prg} {f fR t0 : Nat} (bd : Body P f 81 [.tmp 4, .tmp 5] (ZC fR t0)) (hR : Qjz P fR) : Qgd P f := by
 intro b l hl
 refine Qk 1 (by simp [isDL, isD, QD]) (QoD _ _) (Qb bd (by simp) ?_)
 have hR' := hR b
 rcases Zj b with ⟨rfl, h⟩ | ⟨rfl, h⟩ | ⟨rfl, h⟩ | ⟨h1, h2, h3, h⟩
 case inr.inr.inr =>
  simp only [Qac, qh h] at hR'
  simp only [J1, qh h]
  simp (disch := omega) only [rq, simprocAttr, ZC, bs]
  refine Qa hR' ?_
  simp (disch := omega) only [rq, simprocAttr]
  simp [QO, Qx, frzL, Qy]
 ·simp only [Qac, h] at hR'
  rw [qf (by omega)] at hR'
  have hw : ((8 : Int) / 8).toNat = 1 := rfl
  simp only [J1, hw, h]
  rw [qf (by omega), qf (by omega)]
  have hL := Jj 8 l
  have hT := fun i => @QiE 8 l i
  rw [hw] at hL hT
  generalize hS : QjM 8 l = S at *
  simp (disch := omega) only [rq, simprocAttr, ZC, bs]
  refine Qa hR' ?_
  by_cases h4 : 4000 < l.length
  ·rw [qh (by omega)]
   simp (disch := omega) only [rq, simprocAttr]
   simp [QO, Qx, frzL, Qy]
  rw [qf (by omega)]
  simp (disch := omega) only [rq, simprocAttr]
  refine Qg (ι := Nat) (fun k => ⟨[(11, .int .i64 k), (10, .own 0 k), (9, .int .i64 1), (0, .int .i64 8), (1, .list l.length (u8 l))], [⟨t0, 1, k, ks .i32 (S.take k), 0⟩]⟩) (fun k => k ≤ l.length) (fun k => l.length - k) 0 (Le.trans (XU 10 t0 1 (by omega) rfl) (Ql)) (by omega) ?_
  intro k hk
  have lk : (ks .i32 (S.take k)).length = k := by rw [Qh, qu]; omega
  by_cases hlt : k < l.length
  ·have e1 := QcC hlt
   have e2 := hT k (by omega)
   have b0 := l[k].toNat_lt
   rw [QBy, jp, QER hlt] at e2
   simp (disch := omega) only [rq, simprocAttr, e1, lk, Qe6]
   rw [← e2]
   exact ⟨k + 1, by omega, by omega, Le.drop1 (Qq _ _) (by simp [Am.look, Qx, frzL, Qy, frzL_T _ (QF _)])⟩
  ·have ek : k = l.length := by omega
   subst ek
   have tS : S.take l.length = S := qg (by omega)
   simp (disch := omega) only [rq, simprocAttr]
   rw [tS]
   simp [QO, Qx, frzL, Qy, frzL_T _ (Qq _ _), il, hL]
 ·simp only [Qac, h] at hR'
  rw [qf (by omega)] at hR'
  have hw : ((16 : Int) / 8).toNat = 2 := rfl
  simp only [J1, hw, h]
  rw [qf (by omega)]
  have hL := Jj 16 l
  have hT := fun i => @QiE 16 l i
  rw [hw] at hL hT
  generalize hS : QjM 16 l = S at *
  have m1 : (l.length : Int).tmod 2 = ((l.length % 2 : Nat) : Int) := by rw [yO (by omega)]; omega
  have m2 : (l.length : Int).tdiv 2 = ((l.length / 2 : Nat) : Int) := by rw [qK (by omega)]; omega
  simp (disch := omega) only [rq, simprocAttr, ZC, bs]
  refine Qa hR' ?_
  by_cases h3 : l.length % 2 ≠ 0
  ·rw [qh h3]
   simp (disch := omega) only [rq, simprocAttr, m1]
   simp [QO, Qx, frzL, Qy]
  rw [qf h3]
  have h3' : l.length % 2 = 0 := by omega
  by_cases h4 : 4000 < l.length / 2
  ·rw [qh h4]
   simp (disch := omega) only [rq, simprocAttr, m1, m2]
   simp [QO, Qx, frzL, Qy]
  rw [qf h4]
  simp (disch := omega) only [rq, simprocAttr, m1, m2]
  refine Qg (ι := Nat) (fun k => ⟨[(11, .int .i64 ((k * 2 : Nat) : Int)), (10, .own 0 k), (9, .int .i64 2), (0, .int .i64 16), (1, .list l.length (u8 l))], [⟨t0, 1, k, ks .i32 (S.take k), 0⟩]⟩) (fun k => k ≤ l.length / 2) (fun k => l.length / 2 - k) 0 (Le.trans (XU 10 t0 1 (by omega) rfl) (Ql)) (by omega) ?_
  intro k hk
  have lk : (ks .i32 (S.take k)).length = k := by rw [Qh, qu]; omega
  by_cases hlt : k < l.length / 2
  ·have eT := hT k hlt
   have g : k * 2 + 2 ≤ l.length := by omega
   rw [Qwg, QEQ (by omega)] at eT
   have e0 := QcC (l := l) (k := k * 2 + 0) (by omega)
   have b0 := (l[k * 2 + 0]).toNat_lt
   have e1 := QcC (l := l) (k := k * 2 + 1) (by omega)
   have b1 := (l[k * 2 + 1]).toNat_lt
   simp only [yi] at e0 b0
   generalize l[k * 2] = y0 at *
   generalize l[k * 2 + 1] = y1 at *
   generalize hat : k * 2 = at_ at *
   obtain ⟨X, hX⟩ : ∃ X, X = y0.toNat + y1.toNat * 256 := ⟨_, rfl⟩
   rw [← hX] at eT
   simp (disch := omega) only [rq, simprocAttr]
   refine Qg (ι := Nat) (fun j => ⟨[(54, .int .i64 j), (53, .int .i64 2), (12, .int .i32 (match j with | 0 => 0 | 1 => (y0.toNat : Int) | _ => (X : Int))), (11, .int .i64 (at_ : Int)), (10, .own 0 k), (9, .int .i64 2), (0, .int .i64 16), (1, .list l.length (u8 l))], [⟨t0, 1, k, ks .i32 (S.take k), 0⟩]⟩) (fun j => j ≤ 2) (fun j => 2 - j) 0 (Ql) (by omega) ?_
   intro j hj
   have o1 := @Qoq y0.toNat y1.toNat 8 (by omega) (by omega)
   rw [show y1.toNat * 2 ^ 8 = y1.toNat * 256 by rfl, ← hX] at o1
   generalize hq1 : y1.toNat * 256 = q1 at *
   have o0 : IntKind.i32.wrap (BitVec.ofInt IntKind.i32.bits 0 ||| BitVec.ofInt IntKind.i32.bits (y0.toNat : Int)).toNat = (y0.toNat : Int) := by
    have := @Qoq 0 y0.toNat 0 (by omega) (by omega)
    simpa using this
   have s0 : Qj true .i32 (y0.toNat : Int) 0 = some (.int .i32 (y0.toNat : Int)) := by simp [Qj]; rw [Qbq] <;> omega
   have s1 : Qj true .i32 (y1.toNat : Int) 8 = some (.int .i32 (q1 : Int)) := by simp [Qj, IntKind.bits]; rw [Qbq] <;> omega
   have hj3 : j = 0 ∨ j = 1 ∨ j = 2 := by omega
   rcases hj3 with rfl | rfl | rfl
   ·simp (disch := omega) only [rq, simprocAttr, e0, o0, s0]
    exact ⟨1, by omega, by omega, Ql⟩
   ·simp (disch := omega) only [rq, simprocAttr, e1, o1, s1]
    exact ⟨2, by omega, by omega, Ql⟩
   ·have z1 : ∀ x : Int, Qj true .i32 x 16 = some (.int .i32 (IntKind.i32.wrap (x * 65536))) := fun x => rfl
    have z2 : ∀ x : Int, Qj false .i32 x 16 = some (.int .i32 (x.fdiv 65536)) := fun x => rfl
    have z3 := QC5 (n := X) (by omega)
    rw [show Qnx 16 [] = 0 by decide, Int.zero_add] at z3
    rw [← z3] at eT
    have z4 : (IntKind.i32.wrap ((X : Int) * 65536)).fdiv 65536 ≤ 2147483647 := by rw [z3]; split <;> omega
    have z5 : -2147483648 ≤ (IntKind.i32.wrap ((X : Int) * 65536)).fdiv 65536 := by rw [z3]; split <;> omega
    simp (disch := omega) only [rq, simprocAttr, z1, z2, lk, Qe6]
    rw [← eT, ← hat]
    exact ⟨k + 1, by omega, by omega, Le.drop1 (Qq _ _) (by simp [Am.look, Qx, frzL, Qy, frzL_T _ (QF _)]; try omega)⟩
  ·have ek : k = l.length / 2 := by omega
   subst ek
   have tS : S.take (l.length / 2) = S := qg (by omega)
   have tw : l.length / 2 * 2 = l.length := by omega
   rw [tS, tw]
   simp (disch := omega) only [rq, simprocAttr]
   simp [QO, Qx, frzL, Qy, frzL_T _ (Qq _ _), il, hL]
 ·simp only [Qac, h] at hR'
  rw [qf (by omega)] at hR'
  have hw : ((24 : Int) / 8).toNat = 3 := rfl
  simp only [J1, hw, h]
  rw [qf (by omega)]
  have hL := Jj 24 l
  have hT := fun i => @QiE 24 l i
  rw [hw] at hL hT
  generalize hS : QjM 24 l = S at *
  have m1 : (l.length : Int).tmod 3 = ((l.length % 3 : Nat) : Int) := by rw [yO (by omega)]; omega
  have m2 : (l.length : Int).tdiv 3 = ((l.length / 3 : Nat) : Int) := by rw [qK (by omega)]; omega
  simp (disch := omega) only [rq, simprocAttr, ZC, bs]
  refine Qa hR' ?_
  by_cases h3 : l.length % 3 ≠ 0
  ·rw [qh h3]
   simp (disch := omega) only [rq, simprocAttr, m1]
   simp [QO, Qx, frzL, Qy]
  rw [qf h3]
  have h3' : l.length % 3 = 0 := by omega
  by_cases h4 : 4000 < l.length / 3
  ·rw [qh h4]
   simp (disch := omega) only [rq, simprocAttr, m1, m2]
   simp [QO, Qx, frzL, Qy]
  rw [qf h4]
  simp (disch := omega) only [rq, simprocAttr, m1, m2]
  refine Qg (ι := Nat) (fun k => ⟨[(11, .int .i64 ((k * 3 : Nat) : Int)), (10, .own 0 k), (9, .int .i64 3), (0, .int .i64 24), (1, .list l.length (u8 l))], [⟨t0, 1, k, ks .i32 (S.take k), 0⟩]⟩) (fun k => k ≤ l.length / 3) (fun k => l.length / 3 - k) 0 (Le.trans (XU 10 t0 1 (by omega) rfl) (Ql)) (by omega) ?_
  intro k hk
  have lk : (ks .i32 (S.take k)).length = k := by rw [Qh, qu]; omega
  by_cases hlt : k < l.length / 3
  ·have eT := hT k hlt
   have g : k * 3 + 3 ≤ l.length := by omega
   rw [Qwf, QEP (by omega)] at eT
   have e0 := QcC (l := l) (k := k * 3 + 0) (by omega)
   have b0 := (l[k * 3 + 0]).toNat_lt
   have e1 := QcC (l := l) (k := k * 3 + 1) (by omega)
   have b1 := (l[k * 3 + 1]).toNat_lt
   have e2 := QcC (l := l) (k := k * 3 + 2) (by omega)
   have b2 := (l[k * 3 + 2]).toNat_lt
   simp only [yi] at e0 b0
   generalize l[k * 3] = y0 at *
   generalize l[k * 3 + 1] = y1 at *
   generalize l[k * 3 + 2] = y2 at *
   generalize hat : k * 3 = at_ at *
   obtain ⟨X, hX⟩ : ∃ X, X = y0.toNat + y1.toNat * 256 := ⟨_, rfl⟩
   rw [← hX] at eT
   obtain ⟨Y, hY⟩ : ∃ Y, Y = X + y2.toNat * 65536 := ⟨_, rfl⟩
   rw [← hY] at eT
   simp (disch := omega) only [rq, simprocAttr]
   refine Qg (ι := Nat) (fun j => ⟨[(54, .int .i64 j), (53, .int .i64 3), (12, .int .i32 (match j with | 0 => 0 | 1 => (y0.toNat : Int) | 2 => (X : Int) | _ => (Y : Int))), (11, .int .i64 (at_ : Int)), (10, .own 0 k), (9, .int .i64 3), (0, .int .i64 24), (1, .list l.length (u8 l))], [⟨t0, 1, k, ks .i32 (S.take k), 0⟩]⟩) (fun j => j ≤ 3) (fun j => 3 - j) 0 (Ql) (by omega) ?_
   intro j hj
   have o1 := @Qoq y0.toNat y1.toNat 8 (by omega) (by omega)
   rw [show y1.toNat * 2 ^ 8 = y1.toNat * 256 by rfl, ← hX] at o1
   have o2 := @Qoq X y2.toNat 16 (by omega) (by omega)
   rw [show y2.toNat * 2 ^ 16 = y2.toNat * 65536 by rfl, ← hY] at o2
   generalize hq2 : y2.toNat * 65536 = q2 at *
   generalize hq1 : y1.toNat * 256 = q1 at *
   have o0 : IntKind.i32.wrap (BitVec.ofInt IntKind.i32.bits 0 ||| BitVec.ofInt IntKind.i32.bits (y0.toNat : Int)).toNat = (y0.toNat : Int) := by
    have := @Qoq 0 y0.toNat 0 (by omega) (by omega)
    simpa using this
   have s0 : Qj true .i32 (y0.toNat : Int) 0 = some (.int .i32 (y0.toNat : Int)) := by simp [Qj]; rw [Qbq] <;> omega
   have s1 : Qj true .i32 (y1.toNat : Int) 8 = some (.int .i32 (q1 : Int)) := by simp [Qj, IntKind.bits]; rw [Qbq] <;> omega
   have s2 : Qj true .i32 (y2.toNat : Int) 16 = some (.int .i32 (q2 : Int)) := by simp [Qj, IntKind.bits]; rw [Qbq] <;> omega
   have hj3 : j = 0 ∨ j = 1 ∨ j = 2 ∨ j = 3 := by omega
   rcases hj3 with rfl | rfl | rfl | rfl
   ·simp (disch := omega) only [rq, simprocAttr, e0, o0, s0]
    exact ⟨1, by omega, by omega, Ql⟩
   ·simp (disch := omega) only [rq, simprocAttr, e1, o1, s1]
    exact ⟨2, by omega, by omega, Ql⟩
   ·simp (disch := omega) only [rq, simprocAttr, e2, o2, s2]
    exact ⟨3, by omega, by omega, Ql⟩
   ·have z1 : ∀ x : Int, Qj true .i32 x 8 = some (.int .i32 (IntKind.i32.wrap (x * 256))) := fun x => rfl
    have z2 : ∀ x : Int, Qj false .i32 x 8 = some (.int .i32 (x.fdiv 256)) := fun x => rfl
    have z3 := QC4 (n := Y) (by omega)
    rw [show Qnx 24 [] = 0 by decide, Int.zero_add] at z3
    rw [← z3] at eT
    have z4 : (IntKind.i32.wrap ((Y : Int) * 256)).fdiv 256 ≤ 2147483647 := by rw [z3]; split <;> omega
    have z5 : -2147483648 ≤ (IntKind.i32.wrap ((Y : Int) * 256)).fdiv 256 := by rw [z3]; split <;> omega
    simp (disch := omega) only [rq, simprocAttr, z1, z2, lk, Qe6]
    rw [← eT, ← hat]
    exact ⟨k + 1, by omega, by omega, Le.drop1 (Qq _ _) (by simp [Am.look, Qx, frzL, Qy, frzL_T _ (QF _)]; try omega)⟩
  ·have ek : k = l.length / 3 := by omega
   subst ek
   have tS : S.take (l.length / 3) = S := qg (by omega)
   have tw : l.length / 3 * 3 = l.length := by omega
   rw [tS, tw]
   simp (disch := omega) only [rq, simprocAttr]
   simp [QO, Qx, frzL, Qy, frzL_T _ (Qq _ _), il, hL]
def Qvq (b x : Int) : Nat := (if b = 8 then x + 128 else if x < 0 then x + 2 * Z5 b else x).toNat
def Qt9 (b x : Int) : List UInt8 := leB (Qvq b x) (b / 8).toNat
def QbJ (b : Int) (l : List Int) : List UInt8 := l.flatMap (Qt9 b)
def Qnf (P : Prg) (f : Nat) : Prop := ∀ (b : Int) (l : List Int), I32 l → VC P f [.int .i64 b, il l] (if QE b l ≠ 0 then .tup [.list 0 [], .int .i64 (QE b l)] else .tup [bs (QbJ b l), .int .i64 0])
theorem Qe1 (b x : Int) : (Qt9 b x).length = (b / 8).toNat := Qc _ _
theorem Xi (b : Int) : ∀ l : List Int, (QbJ b l).length = l.length * (b / 8).toNat
 | [] => by simp [QbJ]
 | x :: l => by
  have := Xi b l
  simp only [QbJ, j2, qe, Qe1, qJ] at this ⊢
  rw [this, ym]; omega
theorem Qwh {b : Int} {l : List Int} {k : Nat} (h : k < l.length) : QbJ b (l.take (k + 1)) = QbJ b (l.take k) ++ Qt9 b l[k] := by
 simp only [QbJ]
 rw [qq h, List.flatMap_append]; simp
theorem QA4 {b : Int} {l : List Int} (h : QE b l = 0) {k : Nat} (hk : k < l.length) : -Z5 b ≤ l[k] ∧ l[k] < Z5 b := by
 unfold QE at h
 split at h
 ·omega
 split at h
 ·omega
 split at h
 ·rename_i h2
  have := qR.1 h2 _ (ye hk)
  simp [inR] at this
  exact this
 ·omega
theorem QdJ {b : Int} {l : List Int} (h : QE b l = 0) : l.length ≤ 4000 ∧ Z5 b ≠ 0 := by
 unfold QE at h
 split at h
 ·omega
 rename_i h0
 split at h
 ·omega
 ·exact ⟨by omega, h0⟩
theorem Qd2 {n : Nat} (h : n < 256) : (UInt8.ofNat n).toNat = n := by simp; omega
theorem QEc {x : Int} (h1 : -128 ≤ x) (h2 : x < 128) : u8 (Qt9 8 x) = [.int .u8 (x + 128)] := by
 have e : (8 : Int) / 8 = 1 := rfl
 simp only [Qt9, Qvq, qO, e, Int.toNat_one, leB, Qe0, Qg7]
 rw [Qd2 (by omega)]
 have : (((x + 128).toNat % 256 : Nat) : Int) = x + 128 := by omega
 rw [this]
theorem QC0 {x : Int} (h1 : -32768 ≤ x) (h2 : x < 32768) : u8 (Qt9 16 x) = [.int .u8 (x % 256), .int .u8 (x / 256 % 256)] := by
 have e : ((16 : Int) / 8).toNat = 2 := rfl
 have e2 : Z5 16 = 32768 := rfl
 simp only [Qt9, Qvq, e, e2, leB, Qe0, Qg7]
 rw [Qd2 (by omega), Qd2 (by omega), qf (by decide)]
 generalize hq : (if x < 0 then x + 2 * 32768 else x).toNat = n
 have h3 : (n : Int) = if x < 0 then x + 65536 else x := by rw [← hq]; split <;> omega
 have a1 : ((n % 256 : Nat) : Int) = x % 256 := by split at h3 <;> omega
 have a2 : ((n / 256 % 256 : Nat) : Int) = x / 256 % 256 := by split at h3 <;> omega
 rw [a1, a2]
theorem QCZ {x : Int} (h1 : -8388608 ≤ x) (h2 : x < 8388608) : u8 (Qt9 24 x) = [.int .u8 (x % 256), .int .u8 (x / 256 % 256), .int .u8 (x / 65536 % 256)] := by
 have e : ((24 : Int) / 8).toNat = 3 := rfl
 have e2 : Z5 24 = 8388608 := rfl
 simp only [Qt9, Qvq, e, e2, leB, Qe0, Qg7]
 rw [Qd2 (by omega), Qd2 (by omega), Qd2 (by omega), qf (by decide)]
 generalize hq : (if x < 0 then x + 2 * 8388608 else x).toNat = n
 have h3 : (n : Int) = if x < 0 then x + 16777216 else x := by rw [← hq]; split <;> omega
 have a1 : ((n % 256 : Nat) : Int) = x % 256 := by split at h3 <;> omega
 have a2 : ((n / 256 % 256 : Nat) : Int) = x / 256 % 256 := by split at h3 <;> omega
 have a3 : ((n / 256 / 256 % 256 : Nat) : Int) = x / 65536 % 256 := by split at h3 <;> omega
 rw [a1, a2, a3]
set_option maxRecDepth 20000 in
set_option maxHeartbeats 2000000 in
theorem QpY {P : Prg} {f fC t0 : Nat} (bd : Body P f 43 [.tmp 4, .tmp 5] (Z7 fC t0)) (hC : QaO P fC) : Qnf P f := by
 intro b l hI
 have hC' := hC b l hI
 refine Qk 1 (by simp [isDL, isD, Zi]) (by split <;> simp [isD, isDL, QD]) (Qb bd (by simp) ?_)
 by_cases h0 : QE b l ≠ 0
 ·rw [qh h0]
  rw [il] at hC'
  simp (disch := omega) only [rq, simprocAttr, Z7, il]
  refine Qa hC' ?_
  simp (disch := omega) only [rq, simprocAttr]
  simp [QO, Qx, frzL, Qy]
 rw [qf h0]
 have h0' : QE b l = 0 := by omega
 rw [h0', il] at hC'
 obtain ⟨h4, hh⟩ := QdJ h0'
 have hin := fun k hk => @QA4 b l h0' k hk
 have hS := fun k => @Qwh b l k
 have hB := fun k => Xi b (l.take k)
 have hB0 := Xi b l
 have hk0 := Qh .i32 l
 rcases Zj b with ⟨rfl, h⟩ | ⟨rfl, h⟩ | ⟨rfl, h⟩ | ⟨h1, h2, h3, h⟩
 case inr.inr.inr => omega
 ·have hw : ((8 : Int) / 8).toNat = 1 := rfl
  simp only [hw] at hB hB0
  rw [h] at hin
  simp (disch := omega) only [rq, simprocAttr, Z7, il]
  refine Qa hC' ?_
  simp (disch := omega) only [rq, simprocAttr]
  refine Qg (ι := Nat) (fun k => ⟨[(19, .int .i64 k), (18, .int .i64 l.length), (17, .list l.length (ks .i32 l)), (7, .own 0 (QbJ 8 (l.take k)).length), (0, .int .i64 8), (1, .list l.length (ks .i32 l))], [⟨t0, 1, (QbJ 8 (l.take k)).length, u8 (QbJ 8 (l.take k)), 0⟩]⟩) (fun k => k ≤ l.length) (fun k => l.length - k) 0 (Le.trans (XU 7 t0 1 (by omega) rfl) (Qm (by simp [Am.look, QbJ]))) (by omega) ?_
  intro k hk
  have hBk := hB k
  rw [qu, qL hk] at hBk
  by_cases hlt : k < l.length
  ·have e1 := Xa (K := .i32) hlt
   obtain ⟨i1, i2⟩ := hin k hlt
   have eT := hS k hlt
   have eE := QEc (x := l[k]) (by omega) (by omega)
   have eL := hB (k + 1)
   rw [qu, qL (by omega : k + 1 ≤ l.length)] at eL
   generalize l[k] = x at *
   generalize hp : QbJ 8 (l.take k) = pre at *
   generalize hp2 : QbJ 8 (l.take (k + 1)) = pre2 at *
   have eU : u8 pre2 = u8 pre ++ [.int .u8 (x + 128)] := by rw [eT, ← Zb, eE]
   have lp := Qr pre
   simp (disch := omega) only [rq, simprocAttr, e1, hk0]
   refine Qg (ι := Nat) (fun j => ⟨[(29, .int .i64 j), (28, .int .i64 1), (9, .int .i32 (x + 128)), (7, .own 0 (pre.length + j)), (19, .int .i64 k), (18, .int .i64 l.length), (17, .list l.length (ks .i32 l)), (0, .int .i64 8), (1, .list l.length (ks .i32 l))], [⟨t0, 1, pre.length + j, (match j with | 0 => u8 pre | _ => u8 pre ++ [.int .u8 (x + 128)]), 0⟩]⟩) (fun j => j ≤ 1) (fun j => 1 - j) 0 (Ql) (by omega) ?_
   intro j hj
   have s0 : Qj false .i32 (x + 128) 0 = some (.int .i32 (x + 128)) := by simp [Qj, Int.fdiv_one]
   have hj3 : j = 0 ∨ j = 1 := by omega
   rcases hj3 with rfl | rfl
   ·simp (disch := omega) only [rq, simprocAttr, s0, lp, qj]
    exact ⟨1, by omega, by omega, Je [_] (by simp [Xn, QF, isTL, isT]) (by simp [Am.look, Qx, frzL, Qy, frzL_T _ (Qq _ _)])⟩
   ·simp (disch := omega) only [rq, simprocAttr]
    rw [← eU, show pre.length + 1 = pre2.length by omega]
    refine ⟨k + 1, by omega, by omega, ?_⟩
    rw [hp2]
    exact Ql
  ·have ek : k = l.length := by omega
   subst ek
   rw [qD]
   simp (disch := omega) only [rq, simprocAttr, hk0]
   simp [QO, Qx, frzL, Qy, frzL_T _ (QF _), bs]
 ·have hw : ((16 : Int) / 8).toNat = 2 := rfl
  simp only [hw] at hB hB0
  rw [h] at hin
  simp (disch := omega) only [rq, simprocAttr, Z7, il]
  refine Qa hC' ?_
  simp (disch := omega) only [rq, simprocAttr]
  refine Qg (ι := Nat) (fun k => ⟨[(19, .int .i64 k), (18, .int .i64 l.length), (17, .list l.length (ks .i32 l)), (7, .own 0 (QbJ 16 (l.take k)).length), (0, .int .i64 16), (1, .list l.length (ks .i32 l))], [⟨t0, 1, (QbJ 16 (l.take k)).length, u8 (QbJ 16 (l.take k)), 0⟩]⟩) (fun k => k ≤ l.length) (fun k => l.length - k) 0 (Le.trans (XU 7 t0 1 (by omega) rfl) (Qm (by simp [Am.look, QbJ]))) (by omega) ?_
  intro k hk
  have hBk := hB k
  rw [qu, qL hk] at hBk
  by_cases hlt : k < l.length
  ·have e1 := Xa (K := .i32) hlt
   obtain ⟨i1, i2⟩ := hin k hlt
   have eT := hS k hlt
   have eE := QC0 (x := l[k]) (by omega) (by omega)
   have eL := hB (k + 1)
   rw [qu, qL (by omega : k + 1 ≤ l.length)] at eL
   generalize l[k] = x at *
   generalize hp : QbJ 16 (l.take k) = pre at *
   generalize hp2 : QbJ 16 (l.take (k + 1)) = pre2 at *
   have eU : u8 pre2 = u8 pre ++ [.int .u8 (x % 256), .int .u8 (x / 256 % 256)] := by rw [eT, ← Zb, eE]
   have lp := Qr pre
   simp (disch := omega) only [rq, simprocAttr, e1, hk0]
   refine Qg (ι := Nat) (fun j => ⟨[(29, .int .i64 j), (28, .int .i64 2), (9, .int .i32 (x)), (7, .own 0 (pre.length + j)), (19, .int .i64 k), (18, .int .i64 l.length), (17, .list l.length (ks .i32 l)), (0, .int .i64 16), (1, .list l.length (ks .i32 l))], [⟨t0, 1, pre.length + j, (match j with | 0 => u8 pre | 1 => u8 pre ++ [.int .u8 (x % 256)] | _ => u8 pre ++ [.int .u8 (x % 256), .int .u8 (x / 256 % 256)]), 0⟩]⟩) (fun j => j ≤ 2) (fun j => 2 - j) 0 (Ql) (by omega) ?_
   intro j hj
   have s0 : Qj false .i32 x 0 = some (.int .i32 x) := by simp [Qj, Int.fdiv_one]
   have s1 : Qj false .i32 x 8 = some (.int .i32 (x / 256)) := by simp [Qj, IntKind.bits, qF]
   have s2 : Qj false .i32 x 16 = some (.int .i32 (x / 65536)) := by simp [Qj, IntKind.bits, qF]
   have w0 := ZV x
   have w1 := ZV (x / 256)
   have w2 := ZV (x / 65536)
   have hj3 : j = 0 ∨ j = 1 ∨ j = 2 := by omega
   rcases hj3 with rfl | rfl | rfl
   ·simp (disch := omega) only [rq, simprocAttr, s0, s1, s2, w0, w1, w2, lp, qj]
    exact ⟨1, by omega, by omega, Je [_] (by simp [Xn, QF, isTL, isT]) (by simp [Am.look, Qx, frzL, Qy, frzL_T _ (Qq _ _)])⟩
   ·simp (disch := omega) only [rq, simprocAttr, s0, s1, s2, w0, w1, w2, lp, qj]
    exact ⟨2, by omega, by omega, Je [_] (by simp [Xn, QF, isTL, isT]) (by simp [Am.look, Qx, frzL, Qy, frzL_T _ (Qq _ _)])⟩
   ·simp (disch := omega) only [rq, simprocAttr]
    rw [← eU, show pre.length + 2 = pre2.length by omega]
    refine ⟨k + 1, by omega, by omega, ?_⟩
    rw [hp2]
    exact Ql
  ·have ek : k = l.length := by omega
   subst ek
   rw [qD]
   simp (disch := omega) only [rq, simprocAttr, hk0]
   simp [QO, Qx, frzL, Qy, frzL_T _ (QF _), bs]
 ·have hw : ((24 : Int) / 8).toNat = 3 := rfl
  simp only [hw] at hB hB0
  rw [h] at hin
  simp (disch := omega) only [rq, simprocAttr, Z7, il]
  refine Qa hC' ?_
  simp (disch := omega) only [rq, simprocAttr]
  refine Qg (ι := Nat) (fun k => ⟨[(19, .int .i64 k), (18, .int .i64 l.length), (17, .list l.length (ks .i32 l)), (7, .own 0 (QbJ 24 (l.take k)).length), (0, .int .i64 24), (1, .list l.length (ks .i32 l))], [⟨t0, 1, (QbJ 24 (l.take k)).length, u8 (QbJ 24 (l.take k)), 0⟩]⟩) (fun k => k ≤ l.length) (fun k => l.length - k) 0 (Le.trans (XU 7 t0 1 (by omega) rfl) (Qm (by simp [Am.look, QbJ]))) (by omega) ?_
  intro k hk
  have hBk := hB k
  rw [qu, qL hk] at hBk
  by_cases hlt : k < l.length
  ·have e1 := Xa (K := .i32) hlt
   obtain ⟨i1, i2⟩ := hin k hlt
   have eT := hS k hlt
   have eE := QCZ (x := l[k]) (by omega) (by omega)
   have eL := hB (k + 1)
   rw [qu, qL (by omega : k + 1 ≤ l.length)] at eL
   generalize l[k] = x at *
   generalize hp : QbJ 24 (l.take k) = pre at *
   generalize hp2 : QbJ 24 (l.take (k + 1)) = pre2 at *
   have eU : u8 pre2 = u8 pre ++ [.int .u8 (x % 256), .int .u8 (x / 256 % 256), .int .u8 (x / 65536 % 256)] := by rw [eT, ← Zb, eE]
   have lp := Qr pre
   simp (disch := omega) only [rq, simprocAttr, e1, hk0]
   refine Qg (ι := Nat) (fun j => ⟨[(29, .int .i64 j), (28, .int .i64 3), (9, .int .i32 (x)), (7, .own 0 (pre.length + j)), (19, .int .i64 k), (18, .int .i64 l.length), (17, .list l.length (ks .i32 l)), (0, .int .i64 24), (1, .list l.length (ks .i32 l))], [⟨t0, 1, pre.length + j, (match j with | 0 => u8 pre | 1 => u8 pre ++ [.int .u8 (x % 256)] | 2 => u8 pre ++ [.int .u8 (x % 256), .int .u8 (x / 256 % 256)] | _ => u8 pre ++ [.int .u8 (x % 256), .int .u8 (x / 256 % 256), .int .u8 (x / 65536 % 256)]), 0⟩]⟩) (fun j => j ≤ 3) (fun j => 3 - j) 0 (Ql) (by omega) ?_
   intro j hj
   have s0 : Qj false .i32 x 0 = some (.int .i32 x) := by simp [Qj, Int.fdiv_one]
   have s1 : Qj false .i32 x 8 = some (.int .i32 (x / 256)) := by simp [Qj, IntKind.bits, qF]
   have s2 : Qj false .i32 x 16 = some (.int .i32 (x / 65536)) := by simp [Qj, IntKind.bits, qF]
   have w0 := ZV x
   have w1 := ZV (x / 256)
   have w2 := ZV (x / 65536)
   have hj3 : j = 0 ∨ j = 1 ∨ j = 2 ∨ j = 3 := by omega
   rcases hj3 with rfl | rfl | rfl | rfl
   ·simp (disch := omega) only [rq, simprocAttr, s0, s1, s2, w0, w1, w2, lp, qj]
    exact ⟨1, by omega, by omega, Je [_] (by simp [Xn, QF, isTL, isT]) (by simp [Am.look, Qx, frzL, Qy, frzL_T _ (Qq _ _)])⟩
   ·simp (disch := omega) only [rq, simprocAttr, s0, s1, s2, w0, w1, w2, lp, qj]
    exact ⟨2, by omega, by omega, Je [_] (by simp [Xn, QF, isTL, isT]) (by simp [Am.look, Qx, frzL, Qy, frzL_T _ (Qq _ _)])⟩
   ·simp (disch := omega) only [rq, simprocAttr, s0, s1, s2, w0, w1, w2, lp, qj]
    exact ⟨3, by omega, by omega, Je [_] (by simp [Xn, QF, isTL, isT]) (by simp [Am.look, Qx, frzL, Qy, frzL_T _ (Qq _ _)])⟩
   ·simp (disch := omega) only [rq, simprocAttr]
    rw [← eU, show pre.length + 3 = pre2.length by omega]
    refine ⟨k + 1, by omega, by omega, ?_⟩
    rw [hp2]
    exact Ql
  ·have ek : k = l.length := by omega
   subst ek
   rw [qD]
   simp (disch := omega) only [rq, simprocAttr, hk0]
   simp [QO, Qx, frzL, Qy, frzL_T _ (QF _), bs]
theorem QgA (c x r : Int) (l : List Int) : isD (clA c x r l) = true := by simp [clA, isD, isDL, Zi]
def QuG : List UInt8 := [102, 109, 116, 32]
def QdI : List UInt8 := [100, 97, 116, 97]
def QaU : List UInt8 := [87, 65, 86, 69]
def Qnv (c x r : Int) (l : List Int) : List Ck := [(QuG, Qer c x r), (QdI, QbJ x l)]
def Qls (c x r : Int) (l : List Int) : List UInt8 := Jp QaU (Qnv c x r l)
def QAK (c x r : Int) (l : List Int) : AV := if QT c x r l ≠ 0 then .tup [.list 0 [], .int .i64 (QT c x r l)] else .tup [bs (Qls c x r l), .int .i64 0]
theorem QzV (c x r : Int) (l : List Int) : isD (QAK c x r l) = true := by unfold QAK; split <;> simp [isD, isDL, QD]
theorem Qe8 {c x r : Int} {l : List Int} (h : QT c x r l = 0) : QaY c x r ∧ QE x l = 0 ∧ (l.length : Int) % c = 0 ∧ ZX c x r (l.length / c) = 0 := by
 unfold QT at h
 split at h
 ·omega
 split at h
 ·omega
 split at h
 ·omega
 split at h
 ·omega
 rename_i h1 h2 h3 h4
 have h3' : ZX c x r (l.length / c) = 0 := by omega
 refine ⟨?_, by omega, by omega, h3'⟩
 unfold ZX at h3'
 split at h3'
 ·omega
 rename_i e1
 split at h3'
 ·omega
 split at h3'
 ·omega
 split at h3'
 ·omega
 rename_i e4
 have e4' : QhB r (l.length / c) = 0 := by omega
 have e1' : Zz c x = 0 := by omega
 unfold QhB at e4'
 split at e4'
 ·omega
 rename_i q1
 unfold Zz at e1'
 split at e1'
 ·omega
 rename_i q2
 refine ⟨?_, ?_, fun h => q2 (.inl h), ?_, ?_⟩ <;> omega
theorem QoP (c x r : Int) : (Qer c x r).length = 16 ∨ (Qer c x r).length = 40 := by
 unfold Qer; rw [QdH]; split <;> simp
theorem Qlr {c x r : Int} {l : List Int} (h : QT c x r l = 0) : okL (Qnv c x r l) ∧ Xd QaU (Qnv c x r l) = 0 := by
 obtain ⟨h1, h2, _⟩ := Qe8 h
 obtain ⟨h4, h5⟩ := QdJ h2
 have h6 := Xi x l
 have h7 : (x / 8).toNat ≤ 3 := by rcases (Qa5 x).1 h5 with h | h | h <;> subst h <;> decide
 have h8 : l.length * (x / 8).toNat ≤ 4000 * 3 := yX h4 h7
 have h9 := QoP c x r
 refine ⟨⟨by simp [Qnv], fun k hk => ?_⟩, ?_⟩
 ·simp [Qnv] at hk
  rcases hk with rfl | rfl
  ·simp [QuG]; omega
  ·simp [QdI]; omega
 ·have hs : szL (Qnv c x r l) = (8 + (Qer c x r).length + (Qer c x r).length % 2) + (8 + (QbJ x l).length + (QbJ x l).length % 2) := by simp [Qnv, szL, szC]
  unfold Xd
  rw [hs, qf (by simp [Qnv]), qf]
  rintro (h' | h' | h')
  ·revert h'; decide
  ·omega
  ·revert h'; simp [Qnv]; decide
def Qci (P : Prg) (f : Nat) : Prop := ∀ (c x r : Int) (l : List Int), I32 l → l.length ≤ 1000000 → VC P f [clA c x r l] (QAK c x r l)
theorem QvD {P : Prg} {f fC fF fW fR t0 t1 : Nat} (bd : Body P f 41 [.tmp 2, .tmp 3] (Qbx fC fF fW fR t0 t1)) (hC : Z1 P fC) (hF : Qni P fF) (hW : Qnf P fW) (hR : Qne P fR) : Qci P f := by
 intro c x r l hI hl
 refine Qk 1 (by simp [isDL, QgA]) (QzV _ _ _ _) (Qb bd (by simp) ?_)
 have hC' := hC c x r l hI hl
 have hW0 := hW x l hI
 rw [il] at hC' hW0
 by_cases h0 : QT c x r l = 0
 ·obtain ⟨h1, h2, _⟩ := Qe8 h0
  obtain ⟨h3, h4⟩ := Qlr h0
  have hF' := hF c x r
  rw [qh h1, Qdf] at hF'
  rw [qf (by omega)] at hW0
  rw [h0] at hC'
  have hR' := hR QaU (Qnv c x r l) (by decide) h3
  rw [Qig, qh h4, show Jp QaU (Qnv c x r l) = Qls c x r l from rfl] at hR'
  simp only [Qnv, ckL, qJ, yg] at hR'
  simp only [QAK, h0]
  rw [qf (by omega)]
  generalize Qer c x r = F at *
  generalize QbJ x l = D at *
  generalize Qls c x r l = W at *
  simp (disch := omega) only [rq, simprocAttr, Qbx, clA, il]
  iterate 2 (refine Qa (by assumption) ?_; simp (disch := omega) only [rq, simprocAttr])
  refine Qa hW0 ?_
  simp (disch := omega) only [rq, simprocAttr, bs]
  refine Q6 1 [1] hR' ?_ ?_
  ·simp [QO, Qx, frzL, Qy, frzL_T _ (QF _), isDL, isD, QdG, bs, QuG, QdI, QaU]
  simp (disch := omega) only [rq, simprocAttr, bs]
  simp [QO, Qx, frzL, Qy, frzL_T _ (QF _)]
 ·simp only [QAK]
  rw [qh h0]
  simp (disch := omega) only [rq, simprocAttr, Qbx, clA, il]
  refine Qa hC' ?_
  generalize QT c x r l = e at *
  simp (disch := omega) only [rq, simprocAttr]
  simp [QO, Qx, frzL, Qy]
def Qge (P : Prg) (f : Nat) : Prop := ∀ (c x r c' x' r' : Int) (l l' : List Int), l.length ≤ 1000000 → l'.length ≤ 1000000 → VC P f [clA c x r l, clA c' x' r' l'] (.bool (decide (c = c' ∧ x = x' ∧ r = r' ∧ l = l')))
def QjF (P : Prg) (f : Nat) : Prop := ∀ (c x r : Int) (l : List Int), VC P f [clA c x r l] (.bool (decide (300 < l.length) && decide (l.length ≤ 4000) || decide (4010 < l.length)))
theorem QqB {P : Prg} {f t0 : Nat} (bd : Body P f 19 [.tmp 2] (QZ t0)) : QjF P f := by
 intro c x r l
 refine Qv (by simp [isDL, QgA]) rfl bd ?_
 by_cases h1 : 300 < l.length
 ·by_cases h2 : l.length ≤ 4000
  ·have e : (decide (300 < l.length) && decide (l.length ≤ 4000) || decide (4010 < l.length)) = true := by simp [h1, h2]
   simp (disch := omega) only [rq, simprocAttr, QZ, clA, il, e]
  ·by_cases h3 : 4010 < l.length
   ·have e : (decide (300 < l.length) && decide (l.length ≤ 4000) || decide (4010 < l.length)) = true := by simp [h3]
    simp (disch := omega) only [rq, simprocAttr, QZ, clA, il, e]
   ·have e : (decide (300 < l.length) && decide (l.length ≤ 4000) || decide (4010 < l.length)) = false := by simp; omega
    simp (disch := omega) only [rq, simprocAttr, QZ, clA, il, e]
 ·have e : (decide (300 < l.length) && decide (l.length ≤ 4000) || decide (4010 < l.length)) = false := by simp; omega
  simp (disch := omega) only [rq, simprocAttr, QZ, clA, il, e]
set_option maxRecDepth 20000 in
theorem Qul {P : Prg} {f t0 : Nat} (bd : Body P f 52 [.tmp 4] (QU t0)) : Qge P f := by
 intro c x r c' x' r' l l' hl hl'
 refine Qv (by simp [isDL, QgA]) rfl bd ?_
 have hk := Qh .i32 l
 have hk' := Qh .i32 l'
 by_cases h1 : c = c'
 case neg =>
  have e : decide (c = c' ∧ x = x' ∧ r = r' ∧ l = l') = false := by simp [h1]
  simp (disch := omega) only [rq, simprocAttr, QU, clA, il, e]
 by_cases h2 : x = x'
 case neg =>
  have e : decide (c = c' ∧ x = x' ∧ r = r' ∧ l = l') = false := by simp [h2]
  simp (disch := omega) only [rq, simprocAttr, QU, clA, il, e]
 by_cases h3 : r = r'
 case neg =>
  have e : decide (c = c' ∧ x = x' ∧ r = r' ∧ l = l') = false := by simp [h3]
  simp (disch := omega) only [rq, simprocAttr, QU, clA, il, e]
 subst h1; subst h2; subst h3
 have e0 : decide (c = c ∧ x = x ∧ r = r ∧ l = l') = decide (l = l') := by simp
 rw [e0]
 by_cases h4 : l.length = l'.length
 case neg =>
  have e : decide (l = l') = false := by simp; exact fun h => h4 (by rw [h])
  simp (disch := omega) only [rq, simprocAttr, QU, clA, il, e]
 simp (disch := omega) only [rq, simprocAttr, QU, clA, il]
 refine Qg (ι := Nat) (fun k => ⟨[(5, .int .i64 k), (2, .ref 0 1 0), (3, .ref 1 1 0)], [⟨t0, 4, 1, [.int .i64 c, .int .i64 x, .int .i64 r, .list l.length (ks .i32 l)], 0⟩, ⟨t0, 4, 1, [.int .i64 c, .int .i64 x, .int .i64 r, .list l'.length (ks .i32 l')], 0⟩]⟩) (fun k => k ≤ l.length ∧ l.take k = l'.take k) (fun k => l.length - k) 0 (Ql) ⟨by omega, by simp⟩ ?_
 rintro k ⟨hk1, hk2⟩
 by_cases hlt : k < l.length
 ·have d1 := Xa (K := .i32) hlt
  have d2 := Xa (K := .i32) (l := l') (k := k) (by omega)
  by_cases he : l[k] = l'[k]'(by omega)
  ·rw [← he] at d2
   have e5 : l.take (k + 1) = l'.take (k + 1) := by
    rw [qq hlt, qq (by omega : k < l'.length), hk2, he]
   simp (disch := omega) only [rq, simprocAttr, hk, hk', d1, d2]
   exact ⟨k + 1, ⟨by omega, e5⟩, by omega, Ql⟩
  ·have e : decide (l = l') = false := by
    simp
    intro h
    subst h
    exact he rfl
   rw [e]
   have he' : (l[k] = l'[k]'(by omega)) = False := eq_false he
   simp (disch := omega) only [rq, simprocAttr, hk, hk', d1, d2, he']
 ·have ek : k = l.length := by omega
  subst ek
  have e : decide (l = l') = true := by
   simp
   rw [qD, h4, qD] at hk2
   exact hk2
  rw [e]
  simp (disch := omega) only [rq, simprocAttr, hk, hk']
def JT (l : List Ck) (id : List UInt8) : Nat × Nat :=
 match Qka l id with
 | none => (0, 6)
 | some i => match Qka (l.drop (i + 1)) id with
  | some _ => (0, 12)
  | none => (i, 0)
def QyD (P : Prg) (f : Nat) : Prop := ∀ (l : List Ck) (id : List UInt8), l.length ≤ 1000000 → VC P f [.list l.length (ckL l), .str id] (.tup [.int .i64 (JT l id).1, .int .i64 (JT l id).2])
theorem Qo8 : ∀ (l : List Ck) (k : Nat), (ckL l).drop (k * 2) = ckL (l.drop k)
 | l, 0 => by simp
 | [], k + 1 => by simp [ckL]
 | c :: l, k + 1 => by
  have := Qo8 l k
  rw [ym, yG]
  simpa [ckL] using this
set_option maxRecDepth 20000 in
theorem QyZ {P : Prg} {f fF : Nat} (bd : Body P f 31 [.tmp 4, .tmp 5] (Qfg fF)) (hF : QyH P fF) : QyD P f := by
 intro l id hl
 refine Qv (by simp [isDL, isD, Qcz]) rfl bd ?_
 have e2 := Jo l
 have hF1 := hF l id (by omega)
 simp (disch := omega) only [rq, simprocAttr, Qfg]
 refine Qa hF1 ?_
 unfold JT
 cases hf : Qka l id with
 | none =>
  simp (disch := omega) only [rq, simprocAttr, QoS]
 | some i =>
  have hi := Qmi hf
  have hF2 := hF (l.drop (i + 1)) id (by simp; omega)
  have hln : (l.drop (i + 1)).length = l.length - (i + 1) := by simp
  have htk : (ckL (l.drop (i + 1))).take ((l.length - (i + 1)) * 2) = ckL (l.drop (i + 1)) := qg (by rw [Jo, hln]; exact qo _)
  rw [hln] at hF2
  have e3 : (l.length * 2 = (ckL l).length) = True := eq_true (by omega)
  simp (disch := omega) only [rq, simprocAttr, QoS, Qo8, htk, e3]
  refine Qa hF2 ?_
  cases hf2 : Qka (l.drop (i + 1)) id with
  | none =>
   simp (disch := omega) only [rq, simprocAttr, QoS]
  | some j =>
   simp (disch := omega) only [rq, simprocAttr, QoS]
def QyW (l : List Ck) (i : Nat) : List UInt8 := (l.getD i ([], [])).2
theorem Qx7 {l : List Ck} {i : Nat} (h : i < l.length) : QyW l i = (l[i]).2 := by simp [QyW, qd, qc h]
theorem QiR (l : List Ck) (id : List UInt8) : ((JT l id).2 = 6) ∨ ((JT l id).2 = 12) ∨ ((JT l id).2 = 0 ∧ (JT l id).1 < l.length) := by
 unfold JT
 cases hf : Qka l id with
 | none => exact .inl rfl
 | some i =>
  simp only
  cases hf2 : Qka (l.drop (i + 1)) id with
  | none => exact .inr (.inr ⟨rfl, Qmi hf⟩)
  | some j => exact .inr (.inl rfl)
def Qhv (b : List UInt8) : Nat ⊕ (Nat × Nat × Nat × List Int) :=
 match JH b with
 | .inl e => .inl e
 | .inr (form, l) =>
  if form ≠ QaU then .inl 12
  else if (JT l QuG).2 = 6 ∨ (JT l QdI).2 = 6 then .inl 6
  else if (JT l QuG).2 ≠ 0 ∨ (JT l QdI).2 ≠ 0 ∨ (JT l QdI).1 < (JT l QuG).1 then .inl 12
  else
   match Qgu (QyW l (JT l QuG).1) with
   | none => .inl 12
   | some (c, x, r) =>
    if (QyW l (JT l QdI).1).length = 0 ∨ (QyW l (JT l QdI).1).length % (c * x / 8) ≠ 0 then .inl 12
    else if 4000 < (QyW l (JT l QdI).1).length / (x / 8) then .inl 4
    else if QT c x r (QjM x (QyW l (JT l QdI).1)) ≠ 0 then .inl 4
    else .inr (c, x, r, QjM x (QyW l (JT l QdI).1))
def JM : Nat ⊕ (Nat × Nat × Nat × List Int) → AV
 | .inl e => .tup [clA 0 0 0 [], .int .i64 e]
 | .inr (c, x, r, l) => .tup [clA c x r l, .int .i64 0]
theorem QuA (o : Nat ⊕ (Nat × Nat × Nat × List Int)) : isD (JM o) = true := by
 rcases o with e | ⟨c, x, r, l⟩ <;> simp [JM, isD, isDL, QgA]
theorem Qua {x : Int} (hx : Z5 x ≠ 0) {s : List UInt8} (hs : s.length = (x / 8).toNat) : -Z5 x ≤ Qnx x s ∧ Qnx x s < Z5 x := by
 have h1 := QdD s
 rw [hs] at h1
 rcases Zj x with ⟨rfl, h⟩ | ⟨rfl, h⟩ | ⟨rfl, h⟩ | ⟨_, _, _, h⟩
 ·have e : (2 : Nat) ^ (8 * ((8 : Int) / 8).toNat) = 256 := by decide
  rw [e] at h1
  rw [QBy, h]; omega
 ·have e : (2 : Nat) ^ (8 * ((16 : Int) / 8).toNat) = 65536 := by decide
  rw [e] at h1
  rw [Qwg, h]; split <;> omega
 ·have e : (2 : Nat) ^ (8 * ((24 : Int) / 8).toNat) = 16777216 := by decide
  rw [e] at h1
  rw [Qwf, h]; split <;> omega
 ·exact absurd h hx
theorem Qt8 {x : Int} (hx : Z5 x ≠ 0) (l : List UInt8) : ∀ y ∈ QjM x l, -Z5 x ≤ y ∧ y < Z5 x := by
 intro y hy
 simp only [QjM, qU, jc] at hy
 obtain ⟨i, hi, rfl⟩ := hy
 refine Qua hx ?_
 generalize (x / 8).toNat = w at *
 have h0 : 0 < w := by
  rcases yS w with h | h
  ·subst h; simp at hi
  ·exact h
 have : (i + 1) * w ≤ l.length := yL (qA w (by omega : i + 1 ≤ l.length / w)) (jS _ _)
 rw [ym, yG] at this
 rw [qu, jl]
 omega
theorem QsC {x : Int} (hx : Z5 x ≠ 0) (l : List UInt8) : I32 (QjM x l) := by
 intro y hy
 have h1 := Qt8 hx l y hy
 rcases Zj x with ⟨_, h⟩ | ⟨_, h⟩ | ⟨_, h⟩ | ⟨_, _, _, h⟩ <;> omega
def Qjw (P : Prg) (f : Nat) : Prop := ∀ b : List UInt8, b.length < 140737488355328 → VC P f [bs b] (JM (Qhv b))
theorem Qzz {l : List UInt8} {c x r : Nat} (h : Qgu l = some (c, x, r)) : QaY c x r := by
 rcases Qe3 l with ⟨h1, _⟩ | ⟨h1, h2, _⟩
 ·rw [h1] at h; cases h
 ·rw [h1] at h; cases h; exact h2
theorem QwL {b form : List UInt8} {l : List Ck} (h : JH b = .inr (form, l)) : ∀ c ∈ l, c.2.length ≤ 100000 := by
 intro c hc
 obtain ⟨_, _, _, _, h5, h6, _⟩ := Quq h
 have := QvY hc
 simp only [szC] at this
 omega
set_option maxRecDepth 20000 in
set_option maxHeartbeats 2000000 in
theorem Qy0 {P : Prg} {f fR fO fF fS fC t0 t1 : Nat} (bd : Body P f 116 [.cell 2 t0, .tmp 3] (Qfh fR fO fF fS fC t0 t1)) (hR : QtB P fR) (hO : QyD P fO) (hF : Qnj P fF) (hS : Qgd P fS) (hC : Z1 P fC) (ht : Zu P t0 = some (some 4)) : Qjw P f := by
 intro b hb
 refine Qk 2 (by simp [isDL, QD]) (QuA _) (Qb bd (by simp) ?_)
 have hR' := hR b hb
 simp (disch := omega) only [rq, simprocAttr, Qfh, bs]
 refine Qa hR' ?_
 unfold Qhv
 cases hm : JH b with
 | inl e =>
  have hp := Qol hm
  have hp' : ((e : Int) = 0) = False := eq_false (by omega)
  simp (disch := omega) only [rq, simprocAttr, Qj4, hp', Q1, ht, QL]
  simp [QO, Qx, frzL, Qy, JM, clA, il, ks]
 | inr p =>
  obtain ⟨form, l⟩ := p
  have h20 := QzA hm
  have hmb := QwL hm
  by_cases hform : form = QaU
  case neg =>
   have e1 : (form == [87, 65, 86, 69]) = false := by
    show (form == QaU) = false
    simpa using hform
   simp only [qh (show form ≠ QaU from hform)]
   simp (disch := omega) only [rq, simprocAttr, Qj4, QhP, e1, Q1, ht, QL]
   simp [QO, Qx, frzL, Qy, JM, clA, il, ks]
  simp only [qf (show ¬ form ≠ QaU by simp [hform])]
  subst hform
  have e1 : (QaU == [87, 65, 86, 69]) = true := by decide
  simp (disch := omega) only [rq, simprocAttr, Qj4, QhP, e1]
  refine Qa (hO l QuG (by omega)) ?_
  simp (disch := omega) only [rq, simprocAttr]
  refine Qa (hO l QdI (by omega)) ?_
  have c1 := QiR l QuG
  have c2 := QiR l QdI
  generalize JT l QuG = q1 at *
  generalize JT l QdI = q2 at *
  obtain ⟨fi, fe⟩ := q1
  obtain ⟨di, de⟩ := q2
  simp only at c1 c2 ⊢
  by_cases h6 : fe = 6 ∨ de = 6
  ·rw [qh h6]
   by_cases h6a : fe = 6
   ·simp (disch := omega) only [rq, simprocAttr, Q1, ht, QL]
    simp [QO, Qx, frzL, Qy, JM, clA, il, ks]
   ·simp (disch := omega) only [rq, simprocAttr, Q1, ht, QL]
    simp [QO, Qx, frzL, Qy, JM, clA, il, ks]
  rw [qf h6]
  by_cases h12 : fe ≠ 0 ∨ de ≠ 0 ∨ di < fi
  ·rw [qh h12]
   by_cases h12a : fe = 0
   ·by_cases h12b : de = 0
    ·simp (disch := omega) only [rq, simprocAttr, Q1, ht, QL]
     simp [QO, Qx, frzL, Qy, JM, clA, il, ks]
    ·simp (disch := omega) only [rq, simprocAttr, Q1, ht, QL]
     simp [QO, Qx, frzL, Qy, JM, clA, il, ks]
   ·simp (disch := omega) only [rq, simprocAttr, Q1, ht, QL]
    simp [QO, Qx, frzL, Qy, JM, clA, il, ks]
  rw [qf h12]
  have hfi : fi < l.length := by omega
  have hdi : di < l.length := by omega
  have e2 := Jo l
  have d1 := Qeh hfi
  have d2 := Qeh hdi
  have m1 := hmb _ (ye hfi)
  have m2 := hmb _ (ye hdi)
  rw [Qx7 hfi, Qx7 hdi]
  generalize (l[fi]).2 = F at *
  generalize (l[di]).2 = D at *
  simp (disch := omega) only [rq, simprocAttr, e2, d1]
  refine Qa (hF F (by omega)) ?_
  cases hs : Qgu F with
  | none =>
   simp (disch := omega) only [rq, simprocAttr, Qb5, Qdf, Q1, ht, QL]
   simp [QO, Qx, frzL, Qy, JM, clA, il, ks]
  | some q =>
   obtain ⟨c, x, r⟩ := q
   have hok := Qzz hs
   obtain ⟨q1, q2, q3, q4, q5⟩ := hok
   have hx := (Qa5 (x : Int)).1 q3
   have hw : ((x : Int) / 8).toNat = x / 8 := by omega
   have m0 : (c : Int) * x = ((c * x : Nat) : Int) := by simp
   have hcx : c * x / 8 = c * (x / 8) := by
    rcases hx with h | h | h
    ·obtain rfl : x = 8 := by omega
     omega
    ·obtain rfl : x = 16 := by omega
     omega
    ·obtain rfl : x = 24 := by omega
     omega
   have hb0 : c * x ≤ 6 * 24 := yX (by omega) (by omega)
   have hmS : ((c * x : Nat) : Int) / 8 = ((c * x / 8 : Nat) : Int) := by omega
   have hS1 : 0 < c * x / 8 := by rw [hcx]; exact j0 (by omega) (by omega)
   have hS' := hS x D (by omega)
   rw [J1, qf q3, hw] at hS'
   have hmm : (D.length : Int) % ((c * x / 8 : Nat) : Int) = ((D.length % (c * x / 8) : Nat) : Int) := (Yv _ _).symm
   by_cases hd0 : D.length = 0 ∨ D.length % (c * x / 8) ≠ 0
   ·simp only [qh hd0]
    by_cases hd1 : D.length = 0
    ·simp (disch := omega) only [rq, simprocAttr, Qb5, Qdf, e2, d2, bs, Q1, ht, QL]
     simp [QO, Qx, frzL, Qy, JM, clA, il, ks]
    ·have hd2 : 0 < D.length % (c * x / 8) := by omega
     generalize c * x / 8 = S at *
     generalize c * x = cx at *
     generalize D.length % S = R at *
     simp (disch := omega) only [rq, simprocAttr, Qb5, Qdf, e2, d2, bs, m0, hmS, hmm, Q1, ht, QL]
     simp [QO, Qx, frzL, Qy, JM, clA, il, ks]
   simp only [qf hd0]
   have hd1 : D.length ≠ 0 := fun h => hd0 (.inl h)
   have hd2 : D.length % (c * x / 8) = 0 := by
    rcases yS (D.length % (c * x / 8)) with h | h
    ·exact h
    ·exact absurd (.inr (by omega)) hd0
   have hd3 : D.length % (x / 8) = 0 := by
    have h1 : x / 8 ∣ D.length := Nat.dvd_trans ⟨c, by rw [hcx]; exact yd _ _⟩ (Nat.dvd_of_mod_eq_zero hd2)
    exact Nat.mod_eq_zero_of_dvd h1
   rw [qf (by omega)] at hS'
   have hI := QsC q3 D
   have hL := Jj x D
   rw [hw] at hL
   generalize QjM x D = L at *
   have hC' := hC c x r L hI (by rw [hL]; exact yL (jO _ _) (by omega))
   rw [hd2] at hmm
   generalize c * x / 8 = S at *
   generalize c * x = cx at *
   generalize D.length / (x / 8) = M at *
   rw [il] at hS' hC'
   by_cases h4 : 4000 < M
   ·rw [qh h4] at hS'
    simp only [qh h4]
    simp (disch := omega) only [rq, simprocAttr, Qb5, Qdf, e2, d2, bs, m0, hmS, hmm]
    refine Qa hS' ?_
    simp (disch := omega) only [rq, simprocAttr, Q1, ht, QL]
    simp [QO, Qx, frzL, Qy, JM, clA, il, ks]
   rw [qf h4] at hS'
   simp only [qf h4]
   simp (disch := omega) only [rq, simprocAttr, Qb5, Qdf, e2, d2, bs, m0, hmS, hmm]
   refine Qa hS' ?_
   simp (disch := omega) only [rq, simprocAttr]
   refine Qa hC' ?_
   by_cases h0 : QT c x r L ≠ 0
   ·simp only [qh h0]
    generalize QT c x r L = e at *
    simp (disch := omega) only [rq, simprocAttr, Q1, ht, QL]
    simp [QO, Qx, frzL, Qy, JM, clA, il, ks]
   ·simp only [qf h0]
    have h0' : QT c x r L = 0 := by omega
    rw [h0']
    simp (disch := omega) only [rq, simprocAttr, Q1, ht, QL]
    simp [QO, Qx, frzL, Qy, JM, clA, il, frzL_T _ (Qq _ _)]
theorem Qtf {a rest : List UInt8} {i k n : Nat} (ha : a.length = i) (hn : n < 256 ^ k) : fld (a ++ (leB n k ++ rest)) i k = n := by
 rw [fld, yI ha, qZ (Qc k n), Qea k n hn]
theorem QuE {c b r m : Nat} {w : Bool} (hc : c < 65536) (hb : b < 65536) (hr : r < 4294967296) :
  fld (Xp c b r w m) 2 2 = c ∧ fld (Xp c b r w m) 14 2 = b ∧ fld (Xp c b r w m) 4 4 = r := by
 have key : ∀ (tag : Nat) (rest : List UInt8), fld (Qbv c b r tag ++ rest) 2 2 = c ∧ fld (Qbv c b r tag ++ rest) 14 2 = b ∧ fld (Qbv c b r tag ++ rest) 4 4 = r := by
  intro tag rest
  refine ⟨?_, ?_, ?_⟩
  ·have := Qtf (a := leB tag 2) (rest := leB r 4 ++ (leB (r * (c * b / 8)) 4 ++ (leB (c * b / 8) 2 ++ (leB b 2 ++ rest)))) (i := 2) (k := 2) (n := c) (by simp [Qc]) (by omega)
   simpa [Qbv, qj] using this
  ·have := Qtf (a := leB tag 2 ++ leB c 2 ++ leB r 4 ++ leB (r * (c * b / 8)) 4 ++ leB (c * b / 8) 2) (rest := rest) (i := 14) (k := 2) (n := b) (by simp [Qc]) (by omega)
   simpa [Qbv, qj] using this
  ·have := Qtf (a := leB tag 2 ++ leB c 2) (rest := leB (r * (c * b / 8)) 4 ++ (leB (c * b / 8) 2 ++ (leB b 2 ++ rest))) (i := 4) (k := 4) (n := r) (by simp [Qc]) (by omega)
   simpa [Qbv, qj] using this
 cases w with
 | false => have := key 1 []; simpa [Xp] using this
 | true => have := key 65534 (leB 22 2 ++ (leB b 2 ++ (leB m 4 ++ Qhw))); simpa [Xp, Quw, qj] using this
theorem QuD {c b r m : Nat} (hm : m < 4294967296) : fld (Xp c b r true m) 20 4 = m := by
 have := Qtf (a := Qbv c b r 65534 ++ leB 22 2 ++ leB b 2) (rest := Qhw) (i := 20) (k := 4) (n := m) (by simp [Qc, QfW]) (by omega)
 simpa [Xp, Quw, qj] using this
theorem QqJ {c b r m : Nat} {w : Bool} (h : QaY c b r) (hm : m < 4294967296) : Qgu (Xp c b r w m) = some (c, b, r) := by
 have h' := h
 obtain ⟨h1, h2, h3, h4, h5⟩ := h'
 have hb : b < 65536 := by rcases (Qa5 _).1 h3 with h | h | h <;> omega
 obtain ⟨e1, e2, e3⟩ := QuE (c := c) (b := b) (r := r) (m := m) (w := w) (by omega) hb (by omega)
 rw [Qgu, e1, e2, e3, qh]
 refine ⟨h, ?_⟩
 cases w with
 | false => exact .inl rfl
 | true => exact .inr (by rw [QuD hm])
theorem QBQ {c : Nat} (h : c ≤ 6) : 2 ^ c - 1 < 4294967296 := by
 have : 2 ^ c ≤ 2 ^ 6 := qr (by omega) h
 omega
theorem QiQ {c x r : Int} (h : QaY c x r) : Qgu (Qer c x r) = some (c.toNat, x.toNat, r.toNat) := by
 obtain ⟨c, x, r, rfl, rfl, rfl⟩ := QiD h
 unfold Qer
 simp only [qm]
 exact QqJ h (QBQ (by have := h.2.1; omega))
theorem Qwe {x y : Int} (hx : Z5 x ≠ 0) (h1 : -Z5 x ≤ y) (h2 : y < Z5 x) : Qnx x (Qt9 x y) = y := by
 unfold Qt9
 rcases Zj x with ⟨rfl, h⟩ | ⟨rfl, h⟩ | ⟨rfl, h⟩ | ⟨_, _, _, h⟩
 ·rw [h] at h1 h2
  have e : ((8 : Int) / 8).toNat = 1 := by decide
  rw [QBy, e, Qea 1 _ (by unfold Qvq; rw [qh rfl]; omega)]
  unfold Qvq; rw [qh rfl]; omega
 ·rw [h] at h1 h2
  have e : ((16 : Int) / 8).toNat = 2 := by decide
  have e3 : Qvq 16 y = (if y < 0 then y + 65536 else y).toNat := by unfold Qvq; rw [qf (by decide), h]; rfl
  have e4 : Qvq 16 y < 256 ^ 2 := by rw [e3]; split <;> omega
  rw [Qwg, e, Qea 2 _ e4, e3]
  split <;> split <;> omega
 ·rw [h] at h1 h2
  have e : ((24 : Int) / 8).toNat = 3 := by decide
  have e3 : Qvq 24 y = (if y < 0 then y + 16777216 else y).toNat := by unfold Qvq; rw [qf (by decide), h]; rfl
  have e4 : Qvq 24 y < 256 ^ 3 := by rw [e3]; split <;> omega
  rw [Qwf, e, Qea 3 _ e4, e3]
  split <;> split <;> omega
 ·exact absurd h hx
theorem Qih {x : Int} (hx : Z5 x ≠ 0) : 0 < (x / 8).toNat ∧ (x / 8).toNat ≤ 3 ∧ (x / 8).toNat * 8 = x.toNat ∧ ((x / 8).toNat : Int) * 8 = x := by
 rcases (Qa5 x).1 hx with h | h | h <;> subst h <;> decide
theorem QkN {x : Int} : ∀ {l : List Int} {i : Nat} (h : i < l.length), ((QbJ x l).drop (i * (x / 8).toNat)).take (x / 8).toNat = Qt9 x l[i]
 | [], i, h => by simp at h
 | y :: l, 0, h => by
  simp only [QbJ, j2, Yn, yJ, List.getElem_cons_zero]
  exact qZ (Qe1 x y)
 | y :: l, i + 1, h => by
  have := QkN (x := x) (l := l) (i := i) (by simpa using h)
  simp only [QbJ, j2, List.getElem_cons_succ] at this ⊢
  rw [show (i + 1) * (x / 8).toNat = (Qt9 x y).length + i * (x / 8).toNat by rw [Qe1, ym]; omega, jA]
  rw [yf (by omega), yA, qX, this]
theorem Qn8 {x : Int} {l : List Int} (h : QE x l = 0) : QjM x (QbJ x l) = l := by
 obtain ⟨h1, h2⟩ := QdJ h
 obtain ⟨hp, _⟩ := Qih h2
 have hlen : (QjM x (QbJ x l)).length = l.length := by rw [Jj, Xi, yE _ hp]
 refine yZ hlen fun i ha hb => ?_
 rw [QsB, QkN hb]
 obtain ⟨q1, q2⟩ := QA4 h hb
 exact Qwe h2 q1 q2
theorem Qor {c x r : Int} {l : List Int} : JT (Qnv c x r l) QuG = (0, 0) ∧ JT (Qnv c x r l) QdI = (1, 0) := by
 constructor <;> simp [JT, Qnv, Qka, QuG, QdI, List.findIdx?_cons]
theorem QqO {c x r : Int} {l : List Int} (h : QT c x r l = 0) : 0 < l.length := by
 obtain ⟨h1, h2, h3, h4⟩ := Qe8 h
 unfold ZX at h4
 split at h4
 ·omega
 split at h4
 ·omega
 rename_i h5
 have : 1 ≤ (l.length : Int) / c := by omega
 rcases yS l.length with h6 | h6
 ·rw [h6] at this; simp at this
 ·exact h6
theorem cx8 {c x : Int} (hc : 1 ≤ c) (hx : Z5 x ≠ 0) : c.toNat * x.toNat / 8 = c.toNat * (x / 8).toNat := by
 obtain ⟨_, _, h, _⟩ := Qih hx
 rw [← h, ← yK, yE _ (by omega)]
theorem Qoj {b form : List UInt8} {L : List Ck} {c x r : Int} {l : List Int} {i j : Nat} (h : QT c x r l = 0) (hr : JH b = .inr (QaU, L))
  (h1 : JT L QuG = (i, 0)) (h2 : JT L QdI = (j, 0)) (hij : i ≤ j) (h3 : QyW L i = Qer c x r) (h4 : QyW L j = QbJ x l) :
  Qhv b = .inr (c.toNat, x.toNat, r.toNat, l) := by
 obtain ⟨k1, k2, k3, k4⟩ := Qe8 h
 have k1' := k1
 obtain ⟨c1, c2, c3, c4, c5⟩ := k1'
 obtain ⟨l1, _⟩ := QdJ k2
 obtain ⟨w1, w2, w3, w4⟩ := Qih c3
 have hne := QqO h
 unfold Qhv
 rw [hr]
 simp only [ne_eq, not_true_eq_false, qI, h1, h2, h3, h4]
 rw [qf (by simp), qf (by simp; omega)]
 rw [QiQ k1]
 have hx : ((x.toNat : Nat) : Int) = x := by omega
 have hc : ((c.toNat : Nat) : Int) = c := by omega
 have hrr : ((r.toNat : Nat) : Int) = r := by omega
 simp only [hx, hc, hrr, Qn8 k2, h]
 have hlen := Xi x l
 have e1 : (QbJ x l).length % (c.toNat * x.toNat / 8) = 0 := by
  rw [cx8 c1 c3, hlen]
  refine Nat.mod_eq_zero_of_dvd (Nat.mul_dvd_mul ?_ (Nat.dvd_refl _))
  have : (c.toNat : Int) ∣ (l.length : Int) := by rw [hc]; exact Int.dvd_of_emod_eq_zero k3
  exact_mod_cast this
 have e2 : (QbJ x l).length ≠ 0 := by
  rw [hlen]; exact Nat.mul_ne_zero (by omega) (by omega)
 have e3 : (QbJ x l).length / (x.toNat / 8) = l.length := by
  rw [hlen, show x.toNat / 8 = (x / 8).toNat by omega, yE _ w1]
 rw [e3, qf (by simp [e1, e2]), qf (by omega)]
 simp
theorem Qup {c x r : Int} {l : List Int} (h : QT c x r l = 0) : Qhv (Qls c x r l) = .inr (c.toNat, x.toNat, r.toNat, l) := by
 obtain ⟨h1, h2⟩ := Qlr h
 have h3 := (Qjb h2).1
 have h4 := QfM h2 [] h3
 rw [q8, qh rfl] at h4
 exact Qoj (form := []) h h4 Qor.1 Qor.2 (by omega) rfl rfl
theorem Qzy {b : List UInt8} {c x r : Nat} {l : List Int} (h : Qhv b = .inr (c, x, r, l)) : QT c x r l = 0 ∧ I32 l ∧ l.length ≤ 4000 := by
 have key : ∀ L : List UInt8, QT c x r (QjM x L) = 0 → I32 (QjM x L) ∧ (QjM x L).length ≤ 4000 := by
  intro L h
  obtain ⟨_, h2, _⟩ := Qe8 h
  obtain ⟨q1, q2⟩ := QdJ h2
  exact ⟨QsC q2 _, q1⟩
 unfold Qhv at h
 split at h
 ·cases h
 split at h
 ·cases h
 split at h
 ·cases h
 split at h
 ·cases h
 split at h
 ·cases h
 split at h
 ·cases h
 split at h
 ·cases h
 split at h
 ·cases h
 rename_i h9
 cases h
 have h9' := Classical.not_not.1 h9
 exact ⟨h9', key _ h9'⟩
theorem QwI {b : List UInt8} {e : Nat} (h : Qhv b = .inl e) : e ≠ 0 := by
 unfold Qhv at h
 split at h
 ·rename_i e' he
  cases h
  exact Qol he
 split at h
 ·cases h; omega
 split at h
 ·cases h; omega
 split at h
 ·cases h; omega
 split at h
 ·cases h; omega
 split at h
 ·cases h; omega
 split at h
 ·cases h; omega
 split at h
 ·cases h; omega
 ·cases h
theorem QiP {c x r : Int} {l : List Int} (h : QT c x r l = 0) : ∃ c' x' r' : Nat, c = c' ∧ x = x' ∧ r = r' ∧ Qhv (Qls c x r l) = .inr (c', x', r', l) := by
 obtain ⟨c', x', r', e1, e2, e3⟩ := QiD (Qe8 h).1
 refine ⟨c', x', r', e1, e2, e3, ?_⟩
 have := Qup h
 rw [this, e1, e2, e3]; simp
theorem Qst {c x r : Int} {l : List Int} (h : QT c x r l = 0) : (Qls c x r l).length ≤ 100000 := by
 obtain ⟨h3, h4⟩ := Qlr h
 obtain ⟨h5, _⟩ := Qjb h4
 obtain ⟨h6, h7⟩ := Qpa h4
 rw [Qls, Qf1 (by decide) fun c hc => Qox (h7 c hc)]
 exact h5
theorem Qei {w n : Nat} (h : n < 2 ^ w) : BitVec.ofInt w (n : Int) = BitVec.ofNat w n := by
 apply BitVec.eq_of_toNat_eq
 rw [Yf, yP]
 omega
theorem QhL {K : IntKind} (hs : K.signed = false) {n : Nat} (h : n < 2 ^ K.bits) : K.wrap (n : Int) = n := by
 have h1 : (n : Int) % 2 ^ K.bits = n := by
  rw [Int.emod_eq_of_lt (by omega)]
  exact_mod_cast h
 unfold IntKind.wrap
 simp [hs, h1]
theorem QyR {K : IntKind} (hs : K.signed = false) {a b : Nat} (ha : a < 2 ^ K.bits) (hb : b < 2 ^ K.bits) : K.wrap (BitVec.ofInt K.bits (a : Int) ^^^ BitVec.ofInt K.bits (b : Int)).toNat = ((a ^^^ b : Nat) : Int) := by
 rw [Qei ha, Qei hb, Yw, yP, yP, qT ha, qT hb]
 exact QhL hs (yQ ha hb)
theorem QD7 {K : IntKind} (hs : K.signed = false) {a b : Nat} (ha : a < 2 ^ K.bits) (hb : b < 2 ^ K.bits) : K.wrap (BitVec.ofInt K.bits (a : Int) &&& BitVec.ofInt K.bits (b : Int)).toNat = ((a &&& b : Nat) : Int) := by
 rw [Qei ha, Qei hb, j9, yP, yP, qT ha, qT hb]
 exact QhL hs (Nat.and_lt_two_pow _ hb)
theorem orK {K : IntKind} (hs : K.signed = false) {a b : Nat} (ha : a < 2 ^ K.bits) (hb : b < 2 ^ K.bits) : K.wrap (BitVec.ofInt K.bits (a : Int) ||| BitVec.ofInt K.bits (b : Int)).toNat = ((a ||| b : Nat) : Int) := by
 rw [Qei ha, Qei hb, BitVec.toNat_or, yP, yP, qT ha, qT hb]
 exact QhL hs (Nat.or_lt_two_pow ha hb)
theorem Qny {K : IntKind} {n k : Nat} (hk : k ≤ K.bits) : Qj false K (n : Int) (k : Int) = some (.int K ((n / 2 ^ k : Nat) : Int)) := by
 have h3 : ¬ ((k : Int) < 0) := by omega
 have h5 : min k K.bits = k := by omega
 have h6 : (n : Int).fdiv (2 ^ k) = ((n / 2 ^ k : Nat) : Int) := by
  rw [qF _ (Int.pow_nonneg (by decide))]
  simp [yC, Int.natCast_pow]
 simp only [Qj, qf h3, yo, qI, qm, h5, h6]
theorem Qvr {K : IntKind} (hs : K.signed = false) {c s : Nat} (h : s ≤ K.bits) (h2 : c * 2 ^ s < 2 ^ K.bits) : Qj true K (c : Int) (s : Int) = some (.int K ((c * 2 ^ s : Nat) : Int)) := by
 have h3 : ¬ ((s : Int) < 0) := by omega
 have h5 : min s K.bits = s := by omega
 have h6 : (c : Int) * 2 ^ s = ((c * 2 ^ s : Nat) : Int) := by simp
 simp only [Qj, qf h3, qO, qm, h5, h6]
 rw [QhL hs h2]
def QAt (c : Nat) : Nat := (c / 2) ^^^ (if c % 2 = 1 then 3988292384 else 0)
def Qh0 : Nat → Nat → Nat
 | 0, c => c
 | k + 1, c => Qh0 k (QAt c)
theorem QCr {c : Nat} (h : c < 4294967296) : QAt c < 4294967296 := by
 unfold QAt
 have : (if c % 2 = 1 then 3988292384 else 0) < 2 ^ 32 := by split <;> decide
 exact yQ (n := 32) (by omega) this
theorem Qmv : ∀ (k : Nat) {c : Nat}, c < 4294967296 → Qh0 k c < 4294967296
 | 0, _, h => h
 | k + 1, _, h => Qmv k (QCr h)
theorem Qo5 : ∀ (k c : Nat), Qh0 (k + 1) c = QAt (Qh0 k c)
 | 0, _ => rfl
 | k + 1, c => by rw [Qh0, Qo5 k, Qh0]
theorem QAs (x h : Nat) : QAt (x ^^^ 2 * h) = QAt x ^^^ h := by
 have e1 : (x ^^^ 2 * h) % 2 = x % 2 := by
  have := Nat.xor_mod_two_pow (a := x) (b := 2 * h) (n := 1)
  simpa using this
 have e2 : (x ^^^ 2 * h) / 2 = x / 2 ^^^ h := by rw [Nat.xor_div_two, Nat.mul_div_cancel_left _ (by omega)]
 unfold QAt
 rw [e1, e2, jE, jE, jQ h]
theorem Qtk : ∀ (k x h : Nat), Qh0 k (x ^^^ 2 ^ k * h) = Qh0 k x ^^^ h
 | 0, x, h => by simp [Qh0]
 | k + 1, x, h => by
  rw [Qh0, yx, yd (2 ^ k) 2, yK, QAs, Qtk k, Qh0]
theorem QnD (b k : Nat) : b = b % 2 ^ k ^^^ 2 ^ k * (b / 2 ^ k) := by
 apply j6
 intro i
 rw [j1, Yh, yw, Nat.testBit_div_two_pow]
 by_cases h : i < k
 ·have : ¬ k ≤ i := by omega
  simp [h, this]
 ·have h' : k ≤ i := by omega
  simp [h, h', show i - k + k = i by omega]
def QDy (s b : Nat) : Nat := Qh0 8 (s ^^^ b)
theorem QuV (s b : Nat) : QDy s b = s / 256 ^^^ Qh0 8 (s % 256 ^^^ b) := by
 have h : s ^^^ b = (s % 256 ^^^ b) ^^^ 2 ^ 8 * (s / 256) := by
  have := QnD s 8
  rw [show (2 : Nat) ^ 8 = 256 from rfl] at this ⊢
  rw [jE, jQ b, ← jE, ← this]
 rw [QDy, h, Qtk, jQ]
theorem QCs {s b : Nat} (hs : s < 4294967296) (hb : b < 256) : QDy s b < 4294967296 := Qmv 8 (yQ (n := 32) (by omega) (by omega))
def Qvv (s : Nat) (l : List UInt8) : Nat := l.foldl (fun s b => QDy s b.toNat) s
theorem Qx1 {s : Nat} {l : List UInt8} {k : Nat} (h : k < l.length) : Qvv s (l.take (k + 1)) = QDy (Qvv s (l.take k)) (l[k]).toNat := by
 rw [qq h, Qvv, List.foldl_append]; rfl
theorem Qrn : ∀ {l : List UInt8} {s : Nat}, s < 4294967296 → Qvv s l < 4294967296
 | [], _, h => h
 | b :: l, s, h => Qrn (l := l) (QCs h (UInt8.toNat_lt b))
def Qn3 (i : Nat) : List Int := (List.range 256).map fun j => if j < i then ((Qh0 8 j : Nat) : Int) else 0
theorem Jh (i : Nat) : (Qn3 i).length = 256 := by simp [Qn3]
theorem QhN {i j : Nat} (h : j < 256) : (Qn3 i)[j]'(by rw [Jh]; exact h) = if j < i then ((Qh0 8 j : Nat) : Int) else 0 := by simp [Qn3]
theorem Qy9 {i : Nat} (h : i < 256) : (Qn3 i).set i ((Qh0 8 i : Nat) : Int) = Qn3 (i + 1) := by
 refine yZ (by simp [Jh]) fun j h1 h2 => ?_
 have hj : j < 256 := by simpa [Jh] using h2
 rw [Ys, QhN hj]
 split
 ·rename_i e; subst e; rw [QhN hj, qh (by omega)]
 ·rename_i e; rw [QhN hj]
  by_cases h3 : j < i
  ·rw [qh h3, qh (by omega)]
  ·rw [qf h3, qf (by omega)]
def Qr0 (P : Prg) (f : Nat) : Prop := VC P f [] (.cell (ks .u32 (Qn3 256)))
theorem Qg8 {l : List UInt8} {k : Nat} (h : k < l.length) : (u8 l).drop k = .int .u8 (l[k]).toNat :: u8 (l.drop (k + 1)) := by
 rw [Qds, qy h]; rfl
set_option maxRecDepth 40000 in
theorem Qrp {P : Prg} {f t0 : Nat} (bd : Body P f 24 [.tmp 0] (QbV t0)) : Qr0 P f := by
 refine Qk 1 rfl (by simp [isD, QoC (Qq _ _)]) (Qb bd (by simp) ?_)
 unfold QbV
 have z0 : ([.int .u32 0, .int .u32 0] : List AV) = [.int .u32 0, .int .u32 0] := rfl
 simp (disch := omega) only [rq, simprocAttr]
 refine Qg (ι := Nat) (fun i => ⟨[(5, .int .i64 i), (1, .ref 0 1 0)], [⟨t0, 256, 1, ks .u32 (Qn3 i), 0⟩]⟩) (fun i => i ≤ 256) (fun i => 256 - i) 0 (Ql) (by omega) ?_
 intro i hi
 by_cases hlt : i < 256
 ·simp (disch := omega) only [rq, simprocAttr]
  refine Qg (ι := Nat) (fun j => ⟨[(10, .int .i64 j), (3, .int .u32 (Qh0 j i)), (5, .int .i64 i), (2, .int .i64 i), (1, .ref 0 1 0)], [⟨t0, 256, 1, ks .u32 (Qn3 i), 0⟩]⟩) (fun j => j ≤ 8) (fun j => 8 - j) 0 (Qm (by simp [Am.look, Qh0])) (by omega) ?_
  intro j hj
  by_cases hjl : j < 8
  ·have hc := Qmv j (c := i) (by omega)
   have hn := Qo5 j i
   generalize Qh0 j i = c at *
   have a1 : IntKind.u32.wrap (BitVec.ofInt IntKind.u32.bits (c : Int) &&& BitVec.ofInt IntKind.u32.bits 1).toNat = ((c % 2 : Nat) : Int) := by
    have h := QD7 (K := .u32) rfl (a := c) (b := 1) (by exact hc) (by decide)
    rw [Yg] at h
    exact h
   have a2 : Qj false .u32 (c : Int) 1 = some (.int .u32 ((c / 2 : Nat) : Int)) := Qny (K := .u32) (n := c) (k := 1) (by decide)
   rcases Nat.mod_two_eq_zero_or_one c with h2 | h2
   ·have a3 : IntKind.u32.wrap (BitVec.ofInt IntKind.u32.bits ((c / 2 : Nat) : Int) ^^^ BitVec.ofInt IntKind.u32.bits 0).toNat = ((Qh0 (j + 1) i : Nat) : Int) := by
     rw [hn, QAt, h2, qf (by decide)]
     exact QyR (K := .u32) rfl (a := c / 2) (b := 0) (by show c / 2 < 4294967296; omega) (by decide)
    have a1' : IntKind.u32.wrap (BitVec.ofInt IntKind.u32.bits (c : Int) &&& BitVec.ofInt IntKind.u32.bits 1).toNat = 0 := by rw [a1, h2]; rfl
    simp (disch := omega) only [rq, simprocAttr, a1', a2, a3]
    exact ⟨j + 1, by omega, by omega, Ql⟩
   ·have a3 : IntKind.u32.wrap (BitVec.ofInt IntKind.u32.bits ((c / 2 : Nat) : Int) ^^^ BitVec.ofInt IntKind.u32.bits 3988292384).toNat = ((Qh0 (j + 1) i : Nat) : Int) := by
     rw [hn, QAt, h2, qh rfl]
     exact QyR (K := .u32) rfl (a := c / 2) (b := 3988292384) (by show c / 2 < 4294967296; omega) (by decide)
    have a1' : IntKind.u32.wrap (BitVec.ofInt IntKind.u32.bits (c : Int) &&& BitVec.ofInt IntKind.u32.bits 1).toNat = 1 := by rw [a1, h2]; rfl
    simp (disch := omega) only [rq, simprocAttr, a1', a2, a3]
    exact ⟨j + 1, by omega, by omega, Ql⟩
  ·obtain rfl : j = 8 := by omega
   have e1 := Jh i
   have e2 := Qh .u32 (Qn3 i)
   have e3 : (ks .u32 (Qn3 i)).take i ++ [.int .u32 (Qh0 8 i)] ++ (ks .u32 (Qn3 i)).drop (i + 1) = ks .u32 (Qn3 (i + 1)) := by
    rw [← Qy9 hlt, yz, qh (by rw [Jh]; exact hlt)]; simp [ks, jx, jC]
   simp (disch := omega) only [rq, simprocAttr, e1, e2, e3]
   exact ⟨i + 1, by omega, by omega, Ql⟩
 ·obtain rfl : i = 256 := by omega
  simp (disch := omega) only [rq, simprocAttr]
  simp [QO, Qx, frzL, Qy, frzL_T _ (Qq _ _)]
def Qsi (P : Prg) (f : Nat) : Prop := ∀ (s : Nat) (l : List UInt8), s < 4294967296 → VC P f [.int .u32 s, bs l] (if 100000 < l.length then .tup [.int .u32 0, .int .i64 4] else .tup [.int .u32 (Qvv s l), .int .i64 0])
set_option maxRecDepth 40000 in
theorem QuX {P : Prg} {f fT : Nat} (bd : Body P f 32 [.tmp 4, .tmp 5] (QaM fT)) (hT : Qr0 P fT) : Qsi P f := by
 intro s l hs
 refine Qv (by simp [isDL, isD, QD]) (by split <;> rfl) bd ?_
 by_cases hl : 100000 < l.length
 ·rw [qh hl]
  simp (disch := omega) only [rq, simprocAttr, QaM, bs]
 ·rw [qf hl]
  have hT' := hT
  have t0 := Qh .u32 (Qn3 256)
  rw [Jh] at t0
  simp (disch := omega) only [rq, simprocAttr, QaM, bs]
  refine Qa hT' ?_
  simp (disch := omega) only [rq, simprocAttr]
  refine Qg (ι := Nat) (fun k => ⟨[(15, .int .i64 k), (14, .int .i64 l.length), (13, .list l.length (u8 l)), (6, .cell (ks .u32 (Qn3 256))), (0, .int .u32 (Qvv s (l.take k)))], []⟩) (fun k => k ≤ l.length) (fun k => l.length - k) 0 (Qm (by simp [Am.look, Qvv])) (by omega) ?_
  intro k hk
  have hc := Qrn (l := l.take k) hs
  by_cases hlt : k < l.length
  ·have e1 := Qg8 hlt
   have hn := Qx1 (s := s) hlt
   generalize Qvv s (l.take k) = c at *
   rw [QuV] at hn
   have hb := (l[k]).toNat_lt
   have h0 : (c % 256 ^^^ (l[k]).toNat) < 256 := yQ (n := 8) (qM _ (by decide)) hb
   have h1 := Qmv 8 (c := c % 256 ^^^ (l[k]).toNat) (by omega)
   have a1 : Qj false .u32 (c : Int) 8 = some (.int .u32 ((c / 256 : Nat) : Int)) := Qny (K := .u32) (n := c) (k := 8) (by decide)
   have a2 : IntKind.u8.wrap (c : Int) = ((c % 256 : Nat) : Int) := by rw [ZV]; omega
   have a3 : IntKind.u8.wrap (BitVec.ofInt IntKind.u8.bits ((c % 256 : Nat) : Int) ^^^ BitVec.ofInt IntKind.u8.bits ((l[k]).toNat : Int)).toNat = ((c % 256 ^^^ (l[k]).toNat : Nat) : Int) :=
    QyR (K := .u8) rfl (a := c % 256) (b := (l[k]).toNat) (qM _ (by decide)) hb
   have a4 : IntKind.u32.wrap (BitVec.ofInt IntKind.u32.bits ((c / 256 : Nat) : Int) ^^^ BitVec.ofInt IntKind.u32.bits ((Qh0 8 (c % 256 ^^^ (l[k]).toNat) : Nat) : Int)).toNat = ((Qvv s (l.take (k + 1)) : Nat) : Int) := by
    rw [hn]; exact QyR (K := .u32) rfl (by show c / 256 < 4294967296; omega) h1
   generalize c % 256 ^^^ (l[k]).toNat = x at *
   have e2 : (ks .u32 (Qn3 256)).drop x = .int .u32 ((Qh0 8 x : Nat) : Int) :: ks .u32 ((Qn3 256).drop (x + 1)) := by
    rw [JU, qy (by rw [Jh]; exact h0), Qe7, QhN h0, qh h0]
   simp (disch := omega) only [rq, simprocAttr, e1, a1, a2, a3, a4, e2, t0]
   exact ⟨k + 1, by omega, by omega, Ql⟩
  ·have ek : k = l.length := by omega
   subst ek
   rw [qD]
   simp (disch := omega) only [rq, simprocAttr]
def Qhj (P : Prg) (f : Nat) : Prop := ∀ (l : List UInt8), VC P f [bs l] (if 100000 < l.length then .tup [.int .u32 0, .int .i64 4] else .tup [.int .u32 ((4294967295 - Qvv 4294967295 l : Nat) : Int), .int .i64 0])
theorem QBi {c : Nat} (h : c < 4294967296) : 4294967295 ^^^ c = 4294967295 - c := by
 have h1 : BitVec.allOnes 32 ^^^ BitVec.ofNat 32 c = ~~~ BitVec.ofNat 32 c := by
  apply BitVec.eq_of_getElem_eq
  intro i hi
  rw [BitVec.getElem_xor, BitVec.getElem_allOnes, BitVec.getElem_not, Bool.true_xor]
 have h2 := congrArg BitVec.toNat h1
 rw [Yw, BitVec.toNat_not, BitVec.toNat_allOnes, yP, qT h] at h2
 exact h2
theorem Qx3 {P : Prg} {f fN : Nat} (bd : Body P f 16 [.tmp 2, .tmp 3] (QbF fN)) (hN : Qsi P fN) : Qhj P f := by
 intro l
 refine Qv (by simp [isDL, isD, QD]) (by split <;> rfl) bd ?_
 have hN' := hN 4294967295 l (by decide)
 have hc := Qrn (l := l) (s := 4294967295) (by decide)
 generalize Qvv 4294967295 l = c at *
 simp only [bs] at hN'
 by_cases hl : 100000 < l.length
 ·rw [qh hl] at hN' ⊢
  simp (disch := omega) only [rq, simprocAttr, QbF, bs]
  refine Qa hN' ?_
  simp (disch := omega) only [rq, simprocAttr]
 ·rw [qf hl] at hN' ⊢
  have a1 : IntKind.u32.wrap (BitVec.ofInt IntKind.u32.bits IntKind.u32.max ^^^ BitVec.ofInt IntKind.u32.bits (c : Int)).toNat = ((4294967295 - c : Nat) : Int) := by
   rw [← QBi hc]
   exact QyR (K := .u32) rfl (a := 4294967295) (b := c) (by decide) hc
  have a2 : IntKind.u32.signed = false := rfl
  simp (disch := omega) only [rq, simprocAttr, QbF, bs]
  refine Qa hN' ?_
  simp (disch := omega) only [rq, simprocAttr, a1, a2]
def nB (N : Nat) : Nat := (N + 7) / 8
theorem QzS (V i : Nat) : leB V (i + 1) = leB V i ++ [UInt8.ofNat (V / 256 ^ i % 256)] := by
 have h1 : (leB V (i + 1)).take (i + 1) = (leB V (i + 1)).take i ++ [UInt8.ofNat (V / 256 ^ i % 256)] := QfS (by omega)
 have h2 : ∀ k j n : Nat, k ≤ j → (leB n j).take k = leB n k := by
  intro k
  induction k with
  | zero => intro j n _; simp [leB]
  | succ k ih =>
   intro j n h
   obtain ⟨j, rfl⟩ : ∃ j', j = j' + 1 := ⟨j - 1, by omega⟩
   simp [leB, ih j (n / 256) (by omega)]
 rw [h2 (i + 1) (i + 1) V (by omega), h2 i (i + 1) V (by omega)] at h1
 exact h1
theorem Qxh : ∀ (i V u : Nat), leB (V + 256 ^ i * u) i = leB V i
 | 0, _, _ => rfl
 | i + 1, V, u => by
  have e : 256 ^ (i + 1) * u = 256 * (256 ^ i * u) := by rw [yx, yd (256 ^ i) 256, yK]
  have e1 : (V + 256 ^ (i + 1) * u) % 256 = V % 256 := by rw [e]; omega
  have e2 : (V + 256 ^ (i + 1) * u) / 256 = V / 256 + 256 ^ i * u := by rw [e]; omega
  simp only [leB, e1, e2, Qxh i]
theorem Qoo (i : Nat) : (256 : Nat) ^ i = 2 ^ (8 * i) := by rw [Nat.pow_mul]
theorem QdL {V i at_ : Nat} (h : V < 2 ^ (8 * i + at_)) (ha : at_ ≤ 8) : leB V (i + 1) = leB V i ++ [UInt8.ofNat (V / 256 ^ i)] ∧ V / 256 ^ i < 2 ^ at_ := by
 have h1 : V / 256 ^ i < 2 ^ at_ := j5 (by rw [Qoo, ← q9]; exact h)
 have h2 : 2 ^ at_ ≤ 2 ^ 8 := qr (by omega) ha
 exact ⟨by rw [QzS, qT (by omega)], h1⟩
theorem QeS {V i at_ w r : Nat} (h : V < 2 ^ (8 * i + at_)) (hw : w < 2 ^ r) (hr : at_ + r ≤ 8) :
  leB (V + 2 ^ (8 * i + at_) * w) (i + 1) = leB V i ++ [UInt8.ofNat (V / 256 ^ i + 2 ^ at_ * w)] ∧ V / 256 ^ i + 2 ^ at_ * w < 2 ^ (at_ + r) ∧ V + 2 ^ (8 * i + at_) * w < 2 ^ (8 * i + (at_ + r)) := by
 obtain ⟨_, h1⟩ := QdL h (by omega)
 have e : 2 ^ (8 * i + at_) * w = 256 ^ i * (2 ^ at_ * w) := by rw [Qoo, q9, yK]
 have h2 : V / 256 ^ i + 2 ^ at_ * w < 2 ^ (at_ + r) := by
  have : 2 ^ at_ * (w + 1) ≤ 2 ^ at_ * 2 ^ r := yt _ hw
  rw [q9]; rw [y9, jp] at this; omega
 have h3 : V + 2 ^ (8 * i + at_) * w < 2 ^ (8 * i + (at_ + r)) := by
  have : 2 ^ (8 * i + at_) * (w + 1) ≤ 2 ^ (8 * i + at_) * 2 ^ r := yt _ hw
  rw [← yy, q9 2 (8 * i + at_)]; rw [y9, jp] at this; omega
 refine ⟨?_, h2, h3⟩
 have h4 := (QdL (V := V + 2 ^ (8 * i + at_) * w) (i := i) (at_ := at_ + r) h3 hr).1
 rw [h4, e, Qxh, Nat.add_mul_div_left _ _ (qW (by omega))]
theorem QDG (V q r : Nat) (hr : r < 8) : V / 256 ^ q % 256 / 2 ^ r % 2 = V / 2 ^ (8 * q + r) % 2 := by
 rw [Qoo, show (256 : Nat) = 2 ^ r * 2 ^ (8 - r) by rw [← q9, show r + (8 - r) = 8 by omega], Nat.mod_mul_right_div_self, yT, ← q9]
 rw [Nat.mod_mod_of_dvd]
 exact ⟨2 ^ (8 - r - 1), by rw [← Nat.pow_succ']; congr 1; omega⟩
theorem QCx {V q r n : Nat} (hr : r + n ≤ 8) : V / 256 ^ q % 256 / 2 ^ r % 2 ^ n = V / 2 ^ (8 * q + r) % 2 ^ n := by
 rw [Qoo, show (256 : Nat) = 2 ^ r * 2 ^ (8 - r) by rw [← q9, show r + (8 - r) = 8 by omega], Nat.mod_mul_right_div_self, yT, ← q9]
 rw [Nat.mod_mod_of_dvd]
 exact ⟨2 ^ (8 - r - n), by rw [← q9]; congr 1; omega⟩
def bA (N V : Nat) : AV := .agg [.list (nB N) (u8 (leB V (nB N))), .int .i64 N]
theorem JO (N V : Nat) : isD (bA N V) = true := by simp [bA, isD, isDL, QdG]
theorem Qm6 {n : Nat} (h : n < 9223372036854775808) : IntKind.i64.wrap (BitVec.ofInt IntKind.i64.bits (n : Int) &&& BitVec.ofInt IntKind.i64.bits 7).toNat = ((n % 8 : Nat) : Int) := by
 have e1 : (BitVec.ofInt 64 (n : Int)).toNat = n := by
  rw [Yf]
  show ((n : Int) % 18446744073709551616).toNat = n
  omega
 have e2 : (BitVec.ofInt 64 7).toNat = 7 := by decide
 have : (BitVec.ofInt 64 (n : Int) &&& BitVec.ofInt 64 7).toNat = n % 8 := by
  rw [j9, e1, e2]
  exact yR n 3
 show IntKind.i64.wrap ((BitVec.ofInt 64 (n : Int) &&& BitVec.ofInt 64 7).toNat : Int) = _
 rw [this, wrap_i64] <;> omega
theorem QCT {l : List UInt8} {k : Nat} (h : k < l.length) : (u8 l).drop k = .int .u8 (l[k]).toNat :: u8 (l.drop (k + 1)) := by
 rw [Qds, qy h]; rfl
theorem Qxi {V k i : Nat} (h : i < k) : (u8 (leB V k)).drop i = .int .u8 ((V / 256 ^ i % 256 : Nat) : Int) :: u8 ((leB V k).drop (i + 1)) := by
 rw [QCT (by rw [Qc]; exact h)]
 have := QqT k V i h
 rw [qc (by rw [Qc]; exact h)] at this
 rw [Option.some.inj this]
 have : (UInt8.ofNat (V / 256 ^ i % 256)).toNat = V / 256 ^ i % 256 := by simp
 rw [this]
def JF (P : Prg) (f : Nat) : Prop := ∀ N V : Nat, V < 2 ^ N → N ≤ 330000 → VC P f [bA N V] (.int .i64 0)
theorem Qu8 {P : Prg} {f t0 : Nat} (bd : Body P f 40 [.tmp 2] (QaN t0)) : JF P f := by
 intro N V hV hN
 refine Qv (by simp [isDL, JO]) rfl bd ?_
 have e1 : Qj false .i64 ((N : Int) + 7) 3 = some (.int .i64 ((nB N : Nat) : Int)) := by
  rw [show (N : Int) + 7 = ((N + 7 : Nat) : Int) by omega]
  exact Qny (K := .i64) (n := N + 7) (k := 3) (by decide)
 have e2 := Qm6 (n := N) (by omega)
 have e3 : (u8 (leB V (nB N))).length = nB N := by simp [u8, Qc]
 by_cases h0 : N % 8 = 0
 ·rw [h0] at e2
  have e2' : IntKind.i64.wrap (BitVec.ofInt IntKind.i64.bits (N : Int) &&& BitVec.ofInt IntKind.i64.bits 7).toNat = 0 := e2
  simp (disch := omega) only [rq, simprocAttr, QaN, bA, e1, e2', e3]
 ·have hn : nB N = N / 8 + 1 := by unfold nB; omega
  have h8 : N = 8 * (N / 8) + N % 8 := by omega
  obtain ⟨l1, l2⟩ := QdL (V := V) (i := N / 8) (at_ := N % 8) (by rw [← h8]; exact hV) (by omega)
  have e4 := Qxi (V := V) (k := nB N) (i := N / 8) (by omega)
  have h256 : V / 256 ^ (N / 8) % 256 = V / 256 ^ (N / 8) := qT (by
   have : 2 ^ (N % 8) ≤ 2 ^ 8 := qr (by omega) (by omega)
   omega)
  rw [h256] at e4
  have e5 : Qj false .u8 ((V / 256 ^ (N / 8) : Nat) : Int) ((N % 8 : Nat) : Int) = some (.int .u8 0) := by
   have := Qny (K := .u8) (n := V / 256 ^ (N / 8)) (k := N % 8) (by show N % 8 ≤ 8; omega)
   rw [this, y7 l2]; rfl
  have e6 : nB N - 1 = N / 8 := by omega
  have hq : ((N % 8 : Nat) : Int) = (N : Int) % 8 := by omega
  generalize V / 256 ^ (N / 8) = y at *
  obtain ⟨a, ha⟩ : ∃ a, a = N % 8 := ⟨_, rfl⟩
  rw [← ha] at e2 e5 hq
  simp (disch := omega) only [rq, simprocAttr, QaN, bA, e1, e2, e3, e4, e5, e6]
theorem QBX {t : Nat} (h : t ≤ 8) : Qj true .u8 1 (t : Int) = some (.int .u8 ((2 ^ t % 256 : Nat) : Int)) ∧ IntKind.u8.wrap (((2 ^ t % 256 : Nat) : Int) - 1) = ((2 ^ t - 1 : Nat) : Int) := by
 rcases (by omega : t = 0 ∨ t = 1 ∨ t = 2 ∨ t = 3 ∨ t = 4 ∨ t = 5 ∨ t = 6 ∨ t = 7 ∨ t = 8) with rfl | rfl | rfl | rfl | rfl | rfl | rfl | rfl | rfl <;> exact ⟨rfl, by decide⟩
theorem Qzl {c s : Nat} (hs : s ≤ 64) (h : c * 2 ^ s < 18446744073709551616) : Qj true .u64 (c : Int) (s : Int) = some (.int .u64 ((c * 2 ^ s : Nat) : Int)) := Qwm hs h
theorem Qtc {X h t : Nat} : X % 2 ^ (h + t) = X % 2 ^ h + X / 2 ^ h % 2 ^ t * 2 ^ h := by
 rw [q9, Nat.mod_mul, yd]
def Qtx (P : Prg) (f : Nat) : Prop := ∀ N V a n : Nat, V < 2 ^ N → N ≤ 400000 → a + n ≤ N → n ≤ 64 → VC P f [bA N V, .int .i64 a, .int .i64 n] (.int .u64 ((V / 2 ^ a % 2 ^ n : Nat) : Int))
theorem QAy {P : Prg} {f t0 : Nat} (bd : Body P f 47 [.tmp 6] (Qfl t0)) : Qtx P f := by
 intro N V a n hV hN han hn
 refine Qv (by simp [isDL, JO, isD]) rfl bd ?_
 simp (disch := omega) only [rq, simprocAttr, Qfl, bA]
 refine Qg (ι := Nat) (fun h => ⟨[(8, .int .i64 h), (7, .int .u64 ((V / 2 ^ a % 2 ^ h : Nat) : Int)), (1, .int .i64 a), (2, .int .i64 n), (3, .ref 0 1 0)], [⟨t0, 2, 1, [.list (nB N) (u8 (leB V (nB N))), .int .i64 N], 0⟩]⟩) (fun h => h ≤ n) (fun h => n - h) 0 (Qm (by simp [Am.look, Nat.mod_one])) (by omega) ?_
 intro h hh
 by_cases hlt : h < n
 ·obtain ⟨q, hq⟩ : ∃ q, q = (a + h) / 8 := ⟨_, rfl⟩
  obtain ⟨o, ho⟩ : ∃ o, o = (a + h) % 8 := ⟨_, rfl⟩
  obtain ⟨t, ht⟩ : ∃ t, t = min (n - h) (8 - o) := ⟨_, rfl⟩
  have e1 : IntKind.i64.wrap (BitVec.ofInt IntKind.i64.bits ((a : Int) + h) &&& BitVec.ofInt IntKind.i64.bits 7).toNat = (o : Int) := by
   rw [show (a : Int) + h = ((a + h : Nat) : Int) by omega, Qm6 (by omega), ho]
  have e2 : Qj false .i64 ((a : Int) + h) 3 = some (.int .i64 (q : Int)) := by
   rw [show (a : Int) + h = ((a + h : Nat) : Int) by omega, hq]
   exact Qny (K := .i64) (n := a + h) (k := 3) (by decide)
  have hqn : q < nB N := by unfold nB; omega
  have e3 := Qxi (V := V) (k := nB N) (i := q) hqn
  have e4 : (u8 (leB V (nB N))).length = nB N := by simp [u8, Qc]
  have hy : V / 256 ^ q % 256 < 256 := qM _ (by decide)
  have e5 : Qj false .u8 ((V / 256 ^ q % 256 : Nat) : Int) (o : Int) = some (.int .u8 ((V / 256 ^ q % 256 / 2 ^ o : Nat) : Int)) := Qny (K := .u8) (k := o) (by show o ≤ 8; omega)
  obtain ⟨e6, e7⟩ := QBX (t := t) (by omega)
  have hz : V / 256 ^ q % 256 / 2 ^ o < 256 := jI (jO _ _) hy
  have h2t : 2 ^ t - 1 < 256 := by
   have : 2 ^ t ≤ 2 ^ 8 := qr (by omega) (by omega)
   omega
  have e8 : IntKind.u8.wrap (BitVec.ofInt IntKind.u8.bits ((V / 256 ^ q % 256 / 2 ^ o : Nat) : Int) &&& BitVec.ofInt IntKind.u8.bits ((2 ^ t - 1 : Nat) : Int)).toNat = ((V / 2 ^ a / 2 ^ h % 2 ^ t : Nat) : Int) := by
   rw [QD7 (K := .u8) rfl hz h2t, yR, QCx (by omega), show 8 * q + o = a + h by omega, q9, yT]
  have hc : V / 2 ^ a / 2 ^ h % 2 ^ t < 2 ^ t := qM _ (qW (by omega))
  have hmul : V / 2 ^ a / 2 ^ h % 2 ^ t * 2 ^ h < 2 ^ (h + t) := by
   rw [q9, yd]; exact Nat.mul_lt_mul_of_pos_left hc (qW (by omega))
  have h64 : 2 ^ (h + t) ≤ 2 ^ 64 := qr (by omega) (by omega)
  have hv0 : V / 2 ^ a % 2 ^ h < 2 ^ h := qM _ (qW (by omega))
  have h65 : 2 ^ h ≤ 2 ^ 64 := qr (by omega) (by omega)
  have e9 := Qtc (X := V / 2 ^ a) (h := h) (t := t)
  generalize hcc : V / 2 ^ a / 2 ^ h % 2 ^ t = c at *
  have e10 : Qj true .u64 (c : Int) (h : Int) = some (.int .u64 ((c * 2 ^ h : Nat) : Int)) := Qzl (by omega) (by omega)
  have e11 : IntKind.u64.wrap (BitVec.ofInt IntKind.u64.bits ((V / 2 ^ a % 2 ^ h : Nat) : Int) ||| BitVec.ofInt IntKind.u64.bits ((c * 2 ^ h : Nat) : Int)).toNat = ((V / 2 ^ a % 2 ^ (h + t) : Nat) : Int) := by
   rw [QAR _ _ (by omega) (by omega), QkX hv0, e9]
  generalize V / 2 ^ a % 2 ^ h = v0 at *
  generalize V / 256 ^ q % 256 / 2 ^ o = z at *
  generalize V / 256 ^ q % 256 = y at *
  have hc8 : c < 256 := by
   have : 2 ^ t ≤ 2 ^ 8 := qr (by omega) (by omega)
   omega
  have e12 : (if (8 : Int) - o < n - h then (8 : Int) - o else n - h) = (t : Int) := by split <;> omega
  simp (disch := omega) only [rq, simprocAttr, e1, e2, e3, e4, e5, e6, e7, e8, e10, e11, e12]
  exact ⟨h + t, by omega, by omega, Ql⟩
 ·obtain rfl : h = n := by omega
  simp (disch := omega) only [rq, simprocAttr]
def Qlk (P : Prg) (f : Nat) : Prop := ∀ N V a n : Nat, V < 2 ^ N → N ≤ 330000 → n ≤ 64 → a ≤ 400000 → VC P f [bA N V, .int .i64 a, .int .i64 n] (if N < a + n then .tup [.int .u64 0, .int .i64 24] else .tup [.int .u64 ((V / 2 ^ a % 2 ^ n : Nat) : Int), .int .i64 0])
theorem QAA {P : Prg} {f fC fG t0 : Nat} (bd : Body P f 34 [.tmp 6, .tmp 7] (Qc3 fC fG t0)) (hC : JF P fC) (hG : Qtx P fG) : Qlk P f := by
 intro N V a n hV hN hn ha
 refine Qv (by simp [isDL, JO, isD]) (by split <;> rfl) bd ?_
 have hC' := hC N V hV hN
 rw [bA] at hC'
 by_cases hlt : N < a + n
 ·rw [qh hlt]
  simp (disch := omega) only [rq, simprocAttr, Qc3, bA]
  refine Qa hC' ?_
  simp (disch := omega) only [rq, simprocAttr]
 ·rw [qf hlt]
  have hG' := hG N V a n hV (by omega) (by omega) hn
  rw [bA] at hG'
  generalize V / 2 ^ a % 2 ^ n = v at *
  simp (disch := omega) only [rq, simprocAttr, Qc3, bA]
  iterate 2 (refine Qa (by assumption) ?_; simp (disch := omega) only [rq, simprocAttr])
theorem QtN {X n : Nat} : X % 2 ^ (n + 1) = 2 * (X / 2 % 2 ^ n) + X % 2 := by
 rw [yx, yd, Nat.mod_mul]; omega
def dbT : List Nat := [0, 1, 56, 2, 57, 49, 28, 3, 61, 58, 42, 50, 38, 29, 17, 4, 62, 47, 59, 36, 45, 43, 51, 22, 53, 39, 33, 30, 24, 18, 12, 5,
 63, 55, 48, 27, 60, 41, 37, 16, 46, 35, 44, 21, 52, 32, 23, 11, 54, 26, 40, 15, 34, 20, 31, 10, 25, 14, 19, 9, 13, 8, 7, 6]
def dbG : List AV := ks .u8 (dbT.map fun n : Nat => (n : Int))
theorem QEr {i : Nat} (h : i < 64) : 2 ^ i * 285870213051353865 % 18446744073709551616 / 288230376151711744 < 64 ∧ dbT[2 ^ i * 285870213051353865 % 18446744073709551616 / 288230376151711744]? = some i := by
 revert i; decide
theorem QCF {i m : Nat} (h : 2 ^ i * (2 * m + 1) < 18446744073709551616) : (2 ^ i * (2 * m + 1)) &&& (18446744073709551616 - 2 ^ i * (2 * m + 1)) = 2 ^ i := by
 have hi : i < 64 := by
  rcases yM i 64 with h' | h'
  ·exact h'
  ·have : 2 ^ 64 ≤ 2 ^ i := qr (by omega) h'
   have : 2 ^ i * 1 ≤ 2 ^ i * (2 * m + 1) := yt _ (by omega)
   omega
 have hm : 2 * m + 1 < 2 ^ (64 - i) := by
  have e : 2 ^ i * 2 ^ (64 - i) = 18446744073709551616 := by rw [← q9, show i + (64 - i) = 64 by omega]
  rw [← e] at h
  exact jJ h
 have e : 18446744073709551616 - 2 ^ i * (2 * m + 1) = 2 ^ i * (2 ^ (64 - i) - (2 * m + 1)) := by
  rw [Nat.mul_sub, ← q9, show i + (64 - i) = 64 by omega]
 rw [e]
 apply j6
 intro j
 rw [Nat.testBit_and, yw, yw, Nat.testBit_two_pow]
 by_cases hj : i ≤ j
 ·rw [show 2 * m + 1 = 2 * m + 1 from rfl]
  have h0 : 2 * m < 2 ^ (64 - i) := by omega
  rw [Nat.testBit_two_pow_sub_succ h0]
  by_cases hj0 : j = i
  ·subst hj0
   simp
   omega
  ·obtain ⟨k, hk⟩ : ∃ k, j - i = k + 1 := ⟨j - i - 1, by omega⟩
   have e1 : (2 * m + 1).testBit (k + 1) = m.testBit k := by rw [Nat.testBit_succ]; congr 1; omega
   have e2 : (2 * m).testBit (k + 1) = m.testBit k := by rw [Nat.testBit_succ]; congr 1; omega
   rw [hk, e1, e2]
   have : ¬ i = j := fun e => hj0 e.symm
   simp [this]
   intro _ h1 _ _
   exact h1
 ·have : ¬ i = j := by omega
  simp [hj, this]
def QEw (P : Prg) (f : Nat) : Prop := ∀ i m : Nat, 2 ^ i * (2 * m + 1) < 18446744073709551616 → VC P f [.int .u64 ((2 ^ i * (2 * m + 1) : Nat) : Int)] (.int .i64 i)
theorem QCy {P : Prg} {f g0 : Nat} (bd : Body P f 14 [.tmp 2] (Zp g0)) (h0 : P.G.lookup g0 = some dbG) : QEw P f := by
 intro i m h
 refine Qv rfl rfl bd ?_
 have ha := QCF h
 have hp : 0 < 2 ^ i * (2 * m + 1) := j0 (qW (by omega)) (by omega)
 have hi : i < 64 := by
  rcases yM i 64 with h' | h'
  ·exact h'
  ·have : 2 ^ 64 ≤ 2 ^ i := qr (by omega) h'
   have : 2 ^ i * 1 ≤ 2 ^ i * (2 * m + 1) := yt _ (by omega)
   omega
 obtain ⟨d1, d2⟩ := QEr hi
 generalize 2 ^ i * (2 * m + 1) = x at *
 have e1 : IntKind.u64.wrap (0 - (x : Int)) = ((18446744073709551616 - x : Nat) : Int) := by rw [ZR]; omega
 have e2 : IntKind.u64.wrap (BitVec.ofInt IntKind.u64.bits (x : Int) &&& BitVec.ofInt IntKind.u64.bits ((18446744073709551616 - x : Nat) : Int)).toNat = ((2 ^ i : Nat) : Int) := by
  rw [QrX _ _ h (by omega), ha]
 have e3 : IntKind.u64.wrap (((2 ^ i : Nat) : Int) * 285870213051353865) = ((2 ^ i * 285870213051353865 % 18446744073709551616 : Nat) : Int) := by
  rw [ZR]; omega
 have e4 : Qj false .u64 ((2 ^ i * 285870213051353865 % 18446744073709551616 : Nat) : Int) 58 = some (.int .u64 ((2 ^ i * 285870213051353865 % 18446744073709551616 / 288230376151711744 : Nat) : Int)) :=
  Qny (K := .u64) (k := 58) (by decide)
 generalize 2 ^ i * 285870213051353865 % 18446744073709551616 / 288230376151711744 = k at *
 generalize 2 ^ i * 285870213051353865 % 18446744073709551616 = y at *
 generalize 2 ^ i = p at *
 have e5 : dbG.drop k = .int .u8 (i : Int) :: dbG.drop (k + 1) := by
  have hl : k < dbT.length := d1
  have : dbT[k] = i := by rw [qc hl] at d2; exact Option.some.inj d2
  unfold dbG
  rw [JU, JU, qy (by rw [je]; exact hl), Qe7, j8, this]
 have e6 : dbG.length = 64 := rfl
 have g0' : QpS P.G g0 = .cell dbG := by simp [QpS, h0]
 simp (disch := omega) only [rq, simprocAttr, Zp, e1, e2, e3, e4, e5, e6, g0']
def Qdy : Nat → Nat → Nat
 | 0, _ => 0
 | m + 1, X => if X % 2 = 1 then Qdy m (X / 2) + 1 else 0
theorem QqL : ∀ (m X : Nat), Qdy m X ≤ m
 | 0, _ => qo _
 | m + 1, X => by
  unfold Qdy
  have := QqL m (X / 2)
  split <;> omega
theorem QsT : ∀ (m K X : Nat), m < K → ∃ t, 2 ^ K - 1 - X % 2 ^ m = 2 ^ Qdy m X * (2 * t + 1)
 | 0, K, X, h => by
  obtain ⟨k, rfl⟩ : ∃ k, K = k + 1 := ⟨K - 1, by omega⟩
  refine ⟨2 ^ k - 1, ?_⟩
  have : 0 < 2 ^ k := qW (by omega)
  simp only [Qdy, jZ, Nat.mod_one, yG, yx]
  omega
 | m + 1, K, X, h => by
  obtain ⟨k, rfl⟩ : ∃ k, K = k + 1 := ⟨K - 1, by omega⟩
  obtain ⟨t, ht⟩ := QsT m k (X / 2) (by omega)
  have hs := QtN (X := X) (n := m)
  have hp : 0 < 2 ^ k := qW (by omega)
  have hy : X / 2 % 2 ^ m < 2 ^ m := qM _ (qW (by omega))
  have hm : 2 ^ m ≤ 2 ^ k := qr (by omega) (by omega)
  rw [hs]
  unfold Qdy
  split
  ·rename_i hx
   refine ⟨t, ?_⟩
   rw [hx, yx 2 k, yx 2 (Qdy m (X / 2)), yK, Nat.mul_left_comm, ← ht]
   generalize X / 2 % 2 ^ m = y at *
   omega
  ·rename_i hx
   refine ⟨2 ^ k - 1 - X / 2 % 2 ^ m, ?_⟩
   rw [show X % 2 = 0 by omega, yx]
   generalize X / 2 % 2 ^ m = y at *
   simp
   omega
def Qm9 (P : Prg) (f : Nat) : Prop := ∀ (N a n : Nat) (cs : List AV), isDL cs = true → a < N → N ≤ 400000 → VC P f [.cell [.list n cs, .int .i64 N], .cell [.int .i64 a]] (.int .i64 (min 48 (N - a) : Nat))
theorem QtY {P : Prg} {f : Nat} (bd : Body P f 8 [.tmp 2] Qbc) : Qm9 P f := by
 intro N a n cs hcs ha hN
 refine Qv (by simp [isDL, isD, hcs]) rfl bd ?_
 obtain ⟨m, hm⟩ : ∃ m, m = min 48 (N - a) := ⟨_, rfl⟩
 have e1 : (if (N : Int) - a < 48 then (N : Int) - a else 48) = (m : Int) := by split <;> omega
 rw [← hm]
 simp (disch := omega) only [rq, simprocAttr, Qbc, e1]
def Qdb (V N a : Nat) : Nat ⊕ (Nat × Nat) :=
 if N ≤ a then .inl 24
 else if Qdy (min 48 (N - a)) (V / 2 ^ a) < min 48 (N - a) then .inr (Qdy (min 48 (N - a)) (V / 2 ^ a), a + Qdy (min 48 (N - a)) (V / 2 ^ a) + 1)
 else if min 48 (N - a) = 48 then .inr (48, a + 48) else .inl 24
def QvP : Nat ⊕ (Nat × Nat) → AV
 | .inl e => .tup [.int .i64 0, .int .i64 0, .int .i64 e]
 | .inr (q, n) => .tup [.int .i64 q, .int .i64 n, .int .i64 0]
def QrZ (P : Prg) (f : Nat) : Prop := ∀ N V a : Nat, V < 2 ^ N → N ≤ 330000 → a ≤ 400000 → VC P f [bA N V, .int .i64 a] (QvP (Qdb V N a))
theorem Qvx {c : Nat} (h : c < 18446744073709551616) : 18446744073709551615 ^^^ c = 18446744073709551615 - c := by
 have h1 : BitVec.allOnes 64 ^^^ BitVec.ofNat 64 c = ~~~ BitVec.ofNat 64 c := by
  apply BitVec.eq_of_getElem_eq
  intro i hi
  rw [BitVec.getElem_xor, BitVec.getElem_allOnes, BitVec.getElem_not, Bool.true_xor]
 have h2 := congrArg BitVec.toNat h1
 rw [Yw, BitVec.toNat_not, BitVec.toNat_allOnes, yP, qT h] at h2
 exact h2
theorem QtZ {P : Prg} {f fC fT fG fZ t0 t1 : Nat} (bd : Body P f 53 [.tmp 4, .tmp 5, .tmp 6] (QcP fC fT fG fZ t0 t1)) (hC : JF P fC) (hT : Qm9 P fT) (hG : Qlk P fG) (hZ : QEw P fZ) : QrZ P f := by
 intro N V a hV hN ha
 refine Qc4 (by simp [isDL, JO, isD]) (by cases Qdb V N a <;> rfl) (ACall.of_cut 1 bd (by simp) ?_)
 have hC' := hC N V hV hN
 rw [bA] at hC'
 have td : isTL (u8 (leB V (nB N))) = true := QF _
 simp (disch := omega) only [rq, simprocAttr, QcP, QeR, bA]
 refine ⟨⟨[(6, .int .i64 0), (5, .int .i64 0), (4, .int .i64 0), (3, .cell [.int .i64 a]), (2, .cell [.list (nB N) (u8 (leB V (nB N))), .int .i64 N])], []⟩, Je [] (by simp) (by simp [Am.look, Qx, frzL, Qy, frzL_T _ td]), ?_⟩
 simp (disch := omega) only [rq, simprocAttr]
 refine Qa hC' ?_
 simp (disch := omega) only [rq, simprocAttr]
 by_cases hlt : N ≤ a
 ·have e0 : Qdb V N a = .inl 24 := by simp [Qdb, hlt]
  rw [e0, QvP]
  simp (disch := omega) only [rq, simprocAttr]
 ·have hT' := hT N a (nB N) (u8 (leB V (nB N))) (QdG _) (by omega) (by omega)
  obtain ⟨m, hm⟩ : ∃ m, m = min 48 (N - a) := ⟨_, rfl⟩
  have hG' := hG N V a m hV hN (by omega) ha
  rw [qf (by omega), bA] at hG'
  obtain ⟨q, hq⟩ : ∃ q, q = Qdy m (V / 2 ^ a) := ⟨_, rfl⟩
  have hqm := QqL m (V / 2 ^ a)
  obtain ⟨t, ht⟩ := QsT m 64 (V / 2 ^ a) (by omega)
  have hv : V / 2 ^ a % 2 ^ m < 2 ^ m := qM _ (qW (by omega))
  have h48 : 2 ^ m ≤ 2 ^ 48 := qr (by omega) (by omega)
  have hZ' := hZ (Qdy m (V / 2 ^ a)) t (by rw [← ht]; omega)
  rw [← ht] at hZ'
  rw [← hm] at hT'
  have e1 : Qdb V N a = if q < m then .inr (q, a + q + 1) else if m = 48 then .inr (48, a + 48) else .inl 24 := by
   rw [Qdb, qf hlt, ← hm, ← hq]
  rw [e1]
  rw [← hq] at hZ' hqm
  generalize V / 2 ^ a % 2 ^ m = v at *
  have e2 : IntKind.u64.wrap (BitVec.ofInt IntKind.u64.bits IntKind.u64.max ^^^ BitVec.ofInt IntKind.u64.bits (v : Int)).toNat = ((2 ^ 64 - 1 - v : Nat) : Int) := by
   have h1 := Qvx (c := v) (by omega)
   rw [show 2 ^ 64 - 1 - v = 18446744073709551615 - v by omega, ← h1]
   exact QyR (K := .u64) rfl (a := 18446744073709551615) (b := v) (by decide) (by show v < 18446744073709551616; omega)
  have e3 : IntKind.u64.signed = false := rfl
  generalize 2 ^ 64 - 1 - v = w at *
  simp (disch := omega) only [rq, simprocAttr]
  refine QX hT' ?_
  simp (disch := omega) only [rq, simprocAttr]
  refine QX hG' ?_
  simp (disch := omega) only [rq, simprocAttr, e2, e3]
  refine Qa hZ' ?_
  simp (disch := omega) only [rq, simprocAttr]
  refine Qa hT' ?_
  by_cases hqlt : q < m
  ·rw [qh hqlt, QvP]
   have e9 : (1 : Int) + (a + q) = a + q + 1 := by omega
   simp (disch := omega) only [rq, simprocAttr, e9]
  ·obtain rfl : q = m := by omega
   rw [qf hqlt]
   by_cases h4 : q = 48
   ·subst h4
    rw [qh rfl, QvP]
    simp (disch := omega) only [rq, simprocAttr, Int.zero_add]
   ·rw [qf h4, QvP]
    simp (disch := omega) only [rq, simprocAttr]
structure Dl where
 k0 : Nat
 k1 : Nat
 s0 : Nat
 s1 : Nat
def dlC (d : Dl) : List AV := [.int .i64 d.k0, .int .i64 d.k1, .int .u64 d.s0, .int .u64 d.s1]
def dlA (d : Dl) : AV := .agg (dlC d)
def okD (d : Dl) : Prop := d.k0 ≤ 24 ∧ d.k1 ≤ 24 ∧ d.s0 ≤ 68719476735 ∧ d.s1 ≤ 68719476735
def Qz : Dl := ⟨10, 10, 16384, 16384⟩
def Qdc (k s n : Nat) : Nat × Nat :=
 if 0 < k ∧ s + n - s / 16 < 2 ^ (k + 4) then (k - 1, s + n - s / 16) else if k < 24 ∧ 2 ^ (k + 5) < s + n - s / 16 then (k + 1, s + n - s / 16) else (k, s + n - s / 16)
def Xm (d : Dl) (v : Nat) : Dl :=
 if v < 2 ^ d.k0 then ⟨(Qdc d.k0 d.s0 v).1, d.k1, (Qdc d.k0 d.s0 v).2, d.s1⟩
 else ⟨(Qdc d.k0 d.s0 v).1, (Qdc d.k1 d.s1 (v - 2 ^ d.k0)).1, (Qdc d.k0 d.s0 v).2, (Qdc d.k1 d.s1 (v - 2 ^ d.k0)).2⟩
theorem QqK {k s n : Nat} (hk : k ≤ 24) (hs : s ≤ 68719476735) (hn : n < 4294967296) : (Qdc k s n).1 ≤ 24 ∧ (Qdc k s n).2 ≤ 68719476735 := by
 unfold Qdc
 have ht : s + n - s / 16 ≤ 68719476735 := by omega
 generalize s + n - s / 16 = t at *
 split
 ·exact ⟨by simp only; omega, ht⟩
 ·split
  ·rename_i h; exact ⟨by have := h.1; simp only; omega, ht⟩
  ·exact ⟨hk, ht⟩
theorem QzN {d : Dl} {v : Nat} (h : okD d) (hv : v < 4294967296) : okD (Xm d v) := by
 obtain ⟨h1, h2, h3, h4⟩ := h
 have p0 := QqK h1 h3 hv
 have p1 := QqK (n := v - 2 ^ d.k0) h2 h4 (jI (Yy _ _) hv)
 unfold Xm
 split
 ·exact ⟨p0.1, h2, p0.2, h4⟩
 ·exact ⟨p0.1, p1.1, p0.2, p1.2⟩
theorem Qzd : okD Qz := by unfold okD Qz; decide
theorem QqW (d : Dl) : isD (dlA d) = true := rfl
theorem p24 {k : Nat} (h : k ≤ 24) : 2 ^ k ≤ 16777216 ∧ 2 ^ (k + 4) = 16 * 2 ^ k ∧ 2 ^ (k + 5) = 32 * 2 ^ k := by
 have := qr (n := 2) (by omega) h
 refine ⟨by simpa using this, ?_, ?_⟩ <;> rw [q9, yd]
def QgQ (P : Prg) (f : Nat) : Prop := VC P f [] (dlA Qz)
theorem QuS {P : Prg} {f t0 : Nat} (bd : Body P f 2 [.cell 0 t0] (QcY t0)) (ht : Zu P t0 = some (some 4)) : QgQ P f := by
 refine Qv rfl rfl bd ?_
 simp (disch := omega) only [rq, simprocAttr, QcY, Q1, ht, QL, dlA, dlC, Qz]
 try rfl
def Qib (P : Prg) (f : Nat) : Prop := ∀ d : Dl, okD d → VC P f [dlA d] (.int .i64 0)
theorem QuT {P : Prg} {f t0 : Nat} (bd : Body P f 26 [.tmp 2] (QcZ t0)) : Qib P f := by
 intro d h
 obtain ⟨k0, k1, s0, s1⟩ := d
 obtain ⟨h1, h2, h3, h4⟩ := h
 simp only at h1 h2 h3 h4
 refine Qc4 rfl rfl (ACall.of_cut 1 bd (by simp) ?_)
 simp (disch := omega) only [rq, simprocAttr, QcZ, dlA, dlC, QeR]
 refine ⟨⟨[(2, .int .i64 0), (1, .cell [.int .i64 k0, .int .i64 k1, .int .u64 s0, .int .u64 s1])], []⟩, Je [] (by simp) (by simp [Am.look, Qx, frzL, Qy]), ?_⟩
 simp (disch := omega) only [rq, simprocAttr]
def QgR (P : Prg) (f : Nat) : Prop := ∀ (d : Dl) (v : Nat), okD d → v < 4294967296 → VC P f [dlA d, .int .u32 v] (if v < 2 ^ d.k0 then .tup [.int .i64 0, .int .u32 v] else .tup [.int .i64 1, .int .u32 ((v - 2 ^ d.k0 : Nat) : Int)])
theorem QuQ {P : Prg} {f t0 : Nat} (bd : Body P f 17 [.tmp 4, .tmp 5] (QaJ t0)) : QgR P f := by
 intro d v h hv
 obtain ⟨k0, k1, s0, s1⟩ := d
 obtain ⟨h1, h2, h3, h4⟩ := h
 simp only at h1 h2 h3 h4
 refine Qv rfl (by simp only; split <;> rfl) bd ?_
 have e1 : Qj false .u32 (v : Int) (k0 : Int) = some (.int .u32 ((v / 2 ^ k0 : Nat) : Int)) := Qny (K := .u32) (by show k0 ≤ 32; omega)
 obtain ⟨q1, _⟩ := p24 h1
 have e2 : Qj true .u32 1 (k0 : Int) = some (.int .u32 ((2 ^ k0 : Nat) : Int)) := by
  have := Qvr (K := .u32) rfl (c := 1) (s := k0) (by show k0 ≤ 32; omega) (by show 1 * 2 ^ k0 < 4294967296; omega)
  rw [yG] at this
  exact this
 simp only
 by_cases c : v < 2 ^ k0
 ·rw [qh c]
  rw [y7 c] at e1
  have e1' : Qj false .u32 (v : Int) (k0 : Int) = some (.int .u32 0) := e1
  simp (disch := omega) only [rq, simprocAttr, QaJ, dlA, dlC, e1']
 ·rw [qf c]
  have hpos : 0 < v / 2 ^ k0 := Nat.div_pos (by omega) (qW (by omega))
  have hle : v / 2 ^ k0 ≤ v := jO _ _
  have e3 : ((v - 2 ^ k0 : Nat) : Int) = (v : Int) - ((2 ^ k0 : Nat) : Int) := by omega
  generalize v / 2 ^ k0 = w at *
  generalize 2 ^ k0 = p at *
  simp (disch := omega) only [rq, simprocAttr, QaJ, dlA, dlC, e1, e2, e3]
theorem Qgz {P : Prg} {f : Nat} (bd : Body P f 58 [] Qu) {ob : List Ob} {p : Nat} {t : Nat} {d : Dl} (hp : ob[p]? = some ⟨t, 4, 1, dlC d, 0⟩) (hd : okD d) {n : Nat} (hn : n < 4294967296) (b : Bool) {K : AV → List Ob → Prop}
  (hK : K (.tup []) (ob.set p ⟨t, 4, 1, dlC (if b then ⟨d.k0, (Qdc d.k1 d.s1 n).1, d.s0, (Qdc d.k1 d.s1 n).2⟩ else ⟨(Qdc d.k0 d.s0 n).1, d.k1, (Qdc d.k0 d.s0 n).2, d.s1⟩), 0⟩)) :
  ACall P f [.ref p 1 (if b then 1 else 0), .ref p 1 (if b then 3 else 2), .int .u32 n] ob K := by
 have hpl : p < ob.length := (qa.1 hp).1
 have g1 : ∀ x, (ob.set p x)[p]? = some x := fun x => by simp [hpl]
 have g2 : ∀ x y, (ob.set p x).set p y = ob.set p y := fun x y => Yq _
 have key : ∀ k s : Nat, k ≤ 24 → s ≤ 68719476735 → ∃ t p4 p5 : Nat, t ≤ 68719476735 ∧ IntKind.u64.wrap ((s : Int) + IntKind.u64.wrap ((n : Int) - ((s / 16 : Nat) : Int))) = (t : Int) ∧ Qj false .u64 (s : Int) 4 = some (.int .u64 ((s / 16 : Nat) : Int)) ∧
   Qj true .u64 16 (k : Int) = some (.int .u64 (p4 : Int)) ∧ Qj true .u64 32 (k : Int) = some (.int .u64 (p5 : Int)) ∧
   Qj true .u64 16 (k : Int) = some (.int .u64 (p4 : Int)) ∧ Qdc k s n = if 0 < k ∧ t < p4 then (k - 1, t) else if k < 24 ∧ p5 < t then (k + 1, t) else (k, t) := by
  intro k s hk hs
  obtain ⟨q1, q2, q3⟩ := p24 hk
  refine ⟨s + n - s / 16, 2 ^ (k + 4), 2 ^ (k + 5), by omega, ?_, Qny (K := .u64) (k := 4) (by decide), ?_, ?_, ?_, rfl⟩
  ·rw [ZR, ZR]; omega
  ·rw [q2]; exact Qvr (K := .u64) rfl (c := 16) (by show k ≤ 64; omega) (by show 16 * 2 ^ k < 18446744073709551616; omega)
  ·rw [q3]; exact Qvr (K := .u64) rfl (c := 32) (by show k ≤ 64; omega) (by show 32 * 2 ^ k < 18446744073709551616; omega)
  ·rw [q2]; exact Qvr (K := .u64) rfl (c := 16) (by show k ≤ 64; omega) (by show 16 * 2 ^ k < 18446744073709551616; omega)
 obtain ⟨k0, k1, s0, s1⟩ := d
 obtain ⟨h1, h2, h3, h4⟩ := hd
 simp only at h1 h2 h3 h4
 refine Qb bd (by simp) ?_
 simp only [dlC] at hp hK
 cases b with
 | false =>
  obtain ⟨u, p4, p5, hu, e1, e2, e3, e4, _, e5⟩ := key k0 s0 h1 h3
  simp only [e5, yo, qI] at hK ⊢
  by_cases c1 : 0 < k0
  ·by_cases c2 : u < p4
   ·rw [qh ⟨c1, c2⟩] at hK
    have e6 : ((k0 - 1 : Nat) : Int) = (k0 : Int) - 1 := by omega
    simp only [e6] at hK
    simp (disch := omega) only [rq, simprocAttr, Qu, hp, g1, g2, e1, e2, e3, e4, e6]
    exact hK
   ·rw [qf (fun h => c2 h.2)] at hK
    by_cases c3 : k0 < 24
    ·by_cases c4 : p5 < u
     ·rw [qh ⟨c3, c4⟩] at hK
      simp only [yY] at hK
      simp (disch := omega) only [rq, simprocAttr, Qu, hp, g1, g2, e1, e2, e3, e4]
      exact hK
     ·rw [qf (fun h => c4 h.2)] at hK
      simp (disch := omega) only [rq, simprocAttr, Qu, hp, g1, g2, e1, e2, e3, e4]
      exact hK
    ·rw [qf (fun h => c3 h.1)] at hK
     simp (disch := omega) only [rq, simprocAttr, Qu, hp, g1, g2, e1, e2, e3, e4]
     exact hK
  ·rw [qf (fun h => c1 h.1)] at hK
   by_cases c4 : p5 < u
   ·rw [qh ⟨by omega, c4⟩] at hK
    simp only [yY] at hK
    simp (disch := omega) only [rq, simprocAttr, Qu, hp, g1, g2, e1, e2, e3, e4]
    exact hK
   ·rw [qf (fun h => c4 h.2)] at hK
    simp (disch := omega) only [rq, simprocAttr, Qu, hp, g1, g2, e1, e2, e3, e4]
    exact hK
 | true =>
  obtain ⟨u, p4, p5, hu, e1, e2, e3, e4, _, e5⟩ := key k1 s1 h2 h4
  simp only [e5, qO] at hK ⊢
  by_cases c1 : 0 < k1
  ·by_cases c2 : u < p4
   ·rw [qh ⟨c1, c2⟩] at hK
    have e6 : ((k1 - 1 : Nat) : Int) = (k1 : Int) - 1 := by omega
    simp only [e6] at hK
    simp (disch := omega) only [rq, simprocAttr, Qu, hp, g1, g2, e1, e2, e3, e4, e6]
    exact hK
   ·rw [qf (fun h => c2 h.2)] at hK
    by_cases c3 : k1 < 24
    ·by_cases c4 : p5 < u
     ·rw [qh ⟨c3, c4⟩] at hK
      simp only [yY] at hK
      simp (disch := omega) only [rq, simprocAttr, Qu, hp, g1, g2, e1, e2, e3, e4]
      exact hK
     ·rw [qf (fun h => c4 h.2)] at hK
      simp (disch := omega) only [rq, simprocAttr, Qu, hp, g1, g2, e1, e2, e3, e4]
      exact hK
    ·rw [qf (fun h => c3 h.1)] at hK
     simp (disch := omega) only [rq, simprocAttr, Qu, hp, g1, g2, e1, e2, e3, e4]
     exact hK
  ·rw [qf (fun h => c1 h.1)] at hK
   by_cases c4 : p5 < u
   ·rw [qh ⟨by omega, c4⟩] at hK
    simp only [yY] at hK
    simp (disch := omega) only [rq, simprocAttr, Qu, hp, g1, g2, e1, e2, e3, e4]
    exact hK
   ·rw [qf (fun h => c4 h.2)] at hK
    simp (disch := omega) only [rq, simprocAttr, Qu, hp, g1, g2, e1, e2, e3, e4]
    exact hK
def bO (t o N : Nat) : Ob := ⟨t, 2, 1, [.own o (nB N), .int .i64 N], 0⟩
def bY (t N V : Nat) : Ob := ⟨t, 1, nB N, u8 (leB V (nB N)), 0⟩
theorem QaD (V n : Nat) : isDL (u8 (leB V n)) = true := QdG _
theorem Low.put {ob : List Ob} (h : Low ob.length ob) {t t0 o p N V N' : Nat} (ho : o < ob.length) : Low ob.length (Zn ob o p (bY t0 N V) (bO t o N')) := by
 unfold Zn
 refine (h.set ?_).set ?_
 ·exact lowL_D _ (QaD _ _)
 ·simp [bO, lowL, JG, ho]
theorem Low.drop {ob : List Ob} (h : Low ob.length ob) {t t0 o p N V : Nat} (ho : o < ob.length) {M : Nat} (hM : M ≤ ob.length) {J : List Ob} {fr fr' : List (Nat × AV)}
  (hfr : ∀ q ∈ fr', q.2 = .any ∨ (q.2 = Am.look fr q.1 ∧ JG ob.length q.2 = true)) :
  Le M ⟨fr, Zn ob o p (bY t0 N V) (bO t o N) ++ J⟩ ⟨fr', Zn ob o p (bY t0 N V) (bO t o N)⟩ := by
 have hl : (Zn ob o p (bY t0 N V) (bO t o N)).length = ob.length := Zh
 refine Le.low (by omega) (by rw [hl]; exact h.put ho) ?_
 rw [hl]
 exact hfr
theorem QEB {V N v j r : Nat} : V + 2 ^ N * (v % 2 ^ (j + r)) = V + 2 ^ N * (v % 2 ^ j) + 2 ^ (N + j) * (v / 2 ^ j % 2 ^ r) := by
 rw [q9, Nat.mod_mul, y9, q9, yK, yy]
set_option maxHeartbeats 1000000 in
theorem Qts {P : Prg} {f t0 t : Nat} (bd : Body P f 75 [] (Qbi t0)) {ob : List Ob} {p o N V v n : Nat} (hp : ob[p]? = some (bO t o N)) (ho : ob[o]? = some (bY t0 N V)) (hpo : p ≠ o) (hV : V < 2 ^ N) (hv : v < 2 ^ n) (hn : n ≤ 64) (hN : N + n ≤ 400000) (hfz : Low ob.length ob)
  {K : AV → List Ob → Prop} (hK : K (.tup []) (Zn ob o p (bY t0 (N + n) (V + 2 ^ N * v)) (bO t o (N + n)))) : ACall P f [.ref p 1 0, .int .u64 v, .int .i64 n] ob K := by
 have hol : o < ob.length := (qa.1 ho).1
 have hpl : p < ob.length := (qa.1 hp).1
 refine Qb bd (by simp) ?_
 have g0 : ∀ x y J, (Zn ob o p x y ++ J)[p]? = some y := fun x y J => by rw [qp (by rw [Zh]; exact hpl)]; exact QeY hpl
 have g1 : ∀ x y J, (Zn ob o p x y ++ J)[o]? = some x := fun x y J => by rw [qp (by rw [Zh]; exact hol)]; exact QeZ hol hpo
 have g2 : ∀ x y J y', (Zn ob o p x y ++ J).set p y' = Zn ob o p x y' ++ J := fun x y J y' => by rw [jk _ _ (by rw [Zh]; exact hpl), QeJ]
 have g3 : ∀ x y J x', (Zn ob o p x y ++ J).set o x' = Zn ob o p x' y ++ J := fun x y J x' => by rw [jk _ _ (by rw [Zh]; exact hol), Qiy hpo]
 have g4 : ∀ x y j, (Zn ob o p x y ++ [j])[ob.length]? = some j := fun x y j => by rw [qC (by rw [Zh]; exact qo _), Zh, Yr]; rfl
 have gp : ∀ x y, (Zn ob o p x y)[p]? = some y := fun x y => QeY hpl
 have go : ∀ x y, (Zn ob o p x y)[o]? = some x := fun x y => QeZ hol hpo
 have sp : ∀ x y y', (Zn ob o p x y).set p y' = Zn ob o p x y' := fun x y y' => QeJ
 have so : ∀ x y x', (Zn ob o p x y).set o x' = Zn ob o p x' y := fun x y x' => Qiy hpo
 have ln : ∀ x y, (Zn ob o p x y).length = ob.length := fun x y => Zh
 simp (disch := omega) only [rq, simprocAttr, Qbi]
 refine Qg (ι := Nat) (fun j => ⟨[(2, .int .i64 ((n - j : Nat) : Int)), (1, .int .u64 ((v / 2 ^ j : Nat) : Int)), (0, .ref p 1 0)], Zn ob o p (bY t0 (N + j) (V + 2 ^ N * (v % 2 ^ j))) (bO t o (N + j))⟩) (fun j => j ≤ n) (fun j => n - j) 0 ?_ (by omega) ?_
 ·have : Zn ob o p (bY t0 (N + 0) (V + 2 ^ N * (v % 2 ^ 0))) (bO t o (N + 0)) = ob := by
   rw [yi, jZ, Nat.mod_one, Yo, yi]
   exact Qdr ho hp hpo
  rw [this]
  exact Ql
 intro j hj
 by_cases hlt : j < n
 ·obtain ⟨M, hM⟩ : ∃ M, M = N + j := ⟨_, rfl⟩
  obtain ⟨i, hi⟩ : ∃ i, i = M / 8 := ⟨_, rfl⟩
  obtain ⟨a, ha⟩ : ∃ a, a = M % 8 := ⟨_, rfl⟩
  obtain ⟨r, hr⟩ : ∃ r, r = min (n - j) (8 - a) := ⟨_, rfl⟩
  have hM8 : M = 8 * i + a := by omega
  have hW : V + 2 ^ N * (v % 2 ^ j) < 2 ^ M := by
   have h1 : v % 2 ^ j < 2 ^ j := qM _ (qW (by omega))
   have h2 : 2 ^ N * (v % 2 ^ j + 1) ≤ 2 ^ N * 2 ^ j := yt _ h1
   rw [hM, q9]; rw [y9, jp] at h2; omega
  have hstep := QEB (V := V) (N := N) (v := v) (j := j) (r := r)
  rw [← hM] at hstep ⊢
  have hx : v / 2 ^ j < 18446744073709551616 := by
   have h1 : v / 2 ^ j ≤ v := jO _ _
   have h2 : 2 ^ n ≤ 2 ^ 64 := qr (by omega) hn
   omega
  have hxr : v / 2 ^ (j + r) = v / 2 ^ j / 2 ^ r := by rw [q9, yT]
  generalize V + 2 ^ N * (v % 2 ^ j) = W at *
  generalize hWW : V + 2 ^ N * (v % 2 ^ (j + r)) = W' at *
  generalize hxx : v / 2 ^ j = x at *
  have h2r : 2 ^ r ≤ 2 ^ 8 := qr (by omega) (by omega)
  have h2a : 2 ^ a * 2 ^ r ≤ 2 ^ 8 := by rw [← q9]; exact qr (by omega) (by omega)
  have hpos : 0 < 2 ^ r := qW (by omega)
  have hc : x % 2 ^ r < 2 ^ r := qM _ hpos
  obtain ⟨l1, l2⟩ := QdL (V := W) (i := i) (at_ := a) (by rw [← hM8]; exact hW) (by omega)
  obtain ⟨b1, b2, _⟩ := QeS (V := W) (i := i) (at_ := a) (w := x % 2 ^ r) (r := r) (by rw [← hM8]; exact hW) hc (by omega)
  rw [← hM8, ← hstep] at b1
  have hyb : W / 256 ^ i < 256 := by
   have : 2 ^ a ≤ 2 ^ 8 := qr (by omega) (by omega)
   omega
  have hyb2 : W / 256 ^ i + 2 ^ a * (x % 2 ^ r) < 256 := by
   have : 2 ^ (a + r) ≤ 2 ^ 8 := qr (by omega) (by omega)
   omega
  have hca : x % 2 ^ r * 2 ^ a < 2 ^ 8 := by
   rw [yd]
   exact yF (Nat.mul_lt_mul_of_pos_left hc (qW (by omega))) h2a
  have hu : ∀ y, y < 256 → u8 [UInt8.ofNat y] = [.int .u8 (y : Int)] := fun y hy => by simp [u8]; omega
  have e8 : IntKind.u8.wrap (BitVec.ofInt IntKind.u8.bits ((W / 256 ^ i : Nat) : Int) ||| BitVec.ofInt IntKind.u8.bits ((x % 2 ^ r * 2 ^ a : Nat) : Int)).toNat = ((W / 256 ^ i + 2 ^ a * (x % 2 ^ r) : Nat) : Int) := by
   rw [orK (K := .u8) rfl hyb hca, QkX l2, yd]
  have e7 : Qj true .u8 ((x % 2 ^ r : Nat) : Int) (a : Int) = some (.int .u8 ((x % 2 ^ r * 2 ^ a : Nat) : Int)) := Qvr rfl (by show a ≤ 8; omega) hca
  have e6 : IntKind.u8.wrap ((x % 2 ^ r : Nat) : Int) = ((x % 2 ^ r : Nat) : Int) := by rw [ZV]; omega
  have e5 : IntKind.u64.wrap (BitVec.ofInt IntKind.u64.bits (x : Int) &&& BitVec.ofInt IntKind.u64.bits ((2 ^ r - 1 : Nat) : Int)).toNat = ((x % 2 ^ r : Nat) : Int) := by
   rw [QrX _ _ hx (by omega), yR]
  have e4 : IntKind.u64.wrap (((2 ^ r : Nat) : Int) - 1) = ((2 ^ r - 1 : Nat) : Int) := by rw [ZR]; omega
  have e3 : Qj true .u64 1 (r : Int) = some (.int .u64 ((2 ^ r : Nat) : Int)) := by
   have := Qvr (K := .u64) rfl (c := 1) (s := r) (by show r ≤ 64; omega) (by show 1 * 2 ^ r < 18446744073709551616; omega)
   rw [yG] at this
   exact this
  have e9 : Qj false .u64 (x : Int) (r : Int) = some (.int .u64 ((x / 2 ^ r : Nat) : Int)) := Qny (K := .u64) (by show r ≤ 64; omega)
  have e1 := Qm6 (n := M) (by omega)
  rw [← ha] at e1
  have e2 : (if (8 : Int) - a < ((n - j : Nat) : Int) then (8 : Int) - a else ((n - j : Nat) : Int)) = (r : Int) := by split <;> omega
  have hnB : nB (M + r) = i + 1 := by unfold nB; omega
  have hcell : u8 (leB W' (i + 1)) = u8 (leB W i) ++ [.int .u8 ((W / 256 ^ i + 2 ^ a * (x % 2 ^ r) : Nat) : Int)] := by
   rw [b1, show u8 (leB W i ++ [UInt8.ofNat (W / 256 ^ i + 2 ^ a * (x % 2 ^ r))]) = u8 (leB W i) ++ u8 [UInt8.ofNat (W / 256 ^ i + 2 ^ a * (x % 2 ^ r))] by simp [u8]]
   rw [hu _ hyb2]
  have hlen : (u8 (leB W i)).length = i := by simp [u8, Qc]
  rw [← hxr] at e9
  generalize W / 256 ^ i + 2 ^ a * (x % 2 ^ r) = y' at *
  generalize x % 2 ^ r * 2 ^ a = ca at *
  generalize x % 2 ^ r = c at *
  generalize 2 ^ r - 1 = mk at *
  generalize 2 ^ r = pr at *
  have d1 : ∀ z : AV, (u8 (leB W i) ++ [z]).drop i = [z] := fun z => by rw [yI hlen]
  have d2 : ∀ z : AV, (u8 (leB W i) ++ [z]).take i = u8 (leB W i) := fun z => by rw [qZ hlen]
  have d3 : ∀ z : AV, (u8 (leB W i) ++ [z]).drop (i + 1) = [] := fun z => yf (by simp [hlen])
  have jr : n - j - r = n - (j + r) := by omega
  have el : (⟨t0, 1, i + 1, u8 (leB W i) ++ [.int .u8 (y' : Int)], 0⟩ : Ob) = bY t0 (M + r) W' := by rw [bY, hnB, hcell]
  have er : (⟨t, 2, 1, [.own o (i + 1), .int .i64 ((M : Int) + r)], 0⟩ : Ob) = bO t o (M + r) := by rw [bO, hnB, yY]
  have hMr : N + (j + r) = M + r := by omega
  have e10 : ((n - j : Nat) : Int) - r = ((n - (j + r) : Nat) : Int) := by omega
  have e11 : (M : Int) + r = ((M + r : Nat) : Int) := by omega
  by_cases h0 : a = 0
  ·subst h0
   have hnM : nB M = i := by unfold nB; omega
   have hW0 : W / 256 ^ i = 0 := by
    have := l2
    rw [jZ] at this
    exact Nat.lt_one_iff.1 this
   rw [hW0] at e8
   have e8' : IntKind.u8.wrap (BitVec.ofInt IntKind.u8.bits 0 ||| BitVec.ofInt IntKind.u8.bits (ca : Int)).toNat = (y' : Int) := e8
   have e1' : IntKind.i64.wrap (BitVec.ofInt IntKind.i64.bits (M : Int) &&& BitVec.ofInt IntKind.i64.bits 7).toNat = 0 := e1
   have e2' : (if (8 : Int) < ((n - j : Nat) : Int) then (8 : Int) else ((n - j : Nat) : Int)) = (r : Int) := by split <;> omega
   have e12 : i + 1 - 1 = i := by omega
   have e7' : Qj true .u8 (c : Int) 0 = some (.int .u8 (ca : Int)) := e7
   have e13 : (i : Int) + 1 - 1 = i := by omega
   simp (disch := omega) only [rq, simprocAttr, e2', e12, e13, bO, bY, gp, go, sp, so, ln, g0, g1, g2, g3, g4, hnM, hlen, e1', e2, e3, e4, e5, e6, e7', e8', e9, d1, d2, d3]
   refine ⟨j + r, by omega, by omega, ?_⟩
   show Le ob.length _ ⟨[(2, .int .i64 ((n - (j + r) : Nat) : Int)), (1, .int .u64 ((v / 2 ^ (j + r) : Nat) : Int)), (0, .ref p 1 0)], Zn ob o p (bY t0 (N + (j + r)) (V + 2 ^ N * (v % 2 ^ (j + r)))) (bO t o (N + (j + r)))⟩
   rw [hWW, hMr, el, er]
   exact hfz.drop hol (qo _) (by simp [Am.look, JG, hpl, e10])
  ·have hnM : nB M = i + 1 := by unfold nB; omega
   have l3 : u8 (leB W (i + 1)) = u8 (leB W i) ++ [.int .u8 ((W / 256 ^ i : Nat) : Int)] := by
    rw [l1, show u8 (leB W i ++ [UInt8.ofNat (W / 256 ^ i)]) = u8 (leB W i) ++ u8 [UInt8.ofNat (W / 256 ^ i)] by simp [u8], hu _ hyb]
   have e12 : i + 1 - 1 = i := by omega
   have e13 : (i : Int) + 1 - 1 = i := by omega
   have ha0 : (a : Int) ≠ 0 := by omega
   generalize W / 256 ^ i = y at *
   simp (disch := omega) only [rq, simprocAttr, e12, e13, bO, bY, gp, go, sp, so, ln, hnM, hlen, l3, e1, e2, e3, e4, e5, e6, e7, e8, e9, d1, d2, d3]
   refine ⟨j + r, by omega, by omega, ?_⟩
   show Le ob.length _ ⟨[(2, .int .i64 ((n - (j + r) : Nat) : Int)), (1, .int .u64 ((v / 2 ^ (j + r) : Nat) : Int)), (0, .ref p 1 0)], Zn ob o p (bY t0 (N + (j + r)) (V + 2 ^ N * (v % 2 ^ (j + r)))) (bO t o (N + (j + r)))⟩
   rw [hWW, hMr, el, er]
   exact Qm (by simp [Am.look, e10])
 ·obtain rfl : j = n := by omega
  rw [qT hv]
  simp (disch := omega) only [rq, simprocAttr]
  exact hK
theorem Qlb {P : Prg} {f f1 fL t : Nat} (bd : Body P f 36 [] (XM f1 fL)) (b1 : Body P f1 58 [] Qu) (hL : QgR P fL) {ob : List Ob} {p : Nat} {d : Dl} (hp : ob[p]? = some ⟨t, 4, 1, dlC d, 0⟩) (hd : okD d) {v : Nat} (hv : v < 4294967296) {K : AV → List Ob → Prop}
  (hK : K (.tup []) (ob.set p ⟨t, 4, 1, dlC (Xm d v), 0⟩)) : ACall P f [.ref p 1 0, .int .u32 v] ob K := by
 have hpl : p < ob.length := (qa.1 hp).1
 have hL' := hL d v hd hv
 have nph : ∀ cs, (⟨t, 4, 1, cs, 0⟩ : Ob) ≠ ph := fun cs e => by have := congrArg Ob.sz e; simp [ph] at this
 refine Qb bd (by simp) ?_
 unfold Xm at hK
 have hp0 := hp
 obtain ⟨k0, k1, s0, s1⟩ := d
 simp only [dlC] at hp
 simp only [dlA, dlC] at hL' hK
 by_cases c : v < 2 ^ k0
 ·rw [qh c] at hL' hK
  simp (disch := omega) only [rq, simprocAttr, XM, hp]
  refine Qa hL' ?_
  simp (disch := omega) only [rq, simprocAttr, hp]
  refine callE.by hp0 (nph _) (fun K hK => Qgz b1 hp0 hd hv false hK) ?_
  simp (disch := omega) only [rq, simprocAttr]
  exact hK
 ·rw [qf c] at hL' hK
  have hv2 : v - 2 ^ k0 < 4294967296 := jI (Yy _ _) hv
  obtain ⟨h1, h2, h3, h4⟩ := hd
  have pk := QqK h2 h4 hv2
  simp only at h1 h2 h3 h4 pk
  generalize v - 2 ^ k0 = w at *
  simp (disch := omega) only [rq, simprocAttr, XM, hp]
  refine Qa hL' ?_
  simp (disch := omega) only [rq, simprocAttr, hp]
  refine callE.by hp0 (nph _) (fun K hK => Qgz b1 hp0 ⟨h1, h2, h3, h4⟩ hv2 true hK) ?_
  have hp1 : (ob.set p ⟨t, 4, 1, dlC ⟨k0, (Qdc k1 s1 w).1, s0, (Qdc k1 s1 w).2⟩, 0⟩)[p]? = some ⟨t, 4, 1, dlC ⟨k0, (Qdc k1 s1 w).1, s0, (Qdc k1 s1 w).2⟩, 0⟩ := by simp [hpl]
  have hp2 := hp1
  simp only [dlC] at hp2
  simp (disch := omega) only [rq, simprocAttr, dlC, hp2]
  refine callE.by hp1 (nph _) (fun K hK => Qgz b1 hp1 ⟨h1, pk.1, h3, pk.2⟩ hv false hK) ?_
  rw [Yq]
  simp (disch := omega) only [rq, simprocAttr]
  exact hK
theorem Qoh {P : Prg} {f : Nat} (bd : Body P f 9 [.tmp 4] Jy) {v k : Nat} (hk : k ≤ 24) (hv : v < 4294967296) : VC P f [.int .u32 v, .int .i64 k] (.bool (decide (48 ≤ v / 2 ^ k))) := by
 refine Qv rfl rfl bd ?_
 have e1 : Qj false .u32 (v : Int) (k : Int) = some (.int .u32 ((v / 2 ^ k : Nat) : Int)) := Qny (K := .u32) (by show k ≤ 32; omega)
 generalize v / 2 ^ k = w at *
 have e2 : decide ((48 : Int) ≤ (w : Int)) = decide (48 ≤ w) := decide_eq_decide.2 (by omega)
 simp (disch := omega) only [rq, simprocAttr, Jy, e1, e2]
def QAF (P : Prg) (f : Nat) : Prop := ∀ v k : Nat, k ≤ 24 → v < 4294967296 → VC P f [.int .u32 v, .int .i64 k] (.bool (decide (48 ≤ v / 2 ^ k)))
theorem Qzt {P : Prg} {f : Nat} (bd : Body P f 9 [.tmp 4] Jy) : QAF P f := by
 exact fun _ _ h1 h2 => Qoh bd h1 h2
def Qgs (V N a k : Nat) : Nat ⊕ (Nat × Nat) :=
 match Qdb V N a with
 | .inl e => .inl e
 | .inr (q, nx) =>
  if N < nx + (if q = 48 then 32 else k) then .inl 24
  else if q < 48 then .inr (q * 2 ^ k + V / 2 ^ nx % 2 ^ k, nx + k)
  else if V / 2 ^ nx % 2 ^ 32 / 2 ^ k < 48 then .inl 12 else .inr (V / 2 ^ nx % 2 ^ 32, nx + 32)
def rcA : Nat ⊕ (Nat × Nat) → AV
 | .inl e => .tup [.int .u32 0, .int .i64 0, .int .i64 e]
 | .inr (v, n) => .tup [.int .u32 v, .int .i64 n, .int .i64 0]
theorem QB4 (o : Nat ⊕ (Nat × Nat)) : isD (rcA o) = true := by cases o <;> rfl
theorem QsO {V N a q nx : Nat} (h : Qdb V N a = .inr (q, nx)) : q ≤ 48 ∧ nx ≤ N ∧ a ≤ nx := by
 unfold Qdb at h
 split at h
 ·cases h
 split at h
 ·cases h
  have := QqL (min 48 (N - a)) (V / 2 ^ a)
  omega
 split at h
 ·cases h; omega
 ·cases h
theorem Qok {V N a e : Nat} (h : Qdb V N a = .inl e) : e = 24 := by
 unfold Qdb at h
 split at h
 ·cases h; rfl
 split at h
 ·cases h
 split at h
 ·cases h
 ·cases h; rfl
def Qr1 (P : Prg) (f : Nat) : Prop := ∀ N V a k : Nat, V < 2 ^ N → N ≤ 330000 → a ≤ 400000 → k ≤ 24 → VC P f [bA N V, .int .i64 a, .int .i64 k] (rcA (Qgs V N a k))
theorem QwD {P : Prg} {f fC fU fG fE t0 : Nat} (bd : Body P f 68 [.tmp 6, .tmp 7, .tmp 8] (ZT fC fU fG fE t0)) (hC : JF P fC) (hU : QrZ P fU) (hG : Qlk P fG) (hE : QAF P fE) : Qr1 P f := by
 intro N V a k hV hN ha hk
 refine Qv (by simp [isDL, JO, isD]) (QB4 _) bd ?_
 have hC' := hC N V hV hN
 have hU' := hU N V a hV hN ha
 rw [bA] at hC' hU'
 unfold Qgs
 cases hu : Qdb V N a with
 | inl e =>
  have he := Qok hu
  rw [hu] at hU'
  subst he
  simp (disch := omega) only [rq, simprocAttr, ZT, bA, rcA]
  refine Qa hC' ?_
  simp (disch := omega) only [rq, simprocAttr]
  refine Qa hU' ?_
  simp (disch := omega) only [rq, simprocAttr, QvP]
 | inr w =>
  obtain ⟨q, nx⟩ := w
  obtain ⟨u1, u2, u3⟩ := QsO hu
  rw [hu] at hU'
  simp only
  by_cases hq : q = 48
  ·have hG' := hG N V nx 32 hV hN (by omega) (by omega)
   subst hq
   rw [bA] at hG'
   simp only [qO]
   by_cases hs : N < nx + 32
   ·rw [qh hs] at hG' ⊢
    simp (disch := omega) only [rq, simprocAttr, ZT, bA, rcA]
    refine Qa hC' ?_
    simp (disch := omega) only [rq, simprocAttr]
    refine Qa hU' ?_
    simp (disch := omega) only [rq, simprocAttr, QvP]
    refine Qa hG' ?_
    simp (disch := omega) only [rq, simprocAttr]
   ·rw [qf hs] at hG' ⊢
    have hx : V / 2 ^ nx % 2 ^ 32 < 4294967296 := qM _ (by decide)
    generalize V / 2 ^ nx % 2 ^ 32 = x at *
    have hE' := hE x k hk hx
    rw [qf (by omega)]
    have e1 : IntKind.u32.wrap (x : Int) = x := Qss (by omega) (by omega)
    by_cases h4 : x / 2 ^ k < 48
    ·rw [qh h4]
     rw [decide_eq_false (by omega)] at hE'
     simp (disch := omega) only [rq, simprocAttr, ZT, bA, rcA]
     refine Qa hC' ?_
     simp (disch := omega) only [rq, simprocAttr]
     refine Qa hU' ?_
     simp (disch := omega) only [rq, simprocAttr, QvP]
     iterate 2 (refine Qa (by assumption) ?_; simp (disch := omega) only [rq, simprocAttr])
    ·rw [qf h4]
     rw [decide_eq_true (by omega)] at hE'
     simp (disch := omega) only [rq, simprocAttr, ZT, bA, rcA]
     refine Qa hC' ?_
     simp (disch := omega) only [rq, simprocAttr]
     refine Qa hU' ?_
     simp (disch := omega) only [rq, simprocAttr, QvP]
     iterate 2 (refine Qa (by assumption) ?_; simp (disch := omega) only [rq, simprocAttr])
  ·have hG' := hG N V nx k hV hN (by omega) (by omega)
   rw [bA] at hG'
   rw [qf hq]
   by_cases hs : N < nx + k
   ·rw [qh hs] at hG' ⊢
    simp (disch := omega) only [rq, simprocAttr, ZT, bA, rcA]
    refine Qa hC' ?_
    simp (disch := omega) only [rq, simprocAttr]
    refine Qa hU' ?_
    simp (disch := omega) only [rq, simprocAttr, QvP]
    refine Qa hG' ?_
    simp (disch := omega) only [rq, simprocAttr]
   ·rw [qf hs] at hG' ⊢
    rw [qh (by omega)]
    have hx : V / 2 ^ nx % 2 ^ k < 2 ^ k := qM _ (qW (by omega))
    obtain ⟨pk, _⟩ := p24 hk
    have hqk : q * 2 ^ k ≤ 47 * 16777216 := yX (by omega) pk
    have e1 : Qj true .u32 (q : Int) (k : Int) = some (.int .u32 ((q * 2 ^ k : Nat) : Int)) := Qvr (K := .u32) rfl (by show k ≤ 32; omega) (by show q * 2 ^ k < 4294967296; omega)
    have e2 : IntKind.u32.wrap (BitVec.ofInt IntKind.u32.bits ((q * 2 ^ k : Nat) : Int) ||| BitVec.ofInt IntKind.u32.bits ((V / 2 ^ nx % 2 ^ k : Nat) : Int)).toNat = ((q * 2 ^ k + V / 2 ^ nx % 2 ^ k : Nat) : Int) := by
     rw [orK (K := .u32) rfl (by show q * 2 ^ k < 4294967296; omega) (by show V / 2 ^ nx % 2 ^ k < 4294967296; omega), Nat.or_comm, QkX hx, Ya]
    generalize V / 2 ^ nx % 2 ^ k = x at *
    generalize q * 2 ^ k + x = y at *
    generalize q * 2 ^ k = qk at *
    simp (disch := omega) only [rq, simprocAttr, ZT, bA, rcA]
    refine Qa hC' ?_
    simp (disch := omega) only [rq, simprocAttr]
    refine Qa hU' ?_
    simp (disch := omega) only [rq, simprocAttr, QvP]
    refine Qa hG' ?_
    simp (disch := omega) only [rq, simprocAttr, e1, e2]
def QpR (V N a : Nat) (d : Dl) : Nat ⊕ (Nat × Nat) :=
 if N ≤ a then .inl 24
 else if V / 2 ^ a % 2 = 0 then (if N < a + 1 + d.k0 then .inl 24 else .inr (V / 2 ^ (a + 1) % 2 ^ d.k0, a + 1 + d.k0))
 else match Qgs V N (a + 1) d.k1 with
  | .inl e => .inl e
  | .inr (l, nx) => if 4294967295 < l + 2 ^ d.k0 then .inl 12 else .inr (l + 2 ^ d.k0, nx)
theorem QwC {V N a k v nx : Nat} (hk : k ≤ 24) (h : Qgs V N a k = .inr (v, nx)) : v < 4294967296 ∧ nx ≤ N := by
 unfold Qgs at h
 cases hu : Qdb V N a with
 | inl e => rw [hu] at h; cases h
 | inr w =>
  obtain ⟨q, n⟩ := w
  obtain ⟨u1, u2, u3⟩ := QsO hu
  rw [hu] at h
  simp only at h
  by_cases hs : N < n + (if q = 48 then 32 else k)
  ·rw [qh hs] at h; cases h
  rw [qf hs] at h
  by_cases hq : q < 48
  ·rw [qh hq] at h
   cases h
   obtain ⟨pk, _⟩ := p24 hk
   have hx : V / 2 ^ n % 2 ^ k < 2 ^ k := qM _ (qW (by omega))
   have hqk : q * 2 ^ k ≤ 47 * 16777216 := yX (by omega) pk
   rw [qf (show ¬ q = 48 by omega)] at hs
   exact ⟨by omega, by omega⟩
  ·rw [qf hq] at h
   rw [qh (show q = 48 by omega)] at hs
   by_cases h4 : V / 2 ^ n % 2 ^ 32 / 2 ^ k < 48
   ·rw [qh h4] at h; cases h
   ·rw [qf h4] at h
    cases h
    exact ⟨qM _ (by decide), by omega⟩
theorem QsK {V N a k e : Nat} (h : Qgs V N a k = .inl e) : e = 24 ∨ e = 12 := by
 unfold Qgs at h
 cases hu : Qdb V N a with
 | inl e' => rw [hu] at h; cases h; exact .inl (Qok hu)
 | inr w =>
  obtain ⟨q, n⟩ := w
  rw [hu] at h
  simp only at h
  by_cases hs : N < n + (if q = 48 then 32 else k)
  ·rw [qh hs] at h; cases h; exact .inl rfl
  rw [qf hs] at h
  by_cases hq : q < 48
  ·rw [qh hq] at h; cases h
  ·rw [qf hq] at h
   by_cases h4 : V / 2 ^ n % 2 ^ 32 / 2 ^ k < 48
   ·rw [qh h4] at h; cases h; exact .inr rfl
   ·rw [qf h4] at h; cases h
theorem Qxu {V N a v nx : Nat} {d : Dl} (hd : okD d) (h : QpR V N a d = .inr (v, nx)) : v < 4294967296 ∧ nx ≤ N := by
 obtain ⟨pk, _⟩ := p24 hd.1
 unfold QpR at h
 split at h
 ·cases h
 split at h
 ·split at h
  ·cases h
  ·cases h
   have : V / 2 ^ (a + 1) % 2 ^ d.k0 < 2 ^ d.k0 := qM _ (qW (by omega))
   exact ⟨by omega, by omega⟩
 ·cases hr : Qgs V N (a + 1) d.k1 with
  | inl e => rw [hr] at h; cases h
  | inr w =>
   obtain ⟨l, n⟩ := w
   rw [hr] at h
   simp only at h
   split at h
   ·cases h
   ·cases h
    exact ⟨by omega, (QwC hd.2.1 hr).2⟩
theorem Qxv {V N a e : Nat} {d : Dl} (h : QpR V N a d = .inl e) : e = 24 ∨ e = 12 := by
 unfold QpR at h
 split at h
 ·cases h; exact .inl rfl
 split at h
 ·split at h
  ·cases h; exact .inl rfl
  ·cases h
 ·cases hr : Qgs V N (a + 1) d.k1 with
  | inl e' => rw [hr] at h; cases h; exact QsK hr
  | inr w =>
   obtain ⟨l, n⟩ := w
   rw [hr] at h
   simp only at h
   split at h
   ·cases h; exact .inr rfl
   ·cases h
def drA (d : Dl) : Nat ⊕ (Nat × Nat) → AV
 | .inl e => .tup [.int .u32 0, .int .i64 0, dlA ⟨0, 0, 0, 0⟩, .int .i64 e]
 | .inr (v, nx) => .tup [.int .u32 v, .int .i64 nx, dlA (Xm d v), .int .i64 0]
def Qr3 (P : Prg) (f : Nat) : Prop := ∀ (N V a : Nat) (d : Dl), V < 2 ^ N → N ≤ 330000 → a ≤ 300000 → okD d → VC P f [bA N V, .int .i64 a, dlA d] (drA d (QpR V N a d))
theorem QxY {P : Prg} {f fC fD fG fR fL fl1 fll t0 t1 : Nat} (bd : Body P f 86 [.tmp 6, .tmp 7, .cell 8 t1, .tmp 9] (ZU fC fD fG fR fL t0 t1)) (hC : JF P fC) (hD : Qib P fD) (hG : Qlk P fG) (hR : Qr1 P fR)
  (bL : Body P fL 36 [] (XM fl1 fll)) (b1 : Body P fl1 58 [] Qu) (hL : QgR P fll) (ht : Zu P t1 = some (some 4)) : Qr3 P f := by
 intro N V a d hV hN ha hd
 refine Qv (by simp [isDL, JO, QqW, isD]) (by cases QpR V N a d <;> rfl) bd ?_
 have hd' := hd
 have hC' := hC N V hV hN
 have hD' := hD d hd
 have hgl := fun v nx (h : QpR V N a d = .inr (v, nx)) => Qxu hd h
 have hL1 : ∀ {ob : List Ob} {p : Nat} {v : Nat} {K : AV → List Ob → Prop}, ob[p]? = some ⟨t1, 4, 1, dlC d, 0⟩ → v < 4294967296 → K (.tup []) (ob.set p ⟨t1, 4, 1, dlC (Xm d v), 0⟩) → ACall P fL [.ref p 1 0, .int .u32 v] ob K :=
  fun hp hv hK => Qlb bL b1 hL hp hd hv hK
 rw [bA] at hC'
 obtain ⟨k0, k1, s0, s1⟩ := d
 obtain ⟨h1, h2, h3, h4⟩ := hd'
 simp only at h1 h2 h3 h4
 obtain ⟨pk, _⟩ := p24 h1
 have hG1 := hG N V a 1 hV hN (by omega) (by omega)
 rw [bA] at hG1
 simp only [dlA, dlC] at hD'
 unfold QpR at hgl ⊢
 by_cases hlt : N ≤ a
 ·rw [qh hlt]
  rw [qh (by omega)] at hG1
  simp (disch := omega) only [rq, simprocAttr, ZU, bA, drA, dlA, dlC]
  iterate 2 (refine Qa (by assumption) ?_; simp (disch := omega) only [rq, simprocAttr])
  refine Qa hG1 ?_
  simp (disch := omega) only [rq, simprocAttr, Q1, ht, QL]
 rw [qf hlt] at hgl ⊢
 rw [qf (by omega)] at hG1
 have hb : V / 2 ^ a % 2 < 2 := qM _ (by decide)
 rw [Nat.pow_one] at hG1
 by_cases h0 : V / 2 ^ a % 2 = 0
 ·rw [qh h0] at hgl ⊢
  rw [h0] at hG1
  simp only at hgl ⊢
  have hG2 : VC P fG [bA N V, .int .i64 ((a : Int) + 1), .int .i64 k0] (if N < a + 1 + k0 then .tup [.int .u64 0, .int .i64 24] else .tup [.int .u64 ((V / 2 ^ (a + 1) % 2 ^ k0 : Nat) : Int), .int .i64 0]) := hG N V (a + 1) k0 hV hN (by omega) (by omega)
  rw [bA] at hG2
  by_cases hs : N < a + 1 + k0
  ·rw [qh hs] at hG2 ⊢
   simp (disch := omega) only [rq, simprocAttr, ZU, bA, drA, dlA, dlC]
   iterate 3 (refine Qa (by assumption) ?_; simp (disch := omega) only [rq, simprocAttr])
   refine Qa hG2 ?_
   simp (disch := omega) only [rq, simprocAttr, Q1, ht, QL]
  ·rw [qf hs] at hG2 hgl ⊢
   have hx : V / 2 ^ (a + 1) % 2 ^ k0 < 2 ^ k0 := qM _ (qW (by omega))
   generalize V / 2 ^ (a + 1) % 2 ^ k0 = x at *
   simp (disch := omega) only [rq, simprocAttr, ZU, bA, drA, dlA, dlC]
   iterate 4 (refine Qa (by assumption) ?_; simp (disch := omega) only [rq, simprocAttr])
   refine hL1 (v := x) rfl (by omega) ?_
   generalize Xm ⟨k0, k1, s0, s1⟩ x = d'
   obtain ⟨l0, l1, l2, l3⟩ := d'
   simp (disch := omega) only [rq, simprocAttr, Q1, ht, QL, dlC]
 ·rw [qf h0] at hgl ⊢
  rw [show V / 2 ^ a % 2 = 1 by omega] at hG1
  have hR' : VC P fR [bA N V, .int .i64 ((a : Int) + 1), .int .i64 k1] (rcA (Qgs V N (a + 1) k1)) := hR N V (a + 1) k1 hV hN (by omega) h2
  rw [bA] at hR'
  simp only at hgl ⊢
  cases hr : Qgs V N (a + 1) k1 with
  | inl e =>
   have he := QsK hr
   rw [hr] at hR'
   have he0 : (e : Int) ≠ 0 := by omega
   simp (disch := omega) only [rq, simprocAttr, ZU, bA, drA, dlA, dlC]
   iterate 3 (refine Qa (by assumption) ?_; simp (disch := omega) only [rq, simprocAttr])
   refine Qa hR' ?_
   simp (disch := omega) only [rq, simprocAttr, rcA, Q1, ht, QL]
  | inr w =>
   obtain ⟨l, nx⟩ := w
   obtain ⟨r1, r2⟩ := QwC h2 hr
   rw [hr] at hR' hgl
   simp only at hgl ⊢
   have e2 : Qj true .u32 1 (k0 : Int) = some (.int .u32 ((2 ^ k0 : Nat) : Int)) := by
    have := Qvr (K := .u32) rfl (c := 1) (s := k0) (by show k0 ≤ 32; omega) (by show 1 * 2 ^ k0 < 4294967296; omega)
    rw [yG] at this
    exact this
   have hp0 : 0 < 2 ^ k0 := qW (by omega)
   generalize 2 ^ k0 = p at *
   by_cases ho : 4294967295 < l + p
   ·rw [qh ho]
    have e3 : IntKind.u32.wrap ((l : Int) + p) = (l : Int) + p - 4294967296 := by rw [Qaa]; omega
    simp (disch := omega) only [rq, simprocAttr, ZU, bA, drA, dlA, dlC]
    iterate 3 (refine Qa (by assumption) ?_; simp (disch := omega) only [rq, simprocAttr])
    refine Qa hR' ?_
    simp (disch := omega) only [rq, simprocAttr, rcA, e2, e3, Q1, ht, QL]
   ·rw [qf ho]
    simp (disch := omega) only [rq, simprocAttr, ZU, bA, drA, dlA, dlC]
    iterate 3 (refine Qa (by assumption) ?_; simp (disch := omega) only [rq, simprocAttr])
    refine Qa hR' ?_
    simp (disch := omega) only [rq, simprocAttr, rcA, e2]
    refine hL1 (v := l + p) rfl (by omega) ?_
    generalize Xm ⟨k0, k1, s0, s1⟩ (l + p) = d'
    obtain ⟨l0, l1, l2, l3⟩ := d'
    simp (disch := omega) only [rq, simprocAttr, Q1, ht, QL, dlC]
theorem Qn9 {P : Prg} {f t0 : Nat} (b : Body P f 8 [.tmp 2] (QW t0)) : XO P f := by
 exact Qjg b
theorem QDe (l : List UInt8) : nB (8 * l.length) = l.length := by unfold nB; omega
theorem QDI (l : List UInt8) : bA (8 * l.length) (leN l) = .agg [bs l, .int .i64 ((8 * l.length : Nat) : Int)] := by
 rw [bA, QDe, Qma]; rfl
theorem QBZ (l : List UInt8) : leN l < 2 ^ (8 * l.length) := QdD l
def ofA (l : List UInt8) : AV := if 41250 < l.length then .tup [bA 0 0, .int .i64 4] else .tup [bA (8 * l.length) (leN l), .int .i64 0]
def QCI (P : Prg) (f : Nat) : Prop := ∀ l : List UInt8, l.length ≤ 1000000 → VC P f [bs l] (ofA l)
theorem QCz {P : Prg} {f fC t0 : Nat} (bd : Body P f 14 [.cell 2 t0, .tmp 3] (Qek fC t0)) (hC : XO P fC) (ht : Zu P t0 = some (some 2)) : QCI P f := by
 intro l hl
 refine Qk 2 (by simp [isDL, QD]) (by unfold ofA; split <;> simp [isD, isDL, JO]) (Qb bd (by simp) ?_)
 have hC' := hC l (by omega)
 simp only [bs] at hC'
 unfold ofA
 by_cases h : 41250 < l.length
 ·rw [qh h]
  simp (disch := omega) only [rq, simprocAttr, Qek, bs, Q1, ht, QL]
  simp [QO, Qx, frzL, Qy, bA, nB, leB, u8]
 ·rw [qf h, QDI]
  simp (disch := omega) only [rq, simprocAttr, Qek, bs]
  refine Qa hC' ?_
  simp (disch := omega) only [rq, simprocAttr, Q1, ht, QL]
  simp [QO, Qx, frzL, Qy, frzL_T _ (QF _), bs]
def QCL (P : Prg) (f : Nat) : Prop := ∀ N V a b : Nat, V < 2 ^ N → N ≤ 330000 → a ≤ b → b ≤ N → VC P f [bA N V, .int .i64 a, .int .i64 b] (.tup [bA (b - a) (V / 2 ^ a % 2 ^ (b - a)), .int .i64 0])
set_option maxHeartbeats 1000000 in
theorem QAB {P : Prg} {f fC fG fP t0 tp : Nat} (bd : Body P f 46 [.cell 6 t0, .tmp 7] (Qfm fC fG fP t0)) (hC : JF P fC) (hG : Qtx P fG) (bP : Body P fP 75 [] (Qbi tp)) (ht : Zu P t0 = some (some 2)) : QCL P f := by
 intro N V a b hV hN hab hbN
 refine Qk 2 (by simp [isDL, JO, isD]) (by simp [isD, isDL, JO]) (Qb bd (by simp) ?_)
 have hC' := hC N V hV hN
 rw [bA] at hC'
 have tu : isTL (u8 (leB V (nB N))) = true := QF _
 simp (disch := omega) only [rq, simprocAttr, Qfm, bA]
 refine Qa hC' ?_
 simp (disch := omega) only [rq, simprocAttr]
 refine Qg (ι := Nat) (fun k => ⟨[(9, .int .i64 ((a + 64 * k : Nat) : Int)), (8, .ref 2 1 0), (7, .int .i64 0), (6, .ref 1 1 0), (3, .ref 0 1 0), (2, .int .i64 b)],
   [⟨t0, 2, 1, [.list (nB N) (u8 (leB V (nB N))), .int .i64 N], 0⟩, ⟨t0, 2, 1, [.own 3 0, .int .i64 0], 0⟩, bO t0 4 (min (64 * k) (b - a)), ⟨tp, 1, 0, [], 0⟩, bY tp (min (64 * k) (b - a)) (V / 2 ^ a % 2 ^ min (64 * k) (b - a))]⟩)
  (fun k => 64 * k < b - a + 64) (fun k => b - a + 64 - 64 * k) 0 ?_ (by omega) ?_
 ·refine Le.trans (Le.virtF 1 tp 1 (by decide) rfl rfl) ?_
  refine Le.trans (Le.virtF 2 tp 1 (by decide) rfl rfl) ?_
  simp only [qJ, yg, jG, jD, yc, qX, qe]
  rw [Yo, Nat.zero_min, jZ, Nat.mod_one]
  exact Ql
 intro k hk
 by_cases hlt : a + 64 * k < b
 ·obtain ⟨n, hn⟩ : ∃ n, n = min 64 (b - (a + 64 * k)) := ⟨_, rfl⟩
  have hm : min (64 * k) (b - a) = 64 * k := by omega
  have hG' := hG N V (a + 64 * k) n hV (by omega) (by omega) (by omega)
  rw [bA] at hG'
  have e1 : (if (b : Int) - ((a + 64 * k : Nat) : Int) < 64 then (b : Int) - ((a + 64 * k : Nat) : Int) else 64) = (n : Int) := by split <;> omega
  have hv : V / 2 ^ (a + 64 * k) % 2 ^ n < 2 ^ n := qM _ (qW (by omega))
  have hW : V / 2 ^ a % 2 ^ (64 * k) < 2 ^ (64 * k) := qM _ (qW (by omega))
  have hs := Qtc (X := V / 2 ^ a) (h := 64 * k) (t := n)
  rw [yT, ← q9, yd (V / 2 ^ (a + 64 * k) % 2 ^ n)] at hs
  rw [hm]
  generalize hvv : V / 2 ^ (a + 64 * k) % 2 ^ n = v at *
  generalize hWW : V / 2 ^ a % 2 ^ (64 * k) = W at *
  obtain ⟨s, hs0⟩ : ∃ s, s = a + 64 * k := ⟨_, rfl⟩
  rw [← hs0] at hG' e1 ⊢
  simp (disch := omega) only [rq, simprocAttr, e1]
  refine Qa hG' ?_
  simp (disch := omega) only [rq, simprocAttr]
  refine Qts bP (ob := [⟨t0, 2, 1, [.list (nB N) (u8 (leB V (nB N))), .int .i64 N], 0⟩, ⟨t0, 2, 1, [.own 3 0, .int .i64 0], 0⟩, bO t0 4 (64 * k), ⟨tp, 1, 0, [], 0⟩, bY tp (64 * k) W]) (p := 2) (o := 4) (t := t0) rfl rfl (by decide) hW hv (by omega) (by omega) ?_ ?_
  ·refine Low.cons ?_ (Low.cons ?_ (Low.cons ?_ (Low.cons ?_ (Low.cons ?_ Low.nil)))) <;> simp [bO, bY, lowL, JG, lowL_D _ (QaD _ _)]
  ·simp only [Zn, jG, jD]
   rw [← hs]
   have hm2 : min (64 * (k + 1)) (b - a) = 64 * k + n := by omega
   simp (disch := omega) only [rq, simprocAttr]
   refine ⟨k + 1, by omega, by omega, ?_⟩
   rw [hm2]
   exact Qm (by simp [Am.look, hs0]; omega)
 ·have hm : min (64 * k) (b - a) = b - a := by omega
  rw [hm]
  generalize V / 2 ^ a % 2 ^ (b - a) = W at *
  obtain ⟨s, hs0⟩ : ∃ s, s = a + 64 * k := ⟨_, rfl⟩
  rw [← hs0]
  simp (disch := omega) only [rq, simprocAttr, bO, bY, Q1, ht, QL]
  simp [QO, Qx, frzL, Qy, frzL_T _ (QF _)]
def Zf (c r : Nat) (v : List Nat) : Dl := ((List.range v.length).filter fun j => j % c == r).foldl (fun d j => Xm d (v.getD j 0)) Qz
theorem QfZ {c r x : Nat} {v : List Nat} : Zf c r (v ++ [x]) = if v.length % c = r then Xm (Zf c r v) x else Zf c r v := by
 have h1 : ∀ (l : List Nat) (d : Dl), (∀ j ∈ l, j < v.length) → l.foldl (fun d j => Xm d ((v ++ [x]).getD j 0)) d = l.foldl (fun d j => Xm d (v.getD j 0)) d := by
  intro l
  induction l with
  | nil => intro d _; rfl
  | cons a l ih =>
   intro d h
   simp only [Yd]
   have ha : a < v.length := h a (by simp)
   rw [ih _ fun j hj => h j (by simp [hj])]
   congr 2
   rw [qd, qd, qp ha]
 unfold Zf
 rw [qe, qJ, yg, yB, Yj, List.filter_append, List.foldl_append]
 have hf := h1 ((List.range v.length).filter fun j => j % c == r) Qz (fun j hj => by
  have := (jf.1 hj).1
  simpa using this)
 rw [hf]
 have hx : (v ++ [x]).getD v.length 0 = x := by simp [qd]
 by_cases h : v.length % c = r
 ·rw [qh h]
  have : (List.filter (fun j => j % c == r) [v.length]) = [v.length] := by simp [h]
  rw [this]
  simp only [Yd, List.foldl_nil]
  rw [hx]
 ·rw [qf h]
  have : (List.filter (fun j => j % c == r) [v.length]) = [] := by simp [h]
  rw [this]
  rfl
def N32 (v : List Nat) : Prop := ∀ x ∈ v, x < 4294967296
theorem Qjc {c r : Nat} {v : List Nat} (h : N32 v) : okD (Zf c r v) := by
 unfold Zf
 have key : ∀ (l : List Nat) (d : Dl), okD d → (∀ j ∈ l, j < v.length) → okD (l.foldl (fun d j => Xm d (v.getD j 0)) d) := by
  intro l
  induction l with
  | nil => intro d h _; exact h
  | cons a l ih =>
   intro d hd hl
   have ha : a < v.length := hl a (by simp)
   refine ih _ (QzN hd ?_) fun j hj => hl j (by simp [hj])
   rw [qd, qc ha]
   exact h _ (ye ha)
 exact key _ _ Qzd fun j hj => by
  have := (jf.1 hj).1
  simpa using this
def QkS (N a : Nat) : Nat := min (a + 81) N - a
def QwR (V N a : Nat) : Nat := V / 2 ^ a % 2 ^ QkS N a
def QbI (V N c : Nat) : Nat → List Nat → Nat → (Nat × List Nat) ⊕ (List Nat × Nat)
 | 0, out, a => .inr (out, a)
 | k + 1, out, a =>
  match QpR (QwR V N a) (QkS N a) 0 (Zf c (out.length % c) out) with
  | .inl e => .inl (e, out)
  | .inr (v, nx) => QbI V N c k (out ++ [v]) (a + nx)
theorem QBP (V N a : Nat) : QwR V N a < 2 ^ QkS N a := qM _ (qW (by omega))
def QiN (V N a : Nat) : Nat := if 7 < N - a then 12 else if V / 2 ^ a = 0 then 0 else 12
theorem Qft {V N c : Nat} : ∀ (k : Nat) (out : List Nat) (a : Nat), a ≤ N → N32 out → (∀ e o, QbI V N c k out a = .inl (e, o) → (e = 24 ∨ e = 12) ∧ N32 o ∧ o.length ≤ out.length + k) ∧ (∀ o b, QbI V N c k out a = .inr (o, b) → N32 o ∧ b ≤ N ∧ o.length = out.length + k)
 | 0, out, a, ha, ho => by
  refine ⟨fun e o h => (by simp only [QbI] at h; cases h), fun o b h => ?_⟩
  simp only [QbI] at h
  cases h
  exact ⟨ho, ha, rfl⟩
 | k + 1, out, a, ha, ho => by
  have hd := Qjc (c := c) (r := out.length % c) ho
  cases hg : QpR (QwR V N a) (QkS N a) 0 (Zf c (out.length % c) out) with
  | inl e =>
   have he := Qxv hg
   simp only [QbI, hg]
   refine ⟨fun e' o h => ?_, fun o b h => (by cases h)⟩
   cases h
   exact ⟨he, ho, by omega⟩
  | inr p =>
   obtain ⟨v, nx⟩ := p
   obtain ⟨h1, h2⟩ := Qxu hd hg
   have hp : QkS N a ≤ N - a := by unfold QkS; omega
   have ho' : N32 (out ++ [v]) := fun x hx => by
    rcases qV.1 hx with h | h
    ·exact ho x h
    ·simp at h; subst h; exact h1
   obtain ⟨r1, r2⟩ := Qft (V := V) (N := N) (c := c) k (out ++ [v]) (a + nx) (by omega) ho'
   simp only [QbI, hg]
   refine ⟨fun e o h => ?_, fun o b h => ?_⟩
   ·obtain ⟨q1, q2, q3⟩ := r1 e o h
    refine ⟨q1, q2, ?_⟩
    rw [qe, qJ, yg] at q3
    omega
   ·obtain ⟨q1, q2, q3⟩ := r2 o b h
    refine ⟨q1, q2, ?_⟩
    rw [qe, qJ, yg] at q3
    omega
def Qbm (p : List UInt8) : Nat := 4294967295 - Qvv 4294967295 p
def Qeq (b : List UInt8) : Nat := if b.length < 5 then 24 else if 41254 < b.length then 4 else if leN (b.drop (b.length - 4)) = Qbm (b.take (b.length - 4)) then 0 else 22
def QDf (v : List Nat) : AV := QkM (v.map fun n : Nat => (n : Int))
theorem Qz0 (v : List Nat) : isD (QDf v) = true := by simp [QDf, QkM, isD, Zc]
theorem Qqi (p : List UInt8) : Qbm p < 4294967296 := by unfold Qbm; omega
def opA (b : List UInt8) : AV := if Qeq b = 0 then .tup [bs (b.take (b.length - 4)), .int .i64 0] else .tup [.list 0 [], .int .i64 (Qeq b : Nat)]
def Qnc (P : Prg) (f : Nat) : Prop := ∀ b : List UInt8, b.length ≤ 1000000 → VC P f [bs b] (opA b)
theorem Qkk {P : Prg} {f fS fV : Nat} (bd : Body P f 46 [.tmp 2, .tmp 3] (Zr fS fV)) (hS : Qhj P fS) (hV : Qel P fV) : Qnc P f := by
 intro b hb
 refine Qk 1 (by simp [isDL, QD]) (by unfold opA; split <;> simp [isD, isDL, QD]) (Qb bd (by simp) ?_)
 unfold opA Qeq
 by_cases h1 : b.length < 5
 ·simp only [h1, qO]
  simp (disch := omega) only [rq, simprocAttr, Zr, bs]
  simp [QO, Qx, frzL, Qy]
 simp only [h1, qI]
 by_cases h2 : 41254 < b.length
 ·simp only [h2, qO]
  simp (disch := omega) only [rq, simprocAttr, Zr, bs]
  simp [QO, Qx, frzL, Qy]
 simp only [h2, qI]
 have hS' := hS (b.take (b.length - 4))
 rw [qf (by simp; omega), ← Qbm] at hS'
 have hl1 : (b.take (b.length - 4)).length = b.length - 4 := by simp
 have hl2 : (b.drop (b.length - 4)).length = 4 := by simp; omega
 have hs := Qqi (b.take (b.length - 4))
 have hV' := hV (b.drop (b.length - 4)) (by omega) (by omega)
 have tk : (u8 b).take (b.length - 4) = u8 (b.take (b.length - 4)) := by simp [u8, jx]
 have dk : (u8 b).drop (b.length - 4) = u8 (b.drop (b.length - 4)) := by simp [u8, jC]
 simp only [bs, hl1, hl2] at hS' hV'
 have hq : leN (b.drop (b.length - 4)) < 4294967296 := by
  have := QdD (b.drop (b.length - 4))
  rw [hl2] at this
  exact this
 have hpl : (u8 (b.take (b.length - 4))).length = b.length - 4 := by rw [Qr, hl1]
 have hql : (u8 (b.drop (b.length - 4))).length = 4 := by rw [Qr, hl2]
 have tq : (u8 (b.drop (b.length - 4))).take 4 = u8 (b.drop (b.length - 4)) := qg (by omega)
 generalize b.take (b.length - 4) = p at *
 generalize b.drop (b.length - 4) = q at *
 generalize Qbm p = s at *
 generalize leN q = w at *
 have n4 : b.length - (b.length - 4) = 4 := by omega
 have n5 : b.length - 4 - 0 = b.length - 4 := by omega
 have n6 : min (b.length - 4) b.length = b.length - 4 := by omega
 have tp : isTL (u8 p) = true := QF _
 by_cases h3 : w = s
 ·subst h3
  simp only [qO]
  simp (disch := omega) only [rq, simprocAttr, Zr, bs, tk, dk, n4, n5, tq]
  refine Qa hS' ?_
  simp (disch := omega) only [rq, simprocAttr, tk, dk, n4, n5, tq]
  refine Qa hV' ?_
  simp (disch := omega) only [rq, simprocAttr, tk, dk, n4, n5, tq]
  simp [QO, Qx, frzL, Qy, frzL_T _ tp, bs, hl1]
  try omega
 ·simp only [h3, qI]
  simp (disch := omega) only [rq, simprocAttr, Zr, bs, tk, dk, n4, n5, tq]
  refine Qa hS' ?_
  simp (disch := omega) only [rq, simprocAttr, tk, dk, n4, n5, tq]
  refine Qa hV' ?_
  simp (disch := omega) only [rq, simprocAttr, tk, dk, n4, n5, tq]
  simp [QO, Qx, frzL, Qy]
def Qda (F : Nat → Dl) : List AV := dlC (F 0) ++ dlC (F 1) ++ dlC (F 2) ++ dlC (F 3) ++ dlC (F 4) ++ dlC (F 5)
theorem QoB (F : Nat → Dl) : isTL (Qda F) = true := rfl
theorem Qcr (F : Nat → Dl) : (Qda F).length = 24 := rfl
theorem QsH (F : Nat → Dl) {j : Nat} (h : j < 6) : ∃ r, (Qda F).drop (j * 4) = .int .i64 (F j).k0 :: .int .i64 (F j).k1 :: .int .u64 (F j).s0 :: .int .u64 (F j).s1 :: r := by
 rcases (by omega : j = 0 ∨ j = 1 ∨ j = 2 ∨ j = 3 ∨ j = 4 ∨ j = 5) with rfl | rfl | rfl | rfl | rfl | rfl <;> exact ⟨_, rfl⟩
def Qy6 (F : Nat → Dl) (j : Nat) (d : Dl) : Nat → Dl := fun i => if i = j then d else F i
theorem QhR (F : Nat → Dl) {j : Nat} (h : j < 6) (d : Dl) : (Qda F).take (j * 4) ++ [.int .i64 d.k0, .int .i64 d.k1, .int .u64 d.s0, .int .u64 d.s1] ++ (Qda F).drop (j * 4 + 4) = Qda (Qy6 F j d) := by
 rcases (by omega : j = 0 ∨ j = 1 ∨ j = 2 ∨ j = 3 ∨ j = 4 ∨ j = 5) with rfl | rfl | rfl | rfl | rfl | rfl <;> rfl
def vlA : (Nat × List Nat) ⊕ (List Nat × Nat) → AV
 | .inl (e, _) => .tup [.list 0 [], .int .i64 0, .int .i64 e]
 | .inr (o, a) => .tup [QDf o, .int .i64 a, .int .i64 0]
def Qr2 (P : Prg) (f : Nat) : Prop := ∀ N V c n : Nat, V < 2 ^ N → N ≤ 330000 → 1 ≤ c → c ≤ 6 → n * c ≤ 4000 → VC P f [.int .i64 c, .int .i64 n, bA N V] (vlA (QbI V N c (n * c) [] 0))
set_option maxHeartbeats 2000000 in
theorem Qkj {P : Prg} {f fS fC fR t0 t1 t2 t3 : Nat} (bd : Body P f 76 [.tmp 6, .tmp 7, .tmp 8] (J0 fS fC fR t0 t1 t2 t3)) (hS : QgQ P fS) (hC : QCL P fC) (hR : Qr3 P fR) : Qr2 P f := by
 intro N V c n hV hN hc hc6 hnc
 refine Qk 1 (by simp [isDL, JO, isD]) (by unfold vlA; split <;> simp [isD, isDL, Qz0]) (Qb bd (by simp) ?_)
 simp only [QgQ, Qz, dlA, dlC] at hS
 have hn4 : n ≤ 4000 := by
  have : n * 1 ≤ n * c := yt _ hc
  omega
 have tu : isTL (u8 (leB V (nB N))) = true := QF _
 obtain ⟨T, hT⟩ : ∃ T, T = n * c := ⟨_, rfl⟩
 obtain ⟨R, hR0⟩ : ∃ R, R = QbI V N c (n * c) [] 0 := ⟨_, rfl⟩
 have eT : (n : Int) * c = (T : Int) := by rw [hT]; simp
 rw [← hR0]
 simp (disch := omega) only [rq, simprocAttr, J0, bA]
 refine Qg (ι := Nat) (fun i => ⟨[(19, .int .i64 i), (9, .ref 1 1 0), (8, .int .i64 0), (7, .int .i64 0), (6, .emp true), (5, .ref 0 1 0), (0, .int .i64 c), (1, .int .i64 n)],
   [⟨t0, 2, 1, [.list (nB N) (u8 (leB V (nB N))), .int .i64 N], 0⟩, ⟨t1, 24, 1, Qda (fun j => if j < i then Qz else ⟨0, 0, 0, 0⟩), 0⟩]⟩) (fun i => i ≤ 6) (fun i => 6 - i) 0 (Ql) (by omega) ?_
 intro i hi
 by_cases hlt : i < 6
 ·have e1 := QhR (fun j => if j < i then Qz else ⟨0, 0, 0, 0⟩) hlt Qz
  have e2 : Qy6 (fun j => if j < i then Qz else ⟨0, 0, 0, 0⟩) i Qz = fun j => if j < i + 1 then Qz else ⟨0, 0, 0, 0⟩ := by
   funext j
   unfold Qy6
   by_cases h1 : j = i
   ·subst h1; simp
   ·by_cases h2 : j < i
    ·simp [h1, h2, show j < i + 1 by omega]
    ·simp [h1, h2, show ¬ j < i + 1 by omega]
  rw [e2] at e1
  have e3 := Qcr (fun j => if j < i then Qz else ⟨0, 0, 0, 0⟩)
  simp (disch := omega) only [rq, simprocAttr]
  refine Qa hS ?_
  generalize hF : Qda (fun j => if j < i then Qz else ⟨0, 0, 0, 0⟩) = F at *
  have e1' : F.take (i * 4) ++ [.int .i64 10, .int .i64 10, .int .u64 16384, .int .u64 16384] ++ F.drop (i * 4 + 4) = Qda fun j => if j < i + 1 then Qz else ⟨0, 0, 0, 0⟩ := e1
  simp (disch := omega) only [rq, simprocAttr, e3]
  refine ⟨i + 1, by omega, by omega, ?_⟩
  rw [e1']
  exact Ql
 obtain rfl : i = 6 := by omega
 have hk0 : ∀ o : List Nat, (ks .u32 (o.map fun n : Nat => (n : Int))).length = o.length := fun o => by simp [ks]
 simp (disch := omega) only [rq, simprocAttr, eT]
 refine Qg (ι := Nat × List Nat × Nat) (fun s => ⟨[(29, .int .i64 s.1), (28, .int .i64 T), (12, .int .i64 s.2.2), (11, .own 2 s.2.1.length), (9, .ref 1 1 0), (5, .ref 0 1 0), (0, .int .i64 c)],
   [⟨t0, 2, 1, [.list (nB N) (u8 (leB V (nB N))), .int .i64 N], 0⟩, ⟨t1, 24, 1, Qda (fun j => if j < c then Zf c j s.2.1 else Qz), 0⟩, ⟨t3, 1, s.2.1.length, ks .u32 (s.2.1.map fun n : Nat => (n : Int)), 0⟩]⟩)
  (fun s => s.1 ≤ T ∧ s.2.1.length = s.1 ∧ s.2.2 ≤ N ∧ N32 s.2.1 ∧ QbI V N c (T - s.1) s.2.1 s.2.2 = R) (fun s => T - s.1) (0, [], 0) ?_ ⟨jt _, rfl, jt _, fun x hx => (by simp at hx), (by rw [hR0, hT]; rfl)⟩ ?_
 ·have z1 : Qda (fun j => if j < 6 then Qz else ⟨0, 0, 0, 0⟩) = Qda (fun _ => Qz) := rfl
  have z2 : (fun j => if j < c then Zf c j [] else Qz) = fun _ => Qz := by
   funext j
   split <;> rfl
  simp only [z2]
  rw [z1]
  exact Le.trans (XU 11 t3 1 (by decide) rfl) (Ql)
 rintro ⟨k, out, a⟩ ⟨h1, h2, h3, h4, h5⟩
 simp only at h1 h2 h3 h4 h5 ⊢
 by_cases hlt : k < T
 ·obtain ⟨r, hr⟩ : ∃ r, r = k % c := ⟨_, rfl⟩
  have hrc : r < c := by rw [hr]; exact qM _ (by omega)
  have e1 : (k : Int) % c = (r : Int) := by rw [hr]; simp [Yv]
  have e1' : ((k : Int)).tmod (c : Int) = (r : Int) := by rw [yO (by omega), e1]
  have hc0 : (c : Int) ≠ 0 := by omega
  obtain ⟨b, hb⟩ : ∃ b, b = min (a + 81) N := ⟨_, rfl⟩
  have e2 : (if (N : Int) < (a : Int) + 81 then (N : Int) else (a : Int) + 81) = (b : Int) := by split <;> omega
  have hpn : b - a = QkS N a := by rw [hb]; rfl
  have hC' : VC P fC [bA N V, .int .i64 a, .int .i64 b] (.tup [bA (QkS N a) (QwR V N a), .int .i64 0]) := by
   have := hC N V a b hV hN (by omega) (by omega)
   rw [hpn] at this
   exact this
  have hpl : QkS N a ≤ 81 := by unfold QkS; omega
  have hd := Qjc (c := c) (r := r) h4
  have hR' := hR (QkS N a) (QwR V N a) 0 (Zf c r out) (QBP V N a) (by omega) (by omega) hd
  have hF : (fun j => if j < c then Zf c j out else Qz) r = Zf c r out := by simp [hrc]
  obtain ⟨rest, hg⟩ := QsH (fun j => if j < c then Zf c j out else Qz) (j := r) (by omega)
  simp only [hrc, qO] at hg
  have hst := fun d => QhR (fun j => if j < c then Zf c j out else Qz) (j := r) (by omega) d
  have hln := Qcr (fun j => if j < c then Zf c j out else Qz)
  have hupd : ∀ v : Nat, Qy6 (fun j => if j < c then Zf c j out else Qz) r (Xm (Zf c r out) v) = fun j => if j < c then Zf c j (out ++ [v]) else Qz := by
   intro v
   funext j
   unfold Qy6
   by_cases hj : j = r
   ·subst hj
    rw [qh rfl, qh hrc, QfZ, qh (by rw [h2, hr])]
   ·rw [qf hj]
    by_cases hjc : j < c
    ·simp only [hjc, qO]
     rw [QfZ, qf (by rw [h2, ← hr]; exact fun e => hj e.symm)]
    ·simp only [hjc, qI]
  have hkT : T - k = (T - k - 1) + 1 := by omega
  rw [hkT, QbI, h2, ← hr] at h5
  have hgl := fun v nx (h : QpR (QwR V N a) (QkS N a) 0 (Zf c r out) = .inr (v, nx)) => Qxu hd h
  have hge := fun e (h : QpR (QwR V N a) (QkS N a) 0 (Zf c r out) = .inl e) => Qxv h
  have hpN : QkS N a ≤ N - a := by unfold QkS; omega
  simp only [bA] at hC' hR'
  have hk1 := hk0 out
  have tk : isTL (ks .u32 (out.map fun n : Nat => (n : Int))) = true := Qq _ _
  cases hgm : QpR (QwR V N a) (QkS N a) 0 (Zf c r out) with
  | inl e =>
   have he := hge e hgm
   rw [hgm] at hR' h5
   simp only at h5
   have he0 : (e : Int) ≠ 0 := by omega
   rw [← h5, vlA]
   generalize Qda (fun j => if j < c then Zf c j out else Qz) = F at *
   generalize Zf c r out = d at *
   obtain ⟨d0, d1, d2, d3⟩ := d
   simp only [dlA, dlC, drA] at hR'
   simp only at hg
   simp (disch := omega) only [rq, simprocAttr, e2]
   refine Qa hC' ?_
   simp (disch := omega) only [rq, simprocAttr, e1, e1', hc0, hg, hln]
   refine QX hR' ?_
   simp (disch := omega) only [rq, simprocAttr]
   simp [QO, Qx, frzL, Qy]
  | inr w =>
   obtain ⟨v, nx⟩ := w
   obtain ⟨v1, v2⟩ := hgl v nx hgm
   rw [hgm] at hR' h5
   simp only at h5
   have hset := hst (Xm (Zf c r out) v)
   rw [hupd v] at hset
   generalize hFF : Qda (fun j => if j < c then Zf c j out else Qz) = F at *
   generalize Zf c r out = d at *
   obtain ⟨d0, d1, d2, d3⟩ := d
   simp only [drA] at hR'
   generalize Xm ⟨d0, d1, d2, d3⟩ v = d' at *
   obtain ⟨m0, m1, m2, m3⟩ := d'
   simp only [dlA, dlC] at hR'
   simp only at hg hset
   simp (disch := omega) only [rq, simprocAttr, e2]
   refine Qa hC' ?_
   simp (disch := omega) only [rq, simprocAttr, e1, e1', hc0, hg, hln]
   refine QX hR' ?_
   simp (disch := omega) only [rq, simprocAttr, e1, e1', hc0, hg, hln, hk1, h2]
   have hap : ks .u32 (out.map fun n : Nat => (n : Int)) ++ [.int .u32 (v : Int)] = ks .u32 ((out ++ [v]).map fun n : Nat => (n : Int)) := by simp [ks]
   have hol : (out ++ [v]).length = k + 1 := by simp [h2]
   refine ⟨(k + 1, out ++ [v], a + nx), ⟨by omega, hol, by simp only; omega, fun x hx => ?_, ?_⟩, by simp only; omega, ?_⟩
   ·rcases qV.1 hx with h | h
    ·exact h4 x h
    ·simp at h; subst h; exact v1
   ·simp only
    rw [show T - (k + 1) = T - k - 1 by omega]
    exact h5
   ·simp only [hol]
    rw [hset, hap]
    exact Je [_, _, _] (by simp [QoB, Qq, isTL, isT, QF]) (by simp [Am.look, Qx, frzL, Qy])
 ·obtain rfl : k = T := by omega
  rw [Yr, QbI] at h5
  rw [← h5, vlA, QDf, QkM, je]
  simp (disch := omega) only [rq, simprocAttr]
  simp [QO, Qx, frzL, Qy, frzL_T _ (Qq _ _)]
def iL (o : List Nat) : List Int := o.map fun n : Nat => (n : Int)
def QCo (V N c : Nat) (x : Int) (t : List Int) (w : (Nat × List Nat) ⊕ (List Nat × Nat)) : AV :=
 match w with
 | .inl (e, _) => erA e
 | .inr (o, a) => if QiN V N a ≠ 0 then erA 12 else Qvs x (unB c x t (iL o))
def Qvu (c x : Int) (t : List Int) (n : Int) (b : List UInt8) : AV :=
 if X2 c x n ≠ 0 then erA 2 else if Qeq b ≠ 0 then erA (Qeq b : Nat) else
  QCo (leN (b.take (b.length - 4))) (8 * (b.take (b.length - 4)).length) c.toNat x t (QbI (leN (b.take (b.length - 4))) (8 * (b.take (b.length - 4)).length) c.toNat (n.toNat * c.toNat) [] 0)
theorem Qz3 (V N c : Nat) (x : Int) (t : List Int) (w : (Nat × List Nat) ⊕ (List Nat × Nat)) : isD (QCo V N c x t w) = true := by
 unfold QCo
 split
 ·rfl
 ·split
  ·rfl
  ·exact Qxn _ _
theorem Qz4 (c x : Int) (t : List Int) (n : Int) (b : List UInt8) : isD (Qvu c x t n b) = true := by
 unfold Qvu
 split
 ·rfl
 split
 ·rfl
 ·exact Qz3 _ _ _ _ _ _
theorem Qjv {c x n : Int} (h : X2 c x n = 0) : Zz c x = 0 ∧ ∃ c' n' : Nat, c = c' ∧ n = n' ∧ 1 ≤ c' ∧ c' ≤ 6 ∧ 1 ≤ n' ∧ n' * c' ≤ 4000 ∧ Z5 x ≠ 0 := by
 unfold X2 at h
 rcases Zd c x with h1 | ⟨h1, h2, h3, h4⟩
 ·rw [qh (by omega)] at h; omega
 ·rw [qf (by omega)] at h
  split at h
  ·omega
  split at h
  ·omega
  rename_i h5 h6
  refine ⟨h1, c.toNat, n.toNat, by omega, by omega, by omega, by omega, by omega, ?_, h2⟩
  have h7 : n.toNat ≤ 4000 / c.toNat := by
   have : ((4000 / c.toNat : Nat) : Int) = 4000 / c := by rw [yC, Int.toNat_of_nonneg (by omega)]; rfl
   omega
  exact (Nat.le_div_iff_mul_le (by omega)).1 h7
theorem QAS {V N c n : Nat} {o : List Nat} {a : Nat} (hc : 1 ≤ c) (hc6 : c ≤ 6) (hn : 1 ≤ n) (hnc : n * c ≤ 4000) (h : QbI V N c (n * c) [] 0 = .inr (o, a)) : okV c (iL o) ∧ a ≤ N ∧ o.length = n * c := by
 obtain ⟨_, h2⟩ := Qft (V := V) (N := N) (c := c) (n * c) [] 0 (jt _) (fun x hx => by simp at hx)
 obtain ⟨q1, q2, q3⟩ := h2 o a h
 rw [yg, yB] at q3
 have hpos : 0 < n * c := j0 hn hc
 refine ⟨⟨hc, hc6, by simp [iL]; omega, by simp [iL]; omega, by simp [iL, q3], fun x hx => ?_⟩, q2, q3⟩
 simp only [iL, qU] at hx
 obtain ⟨y, hy, rfl⟩ := hx
 have := q1 y hy
 omega
def Qh9 (P : Prg) (f : Nat) : Prop := ∀ (c x n : Int) (t : List Int) (b : List UInt8), t.length = 16 → I32 t → b.length ≤ 1000000 → VC P f [shA c x, .agg (ks .i32 t), .int .i64 n, bs b] (Qvu c x t n b)
set_option maxHeartbeats 2000000 in
theorem Qkl {P : Prg} {f fE fO fF fV fG fS t0 t1 t2 : Nat} (bd : Body P f 87 [.tmp 8, .tmp 9] (QK fE fO fF fV fG fS t0 t1 t2)) (hE0 : QaP P fE) (hO : Qnc P fO) (hF : QCI P fF) (hV : Qr2 P fV) (hG : Qlk P fG) (hS : QyJ P fS) : Qh9 P f := by
 intro c x n t b ht hI hb
 refine Qk 1 (by simp [isDL, QD, Zc, isD, shA]) (Qz4 _ _ _ _ _) (Qb bd (by simp) ?_)
 have hE' := hE0 c x
 have hO' := hO b hb
 have hk : (ks .i32 t).length = 16 := by simp [Qh, ht]
 have tt : (ks .i32 t).take 16 = ks .i32 t := QG (by omega)
 have ot := Jt .i32 t
 rw [shA] at hE'
 simp only [bs] at hO'
 unfold Qvu
 rcases Zd c x with g1 | ⟨g1, g2, g3, g4⟩
 ·have h1 : X2 c x n = 2 := by unfold X2; rw [qh (by omega)]
  rw [g1] at hE'
  rw [qh (by omega), erA]
  simp (disch := omega) only [rq, simprocAttr, QK, shA, bs, hk, tt, ot]
  refine Qa hE' ?_
  simp (disch := omega) only [rq, simprocAttr]
  simp [QO, Qx, frzL, Qy]
 rw [g1] at hE'
 have ed : ((4000 : Int)).tdiv c = 4000 / c := qK (by omega)
 have hc0 : c ≠ 0 := by omega
 have hd1 : 4000 / c ≤ 4000 := by
  have := js c (show (0 : Int) ≤ 4000 by omega)
  exact this
 have hd0 : 0 ≤ 4000 / c := jM (by omega) (by omega)
 by_cases h1 : X2 c x n = 0
 case neg =>
  rw [qh h1, erA]
  have h1' : n < 1 ∨ 4000 / c < n := by
   unfold X2 at h1
   rw [qf (by omega)] at h1
   split at h1
   ·exact .inl (by assumption)
   split at h1
   ·exact .inr (by assumption)
   ·omega
  obtain ⟨q, hq⟩ : ∃ q, q = 4000 / c := ⟨_, rfl⟩
  rw [← hq] at hd0 hd1 h1' ed
  have ed2 : (4000 : Int) / c = q := hq.symm
  clear hq
  by_cases h1'' : n < 1
  ·simp (disch := omega) only [rq, simprocAttr, QK, shA, bs, hk, tt, ot]
   refine Qa hE' ?_
   simp (disch := omega) only [rq, simprocAttr]
   simp [QO, Qx, frzL, Qy]
  ·have h1''' : q < n := by omega
   simp (disch := omega) only [rq, simprocAttr, QK, shA, bs, hk, tt, ot]
   refine Qa hE' ?_
   simp (disch := omega) only [rq, simprocAttr, ed, ed2, hc0]
   simp [QO, Qx, frzL, Qy]
 rw [qf (by omega)]
 obtain ⟨_, c', n', rfl, rfl, q1, q2, q3, q4, q5⟩ := Qjv h1
 have hnq : (n' : Int) ≤ 4000 / (c' : Int) := by
  unfold X2 at h1
  rw [qf (by omega)] at h1
  split at h1
  ·omega
  split at h1
  ·omega
  ·omega
 obtain ⟨q, hq⟩ : ∃ q, q = (4000 : Int) / (c' : Int) := ⟨_, rfl⟩
 rw [← hq] at hd0 hd1 hnq ed
 have ed2 : (4000 : Int) / (c' : Int) = q := hq.symm
 clear hq
 by_cases h2 : Qeq b = 0
 case neg =>
  have h2' : ((Qeq b : Nat) : Int) ≠ 0 := by omega
  rw [opA, qf h2] at hO'
  rw [qh h2, erA]
  generalize Qeq b = m at *
  simp (disch := omega) only [rq, simprocAttr, QK, shA, bs, hk, tt, ot]
  refine Qa hE' ?_
  simp (disch := omega) only [rq, simprocAttr, ed, ed2, hc0]
  refine Qa hO' ?_
  simp (disch := omega) only [rq, simprocAttr]
  simp [QO, Qx, frzL, Qy]
 rw [qf (by omega)]
 have hbl : 5 ≤ b.length ∧ b.length ≤ 41254 := by
  unfold Qeq at h2
  split at h2
  ·omega
  split at h2
  ·omega
  ·omega
 rw [opA, qh h2] at hO'
 have hpl : (b.take (b.length - 4)).length = b.length - 4 := by simp
 have hF' := hF (b.take (b.length - 4)) (by omega)
 have hVlt := QBZ (b.take (b.length - 4))
 have hbA := QDI (b.take (b.length - 4))
 rw [ofA, qf (by omega), hbA] at hF'
 simp only [qm]
 have hV' := hV (8 * (b.take (b.length - 4)).length) (leN (b.take (b.length - 4))) c' n' hVlt (by omega) q1 q2 q4
 have hG0 := fun a m => hG (8 * (b.take (b.length - 4)).length) (leN (b.take (b.length - 4))) a m hVlt (by omega)
 rw [hbA] at hV'
 simp only [hbA] at hG0
 simp only [bs, hpl] at hF' hV' hG0 hO' hVlt ⊢
 have hNN : 8 * (b.length - 4) ≤ 330000 := by omega
 generalize hp : b.take (b.length - 4) = p at *
 generalize leN p = V at *
 obtain ⟨N, hN⟩ : ∃ N, N = 8 * (b.length - 4) := ⟨_, rfl⟩
 rw [← hN] at hF' hV' hG0 hVlt hNN ⊢
 have hokv := fun o a (h : QbI V N c' (n' * c') [] 0 = .inr (o, a)) => QAS q1 q2 q3 q4 h
 have hspec := Qft (V := V) (N := N) (c := c') (n' * c') [] 0 (jt _) (fun x hx => by simp at hx)
 cases hw : QbI V N c' (n' * c') [] 0 with
 | inl w =>
  obtain ⟨e, o⟩ := w
  have he := (hspec.1 e o hw).1
  have he0 : (e : Int) ≠ 0 := by omega
  rw [hw, vlA] at hV'
  simp only [QCo, erA]
  simp (disch := omega) only [rq, simprocAttr, QK, shA, bs, hk, tt, ot]
  refine Qa hE' ?_
  simp (disch := omega) only [rq, simprocAttr, ed, ed2, hc0]
  iterate 3 (refine Qa (by assumption) ?_; simp (disch := omega) only [rq, simprocAttr])
  simp [QO, Qx, frzL, Qy]
 | inr w =>
  obtain ⟨o, a⟩ := w
  obtain ⟨hv, ha, hol⟩ := hokv o a hw
  rw [hw, vlA, QDf, QkM, je] at hV'
  simp only [QCo]
  have hS' := hS c' x t (iL o) ht hI hv q5
  rw [shA, QkM, iL, je] at hS'
  by_cases h8 : 7 < N - a
  ·have h12 : QiN V N a = 12 := by unfold QiN; rw [qh h8]
   rw [h12, qh (by omega), erA]
   simp (disch := omega) only [rq, simprocAttr, QK, shA, bs, hk, tt, ot]
   refine Qa hE' ?_
   simp (disch := omega) only [rq, simprocAttr, ed, ed2, hc0]
   iterate 3 (refine Qa (by assumption) ?_; simp (disch := omega) only [rq, simprocAttr])
   simp [QO, Qx, frzL, Qy]
  ·have hG' := hG0 a (N - a) (by omega) (by omega)
   rw [qf (by omega)] at hG'
   have hlt : V / 2 ^ a < 2 ^ (N - a) := j5 (by rw [← q9, show a + (N - a) = N by omega]; exact hVlt)
   rw [qT hlt] at hG'
   have eNa : (N : Int) - a = ((N - a : Nat) : Int) := by omega
   have h7 : 2 ^ (N - a) ≤ 2 ^ 7 := qr (by omega) (by omega)
   have hr : QiN V N a = if V / 2 ^ a = 0 then 0 else 12 := by unfold QiN; rw [qf h8]
   rw [hr]
   generalize V / 2 ^ a = y at *
   obtain ⟨m, hm⟩ : ∃ m, m = N - a := ⟨_, rfl⟩
   rw [← hm] at hG' eNa
   have hm7 : m ≤ 7 := by omega
   by_cases h0 : y = 0
   ·subst h0
    rw [qh rfl, qf (by omega)]
    have hG'' : VC P fG [.agg [.list (b.length - 4) (u8 p), .int .i64 N], .int .i64 a, .int .i64 m] (.tup [.int .u64 0, .int .i64 0]) := hG'
    simp (disch := omega) only [rq, simprocAttr, QK, shA, bs, hk, tt, ot]
    refine Qa hE' ?_
    simp (disch := omega) only [rq, simprocAttr, ed, ed2, hc0]
    iterate 2 (refine Qa (by assumption) ?_; simp (disch := omega) only [rq, simprocAttr])
    refine Qa hV' ?_
    simp (disch := omega) only [rq, simprocAttr, eNa]
    refine Qa hG'' ?_
    simp (disch := omega) only [rq, simprocAttr, hk, tt, ot]
    refine Qa hS' ?_
    simp only [iL]
    generalize unB c' x t (o.map fun n : Nat => (n : Int)) = z at *
    unfold Qvs
    by_cases h4 : QE x z = 0
    ·rw [qf (by omega)]
     simp (disch := omega) only [rq, simprocAttr, il]
     simp [QO, Qx, frzL, Qy, frzL_T _ (Qq _ _)]
    ·rw [qh h4]
     simp (disch := omega) only [rq, simprocAttr]
     simp [QO, Qx, frzL, Qy]
   ·rw [qf h0, qh (by omega), erA]
    simp (disch := omega) only [rq, simprocAttr, QK, shA, bs, hk, tt, ot]
    refine Qa hE' ?_
    simp (disch := omega) only [rq, simprocAttr, ed, ed2, hc0]
    iterate 2 (refine Qa (by assumption) ?_; simp (disch := omega) only [rq, simprocAttr])
    refine Qa hV' ?_
    simp (disch := omega) only [rq, simprocAttr, eNa]
    refine Qa hG' ?_
    simp (disch := omega) only [rq, simprocAttr]
    simp [QO, Qx, frzL, Qy]
def QEx : (Nat × List Nat) ⊕ (List Nat × Nat) → List Nat
 | .inl (_, o) => o
 | .inr (o, _) => o
def QDO (b : List UInt8) (c n : Nat) : (Nat × List Nat) ⊕ (List Nat × Nat) := QbI (leN (b.take (b.length - 4))) (8 * (b.take (b.length - 4)).length) c (n * c) [] 0
theorem mod_mul (m c : Nat) : (m * c) % c = 0 := Nat.mul_mod_left m c
def QD5 (V N c : Nat) (x : Int) (t : List Int) (w : (Nat × List Nat) ⊕ (List Nat × Nat)) : Int :=
 match w with
 | .inl (e, _) => e
 | .inr (o, a) => if QiN V N a ≠ 0 then 12 else QE x (unB c x t (iL o))
def QA7 (c x : Int) (t : List Int) (n : Int) (b : List UInt8) : Int :=
 if X2 c x n ≠ 0 then 2 else if Qeq b ≠ 0 then (Qeq b : Nat) else
  QD5 (leN (b.take (b.length - 4))) (8 * (b.take (b.length - 4)).length) c.toNat x t (QDO b c.toNat n.toNat)
end Go.Am
