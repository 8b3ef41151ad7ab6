/- What the functions that the law reaches return, for every program that has their code; the conditions stand in each statement. -/
import Derived.Test.YtllnphoondgiaabGreatDoorEncodePartsL2
set_option linter.unusedSectionVars false
set_option linter.unusedSimpArgs false
set_option linter.unusedVariables false
namespace Go.Am
open Go.RowKit

/-! ### seeks.Read of a table -/

theorem Qrf {l : List Int} {i : Nat} (h : i < l.length) (R : List UInt8) : ((ZI l ++ R).drop (4 * i)).take 4 = leB (l.getD i 0).toNat 4 := by
  have e1 : ZI l = ZI (l.take i) ++ (leB (l.getD i 0).toNat 4 ++ ZI (l.drop (i + 1))) := by
    have h1 := QhS l i h
    have h2 : ZI l = ZI (l.take (i + 1)) ++ ZI (l.drop (i + 1)) := by
      conv => lhs; rw [← List.take_append_drop (i + 1) l]
      simp only [ZI, List.map_append, List.flatten_append]
    rw [h2, h1, List.append_assoc]
  have hl : (ZI (l.take i)).length = 4 * i := by rw [Qcb, List.length_take]; omega
  rw [e1, List.append_assoc, List.append_assoc, List.drop_append_of_le_length (by omega), List.drop_eq_nil_of_le (by omega), List.nil_append, List.take_append_of_le_length (by rw [Qi]; omega), List.take_of_length_le (by rw [Qi]; omega)]
def Qhe (P : Prg) (f : Nat) : Prop := ∀ (l : List Int) (R : List UInt8), skN l = 0 → R.length ≤ 1000000 → VC P f [bs (QS (ZI l) ++ R), .int .i64 l.length] (.tup [Qed l, .int .i64 0])
set_option maxHeartbeats 1000000 in
theorem Qma {P : Prg} {f fA fS fC t0 : Nat} (bd : Qm P f 69 [.tmp 4, .tmp 5] (Qax fA fS fC t0)) (hA : Qg8 P fA) (hS : QeI P fS) (hC : QcD P fC) : Qhe P f := by
  intro l R h hR
  refine VC.of_walk 1 (by simp [isDL, Zu, isD]) (by simp [isD, isDL, Qbi]) (ACall.of_body bd (by simp) ?_)
  rcases QdZ l with h8 | ⟨_, n1, n2, hr⟩
  · omega
  have htl := Qcb l
  have hsl : (QS (ZI l)).length = 4 * l.length + 4 := by rw [QS, List.length_append, Qi, htl]
  have hv : ∀ v ∈ l, -9223372036854775808 ≤ v ∧ v ≤ 9223372036854775807 := fun v hv => by
    obtain ⟨i, hi, rfl⟩ := List.mem_iff_getElem.1 hv
    have := hr i hi
    rw [List.getD_eq_getElem?_getD, List.getElem?_eq_getElem hi] at this
    simp only [Option.getD_some] at this
    omega
  have hC' := hC l (by omega) hv
  rw [h, Qed] at hC'
  have hsm : J2 (ZI l) < 4294967296 := by unfold J2; omega
  have hS' := hS (ZI l)
  rw [if_neg (by omega), ← J2, bs, htl] at hS'
  have hat := fun i (hi : i < l.length) => Qrf (l := l) hi (leB (J2 (ZI l)) 4 ++ R)
  have hlast : ((QS (ZI l) ++ R).drop (4 * l.length)).take 4 = leB (J2 (ZI l)) 4 := by
    rw [QS, List.append_assoc, ← htl, List.drop_left, List.take_append_of_le_length (by rw [Qi]; omega), List.take_of_length_le (by rw [Qi]; omega)]
  have hfirst : (u8 (QS (ZI l) ++ R)).take (4 * l.length) = u8 (ZI l) := by rw [JJ, QS, List.append_assoc, ← htl, List.take_left]
  have hbl : (QS (ZI l) ++ R).length = 4 * l.length + 4 + R.length := by rw [List.length_append, hsl]
  have hA0 := hA (QS (ZI l) ++ R) (4 * l.length) 4 (by omega) (by omega) (by omega) (by omega)
  rw [if_pos (by omega), hlast, Qgj 4 _ (by simpa using hsm), bs] at hA0
  have hA1 := fun i (hi : i < l.length) => hA (QS (ZI l) ++ R) (4 * i) 4 (by omega) (by omega) (by omega) (by omega)
  have hat' := fun i (hi : i < l.length) => (by have := hat i hi; rw [← List.append_assoc] at this; exact this : ((QS (ZI l) ++ R).drop (4 * i)).take 4 = leB (l.getD i 0).toNat 4)
  have hub : (u8 (QS (ZI l) ++ R)).length = 4 * l.length + 4 + R.length := by rw [QA, hbl]
  generalize J2 (ZI l) = sm at *
  rw [bs]
  generalize hBB : QS (ZI l) ++ R = B at *
  have hz : Qn [.int .i64 0] l.length = ks .i64 (l.take 0 ++ List.replicate (l.length - 0) 0) := by rw [Qln]; simp
  have tl := QK .i64 l
  rw [hbl] at hA0 ⊢
  have s0 : 4 * l.length - 0 = 4 * l.length := rfl
  have n0 : ¬ (l.length : Int) < 1 := by omega
  have c4 : (4 : Int) * (l.length : Int) = ((4 * l.length : Nat) : Int) := by simp
  simp (maxSteps := 4000000) (disch := omega) only [rr, aop, cV, cV1, AV.one, Qb, okW, Qd, app, Qa, Qc, Qe, Qf, Qg, simprocAttr, Qax, c4]
  refine Qh.vc hA0 ?_
  simp (maxSteps := 4000000) (disch := omega) only [rr, aop, cV, cV1, AV.one, Qb, okW, Qd, app, Qa, Qc, Qe, Qf, Qg, simprocAttr, c4, hfirst, hbl, s0]
  refine Qh.vc hS' ?_
  simp (maxSteps := 4000000) (disch := omega) only [rr, aop, cV, cV1, AV.one, Qb, okW, Qd, app, Qa, Qc, Qe, Qf, Qg, simprocAttr, hz]
  refine QV.by (ι := Nat) (fun k => ⟨[(49, .int .i64 k), (48, .int .i64 l.length), (10, .own 0 l.length), (0, .list (4 * l.length + 4 + R.length) (u8 B))], [⟨t0, 1, l.length, ks .i64 (l.take k ++ List.replicate (l.length - k) 0), 0⟩]⟩) (fun k => k ≤ l.length) (fun k => l.length - k) 0 (Le.slots (by simp [Am.look])) (by omega) ?_
  intro k hk
  have hkl : (ks .i64 (l.take k ++ List.replicate (l.length - k) 0)).length = l.length := by rw [Ql, List.length_append, List.length_take, List.length_replicate]; omega
  by_cases hlt : k < l.length
  · have hrk := hr k hlt
    have hA2 := hA1 k hlt
    have hzn : (l.getD k 0).toNat < 256 ^ 4 := by omega
    rw [if_pos (by omega), hat' k hlt, Qgj 4 _ hzn, bs, hbl, Int.toNat_of_nonneg (by omega)] at hA2
    have hst : (ks .i64 (l.take k ++ List.replicate (l.length - k) 0)).take k ++ .int .i64 (l.getD k 0) :: (ks .i64 (l.take k ++ List.replicate (l.length - k) 0)).drop (k + 1) = ks .i64 (l.take (k + 1) ++ List.replicate (l.length - (k + 1)) 0) := by
      have hl1 : (l.take k).length = k := by rw [List.length_take]; omega
      have htk : l.take (k + 1) = l.take k ++ [l.getD k 0] := by
        rw [List.take_succ_eq_append_getElem hlt]
        simp [List.getD_eq_getElem?_getD, List.getElem?_eq_getElem hlt]
      rw [Qj5, JL, htk, List.take_append_of_le_length (by omega), List.take_of_length_le (by omega), List.drop_append, List.drop_eq_nil_of_le (by omega), hl1, List.drop_replicate, List.nil_append]
      simp only [ks, List.map_append, List.map_cons, List.map_nil, List.append_assoc, List.cons_append, List.nil_append]
      rw [show l.length - k - (k + 1 - k) = l.length - (k + 1) by omega]
    have hst2 : (ks .i64 (l.take k ++ List.replicate (l.length - k) 0)).take k ++ [.int .i64 (l.getD k 0)] ++ (ks .i64 (l.take k ++ List.replicate (l.length - k) 0)).drop (k + 1) = ks .i64 (l.take (k + 1) ++ List.replicate (l.length - (k + 1)) 0) := by rw [← hst]; simp
    have c4k : (4 : Int) * (k : Int) = ((4 * k : Nat) : Int) := by simp
    generalize hzz : l.getD k 0 = z at *
    simp (maxSteps := 4000000) (disch := omega) only [rr, aop, cV, cV1, AV.one, Qb, okW, Qd, app, Qa, Qc, Qe, Qf, Qg, simprocAttr, c4k, hkl]
    refine Qh.vc hA2 ?_
    simp (maxSteps := 4000000) (disch := omega) only [rr, aop, cV, cV1, AV.one, Qb, okW, Qd, app, Qa, Qc, Qe, Qf, Qg, simprocAttr, hkl, hst, hst2]
    exact ⟨k + 1, by omega, by omega, Le.slots (by simp [Am.look])⟩
  · have ek : k = l.length := by omega
    subst ek
    have e0 : l.take l.length ++ List.replicate (l.length - l.length) (0 : Int) = l := by simp
    rw [e0]
    simp (maxSteps := 4000000) (disch := omega) only [rr, aop, cV, cV1, AV.one, Qb, okW, Qd, app, Qa, Qc, Qe, Qf, Qg, simprocAttr]
    refine Qh.still 1 [0] hC' (by simp [ZJ, QX, frzL, QO, frzL_T _ tl]) ?_
    simp (maxSteps := 4000000) (disch := omega) only [rr, aop, cV, cV1, AV.one, Qb, okW, Qd, app, Qa, Qc, Qe, Qf, Qg, simprocAttr, Qt]
    simp [ZJ, QX, frzL, QO, frzL_T _ tl, Qed]
end Go.Am

namespace Go.Am
open Go.RowKit

/-! ### What header.Read reads: plain -/

def rdF (b : List UInt8) (o k : Nat) : Nat := leN ((b.drop o).take k)
def Qlx : List UInt8 := [84, 84, 65, 49]
def hrN (b : List UInt8) : Int :=
  if b.take 4 ≠ Qlx.take b.length then 12
  else if b.length < 22 then 24
  else if J2 (b.take 18) ≠ rdF b 18 4 then 22
  else if ¬ shP (rdF b 4 2) (rdF b 6 2) (rdF b 8 2) (rdF b 10 4) (rdF b 14 4) then 12
  else if ¬ Qmt (rdF b 6 2) (rdF b 10 4) (rdF b 14 4) then 4 else 0
def hrA (b : List UInt8) : AV := if hrN b = 0 then .tup [hdA (rdF b 4 2) (rdF b 6 2) (rdF b 8 2) (rdF b 10 4) (rdF b 14 4), .int .i64 0] else .tup [hdA 0 0 0 0 0, .int .i64 (hrN b)]
theorem QrN (b : List UInt8) : isD (hrA b) = true := by unfold hrA; split <;> rfl
theorem Qfk (b : List UInt8) (o k : Nat) : rdF b o k < 2 ^ (8 * k) := by
  have h1 := Qlz ((b.drop o).take k)
  have h2 : 2 ^ (8 * ((b.drop o).take k).length) ≤ 2 ^ (8 * k) := Nat.pow_le_pow_right (by omega) (by rw [List.length_take]; omega)
  rw [rdF]; omega
theorem Qfl {A B C : List UInt8} {o k n : Nat} (h : A.length = o) (hn : n < 256 ^ k) (e : B = leB n k) : rdF (A ++ (B ++ C)) o k = n := by
  subst h e
  rw [rdF, List.drop_left, List.take_append_of_le_length (by rw [Qi]; omega), List.take_of_length_le (by rw [Qi]; omega), Qgj _ _ hn]
theorem QrT {f c b r n : Int} (h : hdN f c b r n = 0) (R : List UInt8) : hrA (hdB f.toNat c.toNat b.toNat r.toNat n.toNat ++ R) = .tup [hdA f c b r n, .int .i64 0] := by
  have hh : shP f c b r n ∧ Qmt c r n := by
    unfold hdN at h
    split at h
    · assumption
    · cases h
  obtain ⟨f, c, b, r, n, rfl, rfl, rfl, rfl, rfl, a1, a2, a3, a4, a5⟩ := Qoj h
  simp only [Int.toNat_natCast]
  have l5 : (hdP f c b r n 5).length = 18 := by simp [hdP, Qi]
  have hsm : J2 (hdP f c b r n 5) < 4294967296 := by unfold J2; omega
  have e0 : hdB f c b r n ++ R = [84, 84, 65, 49] ++ (leB f 2 ++ (leB c 2 ++ (leB b 2 ++ (leB r 4 ++ (leB n 4 ++ (leB (J2 (hdP f c b r n 5)) 4 ++ R)))))) := by
    simp only [hdB, QS, hdP, List.append_assoc]
  have lX : (hdB f c b r n ++ R).length = 22 + R.length := by rw [hdB, QS, List.length_append, List.length_append, Qi, l5]
  have e1 : rdF (hdB f c b r n ++ R) 4 2 = f := by
    rw [e0]
    exact Qfl rfl (by omega) rfl
  have e2 : rdF (hdB f c b r n ++ R) 6 2 = c := by
    rw [e0, ← List.append_assoc]
    exact Qfl (by simp [Qi]) (by omega) rfl
  have e3 : rdF (hdB f c b r n ++ R) 8 2 = b := by
    rw [e0, ← List.append_assoc, ← List.append_assoc]
    exact Qfl (by simp [Qi]) (by omega) rfl
  have e4 : rdF (hdB f c b r n ++ R) 10 4 = r := by
    rw [e0, ← List.append_assoc, ← List.append_assoc, ← List.append_assoc]
    exact Qfl (by simp [Qi]) (by omega) rfl
  have e5 : rdF (hdB f c b r n ++ R) 14 4 = n := by
    rw [e0, ← List.append_assoc, ← List.append_assoc, ← List.append_assoc, ← List.append_assoc]
    exact Qfl (by simp [Qi]) (by omega) rfl
  have e6 : rdF (hdB f c b r n ++ R) 18 4 = J2 (hdP f c b r n 5) := by
    rw [hdB, QS, List.append_assoc]
    exact Qfl l5 (by simpa using hsm) rfl
  have e7 : (hdB f c b r n ++ R).take 18 = hdP f c b r n 5 := by
    rw [hdB, QS, List.append_assoc, ← l5, List.take_left]
  have e8 : (hdB f c b r n ++ R).take 4 = Qlx.take (hdB f c b r n ++ R).length := by
    rw [lX, List.take_of_length_le (l := Qlx) (by simp [Qlx]; omega), e0]
    rfl
  have h0 : hrN (hdB f c b r n ++ R) = 0 := by
    unfold hrN
    rw [if_neg (by rw [e8]; simp), if_neg (by omega), if_neg (by rw [e6, e7]; simp), e1, e2, e3, e4, e5, if_neg (fun q => q hh.1), if_neg (fun q => q hh.2)]
  rw [hrA, if_pos h0, e1, e2, e3, e4, e5]
end Go.Am

namespace Go.Am
open Go.RowKit

/-! ### The file of a clip: its header, its digest, its table, its frames (plain) -/

def Ql5 (c x r : Int) (l : List Int) (p : List UInt8) : List UInt8 := QhT p ++ (QS (ZI (XM (Qk c x r l (ofK (Zh 0 p) 8)))) ++ (Qk c x r l (ofK (Zh 0 p) 8)).flatten)
theorem Qix {c x r : Int} {l : List Int} (p : List UInt8) (h : Zp c x r l = 0) : QbR c x r l p = hdB (Qef p).toNat c.toNat x.toNat r.toNat (((l.length : Int) / c).toNat) ++ Ql5 c x r l p ∧ hrA (QbR c x r l p) = .tup [hdA (Qef p) c x r (l.length / c), .int .i64 0] := by
  have hd := Qgo p h
  obtain ⟨k, n, rfl, _⟩ := X2 h
  have e1 : (((l.length : Int) / (k : Int)).toNat) = l.length / (k : Int).toNat := by
    rw [Int.toNat_natCast, ← Int.natCast_ediv, Int.toNat_natCast]
  have e2 : QbR k x r l p = hdB (Qef p).toNat (k : Int).toNat x.toNat r.toNat (((l.length : Int) / (k : Int)).toNat) ++ Ql5 k x r l p := by rw [e1]; rfl
  exact ⟨e2, by rw [e2]; exact QrT hd _⟩
theorem Qkd (f c b r n : Nat) : (hdB f c b r n).length = 22 := by
  rw [hdB, QS, List.length_append, Qi]
  simp [hdP, Qi]
theorem Qh0 (l : List Int) : (QS (ZI l)).length = 4 * l.length + 4 := by rw [QS, List.length_append, Qi, Qcb]
theorem Qqv {c x r : Int} {l : List Int} {p : List UInt8} (h : Zp c x r l = 0) (hI : I32 l) : (QbR c x r l p).length = 22 + (QhT p).length + (4 * (Qk c x r l (ofK (Zh 0 p) 8)).length + 4) + (Qk c x r l (ofK (Zh 0 p) 8)).flatten.length ∧ (QbR c x r l p).length ≤ 60000 := by
  have h1 := (Qix p h).1
  have h2 := J4 h
  have h3 := XE c x r l (ofK (Zh 0 p) 8)
  have h4 := (QjF (T := ofK (Zh 0 p) 8) h hI).2
  have h5 : (QhT p).length ≤ 8 := by unfold QhT; split <;> simp [Qi]
  have h6 := Qh0 (XM (Qk c x r l (ofK (Zh 0 p) 8)))
  rw [Qbh] at h6
  rw [h1, Ql5, List.length_append, List.length_append, List.length_append, Qkd, h6]
  omega
theorem Qkf : ∀ (F : List (List UInt8)) (i : Nat), i < F.length → (F.flatten.drop ((F.take i).flatten.length)).take (F.getD i []).length = F.getD i []
  | [], i, h => by simp at h
  | b :: F, 0, _ => by simp
  | b :: F, i + 1, h => by
    have := Qkf F i (by simpa using h)
    simp only [List.take_succ_cons, List.flatten_cons, List.length_append, List.getD_cons_succ]
    rw [← List.drop_drop, List.drop_left]
    exact this
theorem Qit (F : List (List UInt8)) (i : Nat) (h : i < F.length) : (F.take (i + 1)).flatten.length = (F.take i).flatten.length + (F.getD i []).length := by
  rw [List.take_succ_eq_append_getElem h, List.flatten_append, List.length_append]
  simp [List.getD_eq_getElem?_getD, List.getElem?_eq_getElem h, -List.length_flatten]
theorem QdF (F : List (List UInt8)) (i : Nat) : (F.take i).flatten.length ≤ F.flatten.length := by
  conv => rhs; rw [← List.take_append_drop i F, List.flatten_append, List.length_append]
  omega
end Go.Am

namespace Go.Am
open Go.RowKit

/-! ### strings.HasPrefix; header.Read -/

def QfF (P : Prg) (f : Nat) : Prop := ∀ s t : List UInt8, s.length ≤ 1000000 → t.length ≤ 1000000 → VC P f [.str s, .str t] (.bool (s.take t.length == t))
theorem QhV {P : Prg} {f : Nat} (bd : Qm P f 18 [.tmp 4] Qw) : QfF P f := by
  intro s t hs ht
  refine VC.of_acall rfl rfl (ACall.of_body bd (by simp) ?_)
  by_cases h : t.length ≤ s.length
  · have hs1 : Qjd .eql (s.take t.length) t = some (.bool (s.take t.length == t)) := rfl
    simp (maxSteps := 4000000) (disch := omega) only [rr, aop, cV, cV1, AV.one, Qb, okW, Qd, app, Qa, Qc, Qe, Qf, Qg, simprocAttr, Qw, hs1]
  · have : (s.take t.length == t) = false := beq_eq_false_iff_ne.2 fun e => by
      have := congrArg List.length e
      rw [List.length_take] at this
      omega
    rw [this]
    simp (maxSteps := 4000000) (disch := omega) only [rr, aop, cV, cV1, AV.one, Qb, okW, Qd, app, Qa, Qc, Qe, Qf, Qg, simprocAttr, Qw]
theorem QcI {P : Prg} {f fS : Nat} (bd : Qm P f 8 [.tmp 4] (ZK fS)) (hS : QfF P fS) : QfF P f := by
  intro s t hs ht
  refine VC.of_acall rfl rfl (ACall.of_body bd (by simp) ?_)
  have hS' := hS s t hs ht
  simp (maxSteps := 4000000) (disch := omega) only [rr, aop, cV, cV1, AV.one, Qb, okW, Qd, app, Qa, Qc, Qe, Qf, Qg, simprocAttr, ZK]
  refine Qh.vc hS' ?_
  simp (maxSteps := 4000000) (disch := omega) only [rr, aop, cV, cV1, AV.one, Qb, okW, Qd, app, Qa, Qc, Qe, Qf, Qg, simprocAttr]

def hrC (a b c d e : Nat) : Nat → List AV
  | 0 => [.int .i64 0, .int .i64 0, .int .i64 0, .int .i64 0, .int .i64 0]
  | 1 => [.int .i64 a, .int .i64 0, .int .i64 0, .int .i64 0, .int .i64 0]
  | 2 => [.int .i64 a, .int .i64 b, .int .i64 0, .int .i64 0, .int .i64 0]
  | 3 => [.int .i64 a, .int .i64 b, .int .i64 c, .int .i64 0, .int .i64 0]
  | 4 => [.int .i64 a, .int .i64 b, .int .i64 c, .int .i64 d, .int .i64 0]
  | _ => [.int .i64 a, .int .i64 b, .int .i64 c, .int .i64 d, .int .i64 e]
def hrT : Nat → Nat
  | 0 => 4
  | 1 => 6
  | 2 => 8
  | 3 => 10
  | 4 => 14
  | _ => 18
def Qhi (P : Prg) (g : Nat) : Prop := ∀ b : List UInt8, b.length ≤ 1000000 → VC P g [bs b] (hrA b)
set_option maxHeartbeats 2000000 in
theorem Qkb {P : Prg} {g fP fA fS fH fF t0 t1 g0 : Nat} (bd : Qm P g 86 [.cell 2 t0, .tmp 3] (Zm fP fA fS fH fF t0 t1 g0)) (hP : QfF P fP) (hA : Qg8 P fA) (hS : QeI P fS) (hH : QdK P fH) (hF : QlS P fF) (ht : Xb P t0 = some (some 5)) (h0 : P.G.lookup g0 = some Qsj) : Qhi P g := by
  intro b hb
  refine VC.of_acall (by simp [isDL, Zu]) (QrN b) (ACall.of_body bd (by simp) ?_)
  have hP' := hP Qlx (b.take 4) (by simp [Qlx]) (by rw [List.length_take]; omega)
  have hpre : (Qlx.take (b.take 4).length == b.take 4) = decide (b.take 4 = Qlx.take b.length) := by
    rw [List.length_take]
    have : Qlx.take (min 4 b.length) = Qlx.take b.length := by
      rcases Nat.le_total 4 b.length with h | h
      · rw [Nat.min_eq_left h, List.take_of_length_le (by simp [Qlx]), List.take_of_length_le (by simp [Qlx]; omega)]
      · rw [Nat.min_eq_right h]
    rw [this, Bool.eq_iff_iff, beq_iff_eq, decide_eq_true_eq]
    exact ⟨fun h => h.symm, fun h => h.symm⟩
  rw [hpre] at hP'
  have hP0 : VC P fP [.str [84, 84, 65, 49], .str (b.take 4)] (.bool (decide (b.take 4 = Qlx.take b.length))) := hP'
  clear hP'
  have hmin : min 4 b.length = (b.take 4).length := by rw [List.length_take]
  have hu4 : (u8 b).take (min 4 b.length) = u8 (b.take 4) := by
    rcases Nat.le_total 4 b.length with h | h
    · rw [Nat.min_eq_left h, JJ]
    · rw [Nat.min_eq_right h, JJ, List.take_of_length_le (l := b) (by omega), List.take_of_length_le (l := b) (by omega)]
  have hd4 := ZF (b.take 4)
  have hmi : (if (b.length : Int) < 4 then (b.length : Int) else 4) = ((min 4 b.length : Nat) : Int) := by split <;> omega
  have hm1 : min 4 b.length ≤ b.length := Nat.min_le_right _ _
  clear hmin
  obtain ⟨mm, hm4⟩ : ∃ m, min 4 b.length = m := ⟨_, rfl⟩
  rw [hm4] at hmi hu4 hm1
  have hm2 : min mm b.length = mm := Nat.min_eq_left hm1
  by_cases c1 : b.take 4 = Qlx.take b.length
  case neg =>
    have e : hrN b = 12 := by rw [hrN, if_pos c1]
    rw [decide_eq_false c1] at hP0
    rw [hrA, if_neg (by omega), e]
    rw [bs]
    simp (maxSteps := 4000000) (disch := omega) only [rr, aop, cV, cV1, AV.one, Qb, okW, Qd, app, Qa, Qc, Qe, Qf, Qg, simprocAttr, Zm, hmi, hu4, hd4, Nat.sub_zero, hm2, hm4]
    refine Qh.vc hP0 ?_
    simp (maxSteps := 4000000) (disch := omega) only [rr, aop, cV, cV1, AV.one, Qb, okW, Qd, app, Qa, Qc, Qe, Qf, Qg, simprocAttr, Z1, ht, Q7, hdA]
  rw [decide_eq_true c1] at hP0
  by_cases c2 : b.length < 22
  · have e : hrN b = 24 := by rw [hrN, if_neg (by simpa using c1), if_pos c2]
    rw [hrA, if_neg (by omega), e]
    rw [bs]
    simp (maxSteps := 4000000) (disch := omega) only [rr, aop, cV, cV1, AV.one, Qb, okW, Qd, app, Qa, Qc, Qe, Qf, Qg, simprocAttr, Zm, hmi, hu4, hd4, Nat.sub_zero, hm2, hm4]
    refine Qh.vc hP0 ?_
    simp (maxSteps := 4000000) (disch := omega) only [rr, aop, cV, cV1, AV.one, Qb, okW, Qd, app, Qa, Qc, Qe, Qf, Qg, simprocAttr, Z1, ht, Q7, hdA]
  obtain rfl : mm = 4 := by omega
  have hA' := fun (a w : Nat) (h1 : 1 ≤ w) (h2 : w ≤ 8) (h3 : a + w ≤ 22) => by
    have := hA b a w (by omega) h1 h2 (by omega)
    rw [if_pos (by omega), bs, ← rdF] at this
    exact this
  have A18 := hA' 18 4 (by omega) (by omega) (by omega)
  have A0 := hA' 4 2 (by omega) (by omega) (by omega)
  have A1 := hA' 6 2 (by omega) (by omega) (by omega)
  have A2 := hA' 8 2 (by omega) (by omega) (by omega)
  have A3 := hA' 10 4 (by omega) (by omega) (by omega)
  have A4 := hA' 14 4 (by omega) (by omega) (by omega)
  have r18 := Qfk b 18 4
  have r0 := Qfk b 4 2
  have r1 := Qfk b 6 2
  have r2 := Qfk b 8 2
  have r3 := Qfk b 10 4
  have r4 := Qfk b 14 4
  have hl18 : (b.take 18).length = 18 := by rw [List.length_take]; omega
  have hS' := hS (b.take 18)
  rw [if_neg (by omega), ← J2, bs, hl18] at hS'
  have hsm : J2 (b.take 18) < 4294967296 := by unfold J2; omega
  have hu18 : (u8 b).take 18 = u8 (b.take 18) := JJ _ _
  have hH' := hH (rdF b 4 2) (rdF b 6 2) (rdF b 8 2) (rdF b 10 4) (rdF b 14 4)
  have hF' := hF (rdF b 4 2) (rdF b 6 2) (rdF b 8 2) (rdF b 10 4) (rdF b 14 4)
  have g0' : Qq0 P.G g0 = .cell [.int .i64 2, .int .i64 2, .int .i64 2, .int .i64 4, .int .i64 4] := by simp [Qq0, h0, Qsj]
  by_cases c3 : J2 (b.take 18) = rdF b 18 4
  case neg =>
    have e : hrN b = 22 := by rw [hrN, if_neg (by simpa using c1), if_neg c2, if_pos c3]
    rw [hrA, if_neg (by omega), e]
    generalize rdF b 18 4 = R18 at *
    generalize J2 (b.take 18) = SM at *
    have c3' : ¬ (SM : Int) = (R18 : Int) := by omega
    rw [bs]
    simp (maxSteps := 4000000) (disch := omega) only [rr, aop, cV, cV1, AV.one, Qb, okW, Qd, app, Qa, Qc, Qe, Qf, Qg, simprocAttr, Zm, hmi, hu4, hd4, Nat.sub_zero, hm2, hm4]
    refine Qh.vc hP0 ?_
    simp (maxSteps := 4000000) (disch := omega) only [rr, aop, cV, cV1, AV.one, Qb, okW, Qd, app, Qa, Qc, Qe, Qf, Qg, simprocAttr]
    refine Qh.vc A18 ?_
    simp (maxSteps := 4000000) (disch := omega) only [rr, aop, cV, cV1, AV.one, Qb, okW, Qd, app, Qa, Qc, Qe, Qf, Qg, simprocAttr, hu18]
    refine Qh.vc hS' ?_
    simp (maxSteps := 4000000) (disch := omega) only [rr, aop, cV, cV1, AV.one, Qb, okW, Qd, app, Qa, Qc, Qe, Qf, Qg, simprocAttr, Z1, ht, Q7, hdA]
  have hN : hrN b = if ¬ shP (rdF b 4 2) (rdF b 6 2) (rdF b 8 2) (rdF b 10 4) (rdF b 14 4) then 12
      else if ¬ Qmt (rdF b 6 2) (rdF b 10 4) (rdF b 14 4) then 4 else 0 := by rw [hrN, if_neg (by simpa using c1), if_neg c2, if_neg (by simpa using c3)]
  rw [hrA, hN]
  rw [← c3] at A18
  clear hN hA'
  generalize rdF b 4 2 = v0 at *
  generalize rdF b 6 2 = v1 at *
  generalize rdF b 8 2 = v2 at *
  generalize rdF b 10 4 = v3 at *
  generalize rdF b 14 4 = v4 at *
  generalize J2 (b.take 18) = SM at *
  rw [bs]
  rw [hdA] at hH' hF'
  generalize hE : (if ¬ shP v0 v1 v2 v3 v4 then (12 : Int) else if ¬ Qmt v1 v3 v4 then 4 else 0) = E
  simp (maxSteps := 4000000) (disch := omega) only [rr, aop, cV, cV1, AV.one, Qb, okW, Qd, app, Qa, Qc, Qe, Qf, Qg, simprocAttr, Zm, hmi, hu4, hd4, Nat.sub_zero, hm2, hm4]
  refine Qh.vc hP0 ?_
  simp (maxSteps := 4000000) (disch := omega) only [rr, aop, cV, cV1, AV.one, Qb, okW, Qd, app, Qa, Qc, Qe, Qf, Qg, simprocAttr]
  refine Qh.vc A18 ?_
  simp (maxSteps := 4000000) (disch := omega) only [rr, aop, cV, cV1, AV.one, Qb, okW, Qd, app, Qa, Qc, Qe, Qf, Qg, simprocAttr, hu18]
  refine Qh.vc hS' ?_
  simp (maxSteps := 4000000) (disch := omega) only [rr, aop, cV, cV1, AV.one, Qb, okW, Qd, app, Qa, Qc, Qe, Qf, Qg, simprocAttr, g0']
  refine QV.by (ι := Nat) (fun j => ⟨[(45, .int .i64 j), (44, .agg [.int .i64 2, .int .i64 2, .int .i64 2, .int .i64 4, .int .i64 4]), (9, .int .i64 (hrT j)), (8, .ref 1 1 0), (2, .ref 0 1 0), (0, .list b.length (u8 b))], [⟨t0, 5, 1, [.int .i64 0, .int .i64 0, .int .i64 0, .int .i64 0, .int .i64 0], 0⟩, ⟨t1, 5, 1, hrC v0 v1 v2 v3 v4 j, 0⟩]⟩) (fun j => j ≤ 5) (fun j => 5 - j) 0 (Le.slots (by simp [Am.look, hrT, hrC])) (by omega) ?_
  intro j hj
  have hj5 : j = 0 ∨ j = 1 ∨ j = 2 ∨ j = 3 ∨ j = 4 ∨ j = 5 := by omega
  rcases hj5 with rfl | rfl | rfl | rfl | rfl | rfl
  · simp (maxSteps := 4000000) (disch := omega) only [rr, aop, cV, cV1, AV.one, Qb, okW, Qd, app, Qa, Qc, Qe, Qf, Qg, simprocAttr, hrT, hrC]
    refine Qh.vc A0 ?_
    simp (maxSteps := 4000000) (disch := omega) only [rr, aop, cV, cV1, AV.one, Qb, okW, Qd, app, Qa, Qc, Qe, Qf, Qg, simprocAttr]
    exact ⟨1, by omega, by omega, Le.slots (by simp [Am.look, hrT])⟩
  · simp (maxSteps := 4000000) (disch := omega) only [rr, aop, cV, cV1, AV.one, Qb, okW, Qd, app, Qa, Qc, Qe, Qf, Qg, simprocAttr, hrT, hrC]
    refine Qh.vc A1 ?_
    simp (maxSteps := 4000000) (disch := omega) only [rr, aop, cV, cV1, AV.one, Qb, okW, Qd, app, Qa, Qc, Qe, Qf, Qg, simprocAttr]
    exact ⟨2, by omega, by omega, Le.slots (by simp [Am.look, hrT])⟩
  · simp (maxSteps := 4000000) (disch := omega) only [rr, aop, cV, cV1, AV.one, Qb, okW, Qd, app, Qa, Qc, Qe, Qf, Qg, simprocAttr, hrT, hrC]
    refine Qh.vc A2 ?_
    simp (maxSteps := 4000000) (disch := omega) only [rr, aop, cV, cV1, AV.one, Qb, okW, Qd, app, Qa, Qc, Qe, Qf, Qg, simprocAttr]
    exact ⟨3, by omega, by omega, Le.slots (by simp [Am.look, hrT])⟩
  · simp (maxSteps := 4000000) (disch := omega) only [rr, aop, cV, cV1, AV.one, Qb, okW, Qd, app, Qa, Qc, Qe, Qf, Qg, simprocAttr, hrT, hrC]
    refine Qh.vc A3 ?_
    simp (maxSteps := 4000000) (disch := omega) only [rr, aop, cV, cV1, AV.one, Qb, okW, Qd, app, Qa, Qc, Qe, Qf, Qg, simprocAttr]
    exact ⟨4, by omega, by omega, Le.slots (by simp [Am.look, hrT])⟩
  · simp (maxSteps := 4000000) (disch := omega) only [rr, aop, cV, cV1, AV.one, Qb, okW, Qd, app, Qa, Qc, Qe, Qf, Qg, simprocAttr, hrT, hrC]
    refine Qh.vc A4 ?_
    simp (maxSteps := 4000000) (disch := omega) only [rr, aop, cV, cV1, AV.one, Qb, okW, Qd, app, Qa, Qc, Qe, Qf, Qg, simprocAttr]
    exact ⟨5, by omega, by omega, Le.slots (by simp [Am.look, hrT])⟩
  · by_cases d1 : shP v0 v1 v2 v3 v4
    case neg =>
      rw [if_pos d1] at hE
      subst hE
      rw [if_neg (by omega)]
      rw [decide_eq_false d1] at hH'
      simp (maxSteps := 4000000) (disch := omega) only [rr, aop, cV, cV1, AV.one, Qb, okW, Qd, app, Qa, Qc, Qe, Qf, Qg, simprocAttr, hrT, hrC]
      refine Qh.vc hH' ?_
      simp (maxSteps := 4000000) (disch := omega) only [rr, aop, cV, cV1, AV.one, Qb, okW, Qd, app, Qa, Qc, Qe, Qf, Qg, simprocAttr, Z1, ht, Q7, hdA]
    rw [if_neg (fun q => q d1)] at hE
    rw [decide_eq_true d1] at hH'
    have hF2 := hF' d1.2.2.1 d1.2.2.2.1
    by_cases d2 : Qmt v1 v3 v4
    · rw [if_neg (fun q => q d2)] at hE
      subst hE
      rw [if_pos rfl]
      rw [decide_eq_true d2] at hF2
      simp (maxSteps := 4000000) (disch := omega) only [rr, aop, cV, cV1, AV.one, Qb, okW, Qd, app, Qa, Qc, Qe, Qf, Qg, simprocAttr, hrT, hrC]
      refine Qh.vc hH' ?_
      simp (maxSteps := 4000000) (disch := omega) only [rr, aop, cV, cV1, AV.one, Qb, okW, Qd, app, Qa, Qc, Qe, Qf, Qg, simprocAttr]
      refine Qh.vc hF2 ?_
      simp (maxSteps := 4000000) (disch := omega) only [rr, aop, cV, cV1, AV.one, Qb, okW, Qd, app, Qa, Qc, Qe, Qf, Qg, simprocAttr, Z1, ht, Q7, hdA]
    · rw [if_pos d2] at hE
      subst hE
      rw [if_neg (by omega)]
      rw [decide_eq_false d2] at hF2
      simp (maxSteps := 4000000) (disch := omega) only [rr, aop, cV, cV1, AV.one, Qb, okW, Qd, app, Qa, Qc, Qe, Qf, Qg, simprocAttr, hrT, hrC]
      refine Qh.vc hH' ?_
      simp (maxSteps := 4000000) (disch := omega) only [rr, aop, cV, cV1, AV.one, Qb, okW, Qd, app, Qa, Qc, Qe, Qf, Qg, simprocAttr]
      refine Qh.vc hF2 ?_
      simp (maxSteps := 4000000) (disch := omega) only [rr, aop, cV, cV1, AV.one, Qb, okW, Qd, app, Qa, Qc, Qe, Qf, Qg, simprocAttr, Z1, ht, Q7, hdA]
end Go.Am

namespace Go.Am
open Go.RowKit

/-! ### law34: example, alive; the law EncodeParts -/

def Qph (P : Prg) (f : Nat) : Prop := VC P f [] (clA 1 8 8000 [0])
theorem Qgk {P : Prg} {f t0 t1 : Nat} (bd : Qm P f 3 [.cell 0 t0] (Zf t0 t1)) (ht : Xb P t0 = some (some 4)) : Qph P f := by
  refine VC.of_walk 1 rfl (by simp [clA, isD, isDL, Q4]) (ACall.of_body bd (by simp) ?_)
  simp (maxSteps := 4000000) (disch := omega) only [rr, aop, cV, cV1, AV.one, Qb, okW, Qd, app, Qa, Qc, Qe, Qf, Qg, simprocAttr, Zf, Z1, ht, Q7]
  simp [ZJ, QX, frzL, QO, isDL, isD, clA, il, ks]
def fEx : List UInt8 := QbR 1 8 8000 [0] []
theorem QsN : Qdn 1 8 8000 [0] [] = .tup [bs fEx, .int .i64 0] := by
  have h1 : Zp 1 8 8000 [0] = 0 := by decide +kernel
  have h2 : skN (XM (Qk 1 8 8000 [0] (ofK (Zh 0 []) 8))) = 0 := (QjF h1 (by intro v hv; simp at hv; omega)).1
  rw [Qdn, if_neg (by omega), if_neg (by simp), if_neg (by omega)]
  rfl
theorem QrX : fEx.length = 36 ∧ fEx.take 4 = [84, 84, 65, 49] ∧ (fEx.drop 22).take 4 = [6, 0, 0, 0] := by decide +kernel
theorem Qrl {c x r : Int} {l : List Int} {p b : List UInt8} {e : Int} (h : Qdn c x r l p = .tup [bs b, .int .i64 e]) : QpM c x r l p = .tup [.int .i64 b.length, .int .i64 e] := by
  obtain ⟨b', e', h1, h2⟩ := QhW c x r l p
  rw [h] at h1
  simp only [bs, AV.tup.injEq, List.cons.injEq, AV.list.injEq, AV.int.injEq, true_and, and_true] at h1
  rw [h2, h1.1.1, h1.2]
theorem Qj4 {P : Prg} {f fX fF fS : Nat} (bd : Qm P f 42 [.tmp 0] (ZE fX fF fS)) (hX : Qph P fX) (hF : QeG P fF) (hS : Qk4 P fS) : Qla P f := by
  refine VC.of_acall rfl rfl (ACall.of_body bd (by simp) ?_)
  have i1 : I32 [0] := by intro v hv; simp at hv; omega
  have hX' : VC P fX [] (.agg [.int .i64 1, .int .i64 8, .int .i64 8000, .list 1 [.int .i32 0]]) := hX
  have hF0 := hF 1 8 8000 [0] [] i1 (by simp)
  have hS0 := hS 1 8 8000 [0] [] i1 (by simp)
  rw [Qrl QsN] at hS0
  rw [QsN] at hF0
  obtain ⟨l1, l2, l3⟩ := QrX
  have u1 : (u8 fEx).take 4 = u8 [84, 84, 65, 49] := by rw [JJ, l2]
  have u2 : ((u8 fEx).drop 22).take 4 = u8 [6, 0, 0, 0] := by rw [QaV, JJ, l3]
  rw [bs, l1] at hF0
  rw [l1] at hS0
  generalize fEx = F at *
  have hF' : VC P fF [.agg [.int .i64 1, .int .i64 8, .int .i64 8000, .list 1 [.int .i32 0]], .str []] (.tup [.list 36 (u8 F), .int .i64 0]) := hF0
  have hS' : VC P fS [.agg [.int .i64 1, .int .i64 8, .int .i64 8000, .list 1 [.int .i32 0]], .str []] (.tup [.int .i64 36, .int .i64 0]) := hS0
  have d1 := ZF [84, 84, 65, 49]
  have d2 := ZF [6, 0, 0, 0]
  simp (maxSteps := 4000000) (disch := omega) only [rr, aop, cV, cV1, AV.one, Qb, okW, Qd, app, Qa, Qc, Qe, Qf, Qg, simprocAttr, ZE]
  refine Qh.vc hX' ?_
  simp (maxSteps := 4000000) (disch := omega) only [rr, aop, cV, cV1, AV.one, Qb, okW, Qd, app, Qa, Qc, Qe, Qf, Qg, simprocAttr]
  refine Qh.vc hF' ?_
  simp (maxSteps := 4000000) (disch := omega) only [rr, aop, cV, cV1, AV.one, Qb, okW, Qd, app, Qa, Qc, Qe, Qf, Qg, simprocAttr]
  refine Qh.vc hX' ?_
  simp (maxSteps := 4000000) (disch := omega) only [rr, aop, cV, cV1, AV.one, Qb, okW, Qd, app, Qa, Qc, Qe, Qf, Qg, simprocAttr]
  refine Qh.vc hS' ?_
  simp (maxSteps := 4000000) (disch := omega) only [rr, aop, cV, cV1, AV.one, Qb, okW, Qd, app, Qa, Qc, Qe, Qf, Qg, simprocAttr, u1, u2, d1, d2, Qjd, l1]

theorem Qqg {l : List Int} (h : (decide (300 < l.length) && decide (l.length ≤ 4000) || decide (4010 < l.length)) = false) : l.length ≤ 4010 := by
  simp only [Bool.or_eq_false_iff, decide_eq_false_iff_not] at h
  omega
set_option maxHeartbeats 4000000 in
theorem QcS {P : Prg} {f fA fL fC fF fH fM fD fG fN fS t0 t1 : Nat} (bd : Qm P f 208 [.tmp 4] (Qr fA fL fC fF fH fM fD fG fN fS t0 t1)) (hA : Qla P fA) (hL : QeC P fL) (hC : Z3 P fC) (hF : QeG P fF) (hH : Qhi P fH) (hM : QdL P fM) (hD : Qhm P fD) (hG : QdM P fG) (hN : Qc3 P fN) (hS : Qhe P fS) : Qjb P f := by
  intro c x r l p hI
  refine VC.of_acall (by simp [isDL, isD, Q4, clA]) rfl (ACall.of_body bd (by simp) ?_)
  have hA' : VC P fA [] (.bool true) := hA
  have hL' := hL c x r l
  rw [clA, il] at hL'
  cases hg : (decide (300 < l.length) && decide (l.length ≤ 4000) || decide (4010 < l.length)) with
  | true =>
    rw [hg] at hL'
    simp (maxSteps := 4000000) (disch := omega) only [rr, aop, cV, cV1, AV.one, Qb, okW, Qd, app, Qa, Qc, Qe, Qf, Qg, simprocAttr, Qr, clA, il]
    refine Qh.vc hA' ?_
    simp (maxSteps := 4000000) (disch := omega) only [rr, aop, cV, cV1, AV.one, Qb, okW, Qd, app, Qa, Qc, Qe, Qf, Qg, simprocAttr]
    refine Qh.vc hL' ?_
    simp (maxSteps := 4000000) (disch := omega) only [rr, aop, cV, cV1, AV.one, Qb, okW, Qd, app, Qa, Qc, Qe, Qf, Qg, simprocAttr]
  | false =>
  rw [hg] at hL'
  have h4 := Qqg hg
  have hC' := hC c x r l hI (by omega)
  rw [il] at hC'
  rcases Qaq c x r l with h | h
  case inr =>
    rw [h] at hC'
    simp (maxSteps := 4000000) (disch := omega) only [rr, aop, cV, cV1, AV.one, Qb, okW, Qd, app, Qa, Qc, Qe, Qf, Qg, simprocAttr, Qr, clA, il]
    refine Qh.vc hA' ?_
    simp (maxSteps := 4000000) (disch := omega) only [rr, aop, cV, cV1, AV.one, Qb, okW, Qd, app, Qa, Qc, Qe, Qf, Qg, simprocAttr]
    refine Qh.vc hL' ?_
    simp (maxSteps := 4000000) (disch := omega) only [rr, aop, cV, cV1, AV.one, Qb, okW, Qd, app, Qa, Qc, Qe, Qf, Qg, simprocAttr]
    refine Qh.vc hC' ?_
    simp (maxSteps := 4000000) (disch := omega) only [rr, aop, cV, cV1, AV.one, Qb, okW, Qd, app, Qa, Qc, Qe, Qf, Qg, simprocAttr]
  rw [h] at hC'
  by_cases hp : 64 < p.length
  · simp (maxSteps := 4000000) (disch := omega) only [rr, aop, cV, cV1, AV.one, Qb, okW, Qd, app, Qa, Qc, Qe, Qf, Qg, simprocAttr, Qr, clA, il]
    refine Qh.vc hA' ?_
    simp (maxSteps := 4000000) (disch := omega) only [rr, aop, cV, cV1, AV.one, Qb, okW, Qd, app, Qa, Qc, Qe, Qf, Qg, simprocAttr]
    refine Qh.vc hL' ?_
    simp (maxSteps := 4000000) (disch := omega) only [rr, aop, cV, cV1, AV.one, Qb, okW, Qd, app, Qa, Qc, Qe, Qf, Qg, simprocAttr]
    refine Qh.vc hC' ?_
    simp (maxSteps := 4000000) (disch := omega) only [rr, aop, cV, cV1, AV.one, Qb, okW, Qd, app, Qa, Qc, Qe, Qf, Qg, simprocAttr]
  have hF' := hF c x r l p hI (by omega)
  have hsk := (QjF (T := ofK (Zh 0 p) 8) h hI).1
  rw [Qdn, if_neg (by omega), if_neg hp, if_neg (by omega)] at hF'
  obtain ⟨hfh, hfA⟩ := Qix p h
  obtain ⟨hfl, hf6⟩ := Qqv (p := p) h hI
  have hM' := hM c x r l p hI (by omega)
  rw [mkA, if_neg (by omega), if_neg hp, ← Qef] at hM'
  have hH' := hH (QbR c x r l p) (by omega)
  rw [hfA] at hH'
  have hG' := hG c x r l p hI (by omega)
  rw [Qip h hp] at hG'
  have hN' := hN (Qef p) c x r (l.length / c)
  rw [Qsl, if_pos (Qgo p h)] at hN'
  have hfr := Qiq (T := ofK (Zh 0 p) 8) h hI
  have hFl := XE c x r l (ofK (Zh 0 p) 8)
  have hpl := QbP c r l
  have hnn : (QI (Qy r).toNat ((l.length : Int) / c).toNat).length = (Qk c x r l (ofK (Zh 0 p) 8)).length := by
    rw [hFl, hpl]
    obtain ⟨k, n, rfl, _⟩ := X2 h
    rw [Int.toNat_natCast, ← Int.natCast_ediv, Int.toNat_natCast]
  have hS' := hS (XM (Qk c x r l (ofK (Zh 0 p) 8))) ((Qk c x r l (ofK (Zh 0 p) 8)).flatten) hsk (by omega)
  have h22 : (QbR c x r l p).drop 22 = Ql5 c x r l p := by
    rw [hfh, List.drop_append_of_le_length (by rw [Qkd]; omega), List.drop_of_length_le (by rw [Qkd]; omega), List.nil_append]
  have hdr : ∀ q, (QbR c x r l p).drop (22 + (QhT p).length + q) = (QS (ZI (XM (Qk c x r l (ofK (Zh 0 p) 8)))) ++ (Qk c x r l (ofK (Zh 0 p) 8)).flatten).drop q := fun q => by
    rw [Nat.add_assoc, ← List.drop_drop, h22, Ql5, ← List.drop_drop, List.drop_left]
  have hd0 := hdr 0
  rw [Nat.add_zero, List.drop_zero] at hd0
  have hll := Qbh (Qk c x r l (ofK (Zh 0 p) 8))
  have hst := Qh0 (XM (Qk c x r l (ofK (Zh 0 p) 8)))
  rw [hll] at hst
  have hd1 : ∀ q, (QbR c x r l p).drop (22 + (QhT p).length + (4 * (Qk c x r l (ofK (Zh 0 p) 8)).length + 4) + q) = (Qk c x r l (ofK (Zh 0 p) 8)).flatten.drop q := fun q => by
    rw [Nat.add_assoc, hdr, ← hst, ← List.drop_drop, List.drop_left]
  have hpw : p ≠ [] → ((QbR c x r l p).drop 22).take 8 = leB (Zh 0 p) 8 ∧ (QhT p).length = 8 := fun hp0 => by
    have e1 : QhT p = leB (Zh 0 p) 8 := by rw [QhT, if_neg hp0]
    rw [h22, Ql5, e1, List.take_append_of_le_length (by rw [Qi]; omega), List.take_of_length_le (by rw [Qi]; omega)]
    exact ⟨rfl, Qi _ _⟩
  have hD' := hD (leB (Zh 0 p) 8) p (by rw [Qi]; omega)
  rw [Qd2, if_neg (by rw [Qi]; omega)] at hD'
  have hbeq : (leB (Zh 0 p) 8 == leB (Zh 0 p) 8) = true := by simp
  rw [hbeq, bs, Qi] at hD'
  have hu := QA (QbR c x r l p)
  clear hfh hdr hfA hsk h22
  generalize hBB : QbR c x r l p = B at *
  generalize hFF : Qk c x r l (ofK (Zh 0 p) 8) = FF at *
  generalize (l.length : Int) / c = q at *
  have hmf : (FF.map bs).length = FF.length := by simp
  have kn : (ks .i64 (XM FF)).length = FF.length := by rw [Ql, hll]
  have hks2 : (ks .i64 (QI (Qy r).toNat q.toNat)).length = FF.length := by rw [Ql, hnn]
  rw [Qed, hnn] at hN'
  rw [Qed, hll, bs] at hS'
  rw [bss] at hG'
  rw [bs] at hF' hH'
  simp only [clA, il, hdA] at hF' hM' hH' hG' hN'
  have hlen2 : (QS (ZI (XM FF)) ++ FF.flatten).length = 4 * FF.length + 4 + FF.flatten.length := by rw [List.length_append, hst]
  rw [hlen2] at hS'
  have hsd : (u8 B).drop (22 + (QhT p).length) = u8 (QS (ZI (XM FF)) ++ FF.flatten) := by rw [QaV, hd0]
  have hF1 : 1 ≤ FF.length ∧ FF.length ≤ 1000 := ⟨by rw [hFl, hpl, Zj]; exact Nat.le_add_left 1 _, by rw [hFl]; exact J4 h⟩
  have hX : (u8 (QS (ZI (XM FF)) ++ FF.flatten)).take (4 * FF.length + 4 + FF.flatten.length) = u8 (QS (ZI (XM FF)) ++ FF.flatten) := List.take_of_length_le (by rw [QA, hlen2]; omega)
  by_cases hn : p = []
  · have hf : Qef p = 1 := by rw [Qef, if_pos hn]
    have hs0 : (QhT p).length = 0 := by rw [QhT, if_pos hn]; rfl
    rw [hf] at hM' hH' hN'
    rw [hs0, Nat.add_zero] at hfl hsd hd1
    clear hpw
    subst hn
    simp (maxSteps := 4000000) (disch := omega) only [rr, aop, cV, cV1, AV.one, Qb, okW, Qd, app, Qa, Qc, Qe, Qf, Qg, simprocAttr, Qr, clA, il]
    refine Qh.vc hA' ?_
    simp (maxSteps := 4000000) (disch := omega) only [rr, aop, cV, cV1, AV.one, Qb, okW, Qd, app, Qa, Qc, Qe, Qf, Qg, simprocAttr]
    refine Qh.vc hL' ?_
    simp (maxSteps := 4000000) (disch := omega) only [rr, aop, cV, cV1, AV.one, Qb, okW, Qd, app, Qa, Qc, Qe, Qf, Qg, simprocAttr]
    refine Qh.vc hC' ?_
    simp (maxSteps := 4000000) (disch := omega) only [rr, aop, cV, cV1, AV.one, Qb, okW, Qd, app, Qa, Qc, Qe, Qf, Qg, simprocAttr]
    refine Qh.vc hF' ?_
    simp (maxSteps := 4000000) (disch := omega) only [rr, aop, cV, cV1, AV.one, Qb, okW, Qd, app, Qa, Qc, Qe, Qf, Qg, simprocAttr]
    refine Qh.vc hH' ?_
    simp (maxSteps := 4000000) (disch := omega) only [rr, aop, cV, cV1, AV.one, Qb, okW, Qd, app, Qa, Qc, Qe, Qf, Qg, simprocAttr]
    refine Qh.vc hM' ?_
    simp (maxSteps := 4000000) (disch := omega) only [rr, aop, cV, cV1, AV.one, Qb, okW, Qd, app, Qa, Qc, Qe, Qf, Qg, simprocAttr, Qjd]
    refine Qh.vc hG' ?_
    simp (maxSteps := 4000000) (disch := omega) only [rr, aop, cV, cV1, AV.one, Qb, okW, Qd, app, Qa, Qc, Qe, Qf, Qg, simprocAttr]
    refine Qh.vc hN' ?_
    have hBL : B.length - 22 = 4 * FF.length + 4 + FF.flatten.length := by omega
    simp (maxSteps := 4000000) (disch := omega) only [rr, aop, cV, cV1, AV.one, Qb, okW, Qd, app, Qa, Qc, Qe, Qf, Qg, simprocAttr, hsd, hBL, hX]
    refine Qh.vc hS' ?_
    simp (maxSteps := 4000000) (disch := omega) only [rr, aop, cV, cV1, AV.one, Qb, okW, Qd, app, Qa, Qc, Qe, Qf, Qg, simprocAttr]
    obtain ⟨A, hAe⟩ : ∃ A, A = 22 + (4 * FF.length + 4) := ⟨_, rfl⟩
    have hBA : B.length = A + FF.flatten.length := by omega
    refine QV.by (ι := Nat) (fun m => ⟨[(21, .int .i64 m), (12, .int .i64 ((A + (FF.take m).flatten.length : Nat) : Int)), (19, .list FF.length (ks .i64 (XM FF))), (15, .list FF.length (FF.map bs)), (6, .list B.length (u8 B)), (5, .bool true)], []⟩) (fun m => m ≤ FF.length) (fun m => FF.length - m) 0 (Le.low (ob := []) (Nat.zero_le _) Low.nil (by simp [Am.look, Jq, lowL_D _ (QT _ _), lowL_D _ (QcT _), lowL_D _ (Qcq _)]; omega)) (by omega) ?_
    rw [← hAe] at hd1
    intro m hm
    have hfl2 := QdF FF m
    by_cases hlt : m < FF.length
    · have e1 := QlL (L := FF) (k := m) hlt
      have e2 := Qea (K := .i64) (l := XM FF) (i := m) (by omega)
      rw [Qn8 hlt] at e2
      have hs1 := Qit FF m hlt
      have hfl3 := QdF FF (m + 1)
      have hat : ((u8 B).drop (A + (FF.take m).flatten.length)).take (FF.getD m []).length = u8 (FF.getD m []) := by
        rw [QaV, JJ, hd1, Qkf FF m hlt]
      have hd := ZF (FF.getD m [])
      have hsa : Qjd .neq (FF.getD m []) (FF.getD m []) = some (.bool false) := by simp [Qjd]
      rw [bs] at e1
      generalize FF.getD m [] = F at *
      have hX2 : A + (FF.take m).flatten.length + F.length - (A + (FF.take m).flatten.length) = F.length := by omega
      have hX3 : min F.length (B.length - (A + (FF.take m).flatten.length)) = F.length := by omega
      generalize (FF.take m).flatten.length = S0 at *
      simp (maxSteps := 4000000) (disch := omega) only [rr, aop, cV, cV1, AV.one, Qb, okW, Qd, app, Qa, Qc, Qe, Qf, Qg, simprocAttr, e1, e2, hat, hX2, hX3, hd, hsa, hmf, kn]
      refine ⟨m + 1, by omega, by omega, ?_⟩
      simp only [hs1]
      exact Le.slots (by simp [Am.look]; omega)
    · have em : m = FF.length := by omega
      subst em
      rw [List.take_length]
      simp (maxSteps := 4000000) (disch := omega) only [rr, aop, cV, cV1, AV.one, Qb, okW, Qd, app, Qa, Qc, Qe, Qf, Qg, simprocAttr, hmf, kn]
  · obtain ⟨hpw1, hpw2⟩ := hpw hn
    have hf : Qef p = 2 := by rw [Qef, if_neg hn]
    rw [hf] at hM' hH' hN'
    rw [hpw2] at hfl hsd hd1
    have hpe : (!(p == [])) = true := by simp [hn]
    have hd8 : ((u8 B).drop 22).take 8 = u8 (leB (Zh 0 p) 8) := by rw [QaV, JJ, hpw1]
    clear hpw
    simp (maxSteps := 4000000) (disch := omega) only [rr, aop, cV, cV1, AV.one, Qb, okW, Qd, app, Qa, Qc, Qe, Qf, Qg, simprocAttr, Qr, clA, il]
    refine Qh.vc hA' ?_
    simp (maxSteps := 4000000) (disch := omega) only [rr, aop, cV, cV1, AV.one, Qb, okW, Qd, app, Qa, Qc, Qe, Qf, Qg, simprocAttr]
    refine Qh.vc hL' ?_
    simp (maxSteps := 4000000) (disch := omega) only [rr, aop, cV, cV1, AV.one, Qb, okW, Qd, app, Qa, Qc, Qe, Qf, Qg, simprocAttr]
    refine Qh.vc hC' ?_
    simp (maxSteps := 4000000) (disch := omega) only [rr, aop, cV, cV1, AV.one, Qb, okW, Qd, app, Qa, Qc, Qe, Qf, Qg, simprocAttr]
    refine Qh.vc hF' ?_
    simp (maxSteps := 4000000) (disch := omega) only [rr, aop, cV, cV1, AV.one, Qb, okW, Qd, app, Qa, Qc, Qe, Qf, Qg, simprocAttr]
    refine Qh.vc hH' ?_
    simp (maxSteps := 4000000) (disch := omega) only [rr, aop, cV, cV1, AV.one, Qb, okW, Qd, app, Qa, Qc, Qe, Qf, Qg, simprocAttr]
    refine Qh.vc hM' ?_
    simp (maxSteps := 4000000) (disch := omega) only [rr, aop, cV, cV1, AV.one, Qb, okW, Qd, app, Qa, Qc, Qe, Qf, Qg, simprocAttr, Qjd, hpe, hpw1, hd8]
    refine Qh.vc hD' ?_
    simp (maxSteps := 4000000) (disch := omega) only [rr, aop, cV, cV1, AV.one, Qb, okW, Qd, app, Qa, Qc, Qe, Qf, Qg, simprocAttr]
    refine Qh.vc hG' ?_
    simp (maxSteps := 4000000) (disch := omega) only [rr, aop, cV, cV1, AV.one, Qb, okW, Qd, app, Qa, Qc, Qe, Qf, Qg, simprocAttr]
    refine Qh.vc hN' ?_
    have hBL : B.length - 30 = 4 * FF.length + 4 + FF.flatten.length := by omega
    simp (maxSteps := 4000000) (disch := omega) only [rr, aop, cV, cV1, AV.one, Qb, okW, Qd, app, Qa, Qc, Qe, Qf, Qg, simprocAttr, hsd, hBL, hX]
    refine Qh.vc hS' ?_
    simp (maxSteps := 4000000) (disch := omega) only [rr, aop, cV, cV1, AV.one, Qb, okW, Qd, app, Qa, Qc, Qe, Qf, Qg, simprocAttr]
    obtain ⟨A, hAe⟩ : ∃ A, A = 30 + (4 * FF.length + 4) := ⟨_, rfl⟩
    have hBA : B.length = A + FF.flatten.length := by omega
    refine QV.by (ι := Nat) (fun m => ⟨[(21, .int .i64 m), (12, .int .i64 ((A + (FF.take m).flatten.length : Nat) : Int)), (19, .list FF.length (ks .i64 (XM FF))), (15, .list FF.length (FF.map bs)), (6, .list B.length (u8 B)), (5, .bool true)], []⟩) (fun m => m ≤ FF.length) (fun m => FF.length - m) 0 (Le.low (ob := []) (Nat.zero_le _) Low.nil (by simp [Am.look, Jq, lowL_D _ (QT _ _), lowL_D _ (QcT _), lowL_D _ (Qcq _)]; omega)) (by omega) ?_
    rw [← hAe] at hd1
    intro m hm
    have hfl2 := QdF FF m
    by_cases hlt : m < FF.length
    · have e1 := QlL (L := FF) (k := m) hlt
      have e2 := Qea (K := .i64) (l := XM FF) (i := m) (by omega)
      rw [Qn8 hlt] at e2
      have hs1 := Qit FF m hlt
      have hfl3 := QdF FF (m + 1)
      have hat : ((u8 B).drop (A + (FF.take m).flatten.length)).take (FF.getD m []).length = u8 (FF.getD m []) := by
        rw [QaV, JJ, hd1, Qkf FF m hlt]
      have hd := ZF (FF.getD m [])
      have hsa : Qjd .neq (FF.getD m []) (FF.getD m []) = some (.bool false) := by simp [Qjd]
      rw [bs] at e1
      generalize FF.getD m [] = F at *
      have hX2 : A + (FF.take m).flatten.length + F.length - (A + (FF.take m).flatten.length) = F.length := by omega
      have hX3 : min F.length (B.length - (A + (FF.take m).flatten.length)) = F.length := by omega
      generalize (FF.take m).flatten.length = S0 at *
      simp (maxSteps := 4000000) (disch := omega) only [rr, aop, cV, cV1, AV.one, Qb, okW, Qd, app, Qa, Qc, Qe, Qf, Qg, simprocAttr, e1, e2, hat, hX2, hX3, hd, hsa, hmf, kn]
      refine ⟨m + 1, by omega, by omega, ?_⟩
      simp only [hs1]
      exact Le.slots (by simp [Am.look]; omega)
    · have em : m = FF.length := by omega
      subst em
      rw [List.take_length]
      simp (maxSteps := 4000000) (disch := omega) only [rr, aop, cV, cV1, AV.one, Qb, okW, Qd, app, Qa, Qc, Qe, Qf, Qg, simprocAttr, hmf, kn]
end Go.Am

namespace Go.Am
open Go.RowKit

/-! ### A clip cs0 an argument -/

def Qtz : Sh := .tuple [.int .i64, .int .i64, .int .i64, .slice (.int .i32)]
theorem Qou {cs0 : List AV} (h : QaI Qtz cs0) : ∃ (c x r : Int) (l : List Int), cs0 = [.int .i64 c, .int .i64 x, .int .i64 r, il l] ∧ I32 l := by
  simp only [Qtz, QaI, FitsL] at h
  obtain ⟨_, _, rfl, ⟨c, rfl, _⟩, _, _, rfl, ⟨x, rfl, _⟩, _, _, rfl, ⟨r, rfl, _⟩, _, _, rfl, ⟨L, rfl, _, h2⟩, rfl⟩ := h
  obtain ⟨l, _, e2, hi⟩ := Qiu (L := L) (fun c hc => by simp only [QaI]; exact h2 c hc)
  exact ⟨c, x, r, l, by simp [e2], hi⟩
end Go.Am
