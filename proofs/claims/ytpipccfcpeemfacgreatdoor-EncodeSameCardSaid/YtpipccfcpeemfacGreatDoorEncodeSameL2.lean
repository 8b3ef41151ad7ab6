/- What the functions that the law reaches return, for every program that has their code; the conditions stand in each statement. -/
import Derived.Test.YtpipccfcpeemfacGreatDoorEncodeSameL1
set_option linter.unusedSectionVars false
set_option linter.unusedSimpArgs false
set_option linter.unusedVariables false
namespace Go.Am
open Go.RowKit
def Qju (P : Prg) (f : Nat) : Prop := ∀ (c b r : Nat) (wide : Bool) (m : Nat), JN c b r → m < 4294967296 → VC P f [QbQ c b r, .bool wide, .int .u64 m] (bs (ZM c b r wide m))
def Qyc (V : List Nat) : Prop := ∀ k (h : k < V.length) (h' : k < J0.length), V[k] < 256 ^ J0[k] ∧ 1 ≤ J0[k] ∧ J0[k] ≤ 8
theorem Qtp {c b r tag m : Nat} (h : JN c b r) (hm : m < 4294967296) (ht : tag < 65536) : Qyc (QnZ c b r tag m) := by
 obtain ⟨h1, h2, h3, h4, h5⟩ := h
 have hb : b ≤ 24 := by rcases (Qas b).1 h3 with h | h | h <;> omega
 have e1 : c * b ≤ 6 * 24 := Nat.mul_le_mul (by omega) hb
 have e2 : r * (c * b / 8) ≤ 1048576 * 18 := Nat.mul_le_mul (by omega) (by omega)
 intro k hk _
 have hk : k < 9 := hk
 match k, hk with
 | 0, _ => simp [QnZ, J0]; omega
 | 1, _ => simp [QnZ, J0]; omega
 | 2, _ => simp [QnZ, J0]; omega
 | 3, _ => simp [QnZ, J0]; omega
 | 4, _ => simp [QnZ, J0]; omega
 | 5, _ => simp [QnZ, J0]; omega
 | 6, _ => simp [QnZ, J0]
 | 7, _ => simp [QnZ, J0]; omega
 | 8, _ => simp [QnZ, J0]; omega
theorem Qkn {l : List (Nat × Nat)} {k : Nat} (h : k < l.length) : QgE (l.take (k + 1)) = QgE (l.take k) ++ leB (l[k]).1 (l[k]).2 := by
 rw [QgE, List.take_succ_eq_append_getElem h, List.flatMap_append]; simp [QgE]
theorem Qrm {V : List Nat} (k : Nat) : (QgE ((V.zip J0).take k)).length ≤ 36 := by
 have h : ∀ l : List (Nat × Nat), (∀ p ∈ l, p.2 ≤ 4) → (QgE l).length ≤ l.length * 4 := by
  intro l
  induction l with
  | nil => simp [QgE]
  | cons p l ih =>
   intro h
   have h1 := h p (by simp)
   have h2 := ih fun q hq => h q (by simp [hq])
   have e : QgE (p :: l) = leB p.1 p.2 ++ QgE l := rfl
   rw [e, List.length_append, Qa, List.length_cons]
   omega
 have h2 := h ((V.zip J0).take k) fun p hp => by
  have h3 := (List.of_mem_zip (List.mem_of_mem_take hp)).2
  simp [J0] at h3; omega
 have h4 : ((V.zip J0).take k).length ≤ 9 := by simp [J0]; omega
 omega
set_option maxRecDepth 20000 in
set_option maxHeartbeats 1000000 in
theorem Quy {P : Prg} {f fB t0 t1 t2 g0 g1 : Nat} (bd : Body P f 67 [.tmp 6] (Xh fB t0 t1 t2 g0 g1)) (hB : Xd P fB) (h0 : P.G.lookup g0 = some XF) (h1 : P.G.lookup g1 = some QmO) : Qju P f := by
 intro c b r wide m hok hm
 have hok0 := hok
 obtain ⟨q1, q2, q3, q4, q5⟩ := hok0
 have hb : b ≤ 24 := by rcases (Qas b).1 q3 with h | h | h <;> omega
 have e1 : c * b ≤ 6 * 24 := Nat.mul_le_mul (by omega) hb
 have e2 : r * (c * b / 8) ≤ 1048576 * 18 := Nat.mul_le_mul (by omega) (by omega)
 have hpre := Qrn c b r wide m
 have hfit : ∀ tag : Nat, tag < 65536 → Qyc (QnZ c b r tag m) := fun tag ht => Qtp hok hm ht
 simp only [QnZ] at hpre hfit
 generalize hS : c * b / 8 = S at *
 generalize hT : r * S = T at *
 have m1 : (c : Int) * b = ((c * b : Nat) : Int) := by simp
 have m2 : ((c * b : Nat) : Int) / 8 = (S : Int) := by omega
 have m3 : (r : Int) * (S : Int) = (T : Int) := by rw [← hT]; simp
 generalize c * b = cb at *
 refine VC.of_walk 1 rfl (QR _) (ACall.of_body bd (by simp) ?_)
 have g0' : Qqe P.G g0 = .cell XF := by simp [Qqe, h0]
 have g1' : Qqe P.G g1 = .cell QmO := by simp [Qqe, h1]
 cases wide with
 | false =>
  simp (disch := omega) only [rq, simprocAttr, Xh, QbQ, m1, m2, m3]
  obtain ⟨V, hV⟩ : ∃ V : List Nat, V = [1, c, r, T, S, b, 22, b, m] := ⟨_, rfl⟩
  have hl9 : V.length = 9 := by rw [hV]; rfl
  have hc9 : ([.int .u64 1, .int .u64 c, .int .u64 r, .int .u64 T, .int .u64 S, .int .u64 b, .int .u64 22, .int .u64 b, .int .u64 m] : List AV) = ks .u64 (V.map fun n : Nat => (n : Int)) := by rw [hV]; simp [ks]
  have f1 := hfit 1 (by omega)
  rw [← hV] at f1
  have hp : ZM c b r false m = QgE ((V.zip J0).take 6) := by rw [hpre, hV]; simp
  rw [hc9, hp]
  refine QL.by (ι := Nat) (fun k => ⟨[(45, .int .i64 k), (44, .int .i64 6), (10, .own 2 (QgE ((V.zip J0).take k)).length), (8, .ref 1 1 0), (1, .bool false)], [⟨t0, 3, 1, [.int .i64 c, .int .i64 b, .int .i64 r], 0⟩, ⟨t1, 9, 1, ks .u64 (V.map fun n : Nat => (n : Int)), 0⟩, ⟨t2, 1, (QgE ((V.zip J0).take k)).length, u8 (QgE ((V.zip J0).take k)), 0⟩]⟩) (fun k => k ≤ 6) (fun k => 6 - k) 0 (Le.trans (Le.virt 10 t2 1 (by omega) rfl) (Le.slots (by simp [Am.look, QgE]))) (by omega) ?_
  intro k hk
  have hs := Qrm (V := V) k
  by_cases hlt : k < 6
  ·have f1 := f1 k (by omega) (by simp [J0]; omega)
   have d1 := Z2 (K := .u64) (l := V.map fun n : Nat => (n : Int)) (k := k) (by simp; omega)
   have d2 := Z2 (K := .i64) (l := J0.map fun n : Nat => (n : Int)) (k := k) (by simp [J0]; omega)
   have d3 := Qkn (l := V.zip J0) (k := k) (by simp [J0]; omega)
   have d4 : (ks .u64 (V.map fun n : Nat => (n : Int))).length = 9 := by rw [Qi]; simpa using hl9
   have d5 : (ks .i64 (J0.map fun n : Nat => (n : Int))).length = 9 := by rw [Qi]; rfl
   rw [List.getElem_map] at d1 d2
   rw [List.getElem_zip] at d3
   obtain ⟨f1, f2, f3⟩ := f1
   rw [Qqm] at g0'
   generalize V[k]'_ = v at *
   generalize J0[k]'_ = w at *
   obtain ⟨W, hW⟩ : ∃ W, (J0.map fun n : Nat => (n : Int)) = W := ⟨_, rfl⟩
   rw [hW] at d2 d5 g0'
   simp (disch := omega) only [rq, simprocAttr, g0', d1, d2, d4, d5]
   refine ZN.vc (hB v w f2 f3 f1) ?_
   simp (disch := omega) only [rq, simprocAttr, bs, Qa]
   refine ⟨k + 1, by omega, by omega, ?_⟩
   rw [d3, ← QT, List.length_append, Qa]
   exact Le.slots (by simp [Am.look])
  ·have ek : k = 6 := by omega
   subst ek
   simp (disch := omega) only [rq, simprocAttr]
   simp [QO, Qz, frzL, Qv, frzL_T _ (QC _), bs]
 | true =>
  simp (disch := omega) only [rq, simprocAttr, Xh, QbQ, m1, m2, m3]
  obtain ⟨V, hV⟩ : ∃ V : List Nat, V = [65534, c, r, T, S, b, 22, b, m] := ⟨_, rfl⟩
  have hl9 : V.length = 9 := by rw [hV]; rfl
  have hc9 : ([.int .u64 65534, .int .u64 c, .int .u64 r, .int .u64 T, .int .u64 S, .int .u64 b, .int .u64 22, .int .u64 b, .int .u64 m] : List AV) = ks .u64 (V.map fun n : Nat => (n : Int)) := by rw [hV]; simp [ks]
  have f1 := hfit 65534 (by omega)
  rw [← hV] at f1
  have hp : ZM c b r true m = QgE ((V.zip J0).take 9) ++ QeK := by rw [hpre, hV]; simp
  rw [hc9, hp]
  refine QL.by (ι := Nat) (fun k => ⟨[(45, .int .i64 k), (44, .int .i64 9), (10, .own 2 (QgE ((V.zip J0).take k)).length), (8, .ref 1 1 0), (1, .bool true)], [⟨t0, 3, 1, [.int .i64 c, .int .i64 b, .int .i64 r], 0⟩, ⟨t1, 9, 1, ks .u64 (V.map fun n : Nat => (n : Int)), 0⟩, ⟨t2, 1, (QgE ((V.zip J0).take k)).length, u8 (QgE ((V.zip J0).take k)), 0⟩]⟩) (fun k => k ≤ 9) (fun k => 9 - k) 0 (Le.trans (Le.virt 10 t2 1 (by omega) rfl) (Le.slots (by simp [Am.look, QgE]))) (by omega) ?_
  intro k hk
  have hs := Qrm (V := V) k
  by_cases hlt : k < 9
  ·have f1 := f1 k (by omega) (by simp [J0]; omega)
   have d1 := Z2 (K := .u64) (l := V.map fun n : Nat => (n : Int)) (k := k) (by simp; omega)
   have d2 := Z2 (K := .i64) (l := J0.map fun n : Nat => (n : Int)) (k := k) (by simp [J0]; omega)
   have d3 := Qkn (l := V.zip J0) (k := k) (by simp [J0]; omega)
   have d4 : (ks .u64 (V.map fun n : Nat => (n : Int))).length = 9 := by rw [Qi]; simpa using hl9
   have d5 : (ks .i64 (J0.map fun n : Nat => (n : Int))).length = 9 := by rw [Qi]; rfl
   rw [List.getElem_map] at d1 d2
   rw [List.getElem_zip] at d3
   obtain ⟨f1, f2, f3⟩ := f1
   rw [Qqm] at g0'
   generalize V[k]'_ = v at *
   generalize J0[k]'_ = w at *
   obtain ⟨W, hW⟩ : ∃ W, (J0.map fun n : Nat => (n : Int)) = W := ⟨_, rfl⟩
   rw [hW] at d2 d5 g0'
   simp (disch := omega) only [rq, simprocAttr, g0', d1, d2, d4, d5]
   refine ZN.vc (hB v w f2 f3 f1) ?_
   simp (disch := omega) only [rq, simprocAttr, bs, Qa]
   refine ⟨k + 1, by omega, by omega, ?_⟩
   rw [d3, ← QT, List.length_append, Qa]
   exact Le.slots (by simp [Am.look])
  ·have ek : k = 9 := by omega
   subst ek
   have z1 : (min 16 QmO.length = 16) = True := eq_true rfl
   have z2 : List.take 16 QmO = u8 QeK := by rw [Qus]; rfl
   have z3 : QeK.length = 16 := rfl
   have z4 : (QeK.length = 16) = True := eq_true rfl
   simp (disch := omega) only [rq, simprocAttr, g1', z1, z2, z4]
   simp [QO, Qz, frzL, Qv, QT, frzL_T _ (QC _), bs, z3]
theorem Qdv (c b r tag : Nat) : (Qad c b r tag).length = 16 := by simp [Qad, Qa]
theorem QaQ (c b r m : Nat) : ZM c b r false m = ZM c b r false 0 := rfl
theorem Qcj : ∀ (k n : Nat), n < 256 ^ k → leN (leB n k) = n
 | 0, n, h => by simp at h; subst h; rfl
 | k + 1, n, h => by
  have h1 : n / 256 < 256 ^ k := by rw [Nat.pow_succ] at h; exact Nat.div_lt_of_lt_mul (by omega)
  have h2 : (UInt8.ofNat (n % 256)).toNat = n % 256 := by simp
  simp only [leB, leN, Qcj k _ h1, h2]
  omega
def QeL (c b r : Int) : List UInt8 := ZM c.toNat b.toNat r.toNat (QdC c b) (2 ^ c.toNat - 1)
def Qjm (P : Prg) (f : Nat) : Prop := ∀ (c b r : Int), VC P f [QbQ c b r] (if JN c b r then .tup [bs (QeL c b r), .int .i64 0] else .tup [.list 0 [], .int .i64 8])
theorem Qfv {c b r : Int} (h : JN c b r) : ∃ c' b' r' : Nat, c = c' ∧ b = b' ∧ r = r' := by
 obtain ⟨h1, h2, h3, h4, h5⟩ := h
 rw [Qas] at h3
 exact ⟨c.toNat, b.toNat, r.toNat, by omega, by omega, by omega⟩
theorem QrY {P : Prg} {f fF fW t0 : Nat} (bd : Body P f 21 [.tmp 2, .tmp 3] (Z0 fW fF t0)) (hF : Qju P fF) (hW : QnK P fW) : Qjm P f := by
 intro c b r
 have hW' := hW c b r
 rw [QbQ] at hW'
 by_cases hok : JN c b r
 ·rw [if_pos hok] at hW' ⊢
  obtain ⟨c, b, r, rfl, rfl, rfl⟩ := Qfv hok
  refine VC.of_acall rfl (by simp [isD, isDL, QR]) (ACall.of_body bd (by simp) ?_)
  have hF' := hF c b r (QdC c b) (2 ^ c - 1) hok (by
   have := Nat.pow_le_pow_right (n := 2) (by omega) (show c ≤ 6 by have := hok.2.1; omega)
   omega)
  have hc1 := hok.1
  have hc6 := hok.2.1
  rw [QbQ] at hF'
  simp only [QeL, Int.toNat_natCast]
  simp (disch := omega) only [rq, simprocAttr, Z0, QbQ]
  refine Qc.vc hW' ?_
  have sh1 : Qg true .u64 1 1 = some (.int .u64 2) := rfl
  have sh2 : Qg true .u64 1 2 = some (.int .u64 4) := rfl
  have sh3 : Qg true .u64 1 3 = some (.int .u64 8) := rfl
  have sh4 : Qg true .u64 1 4 = some (.int .u64 16) := rfl
  have sh5 : Qg true .u64 1 5 = some (.int .u64 32) := rfl
  have sh6 : Qg true .u64 1 6 = some (.int .u64 64) := rfl
  have hc : c = 1 ∨ c = 2 ∨ c = 3 ∨ c = 4 ∨ c = 5 ∨ c = 6 := by omega
  rcases hc with rfl | rfl | rfl | rfl | rfl | rfl
  all_goals
   simp (disch := omega) only [rq, simprocAttr, sh1, sh2, sh3, sh4, sh5, sh6]
   refine ZN.vc hF' ?_
   simp (disch := omega) only [rq, simprocAttr]
 ·rw [if_neg hok] at hW' ⊢
  refine VC.of_walk 1 rfl rfl (ACall.of_body bd (by simp) ?_)
  simp (disch := omega) only [rq, simprocAttr, Z0, QbQ]
  refine Qc.vc hW' ?_
  simp (disch := omega) only [rq, simprocAttr]
  simp [QO, Qz, frzL, Qv]
def fld (l : List UInt8) (i n : Nat) : Nat := leN ((l.drop i).take n)
def Fv (l : List UInt8) (i n : Nat) : Nat := if i + n ≤ l.length then fld l i n else 0
theorem Qw5 (l : List UInt8) (i n : Nat) (hn : n ≤ 4) : fld l i n < 4294967296 := by
 have h1 := Qev ((l.drop i).take n)
 have h2 : 8 * ((l.drop i).take n).length ≤ 32 := by simp; omega
 have h3 := Nat.pow_le_pow_right (n := 2) (by omega) h2
 unfold fld; omega
theorem QuS (l : List UInt8) (i n : Nat) (hn : n ≤ 4) : Fv l i n < 4294967296 := by
 unfold Fv; split
 ·exact Qw5 l i n hn
 ·omega
theorem Qc6 {l : List UInt8} {i n : Nat} (h : i + n ≤ l.length) : Fv l i n = fld l i n := by simp [Fv, h]
def QdT (l : List UInt8) : Option (Nat × Nat × Nat) :=
 if JN (fld l 2 2) (fld l 14 2) (fld l 4 4) ∧ (l = ZM (fld l 2 2) (fld l 14 2) (fld l 4 4) false 0 ∨ l = ZM (fld l 2 2) (fld l 14 2) (fld l 4 4) true (fld l 20 4)) then some (fld l 2 2, fld l 14 2, fld l 4 4) else none
def Qbx : Option (Nat × Nat × Nat) → AV
 | none => .tup [QbQ 0 0 0, .int .i64 12]
 | some (c, b, r) => .tup [QbQ c b r, .int .i64 0]
theorem Qpu (o : Option (Nat × Nat × Nat)) : isD (Qbx o) = true := by rcases o with _ | ⟨c, b, r⟩ <;> rfl
theorem Qew (c b r : Nat) (w : Bool) (m : Nat) : (ZM c b r w m).length = if w then 40 else 16 := by
 cases w <;> simp [ZM, Qpq, Qdv, Qa, QeK]
theorem Qr0 {c b r tag : Nat} (rest : List UInt8) (h : tag < 65536) : fld (Qad c b r tag ++ rest) 0 2 = tag := by
 simp only [fld, List.drop_zero, Qad, List.append_assoc]
 rw [List.take_left' (Qa 2 tag), Qcj 2 tag h]
theorem QrU {c b r m : Nat} {w : Bool} : fld (ZM c b r w m) 0 2 = if w then 65534 else 1 := by
 cases w with
 | false =>
  have := Qr0 (c := c) (b := b) (r := r) (tag := 1) [] (by omega)
  rw [List.append_nil] at this
  exact this
 | true =>
  have := Qr0 (c := c) (b := b) (r := r) (tag := 65534) (leB 22 2 ++ (leB b 2 ++ (leB m 4 ++ QeK))) (by omega)
  simpa [ZM, Qpq, List.append_assoc] using this
theorem QcV (l : List UInt8) : (QdT l = none ∧ ∀ w, ¬ (JN (fld l 2 2) (fld l 14 2) (fld l 4 4) ∧ l = ZM (fld l 2 2) (fld l 14 2) (fld l 4 4) w (fld l 20 4))) ∨
  (QdT l = some (fld l 2 2, fld l 14 2, fld l 4 4) ∧ JN (fld l 2 2) (fld l 14 2) (fld l 4 4) ∧ ∃ w, l = ZM (fld l 2 2) (fld l 14 2) (fld l 4 4) w (fld l 20 4)) := by
 by_cases h : JN (fld l 2 2) (fld l 14 2) (fld l 4 4) ∧ (l = ZM (fld l 2 2) (fld l 14 2) (fld l 4 4) false 0 ∨ l = ZM (fld l 2 2) (fld l 14 2) (fld l 4 4) true (fld l 20 4))
 ·refine .inr ⟨by rw [QdT, if_pos h], h.1, ?_⟩
  rcases h.2 with h | h
  ·exact ⟨false, by rw [QaQ]; exact h⟩
  ·exact ⟨true, h⟩
 ·refine .inl ⟨by rw [QdT, if_neg h], fun w h' => h ⟨h'.1, ?_⟩⟩
  cases w with
  | false => exact .inl (by rw [QaQ] at h'; exact h'.2)
  | true => exact .inr h'.2
theorem Qor {l : List UInt8} {c b r m : Nat} {w : Bool} (h : l = ZM c b r w m) : l.length = if w then 40 else 16 := by
 have := congrArg List.length h
 rwa [Qew] at this
theorem Qs7 {l : List UInt8} (h : 16 ≤ l.length) : Fv l 2 2 = fld l 2 2 ∧ Fv l 14 2 = fld l 14 2 ∧ Fv l 4 4 = fld l 4 4 ∧ Fv l 0 2 = fld l 0 2 :=
 ⟨Qc6 (by omega), Qc6 (by omega), Qc6 (by omega), Qc6 (by omega)⟩
theorem Qhb {l : List UInt8} (hok : JN (Fv l 2 2) (Fv l 14 2) (Fv l 4 4)) {w : Bool} (h : l = ZM (Fv l 2 2) (Fv l 14 2) (Fv l 4 4) w (Fv l 20 4)) : QdT l = some (Fv l 2 2, Fv l 14 2, Fv l 4 4) := by
 have hl := Qor h
 obtain ⟨e1, e2, e3, _⟩ := Qs7 (l := l) (by rw [hl]; split <;> omega)
 rw [e1, e2, e3] at h hok ⊢
 rcases QcV l with ⟨_, h2⟩ | ⟨h1, _⟩
 ·refine absurd ⟨hok, ?_⟩ (h2 w)
  cases w with
  | false => rw [QaQ] at h ⊢; exact h
  | true =>
   have : Fv l 20 4 = fld l 20 4 := Qc6 (by rw [hl]; decide)
   rwa [this] at h
 ·exact h1
theorem QdS {l : List UInt8} {w : Bool} (hw : decide (Fv l 0 2 = 65534) = w) (h : ¬ JN (Fv l 2 2) (Fv l 14 2) (Fv l 4 4) ∨ l ≠ ZM (Fv l 2 2) (Fv l 14 2) (Fv l 4 4) w (Fv l 20 4)) : QdT l = none := by
 rcases QcV l with ⟨h1, _⟩ | ⟨_, hok, w', hw'⟩
 ·exact h1
 ·exfalso
  have hl := Qor hw'
  obtain ⟨e1, e2, e3, e0⟩ := Qs7 (l := l) (by rw [hl]; split <;> omega)
  rw [e1, e2, e3] at h
  rcases h with h | h
  ·exact h hok
  ·have ht : fld l 0 2 = if w' then 65534 else 1 := by
    conv => lhs; rw [hw']
    exact QrU
   have : w = w' := by
    rw [← hw, e0, ht]
    cases w' <;> simp
   subst this
   apply h
   cases w with
   | false => rw [QaQ]; rw [QaQ] at hw'; exact hw'
   | true =>
    have : Fv l 20 4 = fld l 20 4 := Qc6 (by rw [hl]; decide)
    rw [this]; exact hw'
def QnL (P : Prg) (f : Nat) : Prop := ∀ l : List UInt8, l.length < 4611686018427387904 → VC P f [bs l] (Qbx (QdT l))
def Qjg (P : Prg) (f : Nat) : Prop := ∀ a b : List UInt8, VC P f [bs a, bs b] (.bool (a == b))
theorem Qnj {P : Prg} {f : Nat} (bd : Body P f 10 [.tmp 4] QaJ) : Qjg P f := by
 intro a b
 refine VC.of_acall (by simp [isDL, QR]) rfl (ACall.of_body bd (by simp) ?_)
 simp (disch := omega) only [rq, simprocAttr, QaJ, bs, QjC]
def Qby (l : List UInt8) : Nat → List AV
 | 0 => [.int .u64 0, .int .u64 0, .int .u64 0, .int .u64 0, .int .u64 0, .int .u64 0, .int .u64 0, .int .u64 0, .int .u64 0]
 | 1 => [.int .u64 (Fv l 0 2 : Nat), .int .u64 0, .int .u64 0, .int .u64 0, .int .u64 0, .int .u64 0, .int .u64 0, .int .u64 0, .int .u64 0]
 | 2 => [.int .u64 (Fv l 0 2 : Nat), .int .u64 (Fv l 2 2 : Nat), .int .u64 0, .int .u64 0, .int .u64 0, .int .u64 0, .int .u64 0, .int .u64 0, .int .u64 0]
 | 3 => [.int .u64 (Fv l 0 2 : Nat), .int .u64 (Fv l 2 2 : Nat), .int .u64 (Fv l 4 4 : Nat), .int .u64 0, .int .u64 0, .int .u64 0, .int .u64 0, .int .u64 0, .int .u64 0]
 | 4 => [.int .u64 (Fv l 0 2 : Nat), .int .u64 (Fv l 2 2 : Nat), .int .u64 (Fv l 4 4 : Nat), .int .u64 (Fv l 8 4 : Nat), .int .u64 0, .int .u64 0, .int .u64 0, .int .u64 0, .int .u64 0]
 | 5 => [.int .u64 (Fv l 0 2 : Nat), .int .u64 (Fv l 2 2 : Nat), .int .u64 (Fv l 4 4 : Nat), .int .u64 (Fv l 8 4 : Nat), .int .u64 (Fv l 12 2 : Nat), .int .u64 0, .int .u64 0, .int .u64 0, .int .u64 0]
 | 6 => [.int .u64 (Fv l 0 2 : Nat), .int .u64 (Fv l 2 2 : Nat), .int .u64 (Fv l 4 4 : Nat), .int .u64 (Fv l 8 4 : Nat), .int .u64 (Fv l 12 2 : Nat), .int .u64 (Fv l 14 2 : Nat), .int .u64 0, .int .u64 0, .int .u64 0]
 | 7 => [.int .u64 (Fv l 0 2 : Nat), .int .u64 (Fv l 2 2 : Nat), .int .u64 (Fv l 4 4 : Nat), .int .u64 (Fv l 8 4 : Nat), .int .u64 (Fv l 12 2 : Nat), .int .u64 (Fv l 14 2 : Nat), .int .u64 (Fv l 16 2 : Nat), .int .u64 0, .int .u64 0]
 | 8 => [.int .u64 (Fv l 0 2 : Nat), .int .u64 (Fv l 2 2 : Nat), .int .u64 (Fv l 4 4 : Nat), .int .u64 (Fv l 8 4 : Nat), .int .u64 (Fv l 12 2 : Nat), .int .u64 (Fv l 14 2 : Nat), .int .u64 (Fv l 16 2 : Nat), .int .u64 (Fv l 18 2 : Nat), .int .u64 0]
 | 9 => [.int .u64 (Fv l 0 2 : Nat), .int .u64 (Fv l 2 2 : Nat), .int .u64 (Fv l 4 4 : Nat), .int .u64 (Fv l 8 4 : Nat), .int .u64 (Fv l 12 2 : Nat), .int .u64 (Fv l 14 2 : Nat), .int .u64 (Fv l 16 2 : Nat), .int .u64 (Fv l 18 2 : Nat), .int .u64 (Fv l 20 4 : Nat)]
 | _ => []
def JQ : Nat → Nat
 | 0 => 0
 | 1 => 2
 | 2 => 4
 | 3 => 8
 | 4 => 12
 | 5 => 14
 | 6 => 16
 | 7 => 18
 | 8 => 20
 | 9 => 24
 | _ => 0
set_option maxRecDepth 20000 in
set_option maxHeartbeats 4000000 in
theorem QuA {P : Prg} {f fA fC fF fE t0 t1 g0 : Nat} (bd : Body P f 61 [.cell 2 t0, .tmp 3] (Jk fA fC fF fE t0 t1 g0)) (hA : Qf8 P fA) (hC : Qfb P fC) (hF : Qju P fF) (hE : Qjg P fE) (h0 : P.G.lookup g0 = some XF) (ht : Z6 P t0 = some (some 3)) : QnL P f := by
 intro l hl
 refine VC.of_acall (by simp [isDL, QR]) (Qpu _) (ACall.of_body bd (by simp) ?_)
 have g0' : Qqe P.G g0 = .cell XF := by simp [Qqe, h0]
 simp (disch := omega) only [rq, simprocAttr, Jk, bs, g0', XF]
 refine QL.by (ι := Nat) (fun k => ⟨[(11, .int .i64 k), (4, .int .i64 (JQ k)), (10, .agg XF), (5, .ref 1 1 0), (2, .ref 0 1 0), (3, .int .i64 0), (0, .list l.length (u8 l))], [⟨t0, 3, 1, [.int .i64 0, .int .i64 0, .int .i64 0], 0⟩, ⟨t1, 9, 1, Qby l k, 0⟩]⟩) (fun k => k ≤ 9) (fun k => 9 - k) 0 (Le.slots (by simp [Am.look, JQ, XF])) (by omega) ?_
 intro k hk
 have hA' := fun a w h1 h2 h3 => hA l a w hl h1 h2 h3
 simp only [bs] at hA'
 by_cases h9 : k = 9
 ·subst h9
  have b1 := QuS l 2 2 (by omega)
  have b2 := QuS l 14 2 (by omega)
  have b3 := QuS l 4 4 (by omega)
  have b8 := QuS l 20 4 (by omega)
  have hC' := hC (Fv l 2 2) (Fv l 14 2) (Fv l 4 4)
  rw [QbQ] at hC'
  simp (disch := omega) only [rq, simprocAttr, Qby]
  refine Qc.vc hC' ?_
  by_cases hok : JN (Fv l 2 2) (Fv l 14 2) (Fv l 4 4)
  ·have hF' := hF (Fv l 2 2) (Fv l 14 2) (Fv l 4 4) (decide (Fv l 0 2 = 65534)) (Fv l 20 4) hok b8
   rw [QbQ] at hF'
   simp only [QuK, if_pos hok]
   by_cases hw : Fv l 0 2 = 65534
   ·have hw' : ((Fv l 0 2 : Int) = 65534) = True := eq_true (by omega)
    have hq : decide (Fv l 0 2 = 65534) = true := by simp [hw]
    rw [hq] at hF'
    simp (disch := omega) only [rq, simprocAttr, hw']
    refine Qc.vc hF' ?_
    simp (disch := omega) only [rq, simprocAttr]
    refine Qc.vc (hE l _) ?_
    by_cases he : l = ZM (Fv l 2 2) (Fv l 14 2) (Fv l 4 4) true (Fv l 20 4)
    ·have he' : (l == ZM (Fv l 2 2) (Fv l 14 2) (Fv l 4 4) true (Fv l 20 4)) = true := by simpa using he
     have hr := Qhb hok (w := true) he
     rw [hr]
     simp (disch := omega) only [rq, simprocAttr, he', Qbx, QbQ, Q3, ht, QU]
    ·have he' : (l == ZM (Fv l 2 2) (Fv l 14 2) (Fv l 4 4) true (Fv l 20 4)) = false := by simpa using he
     have hr := QdS (l := l) (w := true) (by simp [hw]) (.inr he)
     rw [hr]
     simp (disch := omega) only [rq, simprocAttr, he', Qbx, QbQ, Q3, ht, QU]
   ·have hw' : ((Fv l 0 2 : Int) = 65534) = False := eq_false (by omega)
    have hq : decide (Fv l 0 2 = 65534) = false := by simp [hw]
    rw [hq] at hF'
    simp (disch := omega) only [rq, simprocAttr, hw']
    refine Qc.vc hF' ?_
    simp (disch := omega) only [rq, simprocAttr]
    refine Qc.vc (hE l _) ?_
    by_cases he : l = ZM (Fv l 2 2) (Fv l 14 2) (Fv l 4 4) false (Fv l 20 4)
    ·have he' : (l == ZM (Fv l 2 2) (Fv l 14 2) (Fv l 4 4) false (Fv l 20 4)) = true := by simpa using he
     have hr := Qhb hok (w := false) he
     rw [hr]
     simp (disch := omega) only [rq, simprocAttr, he', Qbx, QbQ, Q3, ht, QU]
    ·have he' : (l == ZM (Fv l 2 2) (Fv l 14 2) (Fv l 4 4) false (Fv l 20 4)) = false := by simpa using he
     have hr := QdS (l := l) (w := false) (by simp [hw]) (.inr he)
     rw [hr]
     simp (disch := omega) only [rq, simprocAttr, he', Qbx, QbQ, Q3, ht, QU]
  ·simp only [QuK, if_neg hok]
   have hr := QdS (l := l) (w := decide (Fv l 0 2 = 65534)) rfl (.inl hok)
   rw [hr]
   simp (disch := omega) only [rq, simprocAttr, Qbx, QbQ, Q3, ht, QU]
 have hk9 : k = 0 ∨ k = 1 ∨ k = 2 ∨ k = 3 ∨ k = 4 ∨ k = 5 ∨ k = 6 ∨ k = 7 ∨ k = 8 := by omega
 rcases hk9 with rfl | rfl | rfl | rfl | rfl | rfl | rfl | rfl | rfl
 ·by_cases hfit : 0 + 2 ≤ l.length
  ·have e1 := hA' 0 2 (by omega) (by omega) (by omega)
   rw [if_pos hfit] at e1
   have e2 : leN ((l.drop 0).take 2) = Fv l 0 2 := by rw [Qc6 hfit]; rfl
   rw [e2] at e1
   simp (disch := omega) only [rq, simprocAttr, XF, Qby, JQ]
   refine Qc.vc e1 ?_
   simp (disch := omega) only [rq, simprocAttr, XF, Qby, JQ]
   exact ⟨1, by omega, by omega, Le.slots (by simp [Am.look, JQ, XF])⟩
  ·have e2 : Fv l 0 2 = 0 := by simp only [Fv, if_neg hfit]
   simp (disch := omega) only [rq, simprocAttr, XF, Qby, JQ]
   refine ⟨1, by omega, by omega, ?_⟩
   simp only [Qby, e2]
   exact Le.slots (by simp [Am.look, JQ, XF])
 ·by_cases hfit : 2 + 2 ≤ l.length
  ·have e1 := hA' 2 2 (by omega) (by omega) (by omega)
   rw [if_pos hfit] at e1
   have e2 : leN ((l.drop 2).take 2) = Fv l 2 2 := by rw [Qc6 hfit]; rfl
   rw [e2] at e1
   simp (disch := omega) only [rq, simprocAttr, XF, Qby, JQ]
   refine Qc.vc e1 ?_
   simp (disch := omega) only [rq, simprocAttr, XF, Qby, JQ]
   exact ⟨2, by omega, by omega, Le.slots (by simp [Am.look, JQ, XF])⟩
  ·have e2 : Fv l 2 2 = 0 := by simp only [Fv, if_neg hfit]
   simp (disch := omega) only [rq, simprocAttr, XF, Qby, JQ]
   refine ⟨2, by omega, by omega, ?_⟩
   simp only [Qby, e2]
   exact Le.slots (by simp [Am.look, JQ, XF])
 ·by_cases hfit : 4 + 4 ≤ l.length
  ·have e1 := hA' 4 4 (by omega) (by omega) (by omega)
   rw [if_pos hfit] at e1
   have e2 : leN ((l.drop 4).take 4) = Fv l 4 4 := by rw [Qc6 hfit]; rfl
   rw [e2] at e1
   simp (disch := omega) only [rq, simprocAttr, XF, Qby, JQ]
   refine Qc.vc e1 ?_
   simp (disch := omega) only [rq, simprocAttr, XF, Qby, JQ]
   exact ⟨3, by omega, by omega, Le.slots (by simp [Am.look, JQ, XF])⟩
  ·have e2 : Fv l 4 4 = 0 := by simp only [Fv, if_neg hfit]
   simp (disch := omega) only [rq, simprocAttr, XF, Qby, JQ]
   refine ⟨3, by omega, by omega, ?_⟩
   simp only [Qby, e2]
   exact Le.slots (by simp [Am.look, JQ, XF])
 ·by_cases hfit : 8 + 4 ≤ l.length
  ·have e1 := hA' 8 4 (by omega) (by omega) (by omega)
   rw [if_pos hfit] at e1
   have e2 : leN ((l.drop 8).take 4) = Fv l 8 4 := by rw [Qc6 hfit]; rfl
   rw [e2] at e1
   simp (disch := omega) only [rq, simprocAttr, XF, Qby, JQ]
   refine Qc.vc e1 ?_
   simp (disch := omega) only [rq, simprocAttr, XF, Qby, JQ]
   exact ⟨4, by omega, by omega, Le.slots (by simp [Am.look, JQ, XF])⟩
  ·have e2 : Fv l 8 4 = 0 := by simp only [Fv, if_neg hfit]
   simp (disch := omega) only [rq, simprocAttr, XF, Qby, JQ]
   refine ⟨4, by omega, by omega, ?_⟩
   simp only [Qby, e2]
   exact Le.slots (by simp [Am.look, JQ, XF])
 ·by_cases hfit : 12 + 2 ≤ l.length
  ·have e1 := hA' 12 2 (by omega) (by omega) (by omega)
   rw [if_pos hfit] at e1
   have e2 : leN ((l.drop 12).take 2) = Fv l 12 2 := by rw [Qc6 hfit]; rfl
   rw [e2] at e1
   simp (disch := omega) only [rq, simprocAttr, XF, Qby, JQ]
   refine Qc.vc e1 ?_
   simp (disch := omega) only [rq, simprocAttr, XF, Qby, JQ]
   exact ⟨5, by omega, by omega, Le.slots (by simp [Am.look, JQ, XF])⟩
  ·have e2 : Fv l 12 2 = 0 := by simp only [Fv, if_neg hfit]
   simp (disch := omega) only [rq, simprocAttr, XF, Qby, JQ]
   refine ⟨5, by omega, by omega, ?_⟩
   simp only [Qby, e2]
   exact Le.slots (by simp [Am.look, JQ, XF])
 ·by_cases hfit : 14 + 2 ≤ l.length
  ·have e1 := hA' 14 2 (by omega) (by omega) (by omega)
   rw [if_pos hfit] at e1
   have e2 : leN ((l.drop 14).take 2) = Fv l 14 2 := by rw [Qc6 hfit]; rfl
   rw [e2] at e1
   simp (disch := omega) only [rq, simprocAttr, XF, Qby, JQ]
   refine Qc.vc e1 ?_
   simp (disch := omega) only [rq, simprocAttr, XF, Qby, JQ]
   exact ⟨6, by omega, by omega, Le.slots (by simp [Am.look, JQ, XF])⟩
  ·have e2 : Fv l 14 2 = 0 := by simp only [Fv, if_neg hfit]
   simp (disch := omega) only [rq, simprocAttr, XF, Qby, JQ]
   refine ⟨6, by omega, by omega, ?_⟩
   simp only [Qby, e2]
   exact Le.slots (by simp [Am.look, JQ, XF])
 ·by_cases hfit : 16 + 2 ≤ l.length
  ·have e1 := hA' 16 2 (by omega) (by omega) (by omega)
   rw [if_pos hfit] at e1
   have e2 : leN ((l.drop 16).take 2) = Fv l 16 2 := by rw [Qc6 hfit]; rfl
   rw [e2] at e1
   simp (disch := omega) only [rq, simprocAttr, XF, Qby, JQ]
   refine Qc.vc e1 ?_
   simp (disch := omega) only [rq, simprocAttr, XF, Qby, JQ]
   exact ⟨7, by omega, by omega, Le.slots (by simp [Am.look, JQ, XF])⟩
  ·have e2 : Fv l 16 2 = 0 := by simp only [Fv, if_neg hfit]
   simp (disch := omega) only [rq, simprocAttr, XF, Qby, JQ]
   refine ⟨7, by omega, by omega, ?_⟩
   simp only [Qby, e2]
   exact Le.slots (by simp [Am.look, JQ, XF])
 ·by_cases hfit : 18 + 2 ≤ l.length
  ·have e1 := hA' 18 2 (by omega) (by omega) (by omega)
   rw [if_pos hfit] at e1
   have e2 : leN ((l.drop 18).take 2) = Fv l 18 2 := by rw [Qc6 hfit]; rfl
   rw [e2] at e1
   simp (disch := omega) only [rq, simprocAttr, XF, Qby, JQ]
   refine Qc.vc e1 ?_
   simp (disch := omega) only [rq, simprocAttr, XF, Qby, JQ]
   exact ⟨8, by omega, by omega, Le.slots (by simp [Am.look, JQ, XF])⟩
  ·have e2 : Fv l 18 2 = 0 := by simp only [Fv, if_neg hfit]
   simp (disch := omega) only [rq, simprocAttr, XF, Qby, JQ]
   refine ⟨8, by omega, by omega, ?_⟩
   simp only [Qby, e2]
   exact Le.slots (by simp [Am.look, JQ, XF])
 ·by_cases hfit : 20 + 4 ≤ l.length
  ·have e1 := hA' 20 4 (by omega) (by omega) (by omega)
   rw [if_pos hfit] at e1
   have e2 : leN ((l.drop 20).take 4) = Fv l 20 4 := by rw [Qc6 hfit]; rfl
   rw [e2] at e1
   simp (disch := omega) only [rq, simprocAttr, XF, Qby, JQ]
   refine Qc.vc e1 ?_
   simp (disch := omega) only [rq, simprocAttr, XF, Qby, JQ]
   exact ⟨9, by omega, by omega, Le.slots (by simp [Am.look, JQ, XF])⟩
  ·have e2 : Fv l 20 4 = 0 := by simp only [Fv, if_neg hfit]
   simp (disch := omega) only [rq, simprocAttr, XF, Qby, JQ]
   refine ⟨9, by omega, by omega, ?_⟩
   simp only [Qby, e2]
   exact Le.slots (by simp [Am.look, JQ, XF])
theorem Qek (x : Int) : IntKind.i32.wrap x = (x + 2147483648) % 4294967296 - 2147483648 := by
 simp only [IntKind.wrap, IntKind.bits, IntKind.signed]
 simp
 omega
theorem Qkq {a c s : Nat} (h : a < 2 ^ s) (h2 : a + c * 2 ^ s < 2147483648) : IntKind.i32.wrap (BitVec.ofInt IntKind.i32.bits (a : Int) ||| BitVec.ofInt IntKind.i32.bits ((c * 2 ^ s : Nat) : Int)).toNat = ((a + c * 2 ^ s : Nat) : Int) := by
 have e1 : (BitVec.ofInt IntKind.i32.bits (a : Int) ||| BitVec.ofInt IntKind.i32.bits ((c * 2 ^ s : Nat) : Int)).toNat = a ||| c * 2 ^ s := by
  rw [BitVec.toNat_or]
  simp only [IntKind.bits, BitVec.toNat_ofInt]
  congr 1
  ·omega
  ·omega
 rw [e1, Qoi h, J5 (by omega) (by omega)]
def QjD (b : Int) (s : List UInt8) : Int := if b = 8 then (leN s : Int) - 128 else if ZL b ≤ (leN s : Int) then (leN s : Int) - 2 * ZL b else leN s
def Qgr (b : Int) (l : List UInt8) : List Int := (List.range (l.length / (b / 8).toNat)).map fun i => QjD b ((l.drop (i * (b / 8).toNat)).take (b / 8).toNat)
def J8 (b : Int) (l : List UInt8) : AV :=
 if ZL b = 0 then .tup [.list 0 [], .int .i64 2] else if l.length % (b / 8).toNat ≠ 0 then .tup [.list 0 [], .int .i64 12] else if 4000 < l.length / (b / 8).toNat then .tup [.list 0 [], .int .i64 4] else .tup [il (Qgr b l), .int .i64 0]
theorem QkA (b : Int) (l : List UInt8) : isD (J8 b l) = true := by
 unfold J8; split <;> (try split) <;> (try split) <;> simp [isD, isDL, Q8]
theorem XJ (b : Int) (l : List UInt8) : (Qgr b l).length = l.length / (b / 8).toNat := by simp [Qgr]
theorem Qn4 {b : Int} {l : List UInt8} {i : Nat} (h : i < (Qgr b l).length) : (Qgr b l)[i] = QjD b ((l.drop (i * (b / 8).toNat)).take (b / 8).toNat) := by simp [Qgr]
theorem Qfw {b : Int} {l : List UInt8} {i : Nat} (h : i < l.length / (b / 8).toNat) : (Qgr b l).take (i + 1) = (Qgr b l).take i ++ [QjD b ((l.drop (i * (b / 8).toNat)).take (b / 8).toNat)] := by
 rw [List.take_succ_eq_append_getElem (by rw [XJ]; exact h), Qn4]
theorem Qyo {l : List UInt8} {a : Nat} (h : a < l.length) : leN ((l.drop a).take 1) = l[a].toNat := by
 rw [List.drop_eq_getElem_cons h]; simp only [List.take_succ_cons, List.take_zero, leN]; omega
theorem Qyn {l : List UInt8} {a : Nat} (h : a + 1 < l.length) : leN ((l.drop a).take 2) = l[a].toNat + l[a + 1].toNat * 256 := by
 rw [List.drop_eq_getElem_cons (by omega), List.drop_eq_getElem_cons (by omega)]; simp only [List.take_succ_cons, List.take_zero, leN]; omega
theorem Qym {l : List UInt8} {a : Nat} (h : a + 2 < l.length) : leN ((l.drop a).take 3) = l[a].toNat + l[a + 1].toNat * 256 + l[a + 2].toNat * 65536 := by
 have e : l[a + 2] = l[a + 1 + 1]'h := rfl
 rw [e, List.drop_eq_getElem_cons (by omega), List.drop_eq_getElem_cons (by omega), List.drop_eq_getElem_cons (by omega)]; simp only [List.take_succ_cons, List.take_zero, leN]; omega
def Qgc (P : Prg) (f : Nat) : Prop := ∀ (b : Int) (l : List UInt8), l.length < 4611686018427387904 → VC P f [.int .i64 b, bs l] (J8 b l)
theorem QwO {n : Nat} (h : n < 65536) : (IntKind.i32.wrap ((n : Int) * 65536)).fdiv 65536 = QjD 16 [] + (if 32768 ≤ (n : Int) then (n : Int) - 65536 else n) := by
 have : QjD 16 [] = 0 := by decide
 rw [this, Int.fdiv_eq_ediv_of_nonneg _ (by omega), Qek]
 split <;> omega
theorem QwN {n : Nat} (h : n < 16777216) : (IntKind.i32.wrap ((n : Int) * 256)).fdiv 256 = QjD 24 [] + (if 8388608 ≤ (n : Int) then (n : Int) - 16777216 else n) := by
 have : QjD 24 [] = 0 := by decide
 rw [this, Int.fdiv_eq_ediv_of_nonneg _ (by omega), Qek]
 split <;> omega
theorem QqT {s : List UInt8} : QjD 16 s = if 32768 ≤ (leN s : Int) then (leN s : Int) - 65536 else leN s := by simp [QjD, ZL]
theorem QqS {s : List UInt8} : QjD 24 s = if 8388608 ≤ (leN s : Int) then (leN s : Int) - 16777216 else leN s := by simp [QjD, ZL]
theorem Qvz {s : List UInt8} : QjD 8 s = (leN s : Int) - 128 := by simp [QjD]
set_option maxRecDepth 20000 in
set_option maxHeartbeats 2000000 in
theorem Qhz {P : Prg} {f fR t0 : Nat} (bd : Body P f 81 [.tmp 4, .tmp 5] (Zb fR t0)) (hR : Qge P fR) : Qgc P f := by
 intro b l hl
 refine VC.of_walk 1 (by simp [isDL, isD, QR]) (QkA _ _) (ACall.of_body bd (by simp) ?_)
 have hR' := hR b
 rcases Q1 b with ⟨rfl, h⟩ | ⟨rfl, h⟩ | ⟨rfl, h⟩ | ⟨h1, h2, h3, h⟩
 case inr.inr.inr =>
  simp only [X7, if_pos h] at hR'
  simp only [J8, if_pos h]
  simp (disch := omega) only [rq, simprocAttr, Zb, bs]
  refine Qc.vc hR' ?_
  simp (disch := omega) only [rq, simprocAttr]
  simp [QO, Qz, frzL, Qv]
 ·simp only [X7, h] at hR'
  rw [if_neg (by omega)] at hR'
  have hw : ((8 : Int) / 8).toNat = 1 := rfl
  simp only [J8, hw, h]
  rw [if_neg (by omega), if_neg (by omega)]
  have hL := XJ 8 l
  have hT := fun i => @Qfw 8 l i
  rw [hw] at hL hT
  generalize hS : Qgr 8 l = S at *
  simp (disch := omega) only [rq, simprocAttr, Zb, bs]
  refine Qc.vc hR' ?_
  by_cases h4 : 4000 < l.length
  ·rw [if_pos (by omega)]
   simp (disch := omega) only [rq, simprocAttr]
   simp [QO, Qz, frzL, Qv]
  rw [if_neg (by omega)]
  simp (disch := omega) only [rq, simprocAttr]
  refine QL.by (ι := Nat) (fun k => ⟨[(11, .int .i64 k), (10, .own 0 k), (9, .int .i64 1), (0, .int .i64 8), (1, .list l.length (u8 l))], [⟨t0, 1, k, ks .i32 (S.take k), 0⟩]⟩) (fun k => k ≤ l.length) (fun k => l.length - k) 0 (Le.trans (Le.virt 10 t0 1 (by omega) rfl) (Le.slots (by simp [Am.look]))) (by omega) ?_
  intro k hk
  have lk : (ks .i32 (S.take k)).length = k := by rw [Qi, List.length_take]; omega
  by_cases hlt : k < l.length
  ·have e1 := Qa9 hlt
   have e2 := hT k (by omega)
   have b0 := l[k].toNat_lt
   rw [Qvz, Nat.mul_one, Qyo hlt] at e2
   simp (disch := omega) only [rq, simprocAttr, e1, lk, Qd3]
   rw [← e2]
   exact ⟨k + 1, by omega, by omega, Le.drop1 (Qy _ _) (by simp [Am.look, Qz, frzL, Qv, frzL_T _ (QC _)])⟩
  ·have ek : k = l.length := by omega
   subst ek
   have tS : S.take l.length = S := List.take_of_length_le (by omega)
   simp (disch := omega) only [rq, simprocAttr]
   rw [tS]
   simp [QO, Qz, frzL, Qv, frzL_T _ (Qy _ _), il, hL]
 ·simp only [X7, h] at hR'
  rw [if_neg (by omega)] at hR'
  have hw : ((16 : Int) / 8).toNat = 2 := rfl
  simp only [J8, hw, h]
  rw [if_neg (by omega)]
  have hL := XJ 16 l
  have hT := fun i => @Qfw 16 l i
  rw [hw] at hL hT
  generalize hS : Qgr 16 l = S at *
  have m1 : (l.length : Int).tmod 2 = ((l.length % 2 : Nat) : Int) := by rw [Int.tmod_eq_emod_of_nonneg (by omega)]; omega
  have m2 : (l.length : Int).tdiv 2 = ((l.length / 2 : Nat) : Int) := by rw [Int.tdiv_eq_ediv_of_nonneg (by omega)]; omega
  simp (disch := omega) only [rq, simprocAttr, Zb, bs]
  refine Qc.vc hR' ?_
  by_cases h3 : l.length % 2 ≠ 0
  ·rw [if_pos h3]
   simp (disch := omega) only [rq, simprocAttr, m1]
   simp [QO, Qz, frzL, Qv]
  rw [if_neg h3]
  have h3' : l.length % 2 = 0 := by omega
  by_cases h4 : 4000 < l.length / 2
  ·rw [if_pos h4]
   simp (disch := omega) only [rq, simprocAttr, m1, m2]
   simp [QO, Qz, frzL, Qv]
  rw [if_neg h4]
  simp (disch := omega) only [rq, simprocAttr, m1, m2]
  refine QL.by (ι := Nat) (fun k => ⟨[(11, .int .i64 ((k * 2 : Nat) : Int)), (10, .own 0 k), (9, .int .i64 2), (0, .int .i64 16), (1, .list l.length (u8 l))], [⟨t0, 1, k, ks .i32 (S.take k), 0⟩]⟩) (fun k => k ≤ l.length / 2) (fun k => l.length / 2 - k) 0 (Le.trans (Le.virt 10 t0 1 (by omega) rfl) (Le.slots (by simp [Am.look]))) (by omega) ?_
  intro k hk
  have lk : (ks .i32 (S.take k)).length = k := by rw [Qi, List.length_take]; omega
  by_cases hlt : k < l.length / 2
  ·have eT := hT k hlt
   have g : k * 2 + 2 ≤ l.length := by omega
   rw [QqT, Qyn (by omega)] at eT
   have e0 := Qa9 (l := l) (k := k * 2 + 0) (by omega)
   have b0 := (l[k * 2 + 0]).toNat_lt
   have e1 := Qa9 (l := l) (k := k * 2 + 1) (by omega)
   have b1 := (l[k * 2 + 1]).toNat_lt
   simp only [Nat.add_zero] at e0 b0
   generalize l[k * 2] = y0 at *
   generalize l[k * 2 + 1] = y1 at *
   generalize hat : k * 2 = at_ at *
   obtain ⟨X, hX⟩ : ∃ X, X = y0.toNat + y1.toNat * 256 := ⟨_, rfl⟩
   rw [← hX] at eT
   simp (disch := omega) only [rq, simprocAttr]
   refine QL.by (ι := Nat) (fun j => ⟨[(54, .int .i64 j), (53, .int .i64 2), (12, .int .i32 (match j with | 0 => 0 | 1 => (y0.toNat : Int) | _ => (X : Int))), (11, .int .i64 (at_ : Int)), (10, .own 0 k), (9, .int .i64 2), (0, .int .i64 16), (1, .list l.length (u8 l))], [⟨t0, 1, k, ks .i32 (S.take k), 0⟩]⟩) (fun j => j ≤ 2) (fun j => 2 - j) 0 (Le.slots (by simp [Am.look])) (by omega) ?_
   intro j hj
   have o1 := @Qkq y0.toNat y1.toNat 8 (by omega) (by omega)
   rw [show y1.toNat * 2 ^ 8 = y1.toNat * 256 by rfl, ← hX] at o1
   generalize hq1 : y1.toNat * 256 = q1 at *
   have o0 : IntKind.i32.wrap (BitVec.ofInt IntKind.i32.bits 0 ||| BitVec.ofInt IntKind.i32.bits (y0.toNat : Int)).toNat = (y0.toNat : Int) := by
    have := @Qkq 0 y0.toNat 0 (by omega) (by omega)
    simpa using this
   have s0 : Qg true .i32 (y0.toNat : Int) 0 = some (.int .i32 (y0.toNat : Int)) := by simp [Qg]; rw [J5] <;> omega
   have s1 : Qg true .i32 (y1.toNat : Int) 8 = some (.int .i32 (q1 : Int)) := by simp [Qg, IntKind.bits]; rw [J5] <;> omega
   have hj3 : j = 0 ∨ j = 1 ∨ j = 2 := by omega
   rcases hj3 with rfl | rfl | rfl
   ·simp (disch := omega) only [rq, simprocAttr, e0, o0, s0]
    exact ⟨1, by omega, by omega, Le.slots (by simp [Am.look])⟩
   ·simp (disch := omega) only [rq, simprocAttr, e1, o1, s1]
    exact ⟨2, by omega, by omega, Le.slots (by simp [Am.look])⟩
   ·have z1 : ∀ x : Int, Qg true .i32 x 16 = some (.int .i32 (IntKind.i32.wrap (x * 65536))) := fun x => rfl
    have z2 : ∀ x : Int, Qg false .i32 x 16 = some (.int .i32 (x.fdiv 65536)) := fun x => rfl
    have z3 := QwO (n := X) (by omega)
    rw [show QjD 16 [] = 0 by decide, Int.zero_add] at z3
    rw [← z3] at eT
    have z4 : (IntKind.i32.wrap ((X : Int) * 65536)).fdiv 65536 ≤ 2147483647 := by rw [z3]; split <;> omega
    have z5 : -2147483648 ≤ (IntKind.i32.wrap ((X : Int) * 65536)).fdiv 65536 := by rw [z3]; split <;> omega
    simp (disch := omega) only [rq, simprocAttr, z1, z2, lk, Qd3]
    rw [← eT, ← hat]
    exact ⟨k + 1, by omega, by omega, Le.drop1 (Qy _ _) (by simp [Am.look, Qz, frzL, Qv, frzL_T _ (QC _)]; try omega)⟩
  ·have ek : k = l.length / 2 := by omega
   subst ek
   have tS : S.take (l.length / 2) = S := List.take_of_length_le (by omega)
   have tw : l.length / 2 * 2 = l.length := by omega
   rw [tS, tw]
   simp (disch := omega) only [rq, simprocAttr]
   simp [QO, Qz, frzL, Qv, frzL_T _ (Qy _ _), il, hL]
 ·simp only [X7, h] at hR'
  rw [if_neg (by omega)] at hR'
  have hw : ((24 : Int) / 8).toNat = 3 := rfl
  simp only [J8, hw, h]
  rw [if_neg (by omega)]
  have hL := XJ 24 l
  have hT := fun i => @Qfw 24 l i
  rw [hw] at hL hT
  generalize hS : Qgr 24 l = S at *
  have m1 : (l.length : Int).tmod 3 = ((l.length % 3 : Nat) : Int) := by rw [Int.tmod_eq_emod_of_nonneg (by omega)]; omega
  have m2 : (l.length : Int).tdiv 3 = ((l.length / 3 : Nat) : Int) := by rw [Int.tdiv_eq_ediv_of_nonneg (by omega)]; omega
  simp (disch := omega) only [rq, simprocAttr, Zb, bs]
  refine Qc.vc hR' ?_
  by_cases h3 : l.length % 3 ≠ 0
  ·rw [if_pos h3]
   simp (disch := omega) only [rq, simprocAttr, m1]
   simp [QO, Qz, frzL, Qv]
  rw [if_neg h3]
  have h3' : l.length % 3 = 0 := by omega
  by_cases h4 : 4000 < l.length / 3
  ·rw [if_pos h4]
   simp (disch := omega) only [rq, simprocAttr, m1, m2]
   simp [QO, Qz, frzL, Qv]
  rw [if_neg h4]
  simp (disch := omega) only [rq, simprocAttr, m1, m2]
  refine QL.by (ι := Nat) (fun k => ⟨[(11, .int .i64 ((k * 3 : Nat) : Int)), (10, .own 0 k), (9, .int .i64 3), (0, .int .i64 24), (1, .list l.length (u8 l))], [⟨t0, 1, k, ks .i32 (S.take k), 0⟩]⟩) (fun k => k ≤ l.length / 3) (fun k => l.length / 3 - k) 0 (Le.trans (Le.virt 10 t0 1 (by omega) rfl) (Le.slots (by simp [Am.look]))) (by omega) ?_
  intro k hk
  have lk : (ks .i32 (S.take k)).length = k := by rw [Qi, List.length_take]; omega
  by_cases hlt : k < l.length / 3
  ·have eT := hT k hlt
   have g : k * 3 + 3 ≤ l.length := by omega
   rw [QqS, Qym (by omega)] at eT
   have e0 := Qa9 (l := l) (k := k * 3 + 0) (by omega)
   have b0 := (l[k * 3 + 0]).toNat_lt
   have e1 := Qa9 (l := l) (k := k * 3 + 1) (by omega)
   have b1 := (l[k * 3 + 1]).toNat_lt
   have e2 := Qa9 (l := l) (k := k * 3 + 2) (by omega)
   have b2 := (l[k * 3 + 2]).toNat_lt
   simp only [Nat.add_zero] at e0 b0
   generalize l[k * 3] = y0 at *
   generalize l[k * 3 + 1] = y1 at *
   generalize l[k * 3 + 2] = y2 at *
   generalize hat : k * 3 = at_ at *
   obtain ⟨X, hX⟩ : ∃ X, X = y0.toNat + y1.toNat * 256 := ⟨_, rfl⟩
   rw [← hX] at eT
   obtain ⟨Y, hY⟩ : ∃ Y, Y = X + y2.toNat * 65536 := ⟨_, rfl⟩
   rw [← hY] at eT
   simp (disch := omega) only [rq, simprocAttr]
   refine QL.by (ι := Nat) (fun j => ⟨[(54, .int .i64 j), (53, .int .i64 3), (12, .int .i32 (match j with | 0 => 0 | 1 => (y0.toNat : Int) | 2 => (X : Int) | _ => (Y : Int))), (11, .int .i64 (at_ : Int)), (10, .own 0 k), (9, .int .i64 3), (0, .int .i64 24), (1, .list l.length (u8 l))], [⟨t0, 1, k, ks .i32 (S.take k), 0⟩]⟩) (fun j => j ≤ 3) (fun j => 3 - j) 0 (Le.slots (by simp [Am.look])) (by omega) ?_
   intro j hj
   have o1 := @Qkq y0.toNat y1.toNat 8 (by omega) (by omega)
   rw [show y1.toNat * 2 ^ 8 = y1.toNat * 256 by rfl, ← hX] at o1
   have o2 := @Qkq X y2.toNat 16 (by omega) (by omega)
   rw [show y2.toNat * 2 ^ 16 = y2.toNat * 65536 by rfl, ← hY] at o2
   generalize hq2 : y2.toNat * 65536 = q2 at *
   generalize hq1 : y1.toNat * 256 = q1 at *
   have o0 : IntKind.i32.wrap (BitVec.ofInt IntKind.i32.bits 0 ||| BitVec.ofInt IntKind.i32.bits (y0.toNat : Int)).toNat = (y0.toNat : Int) := by
    have := @Qkq 0 y0.toNat 0 (by omega) (by omega)
    simpa using this
   have s0 : Qg true .i32 (y0.toNat : Int) 0 = some (.int .i32 (y0.toNat : Int)) := by simp [Qg]; rw [J5] <;> omega
   have s1 : Qg true .i32 (y1.toNat : Int) 8 = some (.int .i32 (q1 : Int)) := by simp [Qg, IntKind.bits]; rw [J5] <;> omega
   have s2 : Qg true .i32 (y2.toNat : Int) 16 = some (.int .i32 (q2 : Int)) := by simp [Qg, IntKind.bits]; rw [J5] <;> omega
   have hj3 : j = 0 ∨ j = 1 ∨ j = 2 ∨ j = 3 := by omega
   rcases hj3 with rfl | rfl | rfl | rfl
   ·simp (disch := omega) only [rq, simprocAttr, e0, o0, s0]
    exact ⟨1, by omega, by omega, Le.slots (by simp [Am.look])⟩
   ·simp (disch := omega) only [rq, simprocAttr, e1, o1, s1]
    exact ⟨2, by omega, by omega, Le.slots (by simp [Am.look])⟩
   ·simp (disch := omega) only [rq, simprocAttr, e2, o2, s2]
    exact ⟨3, by omega, by omega, Le.slots (by simp [Am.look])⟩
   ·have z1 : ∀ x : Int, Qg true .i32 x 8 = some (.int .i32 (IntKind.i32.wrap (x * 256))) := fun x => rfl
    have z2 : ∀ x : Int, Qg false .i32 x 8 = some (.int .i32 (x.fdiv 256)) := fun x => rfl
    have z3 := QwN (n := Y) (by omega)
    rw [show QjD 24 [] = 0 by decide, Int.zero_add] at z3
    rw [← z3] at eT
    have z4 : (IntKind.i32.wrap ((Y : Int) * 256)).fdiv 256 ≤ 2147483647 := by rw [z3]; split <;> omega
    have z5 : -2147483648 ≤ (IntKind.i32.wrap ((Y : Int) * 256)).fdiv 256 := by rw [z3]; split <;> omega
    simp (disch := omega) only [rq, simprocAttr, z1, z2, lk, Qd3]
    rw [← eT, ← hat]
    exact ⟨k + 1, by omega, by omega, Le.drop1 (Qy _ _) (by simp [Am.look, Qz, frzL, Qv, frzL_T _ (QC _)]; try omega)⟩
  ·have ek : k = l.length / 3 := by omega
   subst ek
   have tS : S.take (l.length / 3) = S := List.take_of_length_le (by omega)
   have tw : l.length / 3 * 3 = l.length := by omega
   rw [tS, tw]
   simp (disch := omega) only [rq, simprocAttr]
   simp [QO, Qz, frzL, Qv, frzL_T _ (Qy _ _), il, hL]
def Qqd (b x : Int) : Nat := (if b = 8 then x + 128 else if x < 0 then x + 2 * ZL b else x).toNat
def Qo8 (b x : Int) : List UInt8 := leB (Qqd b x) (b / 8).toNat
def Qbw (b : Int) (l : List Int) : List UInt8 := l.flatMap (Qo8 b)
def Qjh (P : Prg) (f : Nat) : Prop := ∀ (b : Int) (l : List Int), I32 l → VC P f [.int .i64 b, il l] (if QE b l ≠ 0 then .tup [.list 0 [], .int .i64 (QE b l)] else .tup [bs (Qbw b l), .int .i64 0])
theorem QcT (b x : Int) : (Qo8 b x).length = (b / 8).toNat := Qa _ _
theorem XL (b : Int) : ∀ l : List Int, (Qbw b l).length = l.length * (b / 8).toNat
 | [] => by simp [Qbw]
 | x :: l => by
  have := XL b l
  simp only [Qbw, List.flatMap_cons, List.length_append, QcT, List.length_cons] at this ⊢
  rw [this, Nat.add_mul]; omega
theorem QqU {b : Int} {l : List Int} {k : Nat} (h : k < l.length) : Qbw b (l.take (k + 1)) = Qbw b (l.take k) ++ Qo8 b l[k] := by
 simp only [Qbw]
 rw [List.take_succ_eq_append_getElem h, List.flatMap_append]; simp
theorem Qvd {b : Int} {l : List Int} (h : QE b l = 0) {k : Nat} (hk : k < l.length) : -ZL b ≤ l[k] ∧ l[k] < ZL b := by
 unfold QE at h
 split at h
 ·omega
 split at h
 ·omega
 split at h
 ·rename_i h2
  have := List.all_eq_true.1 h2 _ (List.getElem_mem hk)
  simp [inR] at this
  exact this
 ·omega
theorem QbZ {b : Int} {l : List Int} (h : QE b l = 0) : l.length ≤ 4000 ∧ ZL b ≠ 0 := by
 unfold QE at h
 split at h
 ·omega
 rename_i h0
 split at h
 ·omega
 ·exact ⟨by omega, h0⟩
theorem Qcc {n : Nat} (h : n < 256) : (UInt8.ofNat n).toNat = n := by simp; omega
theorem QxJ {x : Int} (h1 : -128 ≤ x) (h2 : x < 128) : u8 (Qo8 8 x) = [.int .u8 (x + 128)] := by
 have e : (8 : Int) / 8 = 1 := rfl
 simp only [Qo8, Qqd, if_true, e, Int.toNat_one, leB, QcS, Qep]
 rw [Qcc (by omega)]
 have : (((x + 128).toNat % 256 : Nat) : Int) = x + 128 := by omega
 rw [this]
theorem QwK {x : Int} (h1 : -32768 ≤ x) (h2 : x < 32768) : u8 (Qo8 16 x) = [.int .u8 (x % 256), .int .u8 (x / 256 % 256)] := by
 have e : ((16 : Int) / 8).toNat = 2 := rfl
 have e2 : ZL 16 = 32768 := rfl
 simp only [Qo8, Qqd, e, e2, leB, QcS, Qep]
 rw [Qcc (by omega), Qcc (by omega), if_neg (by decide)]
 generalize hq : (if x < 0 then x + 2 * 32768 else x).toNat = n
 have h3 : (n : Int) = if x < 0 then x + 65536 else x := by rw [← hq]; split <;> omega
 have a1 : ((n % 256 : Nat) : Int) = x % 256 := by split at h3 <;> omega
 have a2 : ((n / 256 % 256 : Nat) : Int) = x / 256 % 256 := by split at h3 <;> omega
 rw [a1, a2]
theorem QwJ {x : Int} (h1 : -8388608 ≤ x) (h2 : x < 8388608) : u8 (Qo8 24 x) = [.int .u8 (x % 256), .int .u8 (x / 256 % 256), .int .u8 (x / 65536 % 256)] := by
 have e : ((24 : Int) / 8).toNat = 3 := rfl
 have e2 : ZL 24 = 8388608 := rfl
 simp only [Qo8, Qqd, e, e2, leB, QcS, Qep]
 rw [Qcc (by omega), Qcc (by omega), Qcc (by omega), if_neg (by decide)]
 generalize hq : (if x < 0 then x + 2 * 8388608 else x).toNat = n
 have h3 : (n : Int) = if x < 0 then x + 16777216 else x := by rw [← hq]; split <;> omega
 have a1 : ((n % 256 : Nat) : Int) = x % 256 := by split at h3 <;> omega
 have a2 : ((n / 256 % 256 : Nat) : Int) = x / 256 % 256 := by split at h3 <;> omega
 have a3 : ((n / 256 / 256 % 256 : Nat) : Int) = x / 65536 % 256 := by split at h3 <;> omega
 rw [a1, a2, a3]
set_option maxRecDepth 20000 in
set_option maxHeartbeats 2000000 in
theorem QlJ {P : Prg} {f fC t0 : Nat} (bd : Body P f 43 [.tmp 4, .tmp 5] (Zz fC t0)) (hC : Qao P fC) : Qjh P f := by
 intro b l hI
 have hC' := hC b l hI
 refine VC.of_walk 1 (by simp [isDL, isD, Q8]) (by split <;> simp [isD, isDL, QR]) (ACall.of_body bd (by simp) ?_)
 by_cases h0 : QE b l ≠ 0
 ·rw [if_pos h0]
  rw [il] at hC'
  simp (disch := omega) only [rq, simprocAttr, Zz, il]
  refine Qc.vc hC' ?_
  simp (disch := omega) only [rq, simprocAttr]
  simp [QO, Qz, frzL, Qv]
 rw [if_neg h0]
 have h0' : QE b l = 0 := by omega
 rw [h0', il] at hC'
 obtain ⟨h4, hh⟩ := QbZ h0'
 have hin := fun k hk => @Qvd b l h0' k hk
 have hS := fun k => @QqU b l k
 have hB := fun k => XL b (l.take k)
 have hB0 := XL b l
 have hk0 := Qi .i32 l
 rcases Q1 b with ⟨rfl, h⟩ | ⟨rfl, h⟩ | ⟨rfl, h⟩ | ⟨h1, h2, h3, h⟩
 case inr.inr.inr => omega
 ·have hw : ((8 : Int) / 8).toNat = 1 := rfl
  simp only [hw] at hB hB0
  rw [h] at hin
  simp (disch := omega) only [rq, simprocAttr, Zz, il]
  refine Qc.vc hC' ?_
  simp (disch := omega) only [rq, simprocAttr]
  refine QL.by (ι := Nat) (fun k => ⟨[(19, .int .i64 k), (18, .int .i64 l.length), (17, .list l.length (ks .i32 l)), (7, .own 0 (Qbw 8 (l.take k)).length), (0, .int .i64 8), (1, .list l.length (ks .i32 l))], [⟨t0, 1, (Qbw 8 (l.take k)).length, u8 (Qbw 8 (l.take k)), 0⟩]⟩) (fun k => k ≤ l.length) (fun k => l.length - k) 0 (Le.trans (Le.virt 7 t0 1 (by omega) rfl) (Le.slots (by simp [Am.look, Qbw]))) (by omega) ?_
  intro k hk
  have hBk := hB k
  rw [List.length_take, Nat.min_eq_left hk] at hBk
  by_cases hlt : k < l.length
  ·have e1 := Z2 (K := .i32) hlt
   obtain ⟨i1, i2⟩ := hin k hlt
   have eT := hS k hlt
   have eE := QxJ (x := l[k]) (by omega) (by omega)
   have eL := hB (k + 1)
   rw [List.length_take, Nat.min_eq_left (by omega : k + 1 ≤ l.length)] at eL
   generalize l[k] = x at *
   generalize hp : Qbw 8 (l.take k) = pre at *
   generalize hp2 : Qbw 8 (l.take (k + 1)) = pre2 at *
   have eU : u8 pre2 = u8 pre ++ [.int .u8 (x + 128)] := by rw [eT, ← QT, eE]
   have lp := Qr pre
   simp (disch := omega) only [rq, simprocAttr, e1, hk0]
   refine QL.by (ι := Nat) (fun j => ⟨[(29, .int .i64 j), (28, .int .i64 1), (9, .int .i32 (x + 128)), (7, .own 0 (pre.length + j)), (19, .int .i64 k), (18, .int .i64 l.length), (17, .list l.length (ks .i32 l)), (0, .int .i64 8), (1, .list l.length (ks .i32 l))], [⟨t0, 1, pre.length + j, (match j with | 0 => u8 pre | _ => u8 pre ++ [.int .u8 (x + 128)]), 0⟩]⟩) (fun j => j ≤ 1) (fun j => 1 - j) 0 (Le.slots (by simp [Am.look])) (by omega) ?_
   intro j hj
   have s0 : Qg false .i32 (x + 128) 0 = some (.int .i32 (x + 128)) := by simp [Qg, Int.fdiv_one]
   have hj3 : j = 0 ∨ j = 1 := by omega
   rcases hj3 with rfl | rfl
   ·simp (disch := omega) only [rq, simprocAttr, s0, lp, List.append_assoc]
    exact ⟨1, by omega, by omega, Le.dropT [_] (by simp [ZK, QC, isTL, isT]) (by simp [Am.look, Qz, frzL, Qv, frzL_T _ (Qy _ _)])⟩
   ·simp (disch := omega) only [rq, simprocAttr]
    rw [← eU, show pre.length + 1 = pre2.length by omega]
    refine ⟨k + 1, by omega, by omega, ?_⟩
    rw [hp2]
    exact Le.slots (by simp [Am.look])
  ·have ek : k = l.length := by omega
   subst ek
   rw [List.take_length]
   simp (disch := omega) only [rq, simprocAttr, hk0]
   simp [QO, Qz, frzL, Qv, frzL_T _ (QC _), bs]
 ·have hw : ((16 : Int) / 8).toNat = 2 := rfl
  simp only [hw] at hB hB0
  rw [h] at hin
  simp (disch := omega) only [rq, simprocAttr, Zz, il]
  refine Qc.vc hC' ?_
  simp (disch := omega) only [rq, simprocAttr]
  refine QL.by (ι := Nat) (fun k => ⟨[(19, .int .i64 k), (18, .int .i64 l.length), (17, .list l.length (ks .i32 l)), (7, .own 0 (Qbw 16 (l.take k)).length), (0, .int .i64 16), (1, .list l.length (ks .i32 l))], [⟨t0, 1, (Qbw 16 (l.take k)).length, u8 (Qbw 16 (l.take k)), 0⟩]⟩) (fun k => k ≤ l.length) (fun k => l.length - k) 0 (Le.trans (Le.virt 7 t0 1 (by omega) rfl) (Le.slots (by simp [Am.look, Qbw]))) (by omega) ?_
  intro k hk
  have hBk := hB k
  rw [List.length_take, Nat.min_eq_left hk] at hBk
  by_cases hlt : k < l.length
  ·have e1 := Z2 (K := .i32) hlt
   obtain ⟨i1, i2⟩ := hin k hlt
   have eT := hS k hlt
   have eE := QwK (x := l[k]) (by omega) (by omega)
   have eL := hB (k + 1)
   rw [List.length_take, Nat.min_eq_left (by omega : k + 1 ≤ l.length)] at eL
   generalize l[k] = x at *
   generalize hp : Qbw 16 (l.take k) = pre at *
   generalize hp2 : Qbw 16 (l.take (k + 1)) = pre2 at *
   have eU : u8 pre2 = u8 pre ++ [.int .u8 (x % 256), .int .u8 (x / 256 % 256)] := by rw [eT, ← QT, eE]
   have lp := Qr pre
   simp (disch := omega) only [rq, simprocAttr, e1, hk0]
   refine QL.by (ι := Nat) (fun j => ⟨[(29, .int .i64 j), (28, .int .i64 2), (9, .int .i32 (x)), (7, .own 0 (pre.length + j)), (19, .int .i64 k), (18, .int .i64 l.length), (17, .list l.length (ks .i32 l)), (0, .int .i64 16), (1, .list l.length (ks .i32 l))], [⟨t0, 1, pre.length + j, (match j with | 0 => u8 pre | 1 => u8 pre ++ [.int .u8 (x % 256)] | _ => u8 pre ++ [.int .u8 (x % 256), .int .u8 (x / 256 % 256)]), 0⟩]⟩) (fun j => j ≤ 2) (fun j => 2 - j) 0 (Le.slots (by simp [Am.look])) (by omega) ?_
   intro j hj
   have s0 : Qg false .i32 x 0 = some (.int .i32 x) := by simp [Qg, Int.fdiv_one]
   have s1 : Qg false .i32 x 8 = some (.int .i32 (x / 256)) := by simp [Qg, IntKind.bits, Int.fdiv_eq_ediv_of_nonneg]
   have s2 : Qg false .i32 x 16 = some (.int .i32 (x / 65536)) := by simp [Qg, IntKind.bits, Int.fdiv_eq_ediv_of_nonneg]
   have w0 := Zp x
   have w1 := Zp (x / 256)
   have w2 := Zp (x / 65536)
   have hj3 : j = 0 ∨ j = 1 ∨ j = 2 := by omega
   rcases hj3 with rfl | rfl | rfl
   ·simp (disch := omega) only [rq, simprocAttr, s0, s1, s2, w0, w1, w2, lp, List.append_assoc]
    exact ⟨1, by omega, by omega, Le.dropT [_] (by simp [ZK, QC, isTL, isT]) (by simp [Am.look, Qz, frzL, Qv, frzL_T _ (Qy _ _)])⟩
   ·simp (disch := omega) only [rq, simprocAttr, s0, s1, s2, w0, w1, w2, lp, List.append_assoc]
    exact ⟨2, by omega, by omega, Le.dropT [_] (by simp [ZK, QC, isTL, isT]) (by simp [Am.look, Qz, frzL, Qv, frzL_T _ (Qy _ _)])⟩
   ·simp (disch := omega) only [rq, simprocAttr]
    rw [← eU, show pre.length + 2 = pre2.length by omega]
    refine ⟨k + 1, by omega, by omega, ?_⟩
    rw [hp2]
    exact Le.slots (by simp [Am.look])
  ·have ek : k = l.length := by omega
   subst ek
   rw [List.take_length]
   simp (disch := omega) only [rq, simprocAttr, hk0]
   simp [QO, Qz, frzL, Qv, frzL_T _ (QC _), bs]
 ·have hw : ((24 : Int) / 8).toNat = 3 := rfl
  simp only [hw] at hB hB0
  rw [h] at hin
  simp (disch := omega) only [rq, simprocAttr, Zz, il]
  refine Qc.vc hC' ?_
  simp (disch := omega) only [rq, simprocAttr]
  refine QL.by (ι := Nat) (fun k => ⟨[(19, .int .i64 k), (18, .int .i64 l.length), (17, .list l.length (ks .i32 l)), (7, .own 0 (Qbw 24 (l.take k)).length), (0, .int .i64 24), (1, .list l.length (ks .i32 l))], [⟨t0, 1, (Qbw 24 (l.take k)).length, u8 (Qbw 24 (l.take k)), 0⟩]⟩) (fun k => k ≤ l.length) (fun k => l.length - k) 0 (Le.trans (Le.virt 7 t0 1 (by omega) rfl) (Le.slots (by simp [Am.look, Qbw]))) (by omega) ?_
  intro k hk
  have hBk := hB k
  rw [List.length_take, Nat.min_eq_left hk] at hBk
  by_cases hlt : k < l.length
  ·have e1 := Z2 (K := .i32) hlt
   obtain ⟨i1, i2⟩ := hin k hlt
   have eT := hS k hlt
   have eE := QwJ (x := l[k]) (by omega) (by omega)
   have eL := hB (k + 1)
   rw [List.length_take, Nat.min_eq_left (by omega : k + 1 ≤ l.length)] at eL
   generalize l[k] = x at *
   generalize hp : Qbw 24 (l.take k) = pre at *
   generalize hp2 : Qbw 24 (l.take (k + 1)) = pre2 at *
   have eU : u8 pre2 = u8 pre ++ [.int .u8 (x % 256), .int .u8 (x / 256 % 256), .int .u8 (x / 65536 % 256)] := by rw [eT, ← QT, eE]
   have lp := Qr pre
   simp (disch := omega) only [rq, simprocAttr, e1, hk0]
   refine QL.by (ι := Nat) (fun j => ⟨[(29, .int .i64 j), (28, .int .i64 3), (9, .int .i32 (x)), (7, .own 0 (pre.length + j)), (19, .int .i64 k), (18, .int .i64 l.length), (17, .list l.length (ks .i32 l)), (0, .int .i64 24), (1, .list l.length (ks .i32 l))], [⟨t0, 1, pre.length + j, (match j with | 0 => u8 pre | 1 => u8 pre ++ [.int .u8 (x % 256)] | 2 => u8 pre ++ [.int .u8 (x % 256), .int .u8 (x / 256 % 256)] | _ => u8 pre ++ [.int .u8 (x % 256), .int .u8 (x / 256 % 256), .int .u8 (x / 65536 % 256)]), 0⟩]⟩) (fun j => j ≤ 3) (fun j => 3 - j) 0 (Le.slots (by simp [Am.look])) (by omega) ?_
   intro j hj
   have s0 : Qg false .i32 x 0 = some (.int .i32 x) := by simp [Qg, Int.fdiv_one]
   have s1 : Qg false .i32 x 8 = some (.int .i32 (x / 256)) := by simp [Qg, IntKind.bits, Int.fdiv_eq_ediv_of_nonneg]
   have s2 : Qg false .i32 x 16 = some (.int .i32 (x / 65536)) := by simp [Qg, IntKind.bits, Int.fdiv_eq_ediv_of_nonneg]
   have w0 := Zp x
   have w1 := Zp (x / 256)
   have w2 := Zp (x / 65536)
   have hj3 : j = 0 ∨ j = 1 ∨ j = 2 ∨ j = 3 := by omega
   rcases hj3 with rfl | rfl | rfl | rfl
   ·simp (disch := omega) only [rq, simprocAttr, s0, s1, s2, w0, w1, w2, lp, List.append_assoc]
    exact ⟨1, by omega, by omega, Le.dropT [_] (by simp [ZK, QC, isTL, isT]) (by simp [Am.look, Qz, frzL, Qv, frzL_T _ (Qy _ _)])⟩
   ·simp (disch := omega) only [rq, simprocAttr, s0, s1, s2, w0, w1, w2, lp, List.append_assoc]
    exact ⟨2, by omega, by omega, Le.dropT [_] (by simp [ZK, QC, isTL, isT]) (by simp [Am.look, Qz, frzL, Qv, frzL_T _ (Qy _ _)])⟩
   ·simp (disch := omega) only [rq, simprocAttr, s0, s1, s2, w0, w1, w2, lp, List.append_assoc]
    exact ⟨3, by omega, by omega, Le.dropT [_] (by simp [ZK, QC, isTL, isT]) (by simp [Am.look, Qz, frzL, Qv, frzL_T _ (Qy _ _)])⟩
   ·simp (disch := omega) only [rq, simprocAttr]
    rw [← eU, show pre.length + 3 = pre2.length by omega]
    refine ⟨k + 1, by omega, by omega, ?_⟩
    rw [hp2]
    exact Le.slots (by simp [Am.look])
  ·have ek : k = l.length := by omega
   subst ek
   rw [List.take_length]
   simp (disch := omega) only [rq, simprocAttr, hk0]
   simp [QO, Qz, frzL, Qv, frzL_T _ (QC _), bs]
theorem QmI (c x r : Int) (l : List Int) : isD (clA c x r l) = true := by simp [clA, isD, isDL, Q8]
def QpA : List UInt8 := [102, 109, 116, 32]
def QbY : List UInt8 := [100, 97, 116, 97]
def Qbv : List UInt8 := [87, 65, 86, 69]
def QlL (c x r : Int) (l : List Int) : List Ck := [(QpA, QeL c x r), (QbY, Qbw x l)]
def Qs9 (c x r : Int) (l : List Int) : List UInt8 := Xv Qbv (QlL c x r l)
def Qwy (c x r : Int) (l : List Int) : AV := if QN c x r l ≠ 0 then .tup [.list 0 [], .int .i64 (QN c x r l)] else .tup [bs (Qs9 c x r l), .int .i64 0]
theorem Quf (c x r : Int) (l : List Int) : isD (Qwy c x r l) = true := by unfold Qwy; split <;> simp [isD, isDL, QR]
theorem Qd5 {c x r : Int} {l : List Int} (h : QN c x r l = 0) : JN c x r ∧ QE x l = 0 ∧ (l.length : Int) % c = 0 ∧ ZH c x r (l.length / c) = 0 := by
 unfold QN at h
 split at h
 ·omega
 split at h
 ·omega
 split at h
 ·omega
 split at h
 ·omega
 rename_i h1 h2 h3 h4
 have h3' : ZH c x r (l.length / c) = 0 := by omega
 refine ⟨?_, by omega, by omega, h3'⟩
 unfold ZH at h3'
 split at h3'
 ·omega
 rename_i e1
 split at h3'
 ·omega
 split at h3'
 ·omega
 split at h3'
 ·omega
 rename_i e4
 have e4' : QgS r (l.length / c) = 0 := by omega
 have e1' : Zg c x = 0 := by omega
 unfold QgS at e4'
 split at e4'
 ·omega
 rename_i q1
 unfold Zg at e1'
 split at e1'
 ·omega
 rename_i q2
 refine ⟨?_, ?_, fun h => q2 (.inl h), ?_, ?_⟩ <;> omega
theorem QkJ (c x r : Int) : (QeL c x r).length = 16 ∨ (QeL c x r).length = 40 := by
 unfold QeL; rw [Qew]; split <;> simp
theorem QlK {c x r : Int} {l : List Int} (h : QN c x r l = 0) : okL (QlL c x r l) ∧ ZE Qbv (QlL c x r l) = 0 := by
 obtain ⟨h1, h2, _⟩ := Qd5 h
 obtain ⟨h4, h5⟩ := QbZ h2
 have h6 := XL x l
 have h7 : (x / 8).toNat ≤ 3 := by rcases (Qas x).1 h5 with h | h | h <;> subst h <;> decide
 have h8 : l.length * (x / 8).toNat ≤ 4000 * 3 := Nat.mul_le_mul h4 h7
 have h9 := QkJ c x r
 refine ⟨⟨by simp [QlL], fun k hk => ?_⟩, ?_⟩
 ·simp [QlL] at hk
  rcases hk with rfl | rfl
  ·simp [QpA]; omega
  ·simp [QbY]; omega
 ·have hs : szL (QlL c x r l) = (8 + (QeL c x r).length + (QeL c x r).length % 2) + (8 + (Qbw x l).length + (Qbw x l).length % 2) := by simp [QlL, szL, szC]
  unfold ZE
  rw [hs, if_neg (by simp [QlL]), if_neg]
  rintro (h' | h' | h')
  ·revert h'; decide
  ·omega
  ·revert h'; simp [QlL]; decide
def Qee (P : Prg) (f : Nat) : Prop := ∀ (c x r : Int) (l : List Int), I32 l → l.length ≤ 1000000 → VC P f [clA c x r l] (Qwy c x r l)
theorem Qqn {P : Prg} {f fC fF fW fR t0 t1 : Nat} (bd : Body P f 41 [.tmp 2, .tmp 3] (Qag fC fF fW fR t0 t1)) (hC : Zv P fC) (hF : Qjm P fF) (hW : Qjh P fW) (hR : QnH P fR) : Qee P f := by
 intro c x r l hI hl
 refine VC.of_walk 1 (by simp [isDL, QmI]) (Quf _ _ _ _) (ACall.of_body bd (by simp) ?_)
 have hC' := hC c x r l hI hl
 have hW0 := hW x l hI
 rw [il] at hC' hW0
 by_cases h0 : QN c x r l = 0
 ·obtain ⟨h1, h2, _⟩ := Qd5 h0
  obtain ⟨h3, h4⟩ := QlK h0
  have hF' := hF c x r
  rw [if_pos h1, QbQ] at hF'
  rw [if_neg (by omega)] at hW0
  rw [h0] at hC'
  have hR' := hR Qbv (QlL c x r l) (by decide) h3
  rw [Qg4, if_pos h4, show Xv Qbv (QlL c x r l) = Qs9 c x r l from rfl] at hR'
  simp only [QlL, ckL, List.length_cons, List.length_nil] at hR'
  simp only [Qwy, h0]
  rw [if_neg (by omega)]
  generalize QeL c x r = F at *
  generalize Qbw x l = D at *
  generalize Qs9 c x r l = W at *
  simp (disch := omega) only [rq, simprocAttr, Qag, clA, il]
  refine Qc.vc hC' ?_
  simp (disch := omega) only [rq, simprocAttr]
  refine Qc.vc hF' ?_
  simp (disch := omega) only [rq, simprocAttr]
  refine Qc.vc hW0 ?_
  simp (disch := omega) only [rq, simprocAttr, bs]
  refine Qc.still 1 [1] hR' ?_ ?_
  ·simp [QO, Qz, frzL, Qv, frzL_T _ (QC _), isDL, isD, QfK, bs, QpA, QbY, Qbv]
  simp (disch := omega) only [rq, simprocAttr, bs]
  simp [QO, Qz, frzL, Qv, frzL_T _ (QC _)]
 ·simp only [Qwy]
  rw [if_pos h0]
  simp (disch := omega) only [rq, simprocAttr, Qag, clA, il]
  refine Qc.vc hC' ?_
  generalize QN c x r l = e at *
  simp (disch := omega) only [rq, simprocAttr]
  simp [QO, Qz, frzL, Qv]
def Qgj (P : Prg) (f : Nat) : Prop := ∀ (c x r : Int) (l : List Int), VC P f [clA c x r l] (.bool (decide (300 < l.length) && decide (l.length ≤ 4000) || decide (4010 < l.length)))
theorem Qmn {P : Prg} {f t0 : Nat} (bd : Body P f 19 [.tmp 2] (QH t0)) : Qgj P f := by
 intro c x r l
 refine VC.of_acall (by simp [isDL, QmI]) rfl (ACall.of_body bd (by simp) ?_)
 by_cases h1 : 300 < l.length
 ·by_cases h2 : l.length ≤ 4000
  ·have e : (decide (300 < l.length) && decide (l.length ≤ 4000) || decide (4010 < l.length)) = true := by simp [h1, h2]
   simp (disch := omega) only [rq, simprocAttr, QH, clA, il, e]
  ·by_cases h3 : 4010 < l.length
   ·have e : (decide (300 < l.length) && decide (l.length ≤ 4000) || decide (4010 < l.length)) = true := by simp [h3]
    simp (disch := omega) only [rq, simprocAttr, QH, clA, il, e]
   ·have e : (decide (300 < l.length) && decide (l.length ≤ 4000) || decide (4010 < l.length)) = false := by simp; omega
    simp (disch := omega) only [rq, simprocAttr, QH, clA, il, e]
 ·have e : (decide (300 < l.length) && decide (l.length ≤ 4000) || decide (4010 < l.length)) = false := by simp; omega
  simp (disch := omega) only [rq, simprocAttr, QH, clA, il, e]
def XP (l : List Ck) (id : List UInt8) : Nat × Nat :=
 match QgI l id with
 | none => (0, 6)
 | some i => match QgI (l.drop (i + 1)) id with
  | some _ => (0, 12)
  | none => (i, 0)
def QsS (P : Prg) (f : Nat) : Prop := ∀ (l : List Ck) (id : List UInt8), l.length ≤ 1000000 → VC P f [.list l.length (ckL l), .str id] (.tup [.int .i64 (XP l id).1, .int .i64 (XP l id).2])
theorem Qk1 : ∀ (l : List Ck) (k : Nat), (ckL l).drop (k * 2) = ckL (l.drop k)
 | l, 0 => by simp
 | [], k + 1 => by simp [ckL]
 | c :: l, k + 1 => by
  have := Qk1 l k
  rw [Nat.add_mul, Nat.one_mul]
  simpa [ckL] using this
set_option maxRecDepth 20000 in
theorem Qtm {P : Prg} {f fF : Nat} (bd : Body P f 31 [.tmp 4, .tmp 5] (Qc2 fF)) (hF : QsX P fF) : QsS P f := by
 intro l id hl
 refine VC.of_acall (by simp [isDL, isD, Qa7]) rfl (ACall.of_body bd (by simp) ?_)
 have e2 := Xq l
 have hF1 := hF l id (by omega)
 simp (disch := omega) only [rq, simprocAttr, Qc2]
 refine Qc.vc hF1 ?_
 unfold XP
 cases hf : QgI l id with
 | none =>
  simp (disch := omega) only [rq, simprocAttr, QkN]
 | some i =>
  have hi := Qit hf
  have hF2 := hF (l.drop (i + 1)) id (by simp; omega)
  have hln : (l.drop (i + 1)).length = l.length - (i + 1) := by simp
  have htk : (ckL (l.drop (i + 1))).take ((l.length - (i + 1)) * 2) = ckL (l.drop (i + 1)) := List.take_of_length_le (by rw [Xq, hln]; exact Nat.le_refl _)
  rw [hln] at hF2
  have e3 : (l.length * 2 = (ckL l).length) = True := eq_true (by omega)
  simp (disch := omega) only [rq, simprocAttr, QkN, Qk1, htk, e3]
  refine Qc.vc hF2 ?_
  cases hf2 : QgI (l.drop (i + 1)) id with
  | none =>
   simp (disch := omega) only [rq, simprocAttr, QkN]
  | some j =>
   simp (disch := omega) only [rq, simprocAttr, QkN]
def Qth (l : List Ck) (i : Nat) : List UInt8 := (l.getD i ([], [])).2
theorem Qsp {l : List Ck} {i : Nat} (h : i < l.length) : Qth l i = (l[i]).2 := by simp [Qth, List.getD_eq_getElem?_getD, List.getElem?_eq_getElem h]
theorem QfC (l : List Ck) (id : List UInt8) : ((XP l id).2 = 6) ∨ ((XP l id).2 = 12) ∨ ((XP l id).2 = 0 ∧ (XP l id).1 < l.length) := by
 unfold XP
 cases hf : QgI l id with
 | none => exact .inl rfl
 | some i =>
  simp only
  cases hf2 : QgI (l.drop (i + 1)) id with
  | none => exact .inr (.inr ⟨rfl, Qit hf⟩)
  | some j => exact .inr (.inl rfl)
def QeI (b : List UInt8) : Nat ⊕ (Nat × Nat × Nat × List Int) :=
 match XN b with
 | .inl e => .inl e
 | .inr (form, l) =>
  if form ≠ Qbv then .inl 12
  else if (XP l QpA).2 = 6 ∨ (XP l QbY).2 = 6 then .inl 6
  else if (XP l QpA).2 ≠ 0 ∨ (XP l QbY).2 ≠ 0 ∨ (XP l QbY).1 < (XP l QpA).1 then .inl 12
  else
   match QdT (Qth l (XP l QpA).1) with
   | none => .inl 12
   | some (c, x, r) =>
    if (Qth l (XP l QbY).1).length = 0 ∨ (Qth l (XP l QbY).1).length % (c * x / 8) ≠ 0 then .inl 12
    else if 4000 < (Qth l (XP l QbY).1).length / (x / 8) then .inl 4
    else if QN c x r (Qgr x (Qth l (XP l QbY).1)) ≠ 0 then .inl 4
    else .inr (c, x, r, Qgr x (Qth l (XP l QbY).1))
def XH : Nat ⊕ (Nat × Nat × Nat × List Int) → AV
 | .inl e => .tup [clA 0 0 0 [], .int .i64 e]
 | .inr (c, x, r, l) => .tup [clA c x r l, .int .i64 0]
theorem Qpt (o : Nat ⊕ (Nat × Nat × Nat × List Int)) : isD (XH o) = true := by
 rcases o with e | ⟨c, x, r, l⟩ <;> simp [XH, isD, isDL, QmI]
theorem Qo9 {x : Int} (hx : ZL x ≠ 0) {s : List UInt8} (hs : s.length = (x / 8).toNat) : -ZL x ≤ QjD x s ∧ QjD x s < ZL x := by
 have h1 := Qev s
 rw [hs] at h1
 rcases Q1 x with ⟨rfl, h⟩ | ⟨rfl, h⟩ | ⟨rfl, h⟩ | ⟨_, _, _, h⟩
 ·have e : (2 : Nat) ^ (8 * ((8 : Int) / 8).toNat) = 256 := by decide
  rw [e] at h1
  rw [Qvz, h]; omega
 ·have e : (2 : Nat) ^ (8 * ((16 : Int) / 8).toNat) = 65536 := by decide
  rw [e] at h1
  rw [QqT, h]; split <;> omega
 ·have e : (2 : Nat) ^ (8 * ((24 : Int) / 8).toNat) = 16777216 := by decide
  rw [e] at h1
  rw [QqS, h]; split <;> omega
 ·exact absurd h hx
theorem Qo7 {x : Int} (hx : ZL x ≠ 0) (l : List UInt8) : ∀ y ∈ Qgr x l, -ZL x ≤ y ∧ y < ZL x := by
 intro y hy
 simp only [Qgr, List.mem_map, List.mem_range] at hy
 obtain ⟨i, hi, rfl⟩ := hy
 refine Qo9 hx ?_
 generalize (x / 8).toNat = w at *
 have h0 : 0 < w := by
  rcases Nat.eq_zero_or_pos w with h | h
  ·subst h; simp at hi
  ·exact h
 have : (i + 1) * w ≤ l.length := Nat.le_trans (Nat.mul_le_mul_right w (by omega : i + 1 ≤ l.length / w)) (Nat.div_mul_le_self _ _)
 rw [Nat.add_mul, Nat.one_mul] at this
 rw [List.length_take, List.length_drop]
 omega
theorem Qn5 {x : Int} (hx : ZL x ≠ 0) (l : List UInt8) : I32 (Qgr x l) := by
 intro y hy
 have h1 := Qo7 hx l y hy
 rcases Q1 x with ⟨_, h⟩ | ⟨_, h⟩ | ⟨_, h⟩ | ⟨_, _, _, h⟩ <;> omega
def Qf9 (P : Prg) (f : Nat) : Prop := ∀ b : List UInt8, b.length < 140737488355328 → VC P f [bs b] (XH (QeI b))
theorem QtT {l : List UInt8} {c x r : Nat} (h : QdT l = some (c, x, r)) : JN c x r := by
 rcases QcV l with ⟨h1, _⟩ | ⟨h1, h2, _⟩
 ·rw [h1] at h; cases h
 ·rw [h1] at h; cases h; exact h2
theorem Qrh {b form : List UInt8} {l : List Ck} (h : XN b = .inr (form, l)) : ∀ c ∈ l, c.2.length ≤ 100000 := by
 intro c hc
 obtain ⟨_, _, _, _, h5, h6, _⟩ := Qpm h
 have := QqE hc
 simp only [szC] at this
 omega
set_option maxRecDepth 20000 in
set_option maxHeartbeats 2000000 in
theorem Qtn {P : Prg} {f fR fO fF fS fC t0 t1 : Nat} (bd : Body P f 116 [.cell 2 t0, .tmp 3] (Qc3 fR fO fF fS fC t0 t1)) (hR : QsR P fR) (hO : QsS P fO) (hF : QnL P fF) (hS : Qgc P fS) (hC : Zv P fC) (ht : Z6 P t0 = some (some 4)) : Qf9 P f := by
 intro b hb
 refine VC.of_walk 2 (by simp [isDL, QR]) (Qpt _) (ACall.of_body bd (by simp) ?_)
 have hR' := hR b hb
 simp (disch := omega) only [rq, simprocAttr, Qc3, bs]
 refine Qc.vc hR' ?_
 unfold QeI
 cases hm : XN b with
 | inl e =>
  have hp := Qkm hm
  have hp' : ((e : Int) = 0) = False := eq_false (by omega)
  simp (disch := omega) only [rq, simprocAttr, Qid, hp', Q3, ht, QU]
  simp [QO, Qz, frzL, Qv, XH, clA, il, ks]
 | inr p =>
  obtain ⟨form, l⟩ := p
  have h20 := QtU hm
  have hmb := Qrh hm
  by_cases hform : form = Qbv
  case neg =>
   have e1 : (form == [87, 65, 86, 69]) = false := by
    show (form == Qbv) = false
    simpa using hform
   simp only [if_pos (show form ≠ Qbv from hform)]
   simp (disch := omega) only [rq, simprocAttr, Qid, QjC, e1, Q3, ht, QU]
   simp [QO, Qz, frzL, Qv, XH, clA, il, ks]
  simp only [if_neg (show ¬ form ≠ Qbv by simp [hform])]
  subst hform
  have e1 : (Qbv == [87, 65, 86, 69]) = true := by decide
  simp (disch := omega) only [rq, simprocAttr, Qid, QjC, e1]
  refine Qc.vc (hO l QpA (by omega)) ?_
  simp (disch := omega) only [rq, simprocAttr]
  refine Qc.vc (hO l QbY (by omega)) ?_
  have c1 := QfC l QpA
  have c2 := QfC l QbY
  generalize XP l QpA = q1 at *
  generalize XP l QbY = q2 at *
  obtain ⟨fi, fe⟩ := q1
  obtain ⟨di, de⟩ := q2
  simp only at c1 c2 ⊢
  by_cases h6 : fe = 6 ∨ de = 6
  ·rw [if_pos h6]
   by_cases h6a : fe = 6
   ·simp (disch := omega) only [rq, simprocAttr, Q3, ht, QU]
    simp [QO, Qz, frzL, Qv, XH, clA, il, ks]
   ·simp (disch := omega) only [rq, simprocAttr, Q3, ht, QU]
    simp [QO, Qz, frzL, Qv, XH, clA, il, ks]
  rw [if_neg h6]
  by_cases h12 : fe ≠ 0 ∨ de ≠ 0 ∨ di < fi
  ·rw [if_pos h12]
   by_cases h12a : fe = 0
   ·by_cases h12b : de = 0
    ·simp (disch := omega) only [rq, simprocAttr, Q3, ht, QU]
     simp [QO, Qz, frzL, Qv, XH, clA, il, ks]
    ·simp (disch := omega) only [rq, simprocAttr, Q3, ht, QU]
     simp [QO, Qz, frzL, Qv, XH, clA, il, ks]
   ·simp (disch := omega) only [rq, simprocAttr, Q3, ht, QU]
    simp [QO, Qz, frzL, Qv, XH, clA, il, ks]
  rw [if_neg h12]
  have hfi : fi < l.length := by omega
  have hdi : di < l.length := by omega
  have e2 := Xq l
  have d1 := Qco hfi
  have d2 := Qco hdi
  have m1 := hmb _ (List.getElem_mem hfi)
  have m2 := hmb _ (List.getElem_mem hdi)
  rw [Qsp hfi, Qsp hdi]
  generalize (l[fi]).2 = F at *
  generalize (l[di]).2 = D at *
  simp (disch := omega) only [rq, simprocAttr, e2, d1]
  refine Qc.vc (hF F (by omega)) ?_
  cases hs : QdT F with
  | none =>
   simp (disch := omega) only [rq, simprocAttr, Qbx, QbQ, Q3, ht, QU]
   simp [QO, Qz, frzL, Qv, XH, clA, il, ks]
  | some q =>
   obtain ⟨c, x, r⟩ := q
   have hok := QtT hs
   obtain ⟨q1, q2, q3, q4, q5⟩ := hok
   have hx := (Qas (x : Int)).1 q3
   have hw : ((x : Int) / 8).toNat = x / 8 := by omega
   have m0 : (c : Int) * x = ((c * x : Nat) : Int) := by simp
   have hcx : c * x / 8 = c * (x / 8) := by
    rcases hx with h | h | h
    ·obtain rfl : x = 8 := by omega
     omega
    ·obtain rfl : x = 16 := by omega
     omega
    ·obtain rfl : x = 24 := by omega
     omega
   have hb0 : c * x ≤ 6 * 24 := Nat.mul_le_mul (by omega) (by omega)
   have hmS : ((c * x : Nat) : Int) / 8 = ((c * x / 8 : Nat) : Int) := by omega
   have hS1 : 0 < c * x / 8 := by rw [hcx]; exact Nat.mul_pos (by omega) (by omega)
   have hS' := hS x D (by omega)
   rw [J8, if_neg q3, hw] at hS'
   have hmm : (D.length : Int) % ((c * x / 8 : Nat) : Int) = ((D.length % (c * x / 8) : Nat) : Int) := (Int.natCast_emod _ _).symm
   by_cases hd0 : D.length = 0 ∨ D.length % (c * x / 8) ≠ 0
   ·simp only [if_pos hd0]
    by_cases hd1 : D.length = 0
    ·simp (disch := omega) only [rq, simprocAttr, Qbx, QbQ, e2, d2, bs, Q3, ht, QU]
     simp [QO, Qz, frzL, Qv, XH, clA, il, ks]
    ·have hd2 : 0 < D.length % (c * x / 8) := by omega
     generalize c * x / 8 = S at *
     generalize c * x = cx at *
     generalize D.length % S = R at *
     simp (disch := omega) only [rq, simprocAttr, Qbx, QbQ, e2, d2, bs, m0, hmS, hmm, Q3, ht, QU]
     simp [QO, Qz, frzL, Qv, XH, clA, il, ks]
   simp only [if_neg hd0]
   have hd1 : D.length ≠ 0 := fun h => hd0 (.inl h)
   have hd2 : D.length % (c * x / 8) = 0 := by
    rcases Nat.eq_zero_or_pos (D.length % (c * x / 8)) with h | h
    ·exact h
    ·exact absurd (.inr (by omega)) hd0
   have hd3 : D.length % (x / 8) = 0 := by
    have h1 : x / 8 ∣ D.length := Nat.dvd_trans ⟨c, by rw [hcx]; exact Nat.mul_comm _ _⟩ (Nat.dvd_of_mod_eq_zero hd2)
    exact Nat.mod_eq_zero_of_dvd h1
   rw [if_neg (by omega)] at hS'
   have hI := Qn5 q3 D
   have hL := XJ x D
   rw [hw] at hL
   generalize Qgr x D = L at *
   have hC' := hC c x r L hI (by rw [hL]; exact Nat.le_trans (Nat.div_le_self _ _) (by omega))
   rw [hd2] at hmm
   generalize c * x / 8 = S at *
   generalize c * x = cx at *
   generalize D.length / (x / 8) = M at *
   rw [il] at hS' hC'
   by_cases h4 : 4000 < M
   ·rw [if_pos h4] at hS'
    simp only [if_pos h4]
    simp (disch := omega) only [rq, simprocAttr, Qbx, QbQ, e2, d2, bs, m0, hmS, hmm]
    refine Qc.vc hS' ?_
    simp (disch := omega) only [rq, simprocAttr, Q3, ht, QU]
    simp [QO, Qz, frzL, Qv, XH, clA, il, ks]
   rw [if_neg h4] at hS'
   simp only [if_neg h4]
   simp (disch := omega) only [rq, simprocAttr, Qbx, QbQ, e2, d2, bs, m0, hmS, hmm]
   refine Qc.vc hS' ?_
   simp (disch := omega) only [rq, simprocAttr]
   refine Qc.vc hC' ?_
   by_cases h0 : QN c x r L ≠ 0
   ·simp only [if_pos h0]
    generalize QN c x r L = e at *
    simp (disch := omega) only [rq, simprocAttr, Q3, ht, QU]
    simp [QO, Qz, frzL, Qv, XH, clA, il, ks]
   ·simp only [if_neg h0]
    have h0' : QN c x r L = 0 := by omega
    rw [h0']
    simp (disch := omega) only [rq, simprocAttr, Q3, ht, QU]
    simp [QO, Qz, frzL, Qv, XH, clA, il, frzL_T _ (Qy _ _)]
theorem Qox {a rest : List UInt8} {i k n : Nat} (ha : a.length = i) (hn : n < 256 ^ k) : fld (a ++ (leB n k ++ rest)) i k = n := by
 rw [fld, List.drop_left' ha, List.take_left' (Qa k n), Qcj k n hn]
theorem Qpy {c b r m : Nat} {w : Bool} (hc : c < 65536) (hb : b < 65536) (hr : r < 4294967296) :
  fld (ZM c b r w m) 2 2 = c ∧ fld (ZM c b r w m) 14 2 = b ∧ fld (ZM c b r w m) 4 4 = r := by
 have key : ∀ (tag : Nat) (rest : List UInt8), fld (Qad c b r tag ++ rest) 2 2 = c ∧ fld (Qad c b r tag ++ rest) 14 2 = b ∧ fld (Qad c b r tag ++ rest) 4 4 = r := by
  intro tag rest
  refine ⟨?_, ?_, ?_⟩
  ·have := Qox (a := leB tag 2) (rest := leB r 4 ++ (leB (r * (c * b / 8)) 4 ++ (leB (c * b / 8) 2 ++ (leB b 2 ++ rest)))) (i := 2) (k := 2) (n := c) (by simp [Qa]) (by omega)
   simpa [Qad, List.append_assoc] using this
  ·have := Qox (a := leB tag 2 ++ leB c 2 ++ leB r 4 ++ leB (r * (c * b / 8)) 4 ++ leB (c * b / 8) 2) (rest := rest) (i := 14) (k := 2) (n := b) (by simp [Qa]) (by omega)
   simpa [Qad, List.append_assoc] using this
  ·have := Qox (a := leB tag 2 ++ leB c 2) (rest := leB (r * (c * b / 8)) 4 ++ (leB (c * b / 8) 2 ++ (leB b 2 ++ rest))) (i := 4) (k := 4) (n := r) (by simp [Qa]) (by omega)
   simpa [Qad, List.append_assoc] using this
 cases w with
 | false => have := key 1 []; simpa [ZM] using this
 | true => have := key 65534 (leB 22 2 ++ (leB b 2 ++ (leB m 4 ++ QeK))); simpa [ZM, Qpq, List.append_assoc] using this
theorem Qpx {c b r m : Nat} (hm : m < 4294967296) : fld (ZM c b r true m) 20 4 = m := by
 have := Qox (a := Qad c b r 65534 ++ leB 22 2 ++ leB b 2) (rest := QeK) (i := 20) (k := 4) (n := m) (by simp [Qa, Qdv]) (by omega)
 simpa [ZM, Qpq, List.append_assoc] using this
theorem Qmx {c b r m : Nat} {w : Bool} (h : JN c b r) (hm : m < 4294967296) : QdT (ZM c b r w m) = some (c, b, r) := by
 have h' := h
 obtain ⟨h1, h2, h3, h4, h5⟩ := h'
 have hb : b < 65536 := by rcases (Qas _).1 h3 with h | h | h <;> omega
 obtain ⟨e1, e2, e3⟩ := Qpy (c := c) (b := b) (r := r) (m := m) (w := w) (by omega) hb (by omega)
 rw [QdT, e1, e2, e3, if_pos]
 refine ⟨h, ?_⟩
 cases w with
 | false => exact .inl rfl
 | true => exact .inr (by rw [Qpx hm])
theorem QvP {c : Nat} (h : c ≤ 6) : 2 ^ c - 1 < 4294967296 := by
 have : 2 ^ c ≤ 2 ^ 6 := Nat.pow_le_pow_right (by omega) h
 omega
theorem Qmw {c x r : Int} (h : JN c x r) : QdT (QeL c x r) = some (c.toNat, x.toNat, r.toNat) := by
 obtain ⟨c, x, r, rfl, rfl, rfl⟩ := Qfv h
 unfold QeL
 simp only [Int.toNat_natCast]
 exact Qmx h (QvP (by have := h.2.1; omega))
theorem QqQ {x y : Int} (hx : ZL x ≠ 0) (h1 : -ZL x ≤ y) (h2 : y < ZL x) : QjD x (Qo8 x y) = y := by
 unfold Qo8
 rcases Q1 x with ⟨rfl, h⟩ | ⟨rfl, h⟩ | ⟨rfl, h⟩ | ⟨_, _, _, h⟩
 ·rw [h] at h1 h2
  have e : ((8 : Int) / 8).toNat = 1 := by decide
  rw [Qvz, e, Qcj 1 _ (by unfold Qqd; rw [if_pos rfl]; omega)]
  unfold Qqd; rw [if_pos rfl]; omega
 ·rw [h] at h1 h2
  have e : ((16 : Int) / 8).toNat = 2 := by decide
  have e3 : Qqd 16 y = (if y < 0 then y + 65536 else y).toNat := by unfold Qqd; rw [if_neg (by decide), h]; rfl
  have e4 : Qqd 16 y < 256 ^ 2 := by rw [e3]; split <;> omega
  rw [QqT, e, Qcj 2 _ e4, e3]
  split <;> split <;> omega
 ·rw [h] at h1 h2
  have e : ((24 : Int) / 8).toNat = 3 := by decide
  have e3 : Qqd 24 y = (if y < 0 then y + 16777216 else y).toNat := by unfold Qqd; rw [if_neg (by decide), h]; rfl
  have e4 : Qqd 24 y < 256 ^ 3 := by rw [e3]; split <;> omega
  rw [QqS, e, Qcj 3 _ e4, e3]
  split <;> split <;> omega
 ·exact absurd h hx
theorem Qfe {x : Int} (hx : ZL x ≠ 0) : 0 < (x / 8).toNat ∧ (x / 8).toNat ≤ 3 ∧ (x / 8).toNat * 8 = x.toNat ∧ ((x / 8).toNat : Int) * 8 = x := by
 rcases (Qas x).1 hx with h | h | h <;> subst h <;> decide
theorem Qg9 {x : Int} : ∀ {l : List Int} {i : Nat} (h : i < l.length), ((Qbw x l).drop (i * (x / 8).toNat)).take (x / 8).toNat = Qo8 x l[i]
 | [], i, h => by simp at h
 | y :: l, 0, h => by
  simp only [Qbw, List.flatMap_cons, Nat.zero_mul, List.drop_zero, List.getElem_cons_zero]
  exact List.take_left' (QcT x y)
 | y :: l, i + 1, h => by
  have := Qg9 (x := x) (l := l) (i := i) (by simpa using h)
  simp only [Qbw, List.flatMap_cons, List.getElem_cons_succ] at this ⊢
  rw [show (i + 1) * (x / 8).toNat = (Qo8 x y).length + i * (x / 8).toNat by rw [QcT, Nat.add_mul]; omega, List.drop_append]
  rw [List.drop_of_length_le (by omega), Nat.add_sub_cancel_left, List.nil_append, this]
theorem QqR {x : Int} {l : List Int} (h : QE x l = 0) : Qgr x (Qbw x l) = l := by
 obtain ⟨h1, h2⟩ := QbZ h
 obtain ⟨hp, _⟩ := Qfe h2
 have hlen : (Qgr x (Qbw x l)).length = l.length := by rw [XJ, XL, Nat.mul_div_cancel _ hp]
 refine List.ext_getElem hlen fun i ha hb => ?_
 rw [Qn4, Qg9 hb]
 obtain ⟨q1, q2⟩ := Qvd h hb
 exact QqQ h2 q1 q2
theorem Qkr {c x r : Int} {l : List Int} : XP (QlL c x r l) QpA = (0, 0) ∧ XP (QlL c x r l) QbY = (1, 0) := by
 constructor <;> simp [XP, QlL, QgI, QpA, QbY, List.findIdx?_cons]
theorem QmA {c x r : Int} {l : List Int} (h : QN c x r l = 0) : 0 < l.length := by
 obtain ⟨h1, h2, h3, h4⟩ := Qd5 h
 unfold ZH at h4
 split at h4
 ·omega
 split at h4
 ·omega
 rename_i h5
 have : 1 ≤ (l.length : Int) / c := by omega
 rcases Nat.eq_zero_or_pos l.length with h6 | h6
 ·rw [h6] at this; simp at this
 ·exact h6
theorem cx8 {c x : Int} (hc : 1 ≤ c) (hx : ZL x ≠ 0) : c.toNat * x.toNat / 8 = c.toNat * (x / 8).toNat := by
 obtain ⟨_, _, h, _⟩ := Qfe hx
 rw [← h, ← Nat.mul_assoc, Nat.mul_div_cancel _ (by omega)]
theorem Qkl {b form : List UInt8} {L : List Ck} {c x r : Int} {l : List Int} {i j : Nat} (h : QN c x r l = 0) (hr : XN b = .inr (Qbv, L))
  (h1 : XP L QpA = (i, 0)) (h2 : XP L QbY = (j, 0)) (hij : i ≤ j) (h3 : Qth L i = QeL c x r) (h4 : Qth L j = Qbw x l) :
  QeI b = .inr (c.toNat, x.toNat, r.toNat, l) := by
 obtain ⟨k1, k2, k3, k4⟩ := Qd5 h
 have k1' := k1
 obtain ⟨c1, c2, c3, c4, c5⟩ := k1'
 obtain ⟨l1, _⟩ := QbZ k2
 obtain ⟨w1, w2, w3, w4⟩ := Qfe c3
 have hne := QmA h
 unfold QeI
 rw [hr]
 simp only [ne_eq, not_true_eq_false, if_false, h1, h2, h3, h4]
 rw [if_neg (by simp), if_neg (by simp; omega)]
 rw [Qmw k1]
 have hx : ((x.toNat : Nat) : Int) = x := by omega
 have hc : ((c.toNat : Nat) : Int) = c := by omega
 have hrr : ((r.toNat : Nat) : Int) = r := by omega
 simp only [hx, hc, hrr, QqR k2, h]
 have hlen := XL x l
 have e1 : (Qbw x l).length % (c.toNat * x.toNat / 8) = 0 := by
  rw [cx8 c1 c3, hlen]
  refine Nat.mod_eq_zero_of_dvd (Nat.mul_dvd_mul ?_ (Nat.dvd_refl _))
  have : (c.toNat : Int) ∣ (l.length : Int) := by rw [hc]; exact Int.dvd_of_emod_eq_zero k3
  exact_mod_cast this
 have e2 : (Qbw x l).length ≠ 0 := by
  rw [hlen]; exact Nat.mul_ne_zero (by omega) (by omega)
 have e3 : (Qbw x l).length / (x.toNat / 8) = l.length := by
  rw [hlen, show x.toNat / 8 = (x / 8).toNat by omega, Nat.mul_div_cancel _ w1]
 rw [e3, if_neg (by simp [e1, e2]), if_neg (by omega)]
 simp
theorem Qpl {c x r : Int} {l : List Int} (h : QN c x r l = 0) : QeI (Qs9 c x r l) = .inr (c.toNat, x.toNat, r.toNat, l) := by
 obtain ⟨h1, h2⟩ := QlK h
 have h3 := (Qk2 h2).1
 have h4 := Qic h2 [] h3
 rw [List.append_nil, if_pos rfl] at h4
 exact Qkl (form := []) h h4 Qkr.1 Qkr.2 (by omega) rfl rfl
theorem QtS {b : List UInt8} {c x r : Nat} {l : List Int} (h : QeI b = .inr (c, x, r, l)) : QN c x r l = 0 ∧ I32 l ∧ l.length ≤ 4000 := by
 have key : ∀ L : List UInt8, QN c x r (Qgr x L) = 0 → I32 (Qgr x L) ∧ (Qgr x L).length ≤ 4000 := by
  intro L h
  obtain ⟨_, h2, _⟩ := Qd5 h
  obtain ⟨q1, q2⟩ := QbZ h2
  exact ⟨Qn5 q2 _, q1⟩
 unfold QeI at h
 split at h
 ·cases h
 split at h
 ·cases h
 split at h
 ·cases h
 split at h
 ·cases h
 split at h
 ·cases h
 split at h
 ·cases h
 split at h
 ·cases h
 split at h
 ·cases h
 rename_i h9
 cases h
 have h9' := Classical.not_not.1 h9
 exact ⟨h9', key _ h9'⟩
theorem Qrg {b : List UInt8} {e : Nat} (h : QeI b = .inl e) : e ≠ 0 := by
 unfold QeI at h
 split at h
 ·rename_i e' he
  cases h
  exact Qkm he
 split at h
 ·cases h; omega
 split at h
 ·cases h; omega
 split at h
 ·cases h; omega
 split at h
 ·cases h; omega
 split at h
 ·cases h; omega
 split at h
 ·cases h; omega
 split at h
 ·cases h; omega
 ·cases h
theorem Qmv {c x r : Int} {l : List Int} (h : QN c x r l = 0) : ∃ c' x' r' : Nat, c = c' ∧ x = x' ∧ r = r' ∧ QeI (Qs9 c x r l) = .inr (c', x', r', l) := by
 obtain ⟨c', x', r', e1, e2, e3⟩ := Qfv (Qd5 h).1
 refine ⟨c', x', r', e1, e2, e3, ?_⟩
 have := Qpl h
 rw [this, e1, e2, e3]; simp
theorem Qto {c x r : Int} {l : List Int} (h : QN c x r l = 0) : (Qs9 c x r l).length ≤ 100000 := by
 obtain ⟨h3, h4⟩ := QlK h
 obtain ⟨h5, _⟩ := Qk2 h4
 obtain ⟨h6, h7⟩ := Qk3 h4
 rw [Qs9, QdB (by decide) fun c hc => Qkv (h7 c hc)]
 exact h5
theorem Qcp {w n : Nat} (h : n < 2 ^ w) : BitVec.ofInt w (n : Int) = BitVec.ofNat w n := by
 apply BitVec.eq_of_toNat_eq
 rw [BitVec.toNat_ofInt, BitVec.toNat_ofNat]
 omega
theorem QeW {K : IntKind} (hs : K.signed = false) {n : Nat} (h : n < 2 ^ K.bits) : K.wrap (n : Int) = n := by
 have h1 : (n : Int) % 2 ^ K.bits = n := by
  rw [Int.emod_eq_of_lt (by omega)]
  exact_mod_cast h
 unfold IntKind.wrap
 simp [hs, h1]
theorem Qtj {K : IntKind} (hs : K.signed = false) {a b : Nat} (ha : a < 2 ^ K.bits) (hb : b < 2 ^ K.bits) : K.wrap (BitVec.ofInt K.bits (a : Int) ^^^ BitVec.ofInt K.bits (b : Int)).toNat = ((a ^^^ b : Nat) : Int) := by
 rw [Qcp ha, Qcp hb, BitVec.toNat_xor, BitVec.toNat_ofNat, BitVec.toNat_ofNat, Nat.mod_eq_of_lt ha, Nat.mod_eq_of_lt hb]
 exact QeW hs (Nat.xor_lt_two_pow ha hb)
theorem Qx1 {K : IntKind} (hs : K.signed = false) {a b : Nat} (ha : a < 2 ^ K.bits) (hb : b < 2 ^ K.bits) : K.wrap (BitVec.ofInt K.bits (a : Int) &&& BitVec.ofInt K.bits (b : Int)).toNat = ((a &&& b : Nat) : Int) := by
 rw [Qcp ha, Qcp hb, BitVec.toNat_and, BitVec.toNat_ofNat, BitVec.toNat_ofNat, Nat.mod_eq_of_lt ha, Nat.mod_eq_of_lt hb]
 exact QeW hs (Nat.and_lt_two_pow _ hb)
theorem orK {K : IntKind} (hs : K.signed = false) {a b : Nat} (ha : a < 2 ^ K.bits) (hb : b < 2 ^ K.bits) : K.wrap (BitVec.ofInt K.bits (a : Int) ||| BitVec.ofInt K.bits (b : Int)).toNat = ((a ||| b : Nat) : Int) := by
 rw [Qcp ha, Qcp hb, BitVec.toNat_or, BitVec.toNat_ofNat, BitVec.toNat_ofNat, Nat.mod_eq_of_lt ha, Nat.mod_eq_of_lt hb]
 exact QeW hs (Nat.or_lt_two_pow ha hb)
theorem Qmc {K : IntKind} {n k : Nat} (hk : k ≤ K.bits) : Qg false K (n : Int) (k : Int) = some (.int K ((n / 2 ^ k : Nat) : Int)) := by
 have h3 : ¬ ((k : Int) < 0) := by omega
 have h5 : min k K.bits = k := by omega
 have h6 : (n : Int).fdiv (2 ^ k) = ((n / 2 ^ k : Nat) : Int) := by
  rw [Int.fdiv_eq_ediv_of_nonneg _ (Int.pow_nonneg (by decide))]
  simp [Int.natCast_ediv, Int.natCast_pow]
 simp only [Qg, if_neg h3, Bool.false_eq_true, if_false, Int.toNat_natCast, h5, h6]
theorem Qtb {K : IntKind} (hs : K.signed = false) {c s : Nat} (h : s ≤ K.bits) (h2 : c * 2 ^ s < 2 ^ K.bits) : Qg true K (c : Int) (s : Int) = some (.int K ((c * 2 ^ s : Nat) : Int)) := by
 have h3 : ¬ ((s : Int) < 0) := by omega
 have h5 : min s K.bits = s := by omega
 have h6 : (c : Int) * 2 ^ s = ((c * 2 ^ s : Nat) : Int) := by simp
 simp only [Qg, if_neg h3, if_true, Int.toNat_natCast, h5, h6]
 rw [QeW hs h2]
def QuH (c : Nat) : Nat := (c / 2) ^^^ (if c % 2 = 1 then 3988292384 else 0)
def Qe8 : Nat → Nat → Nat
 | 0, c => c
 | k + 1, c => Qe8 k (QuH c)
theorem Qwj {c : Nat} (h : c < 4294967296) : QuH c < 4294967296 := by
 unfold QuH
 have : (if c % 2 = 1 then 3988292384 else 0) < 2 ^ 32 := by split <;> decide
 exact Nat.xor_lt_two_pow (n := 32) (by omega) this
theorem QiF : ∀ (k : Nat) {c : Nat}, c < 4294967296 → Qe8 k c < 4294967296
 | 0, _, h => h
 | k + 1, _, h => QiF k (Qwj h)
theorem QkZ : ∀ (k c : Nat), Qe8 (k + 1) c = QuH (Qe8 k c)
 | 0, _ => rfl
 | k + 1, c => by rw [Qe8, QkZ k, Qe8]
theorem QuG (x h : Nat) : QuH (x ^^^ 2 * h) = QuH x ^^^ h := by
 have e1 : (x ^^^ 2 * h) % 2 = x % 2 := by
  have := Nat.xor_mod_two_pow (a := x) (b := 2 * h) (n := 1)
  simpa using this
 have e2 : (x ^^^ 2 * h) / 2 = x / 2 ^^^ h := by rw [Nat.xor_div_two, Nat.mul_div_cancel_left _ (by omega)]
 unfold QuH
 rw [e1, e2, Nat.xor_assoc, Nat.xor_assoc, Nat.xor_comm h]
theorem QoD : ∀ (k x h : Nat), Qe8 k (x ^^^ 2 ^ k * h) = Qe8 k x ^^^ h
 | 0, x, h => by simp [Qe8]
 | k + 1, x, h => by
  rw [Qe8, Nat.pow_succ, Nat.mul_comm (2 ^ k) 2, Nat.mul_assoc, QuG, QoD k, Qe8]
theorem QjK (b k : Nat) : b = b % 2 ^ k ^^^ 2 ^ k * (b / 2 ^ k) := by
 apply Nat.eq_of_testBit_eq
 intro i
 rw [Nat.testBit_xor, Nat.testBit_mod_two_pow, Nat.testBit_two_pow_mul, Nat.testBit_div_two_pow]
 by_cases h : i < k
 ·have : ¬ k ≤ i := by omega
  simp [h, this]
 ·have h' : k ≤ i := by omega
  simp [h, h', show i - k + k = i by omega]
def Qxd (s b : Nat) : Nat := Qe8 8 (s ^^^ b)
theorem QpN (s b : Nat) : Qxd s b = s / 256 ^^^ Qe8 8 (s % 256 ^^^ b) := by
 have h : s ^^^ b = (s % 256 ^^^ b) ^^^ 2 ^ 8 * (s / 256) := by
  have := QjK s 8
  rw [show (2 : Nat) ^ 8 = 256 from rfl] at this ⊢
  rw [Nat.xor_assoc, Nat.xor_comm b, ← Nat.xor_assoc, ← this]
 rw [Qxd, h, QoD, Nat.xor_comm]
theorem Qwk {s b : Nat} (hs : s < 4294967296) (hb : b < 256) : Qxd s b < 4294967296 := QiF 8 (Nat.xor_lt_two_pow (n := 32) (by omega) (by omega))
def Qqf (s : Nat) (l : List UInt8) : Nat := l.foldl (fun s b => Qxd s b.toNat) s
theorem Qsi {s : Nat} {l : List UInt8} {k : Nat} (h : k < l.length) : Qqf s (l.take (k + 1)) = Qxd (Qqf s (l.take k)) (l[k]).toNat := by
 rw [List.take_succ_eq_append_getElem h, Qqf, List.foldl_append]; rfl
theorem Qm8 : ∀ {l : List UInt8} {s : Nat}, s < 4294967296 → Qqf s l < 4294967296
 | [], _, h => h
 | b :: l, s, h => Qm8 (l := l) (Qwk h (UInt8.toNat_lt b))
def Qj8 (i : Nat) : List Int := (List.range 256).map fun j => if j < i then ((Qe8 8 j : Nat) : Int) else 0
theorem Xi (i : Nat) : (Qj8 i).length = 256 := by simp [Qj8]
theorem QeX {i j : Nat} (h : j < 256) : (Qj8 i)[j]'(by rw [Xi]; exact h) = if j < i then ((Qe8 8 j : Nat) : Int) else 0 := by simp [Qj8]
theorem Qtu {i : Nat} (h : i < 256) : (Qj8 i).set i ((Qe8 8 i : Nat) : Int) = Qj8 (i + 1) := by
 refine List.ext_getElem (by simp [Xi]) fun j h1 h2 => ?_
 have hj : j < 256 := by simpa [Xi] using h2
 rw [List.getElem_set, QeX hj]
 split
 ·rename_i e; subst e; rw [QeX hj, if_pos (by omega)]
 ·rename_i e; rw [QeX hj]
  by_cases h3 : j < i
  ·rw [if_pos h3, if_pos (by omega)]
  ·rw [if_neg h3, if_neg (by omega)]
def QnG (P : Prg) (f : Nat) : Prop := VC P f [] (.cell (ks .u32 (Qj8 256)))
theorem Qeq {l : List UInt8} {k : Nat} (h : k < l.length) : (u8 l).drop k = .int .u8 (l[k]).toNat :: u8 (l.drop (k + 1)) := by
 rw [Qh3, List.drop_eq_getElem_cons h]; rfl
set_option maxRecDepth 40000 in
theorem Qna {P : Prg} {f t0 : Nat} (bd : Body P f 24 [.tmp 0] (QaG t0)) : QnG P f := by
 refine VC.of_walk 1 rfl (by simp [isD, Qkz (Qy _ _)]) (ACall.of_body bd (by simp) ?_)
 unfold QaG
 have z0 : ([.int .u32 0, .int .u32 0] : List AV) = [.int .u32 0, .int .u32 0] := rfl
 simp (disch := omega) only [rq, simprocAttr]
 refine QL.by (ι := Nat) (fun i => ⟨[(5, .int .i64 i), (1, .ref 0 1 0)], [⟨t0, 256, 1, ks .u32 (Qj8 i), 0⟩]⟩) (fun i => i ≤ 256) (fun i => 256 - i) 0 (Le.slots (by simp [Am.look])) (by omega) ?_
 intro i hi
 by_cases hlt : i < 256
 ·simp (disch := omega) only [rq, simprocAttr]
  refine QL.by (ι := Nat) (fun j => ⟨[(10, .int .i64 j), (3, .int .u32 (Qe8 j i)), (5, .int .i64 i), (2, .int .i64 i), (1, .ref 0 1 0)], [⟨t0, 256, 1, ks .u32 (Qj8 i), 0⟩]⟩) (fun j => j ≤ 8) (fun j => 8 - j) 0 (Le.slots (by simp [Am.look, Qe8])) (by omega) ?_
  intro j hj
  by_cases hjl : j < 8
  ·have hc := QiF j (c := i) (by omega)
   have hn := QkZ j i
   generalize Qe8 j i = c at *
   have a1 : IntKind.u32.wrap (BitVec.ofInt IntKind.u32.bits (c : Int) &&& BitVec.ofInt IntKind.u32.bits 1).toNat = ((c % 2 : Nat) : Int) := by
    have h := Qx1 (K := .u32) rfl (a := c) (b := 1) (by exact hc) (by decide)
    rw [Nat.and_one_is_mod] at h
    exact h
   have a2 : Qg false .u32 (c : Int) 1 = some (.int .u32 ((c / 2 : Nat) : Int)) := Qmc (K := .u32) (n := c) (k := 1) (by decide)
   rcases Nat.mod_two_eq_zero_or_one c with h2 | h2
   ·have a3 : IntKind.u32.wrap (BitVec.ofInt IntKind.u32.bits ((c / 2 : Nat) : Int) ^^^ BitVec.ofInt IntKind.u32.bits 0).toNat = ((Qe8 (j + 1) i : Nat) : Int) := by
     rw [hn, QuH, h2, if_neg (by decide)]
     exact Qtj (K := .u32) rfl (a := c / 2) (b := 0) (by show c / 2 < 4294967296; omega) (by decide)
    have a1' : IntKind.u32.wrap (BitVec.ofInt IntKind.u32.bits (c : Int) &&& BitVec.ofInt IntKind.u32.bits 1).toNat = 0 := by rw [a1, h2]; rfl
    simp (disch := omega) only [rq, simprocAttr, a1', a2, a3]
    exact ⟨j + 1, by omega, by omega, Le.slots (by simp [Am.look])⟩
   ·have a3 : IntKind.u32.wrap (BitVec.ofInt IntKind.u32.bits ((c / 2 : Nat) : Int) ^^^ BitVec.ofInt IntKind.u32.bits 3988292384).toNat = ((Qe8 (j + 1) i : Nat) : Int) := by
     rw [hn, QuH, h2, if_pos rfl]
     exact Qtj (K := .u32) rfl (a := c / 2) (b := 3988292384) (by show c / 2 < 4294967296; omega) (by decide)
    have a1' : IntKind.u32.wrap (BitVec.ofInt IntKind.u32.bits (c : Int) &&& BitVec.ofInt IntKind.u32.bits 1).toNat = 1 := by rw [a1, h2]; rfl
    simp (disch := omega) only [rq, simprocAttr, a1', a2, a3]
    exact ⟨j + 1, by omega, by omega, Le.slots (by simp [Am.look])⟩
  ·obtain rfl : j = 8 := by omega
   have e1 := Xi i
   have e2 := Qi .u32 (Qj8 i)
   have e3 : (ks .u32 (Qj8 i)).take i ++ [.int .u32 (Qe8 8 i)] ++ (ks .u32 (Qj8 i)).drop (i + 1) = ks .u32 (Qj8 (i + 1)) := by
    rw [← Qtu hlt, List.set_eq_take_append_cons_drop, if_pos (by rw [Xi]; exact hlt)]; simp [ks, List.map_take, List.map_drop]
   simp (disch := omega) only [rq, simprocAttr, e1, e2, e3]
   exact ⟨i + 1, by omega, by omega, Le.slots (by simp [Am.look])⟩
 ·obtain rfl : i = 256 := by omega
  simp (disch := omega) only [rq, simprocAttr]
  simp [QO, Qz, frzL, Qv, frzL_T _ (Qy _ _)]
def QnS (P : Prg) (f : Nat) : Prop := ∀ (s : Nat) (l : List UInt8), s < 4294967296 → VC P f [.int .u32 s, bs l] (if 100000 < l.length then .tup [.int .u32 0, .int .i64 4] else .tup [.int .u32 (Qqf s l), .int .i64 0])
set_option maxRecDepth 40000 in
theorem QpP {P : Prg} {f fT : Nat} (bd : Body P f 32 [.tmp 4, .tmp 5] (JE fT)) (hT : QnG P fT) : QnS P f := by
 intro s l hs
 refine VC.of_acall (by simp [isDL, isD, QR]) (by split <;> rfl) (ACall.of_body bd (by simp) ?_)
 by_cases hl : 100000 < l.length
 ·rw [if_pos hl]
  simp (disch := omega) only [rq, simprocAttr, JE, bs]
 ·rw [if_neg hl]
  have hT' := hT
  have t0 := Qi .u32 (Qj8 256)
  rw [Xi] at t0
  simp (disch := omega) only [rq, simprocAttr, JE, bs]
  refine Qc.vc hT' ?_
  simp (disch := omega) only [rq, simprocAttr]
  refine QL.by (ι := Nat) (fun k => ⟨[(15, .int .i64 k), (14, .int .i64 l.length), (13, .list l.length (u8 l)), (6, .cell (ks .u32 (Qj8 256))), (0, .int .u32 (Qqf s (l.take k)))], []⟩) (fun k => k ≤ l.length) (fun k => l.length - k) 0 (Le.slots (by simp [Am.look, Qqf])) (by omega) ?_
  intro k hk
  have hc := Qm8 (l := l.take k) hs
  by_cases hlt : k < l.length
  ·have e1 := Qeq hlt
   have hn := Qsi (s := s) hlt
   generalize Qqf s (l.take k) = c at *
   rw [QpN] at hn
   have hb := (l[k]).toNat_lt
   have h0 : (c % 256 ^^^ (l[k]).toNat) < 256 := Nat.xor_lt_two_pow (n := 8) (Nat.mod_lt _ (by decide)) hb
   have h1 := QiF 8 (c := c % 256 ^^^ (l[k]).toNat) (by omega)
   have a1 : Qg false .u32 (c : Int) 8 = some (.int .u32 ((c / 256 : Nat) : Int)) := Qmc (K := .u32) (n := c) (k := 8) (by decide)
   have a2 : IntKind.u8.wrap (c : Int) = ((c % 256 : Nat) : Int) := by rw [Zp]; omega
   have a3 : IntKind.u8.wrap (BitVec.ofInt IntKind.u8.bits ((c % 256 : Nat) : Int) ^^^ BitVec.ofInt IntKind.u8.bits ((l[k]).toNat : Int)).toNat = ((c % 256 ^^^ (l[k]).toNat : Nat) : Int) :=
    Qtj (K := .u8) rfl (a := c % 256) (b := (l[k]).toNat) (Nat.mod_lt _ (by decide)) hb
   have a4 : IntKind.u32.wrap (BitVec.ofInt IntKind.u32.bits ((c / 256 : Nat) : Int) ^^^ BitVec.ofInt IntKind.u32.bits ((Qe8 8 (c % 256 ^^^ (l[k]).toNat) : Nat) : Int)).toNat = ((Qqf s (l.take (k + 1)) : Nat) : Int) := by
    rw [hn]; exact Qtj (K := .u32) rfl (by show c / 256 < 4294967296; omega) h1
   generalize c % 256 ^^^ (l[k]).toNat = x at *
   have e2 : (ks .u32 (Qj8 256)).drop x = .int .u32 ((Qe8 8 x : Nat) : Int) :: ks .u32 ((Qj8 256).drop (x + 1)) := by
    rw [Qa6, List.drop_eq_getElem_cons (by rw [Xi]; exact h0), QfI, QeX h0, if_pos h0]
   simp (disch := omega) only [rq, simprocAttr, e1, a1, a2, a3, a4, e2, t0]
   exact ⟨k + 1, by omega, by omega, Le.slots (by simp [Am.look])⟩
  ·have ek : k = l.length := by omega
   subst ek
   rw [List.take_length]
   simp (disch := omega) only [rq, simprocAttr]
def Qlz (P : Prg) (f : Nat) : Prop := ∀ (l : List UInt8), VC P f [bs l] (if 100000 < l.length then .tup [.int .u32 0, .int .i64 4] else .tup [.int .u32 ((4294967295 - Qqf 4294967295 l : Nat) : Int), .int .i64 0])
theorem Qvo {c : Nat} (h : c < 4294967296) : 4294967295 ^^^ c = 4294967295 - c := by
 have h1 : BitVec.allOnes 32 ^^^ BitVec.ofNat 32 c = ~~~ BitVec.ofNat 32 c := by
  apply BitVec.eq_of_getElem_eq
  intro i hi
  rw [BitVec.getElem_xor, BitVec.getElem_allOnes, BitVec.getElem_not, Bool.true_xor]
 have h2 := congrArg BitVec.toNat h1
 rw [BitVec.toNat_xor, BitVec.toNat_not, BitVec.toNat_allOnes, BitVec.toNat_ofNat, Nat.mod_eq_of_lt h] at h2
 exact h2
theorem Qsk {P : Prg} {f fN : Nat} (bd : Body P f 16 [.tmp 2, .tmp 3] (Qam fN)) (hN : QnS P fN) : Qlz P f := by
 intro l
 refine VC.of_acall (by simp [isDL, isD, QR]) (by split <;> rfl) (ACall.of_body bd (by simp) ?_)
 have hN' := hN 4294967295 l (by decide)
 have hc := Qm8 (l := l) (s := 4294967295) (by decide)
 generalize Qqf 4294967295 l = c at *
 simp only [bs] at hN'
 by_cases hl : 100000 < l.length
 ·rw [if_pos hl] at hN' ⊢
  simp (disch := omega) only [rq, simprocAttr, Qam, bs]
  refine Qc.vc hN' ?_
  simp (disch := omega) only [rq, simprocAttr]
 ·rw [if_neg hl] at hN' ⊢
  have a1 : IntKind.u32.wrap (BitVec.ofInt IntKind.u32.bits IntKind.u32.max ^^^ BitVec.ofInt IntKind.u32.bits (c : Int)).toNat = ((4294967295 - c : Nat) : Int) := by
   rw [← Qvo hc]
   exact Qtj (K := .u32) rfl (a := 4294967295) (b := c) (by decide) hc
  have a2 : IntKind.u32.signed = false := rfl
  simp (disch := omega) only [rq, simprocAttr, Qam, bs]
  refine Qc.vc hN' ?_
  simp (disch := omega) only [rq, simprocAttr, a1, a2]
def nB (N : Nat) : Nat := (N + 7) / 8
theorem Qub (V i : Nat) : leB V (i + 1) = leB V i ++ [UInt8.ofNat (V / 256 ^ i % 256)] := by
 have h1 : (leB V (i + 1)).take (i + 1) = (leB V (i + 1)).take i ++ [UInt8.ofNat (V / 256 ^ i % 256)] := Qdr (by omega)
 have h2 : ∀ k j n : Nat, k ≤ j → (leB n j).take k = leB n k := by
  intro k
  induction k with
  | zero => intro j n _; simp [leB]
  | succ k ih =>
   intro j n h
   obtain ⟨j, rfl⟩ : ∃ j', j = j' + 1 := ⟨j - 1, by omega⟩
   simp [leB, ih j (n / 256) (by omega)]
 rw [h2 (i + 1) (i + 1) V (by omega), h2 i (i + 1) V (by omega)] at h1
 exact h1
theorem QrE : ∀ (i V u : Nat), leB (V + 256 ^ i * u) i = leB V i
 | 0, _, _ => rfl
 | i + 1, V, u => by
  have e : 256 ^ (i + 1) * u = 256 * (256 ^ i * u) := by rw [Nat.pow_succ, Nat.mul_comm (256 ^ i) 256, Nat.mul_assoc]
  have e1 : (V + 256 ^ (i + 1) * u) % 256 = V % 256 := by rw [e]; omega
  have e2 : (V + 256 ^ (i + 1) * u) / 256 = V / 256 + 256 ^ i * u := by rw [e]; omega
  simp only [leB, e1, e2, QrE i]
theorem Qrp (i : Nat) : (256 : Nat) ^ i = 2 ^ (8 * i) := by rw [Nat.pow_mul]
theorem Qb1 {V i at_ : Nat} (h : V < 2 ^ (8 * i + at_)) (ha : at_ ≤ 8) : leB V (i + 1) = leB V i ++ [UInt8.ofNat (V / 256 ^ i)] ∧ V / 256 ^ i < 2 ^ at_ := by
 have h1 : V / 256 ^ i < 2 ^ at_ := Nat.div_lt_of_lt_mul (by rw [Qrp, ← Nat.pow_add]; exact h)
 have h2 : 2 ^ at_ ≤ 2 ^ 8 := Nat.pow_le_pow_right (by omega) ha
 exact ⟨by rw [Qub, Nat.mod_eq_of_lt (by omega)], h1⟩
theorem QcL {V i at_ w r : Nat} (h : V < 2 ^ (8 * i + at_)) (hw : w < 2 ^ r) (hr : at_ + r ≤ 8) :
  leB (V + 2 ^ (8 * i + at_) * w) (i + 1) = leB V i ++ [UInt8.ofNat (V / 256 ^ i + 2 ^ at_ * w)] ∧ V / 256 ^ i + 2 ^ at_ * w < 2 ^ (at_ + r) ∧ V + 2 ^ (8 * i + at_) * w < 2 ^ (8 * i + (at_ + r)) := by
 obtain ⟨_, h1⟩ := Qb1 h (by omega)
 have e : 2 ^ (8 * i + at_) * w = 256 ^ i * (2 ^ at_ * w) := by rw [Qrp, Nat.pow_add, Nat.mul_assoc]
 have h2 : V / 256 ^ i + 2 ^ at_ * w < 2 ^ (at_ + r) := by
  have : 2 ^ at_ * (w + 1) ≤ 2 ^ at_ * 2 ^ r := Nat.mul_le_mul_left _ hw
  rw [Nat.pow_add]; rw [Nat.mul_add, Nat.mul_one] at this; omega
 have h3 : V + 2 ^ (8 * i + at_) * w < 2 ^ (8 * i + (at_ + r)) := by
  have : 2 ^ (8 * i + at_) * (w + 1) ≤ 2 ^ (8 * i + at_) * 2 ^ r := Nat.mul_le_mul_left _ hw
  rw [← Nat.add_assoc, Nat.pow_add 2 (8 * i + at_)]; rw [Nat.mul_add, Nat.mul_one] at this; omega
 refine ⟨?_, h2, h3⟩
 have h4 := (Qb1 (V := V + 2 ^ (8 * i + at_) * w) (i := i) (at_ := at_ + r) h3 hr).1
 rw [h4, e, QrE, Nat.add_mul_div_left _ _ (Nat.pow_pos (by omega))]
theorem Qxj (V q r : Nat) (hr : r < 8) : V / 256 ^ q % 256 / 2 ^ r % 2 = V / 2 ^ (8 * q + r) % 2 := by
 rw [Qrp, show (256 : Nat) = 2 ^ r * 2 ^ (8 - r) by rw [← Nat.pow_add, show r + (8 - r) = 8 by omega], Nat.mod_mul_right_div_self, Nat.div_div_eq_div_mul, ← Nat.pow_add]
 rw [Nat.mod_mod_of_dvd]
 exact ⟨2 ^ (8 - r - 1), by rw [← Nat.pow_succ']; congr 1; omega⟩
def bA (N V : Nat) : AV := .agg [.list (nB N) (u8 (leB V (nB N))), .int .i64 N]
theorem Qds (N V : Nat) : isD (bA N V) = true := by simp [bA, isD, isDL, QfK]
theorem QoK {n : Nat} (h : n < 9223372036854775808) : IntKind.i64.wrap (BitVec.ofInt IntKind.i64.bits (n : Int) &&& BitVec.ofInt IntKind.i64.bits 7).toNat = ((n % 8 : Nat) : Int) := by
 have e1 : (BitVec.ofInt 64 (n : Int)).toNat = n := by
  rw [BitVec.toNat_ofInt]
  show ((n : Int) % 18446744073709551616).toNat = n
  omega
 have e2 : (BitVec.ofInt 64 7).toNat = 7 := by decide
 have : (BitVec.ofInt 64 (n : Int) &&& BitVec.ofInt 64 7).toNat = n % 8 := by
  rw [BitVec.toNat_and, e1, e2]
  exact Nat.and_two_pow_sub_one_eq_mod n 3
 show IntKind.i64.wrap ((BitVec.ofInt 64 (n : Int) &&& BitVec.ofInt 64 7).toNat : Int) = _
 rw [this, wrap_i64] <;> omega
theorem QwD {l : List UInt8} {k : Nat} (h : k < l.length) : (u8 l).drop k = .int .u8 (l[k]).toNat :: u8 (l.drop (k + 1)) := by
 rw [Qh3, List.drop_eq_getElem_cons h]; rfl
theorem Qu4 {V k i : Nat} (h : i < k) : (u8 (leB V k)).drop i = .int .u8 ((V / 256 ^ i % 256 : Nat) : Int) :: u8 ((leB V k).drop (i + 1)) := by
 rw [QwD (by rw [Qa]; exact h)]
 have := QmF k V i h
 rw [List.getElem?_eq_getElem (by rw [Qa]; exact h)] at this
 rw [Option.some.inj this]
 have : (UInt8.ofNat (V / 256 ^ i % 256)).toNat = V / 256 ^ i % 256 := by simp
 rw [this]
def Qcr (P : Prg) (f : Nat) : Prop := ∀ N V : Nat, V < 2 ^ N → N ≤ 330000 → VC P f [bA N V] (.int .i64 0)
theorem Qp1 {P : Prg} {f t0 : Nat} (bd : Body P f 40 [.tmp 2] (JF t0)) : Qcr P f := by
 intro N V hV hN
 refine VC.of_acall (by simp [isDL, Qds]) rfl (ACall.of_body bd (by simp) ?_)
 have e1 : Qg false .i64 ((N : Int) + 7) 3 = some (.int .i64 ((nB N : Nat) : Int)) := by
  rw [show (N : Int) + 7 = ((N + 7 : Nat) : Int) by omega]
  exact Qmc (K := .i64) (n := N + 7) (k := 3) (by decide)
 have e2 := QoK (n := N) (by omega)
 have e3 : (u8 (leB V (nB N))).length = nB N := by simp [u8, Qa]
 by_cases h0 : N % 8 = 0
 ·rw [h0] at e2
  have e2' : IntKind.i64.wrap (BitVec.ofInt IntKind.i64.bits (N : Int) &&& BitVec.ofInt IntKind.i64.bits 7).toNat = 0 := e2
  simp (disch := omega) only [rq, simprocAttr, JF, bA, e1, e2', e3]
 ·have hn : nB N = N / 8 + 1 := by unfold nB; omega
  have h8 : N = 8 * (N / 8) + N % 8 := by omega
  obtain ⟨l1, l2⟩ := Qb1 (V := V) (i := N / 8) (at_ := N % 8) (by rw [← h8]; exact hV) (by omega)
  have e4 := Qu4 (V := V) (k := nB N) (i := N / 8) (by omega)
  have h256 : V / 256 ^ (N / 8) % 256 = V / 256 ^ (N / 8) := Nat.mod_eq_of_lt (by
   have : 2 ^ (N % 8) ≤ 2 ^ 8 := Nat.pow_le_pow_right (by omega) (by omega)
   omega)
  rw [h256] at e4
  have e5 : Qg false .u8 ((V / 256 ^ (N / 8) : Nat) : Int) ((N % 8 : Nat) : Int) = some (.int .u8 0) := by
   have := Qmc (K := .u8) (n := V / 256 ^ (N / 8)) (k := N % 8) (by show N % 8 ≤ 8; omega)
   rw [this, Nat.div_eq_of_lt l2]; rfl
  have e6 : nB N - 1 = N / 8 := by omega
  have hq : ((N % 8 : Nat) : Int) = (N : Int) % 8 := by omega
  generalize V / 256 ^ (N / 8) = y at *
  obtain ⟨a, ha⟩ : ∃ a, a = N % 8 := ⟨_, rfl⟩
  rw [← ha] at e2 e5 hq
  simp (disch := omega) only [rq, simprocAttr, JF, bA, e1, e2, e3, e4, e5, e6]
structure Dl where
 k0 : Nat
 k1 : Nat
 s0 : Nat
 s1 : Nat
def dlC (d : Dl) : List AV := [.int .i64 d.k0, .int .i64 d.k1, .int .u64 d.s0, .int .u64 d.s1]
def dlA (d : Dl) : AV := .agg (dlC d)
def okD (d : Dl) : Prop := d.k0 ≤ 24 ∧ d.k1 ≤ 24 ∧ d.s0 ≤ 68719476735 ∧ d.s1 ≤ 68719476735
def QG : Dl := ⟨10, 10, 16384, 16384⟩
def QbA (k s n : Nat) : Nat × Nat :=
 if 0 < k ∧ s + n - s / 16 < 2 ^ (k + 4) then (k - 1, s + n - s / 16) else if k < 24 ∧ 2 ^ (k + 5) < s + n - s / 16 then (k + 1, s + n - s / 16) else (k, s + n - s / 16)
def Jp (d : Dl) (v : Nat) : Dl :=
 if v < 2 ^ d.k0 then ⟨(QbA d.k0 d.s0 v).1, d.k1, (QbA d.k0 d.s0 v).2, d.s1⟩
 else ⟨(QbA d.k0 d.s0 v).1, (QbA d.k1 d.s1 (v - 2 ^ d.k0)).1, (QbA d.k0 d.s0 v).2, (QbA d.k1 d.s1 (v - 2 ^ d.k0)).2⟩
theorem Qmy {k s n : Nat} (hk : k ≤ 24) (hs : s ≤ 68719476735) (hn : n < 4294967296) : (QbA k s n).1 ≤ 24 ∧ (QbA k s n).2 ≤ 68719476735 := by
 unfold QbA
 have ht : s + n - s / 16 ≤ 68719476735 := by omega
 generalize s + n - s / 16 = t at *
 split
 ·exact ⟨by simp only; omega, ht⟩
 ·split
  ·rename_i h; exact ⟨by have := h.1; simp only; omega, ht⟩
  ·exact ⟨hk, ht⟩
theorem Qt6 {d : Dl} {v : Nat} (h : okD d) (hv : v < 4294967296) : okD (Jp d v) := by
 obtain ⟨h1, h2, h3, h4⟩ := h
 have p0 := Qmy h1 h3 hv
 have p1 := Qmy (n := v - 2 ^ d.k0) h2 h4 (Nat.lt_of_le_of_lt (Nat.sub_le _ _) hv)
 unfold Jp
 split
 ·exact ⟨p0.1, h2, p0.2, h4⟩
 ·exact ⟨p0.1, p1.1, p0.2, p1.2⟩
theorem Qty : okD QG := by unfold okD QG; decide
theorem QrK (d : Dl) : isD (dlA d) = true := rfl
theorem p24 {k : Nat} (h : k ≤ 24) : 2 ^ k ≤ 16777216 ∧ 2 ^ (k + 4) = 16 * 2 ^ k ∧ 2 ^ (k + 5) = 32 * 2 ^ k := by
 have := Nat.pow_le_pow_right (n := 2) (by omega) h
 refine ⟨by simpa using this, ?_, ?_⟩ <;> rw [Nat.pow_add, Nat.mul_comm]
def Qjk (P : Prg) (f : Nat) : Prop := VC P f [] (dlA QG)
theorem QpL {P : Prg} {f t0 : Nat} (bd : Body P f 2 [.cell 0 t0] (Qbl t0)) (ht : Z6 P t0 = some (some 4)) : Qjk P f := by
 refine VC.of_acall rfl rfl (ACall.of_body bd (by simp) ?_)
 simp (disch := omega) only [rq, simprocAttr, Qbl, Q3, ht, QU, dlA, dlC, QG]
 try rfl
def Qjw (P : Prg) (f : Nat) : Prop := ∀ d : Dl, okD d → VC P f [dlA d] (.int .i64 0)
theorem QpM {P : Prg} {f t0 : Nat} (bd : Body P f 26 [.tmp 2] (Qbm t0)) : Qjw P f := by
 intro d h
 obtain ⟨k0, k1, s0, s1⟩ := d
 obtain ⟨h1, h2, h3, h4⟩ := h
 simp only at h1 h2 h3 h4
 refine VC.of_acall rfl rfl (ACall.of_cut 1 bd (by simp) ?_)
 simp (disch := omega) only [rq, simprocAttr, Qbm, dlA, dlC, QdL]
 refine ⟨⟨[(2, .int .i64 0), (1, .cell [.int .i64 k0, .int .i64 k1, .int .u64 s0, .int .u64 s1])], []⟩, Le.dropT [] (by simp) (by simp [Am.look, Qz, frzL, Qv]), ?_⟩
 simp (disch := omega) only [rq, simprocAttr]
def Qgi (P : Prg) (f : Nat) : Prop := ∀ (d : Dl) (v : Nat), okD d → v < 4294967296 → VC P f [dlA d, .int .u32 v] (if v < 2 ^ d.k0 then .tup [.int .i64 0, .int .u32 v] else .tup [.int .i64 1, .int .u32 ((v - 2 ^ d.k0 : Nat) : Int)])
theorem QpI {P : Prg} {f t0 : Nat} (bd : Body P f 17 [.tmp 4, .tmp 5] (JB t0)) : Qgi P f := by
 intro d v h hv
 obtain ⟨k0, k1, s0, s1⟩ := d
 obtain ⟨h1, h2, h3, h4⟩ := h
 simp only at h1 h2 h3 h4
 refine VC.of_acall rfl (by simp only; split <;> rfl) (ACall.of_body bd (by simp) ?_)
 have e1 : Qg false .u32 (v : Int) (k0 : Int) = some (.int .u32 ((v / 2 ^ k0 : Nat) : Int)) := Qmc (K := .u32) (by show k0 ≤ 32; omega)
 obtain ⟨q1, _⟩ := p24 h1
 have e2 : Qg true .u32 1 (k0 : Int) = some (.int .u32 ((2 ^ k0 : Nat) : Int)) := by
  have := Qtb (K := .u32) rfl (c := 1) (s := k0) (by show k0 ≤ 32; omega) (by show 1 * 2 ^ k0 < 4294967296; omega)
  rw [Nat.one_mul] at this
  exact this
 simp only
 by_cases c : v < 2 ^ k0
 ·rw [if_pos c]
  rw [Nat.div_eq_of_lt c] at e1
  have e1' : Qg false .u32 (v : Int) (k0 : Int) = some (.int .u32 0) := e1
  simp (disch := omega) only [rq, simprocAttr, JB, dlA, dlC, e1']
 ·rw [if_neg c]
  have hpos : 0 < v / 2 ^ k0 := Nat.div_pos (by omega) (Nat.pow_pos (by omega))
  have hle : v / 2 ^ k0 ≤ v := Nat.div_le_self _ _
  have e3 : ((v - 2 ^ k0 : Nat) : Int) = (v : Int) - ((2 ^ k0 : Nat) : Int) := by omega
  generalize v / 2 ^ k0 = w at *
  generalize 2 ^ k0 = p at *
  simp (disch := omega) only [rq, simprocAttr, JB, dlA, dlC, e1, e2, e3]
theorem Qd2 {P : Prg} {f : Nat} (bd : Body P f 58 [] Qm) {ob : List Ob} {p : Nat} {t : Nat} {d : Dl} (hp : ob[p]? = some ⟨t, 4, 1, dlC d, 0⟩) (hd : okD d) {n : Nat} (hn : n < 4294967296) (b : Bool) {K : AV → List Ob → Prop}
  (hK : K (.tup []) (ob.set p ⟨t, 4, 1, dlC (if b then ⟨d.k0, (QbA d.k1 d.s1 n).1, d.s0, (QbA d.k1 d.s1 n).2⟩ else ⟨(QbA d.k0 d.s0 n).1, d.k1, (QbA d.k0 d.s0 n).2, d.s1⟩), 0⟩)) :
  ACall P f [.ref p 1 (if b then 1 else 0), .ref p 1 (if b then 3 else 2), .int .u32 n] ob K := by
 have hpl : p < ob.length := (List.getElem?_eq_some_iff.1 hp).1
 have g1 : ∀ x, (ob.set p x)[p]? = some x := fun x => by simp [hpl]
 have g2 : ∀ x y, (ob.set p x).set p y = ob.set p y := fun x y => List.set_set _
 have key : ∀ k s : Nat, k ≤ 24 → s ≤ 68719476735 → ∃ t p4 p5 : Nat, t ≤ 68719476735 ∧ IntKind.u64.wrap ((s : Int) + IntKind.u64.wrap ((n : Int) - ((s / 16 : Nat) : Int))) = (t : Int) ∧ Qg false .u64 (s : Int) 4 = some (.int .u64 ((s / 16 : Nat) : Int)) ∧
   Qg true .u64 16 (k : Int) = some (.int .u64 (p4 : Int)) ∧ Qg true .u64 32 (k : Int) = some (.int .u64 (p5 : Int)) ∧
   Qg true .u64 16 (k : Int) = some (.int .u64 (p4 : Int)) ∧ QbA k s n = if 0 < k ∧ t < p4 then (k - 1, t) else if k < 24 ∧ p5 < t then (k + 1, t) else (k, t) := by
  intro k s hk hs
  obtain ⟨q1, q2, q3⟩ := p24 hk
  refine ⟨s + n - s / 16, 2 ^ (k + 4), 2 ^ (k + 5), by omega, ?_, Qmc (K := .u64) (k := 4) (by decide), ?_, ?_, ?_, rfl⟩
  ·rw [Xl, Xl]; omega
  ·rw [q2]; exact Qtb (K := .u64) rfl (c := 16) (by show k ≤ 64; omega) (by show 16 * 2 ^ k < 18446744073709551616; omega)
  ·rw [q3]; exact Qtb (K := .u64) rfl (c := 32) (by show k ≤ 64; omega) (by show 32 * 2 ^ k < 18446744073709551616; omega)
  ·rw [q2]; exact Qtb (K := .u64) rfl (c := 16) (by show k ≤ 64; omega) (by show 16 * 2 ^ k < 18446744073709551616; omega)
 obtain ⟨k0, k1, s0, s1⟩ := d
 obtain ⟨h1, h2, h3, h4⟩ := hd
 simp only at h1 h2 h3 h4
 refine ACall.of_body bd (by simp) ?_
 simp only [dlC] at hp hK
 cases b with
 | false =>
  obtain ⟨u, p4, p5, hu, e1, e2, e3, e4, _, e5⟩ := key k0 s0 h1 h3
  simp only [e5, Bool.false_eq_true, if_false] at hK ⊢
  by_cases c1 : 0 < k0
  ·by_cases c2 : u < p4
   ·rw [if_pos ⟨c1, c2⟩] at hK
    have e6 : ((k0 - 1 : Nat) : Int) = (k0 : Int) - 1 := by omega
    simp only [e6] at hK
    simp (disch := omega) only [rq, simprocAttr, Qm, hp, g1, g2, e1, e2, e3, e4, e6]
    exact hK
   ·rw [if_neg (fun h => c2 h.2)] at hK
    by_cases c3 : k0 < 24
    ·by_cases c4 : p5 < u
     ·rw [if_pos ⟨c3, c4⟩] at hK
      simp only [Int.natCast_add] at hK
      simp (disch := omega) only [rq, simprocAttr, Qm, hp, g1, g2, e1, e2, e3, e4]
      exact hK
     ·rw [if_neg (fun h => c4 h.2)] at hK
      simp (disch := omega) only [rq, simprocAttr, Qm, hp, g1, g2, e1, e2, e3, e4]
      exact hK
    ·rw [if_neg (fun h => c3 h.1)] at hK
     simp (disch := omega) only [rq, simprocAttr, Qm, hp, g1, g2, e1, e2, e3, e4]
     exact hK
  ·rw [if_neg (fun h => c1 h.1)] at hK
   by_cases c4 : p5 < u
   ·rw [if_pos ⟨by omega, c4⟩] at hK
    simp only [Int.natCast_add] at hK
    simp (disch := omega) only [rq, simprocAttr, Qm, hp, g1, g2, e1, e2, e3, e4]
    exact hK
   ·rw [if_neg (fun h => c4 h.2)] at hK
    simp (disch := omega) only [rq, simprocAttr, Qm, hp, g1, g2, e1, e2, e3, e4]
    exact hK
 | true =>
  obtain ⟨u, p4, p5, hu, e1, e2, e3, e4, _, e5⟩ := key k1 s1 h2 h4
  simp only [e5, if_true] at hK ⊢
  by_cases c1 : 0 < k1
  ·by_cases c2 : u < p4
   ·rw [if_pos ⟨c1, c2⟩] at hK
    have e6 : ((k1 - 1 : Nat) : Int) = (k1 : Int) - 1 := by omega
    simp only [e6] at hK
    simp (disch := omega) only [rq, simprocAttr, Qm, hp, g1, g2, e1, e2, e3, e4, e6]
    exact hK
   ·rw [if_neg (fun h => c2 h.2)] at hK
    by_cases c3 : k1 < 24
    ·by_cases c4 : p5 < u
     ·rw [if_pos ⟨c3, c4⟩] at hK
      simp only [Int.natCast_add] at hK
      simp (disch := omega) only [rq, simprocAttr, Qm, hp, g1, g2, e1, e2, e3, e4]
      exact hK
     ·rw [if_neg (fun h => c4 h.2)] at hK
      simp (disch := omega) only [rq, simprocAttr, Qm, hp, g1, g2, e1, e2, e3, e4]
      exact hK
    ·rw [if_neg (fun h => c3 h.1)] at hK
     simp (disch := omega) only [rq, simprocAttr, Qm, hp, g1, g2, e1, e2, e3, e4]
     exact hK
  ·rw [if_neg (fun h => c1 h.1)] at hK
   by_cases c4 : p5 < u
   ·rw [if_pos ⟨by omega, c4⟩] at hK
    simp only [Int.natCast_add] at hK
    simp (disch := omega) only [rq, simprocAttr, Qm, hp, g1, g2, e1, e2, e3, e4]
    exact hK
   ·rw [if_neg (fun h => c4 h.2)] at hK
    simp (disch := omega) only [rq, simprocAttr, Qm, hp, g1, g2, e1, e2, e3, e4]
    exact hK
def bO (t o N : Nat) : Ob := ⟨t, 2, 1, [.own o (nB N), .int .i64 N], 0⟩
def bY (t N V : Nat) : Ob := ⟨t, 1, nB N, u8 (leB V (nB N)), 0⟩
theorem Qac (V n : Nat) : isDL (u8 (leB V n)) = true := QfK _
theorem Low.put {ob : List Ob} (h : Low ob.length ob) {t t0 o p N V N' : Nat} (ho : o < ob.length) : Low ob.length (QZ ob o p (bY t0 N V) (bO t o N')) := by
 unfold QZ
 refine (h.set ?_).set ?_
 ·exact lowL_D _ (Qac _ _)
 ·simp [bO, lowL, JJ, ho]
theorem Low.drop {ob : List Ob} (h : Low ob.length ob) {t t0 o p N V : Nat} (ho : o < ob.length) {M : Nat} (hM : M ≤ ob.length) {J : List Ob} {fr fr' : List (Nat × AV)}
  (hfr : ∀ q ∈ fr', q.2 = .any ∨ (q.2 = Am.look fr q.1 ∧ JJ ob.length q.2 = true)) :
  Le M ⟨fr, QZ ob o p (bY t0 N V) (bO t o N) ++ J⟩ ⟨fr', QZ ob o p (bY t0 N V) (bO t o N)⟩ := by
 have hl : (QZ ob o p (bY t0 N V) (bO t o N)).length = ob.length := QW
 refine Le.low (by omega) (by rw [hl]; exact h.put ho) ?_
 rw [hl]
 exact hfr
theorem Qx7 {V N v j r : Nat} : V + 2 ^ N * (v % 2 ^ (j + r)) = V + 2 ^ N * (v % 2 ^ j) + 2 ^ (N + j) * (v / 2 ^ j % 2 ^ r) := by
 rw [Nat.pow_add, Nat.mod_mul, Nat.mul_add, Nat.pow_add, Nat.mul_assoc, Nat.add_assoc]
set_option maxHeartbeats 1000000 in
theorem QuO {P : Prg} {f t0 t : Nat} (bd : Body P f 75 [] (Qbp t0)) {ob : List Ob} {p o N V v n : Nat} (hp : ob[p]? = some (bO t o N)) (ho : ob[o]? = some (bY t0 N V)) (hpo : p ≠ o) (hV : V < 2 ^ N) (hv : v < 2 ^ n) (hn : n ≤ 64) (hN : N + n ≤ 400000) (hfz : Low ob.length ob)
  {K : AV → List Ob → Prop} (hK : K (.tup []) (QZ ob o p (bY t0 (N + n) (V + 2 ^ N * v)) (bO t o (N + n)))) : ACall P f [.ref p 1 0, .int .u64 v, .int .i64 n] ob K := by
 have hol : o < ob.length := (List.getElem?_eq_some_iff.1 ho).1
 have hpl : p < ob.length := (List.getElem?_eq_some_iff.1 hp).1
 refine ACall.of_body bd (by simp) ?_
 have g0 : ∀ x y J, (QZ ob o p x y ++ J)[p]? = some y := fun x y J => by rw [List.getElem?_append_left (by rw [QW]; exact hpl)]; exact QcQ hpl
 have g1 : ∀ x y J, (QZ ob o p x y ++ J)[o]? = some x := fun x y J => by rw [List.getElem?_append_left (by rw [QW]; exact hol)]; exact QcR hol hpo
 have g2 : ∀ x y J y', (QZ ob o p x y ++ J).set p y' = QZ ob o p x y' ++ J := fun x y J y' => by rw [List.set_append_left _ _ (by rw [QW]; exact hpl), QcF]
 have g3 : ∀ x y J x', (QZ ob o p x y ++ J).set o x' = QZ ob o p x' y ++ J := fun x y J x' => by rw [List.set_append_left _ _ (by rw [QW]; exact hol), Qfp hpo]
 have g4 : ∀ x y j, (QZ ob o p x y ++ [j])[ob.length]? = some j := fun x y j => by rw [List.getElem?_append_right (by rw [QW]; exact Nat.le_refl _), QW, Nat.sub_self]; rfl
 have gp : ∀ x y, (QZ ob o p x y)[p]? = some y := fun x y => QcQ hpl
 have go : ∀ x y, (QZ ob o p x y)[o]? = some x := fun x y => QcR hol hpo
 have sp : ∀ x y y', (QZ ob o p x y).set p y' = QZ ob o p x y' := fun x y y' => QcF
 have so : ∀ x y x', (QZ ob o p x y).set o x' = QZ ob o p x' y := fun x y x' => Qfp hpo
 have ln : ∀ x y, (QZ ob o p x y).length = ob.length := fun x y => QW
 simp (disch := omega) only [rq, simprocAttr, Qbp]
 refine QL.by (ι := Nat) (fun j => ⟨[(2, .int .i64 ((n - j : Nat) : Int)), (1, .int .u64 ((v / 2 ^ j : Nat) : Int)), (0, .ref p 1 0)], QZ ob o p (bY t0 (N + j) (V + 2 ^ N * (v % 2 ^ j))) (bO t o (N + j))⟩) (fun j => j ≤ n) (fun j => n - j) 0 ?_ (by omega) ?_
 ·have : QZ ob o p (bY t0 (N + 0) (V + 2 ^ N * (v % 2 ^ 0))) (bO t o (N + 0)) = ob := by
   rw [Nat.add_zero, Nat.pow_zero, Nat.mod_one, Nat.mul_zero, Nat.add_zero]
   exact QbM ho hp hpo
  rw [this]
  exact Le.slots (by simp [Am.look])
 intro j hj
 by_cases hlt : j < n
 ·obtain ⟨M, hM⟩ : ∃ M, M = N + j := ⟨_, rfl⟩
  obtain ⟨i, hi⟩ : ∃ i, i = M / 8 := ⟨_, rfl⟩
  obtain ⟨a, ha⟩ : ∃ a, a = M % 8 := ⟨_, rfl⟩
  obtain ⟨r, hr⟩ : ∃ r, r = min (n - j) (8 - a) := ⟨_, rfl⟩
  have hM8 : M = 8 * i + a := by omega
  have hW : V + 2 ^ N * (v % 2 ^ j) < 2 ^ M := by
   have h1 : v % 2 ^ j < 2 ^ j := Nat.mod_lt _ (Nat.pow_pos (by omega))
   have h2 : 2 ^ N * (v % 2 ^ j + 1) ≤ 2 ^ N * 2 ^ j := Nat.mul_le_mul_left _ h1
   rw [hM, Nat.pow_add]; rw [Nat.mul_add, Nat.mul_one] at h2; omega
  have hstep := Qx7 (V := V) (N := N) (v := v) (j := j) (r := r)
  rw [← hM] at hstep ⊢
  have hx : v / 2 ^ j < 18446744073709551616 := by
   have h1 : v / 2 ^ j ≤ v := Nat.div_le_self _ _
   have h2 : 2 ^ n ≤ 2 ^ 64 := Nat.pow_le_pow_right (by omega) hn
   omega
  have hxr : v / 2 ^ (j + r) = v / 2 ^ j / 2 ^ r := by rw [Nat.pow_add, Nat.div_div_eq_div_mul]
  generalize V + 2 ^ N * (v % 2 ^ j) = W at *
  generalize hWW : V + 2 ^ N * (v % 2 ^ (j + r)) = W' at *
  generalize hxx : v / 2 ^ j = x at *
  have h2r : 2 ^ r ≤ 2 ^ 8 := Nat.pow_le_pow_right (by omega) (by omega)
  have h2a : 2 ^ a * 2 ^ r ≤ 2 ^ 8 := by rw [← Nat.pow_add]; exact Nat.pow_le_pow_right (by omega) (by omega)
  have hpos : 0 < 2 ^ r := Nat.pow_pos (by omega)
  have hc : x % 2 ^ r < 2 ^ r := Nat.mod_lt _ hpos
  obtain ⟨l1, l2⟩ := Qb1 (V := W) (i := i) (at_ := a) (by rw [← hM8]; exact hW) (by omega)
  obtain ⟨b1, b2, _⟩ := QcL (V := W) (i := i) (at_ := a) (w := x % 2 ^ r) (r := r) (by rw [← hM8]; exact hW) hc (by omega)
  rw [← hM8, ← hstep] at b1
  have hyb : W / 256 ^ i < 256 := by
   have : 2 ^ a ≤ 2 ^ 8 := Nat.pow_le_pow_right (by omega) (by omega)
   omega
  have hyb2 : W / 256 ^ i + 2 ^ a * (x % 2 ^ r) < 256 := by
   have : 2 ^ (a + r) ≤ 2 ^ 8 := Nat.pow_le_pow_right (by omega) (by omega)
   omega
  have hca : x % 2 ^ r * 2 ^ a < 2 ^ 8 := by
   rw [Nat.mul_comm]
   exact Nat.lt_of_lt_of_le (Nat.mul_lt_mul_of_pos_left hc (Nat.pow_pos (by omega))) h2a
  have hu : ∀ y, y < 256 → u8 [UInt8.ofNat y] = [.int .u8 (y : Int)] := fun y hy => by simp [u8]; omega
  have e8 : IntKind.u8.wrap (BitVec.ofInt IntKind.u8.bits ((W / 256 ^ i : Nat) : Int) ||| BitVec.ofInt IntKind.u8.bits ((x % 2 ^ r * 2 ^ a : Nat) : Int)).toNat = ((W / 256 ^ i + 2 ^ a * (x % 2 ^ r) : Nat) : Int) := by
   rw [orK (K := .u8) rfl hyb hca, Qoi l2, Nat.mul_comm]
  have e7 : Qg true .u8 ((x % 2 ^ r : Nat) : Int) (a : Int) = some (.int .u8 ((x % 2 ^ r * 2 ^ a : Nat) : Int)) := Qtb rfl (by show a ≤ 8; omega) hca
  have e6 : IntKind.u8.wrap ((x % 2 ^ r : Nat) : Int) = ((x % 2 ^ r : Nat) : Int) := by rw [Zp]; omega
  have e5 : IntKind.u64.wrap (BitVec.ofInt IntKind.u64.bits (x : Int) &&& BitVec.ofInt IntKind.u64.bits ((2 ^ r - 1 : Nat) : Int)).toNat = ((x % 2 ^ r : Nat) : Int) := by
   rw [QsN _ _ hx (by omega), Nat.and_two_pow_sub_one_eq_mod]
  have e4 : IntKind.u64.wrap (((2 ^ r : Nat) : Int) - 1) = ((2 ^ r - 1 : Nat) : Int) := by rw [Xl]; omega
  have e3 : Qg true .u64 1 (r : Int) = some (.int .u64 ((2 ^ r : Nat) : Int)) := by
   have := Qtb (K := .u64) rfl (c := 1) (s := r) (by show r ≤ 64; omega) (by show 1 * 2 ^ r < 18446744073709551616; omega)
   rw [Nat.one_mul] at this
   exact this
  have e9 : Qg false .u64 (x : Int) (r : Int) = some (.int .u64 ((x / 2 ^ r : Nat) : Int)) := Qmc (K := .u64) (by show r ≤ 64; omega)
  have e1 := QoK (n := M) (by omega)
  rw [← ha] at e1
  have e2 : (if (8 : Int) - a < ((n - j : Nat) : Int) then (8 : Int) - a else ((n - j : Nat) : Int)) = (r : Int) := by split <;> omega
  have hnB : nB (M + r) = i + 1 := by unfold nB; omega
  have hcell : u8 (leB W' (i + 1)) = u8 (leB W i) ++ [.int .u8 ((W / 256 ^ i + 2 ^ a * (x % 2 ^ r) : Nat) : Int)] := by
   rw [b1, show u8 (leB W i ++ [UInt8.ofNat (W / 256 ^ i + 2 ^ a * (x % 2 ^ r))]) = u8 (leB W i) ++ u8 [UInt8.ofNat (W / 256 ^ i + 2 ^ a * (x % 2 ^ r))] by simp [u8]]
   rw [hu _ hyb2]
  have hlen : (u8 (leB W i)).length = i := by simp [u8, Qa]
  rw [← hxr] at e9
  generalize W / 256 ^ i + 2 ^ a * (x % 2 ^ r) = y' at *
  generalize x % 2 ^ r * 2 ^ a = ca at *
  generalize x % 2 ^ r = c at *
  generalize 2 ^ r - 1 = mk at *
  generalize 2 ^ r = pr at *
  have d1 : ∀ z : AV, (u8 (leB W i) ++ [z]).drop i = [z] := fun z => by rw [List.drop_left' hlen]
  have d2 : ∀ z : AV, (u8 (leB W i) ++ [z]).take i = u8 (leB W i) := fun z => by rw [List.take_left' hlen]
  have d3 : ∀ z : AV, (u8 (leB W i) ++ [z]).drop (i + 1) = [] := fun z => List.drop_of_length_le (by simp [hlen])
  have jr : n - j - r = n - (j + r) := by omega
  have el : (⟨t0, 1, i + 1, u8 (leB W i) ++ [.int .u8 (y' : Int)], 0⟩ : Ob) = bY t0 (M + r) W' := by rw [bY, hnB, hcell]
  have er : (⟨t, 2, 1, [.own o (i + 1), .int .i64 ((M : Int) + r)], 0⟩ : Ob) = bO t o (M + r) := by rw [bO, hnB, Int.natCast_add]
  have hMr : N + (j + r) = M + r := by omega
  have e10 : ((n - j : Nat) : Int) - r = ((n - (j + r) : Nat) : Int) := by omega
  have e11 : (M : Int) + r = ((M + r : Nat) : Int) := by omega
  by_cases h0 : a = 0
  ·subst h0
   have hnM : nB M = i := by unfold nB; omega
   have hW0 : W / 256 ^ i = 0 := by
    have := l2
    rw [Nat.pow_zero] at this
    exact Nat.lt_one_iff.1 this
   rw [hW0] at e8
   have e8' : IntKind.u8.wrap (BitVec.ofInt IntKind.u8.bits 0 ||| BitVec.ofInt IntKind.u8.bits (ca : Int)).toNat = (y' : Int) := e8
   have e1' : IntKind.i64.wrap (BitVec.ofInt IntKind.i64.bits (M : Int) &&& BitVec.ofInt IntKind.i64.bits 7).toNat = 0 := e1
   have e2' : (if (8 : Int) < ((n - j : Nat) : Int) then (8 : Int) else ((n - j : Nat) : Int)) = (r : Int) := by split <;> omega
   have e12 : i + 1 - 1 = i := by omega
   have e7' : Qg true .u8 (c : Int) 0 = some (.int .u8 (ca : Int)) := e7
   have e13 : (i : Int) + 1 - 1 = i := by omega
   simp (disch := omega) only [rq, simprocAttr, e2', e12, e13, bO, bY, gp, go, sp, so, ln, g0, g1, g2, g3, g4, hnM, hlen, e1', e2, e3, e4, e5, e6, e7', e8', e9, d1, d2, d3]
   refine ⟨j + r, by omega, by omega, ?_⟩
   show Le ob.length _ ⟨[(2, .int .i64 ((n - (j + r) : Nat) : Int)), (1, .int .u64 ((v / 2 ^ (j + r) : Nat) : Int)), (0, .ref p 1 0)], QZ ob o p (bY t0 (N + (j + r)) (V + 2 ^ N * (v % 2 ^ (j + r)))) (bO t o (N + (j + r)))⟩
   rw [hWW, hMr, el, er]
   exact hfz.drop hol (Nat.le_refl _) (by simp [Am.look, JJ, hpl, e10])
  ·have hnM : nB M = i + 1 := by unfold nB; omega
   have l3 : u8 (leB W (i + 1)) = u8 (leB W i) ++ [.int .u8 ((W / 256 ^ i : Nat) : Int)] := by
    rw [l1, show u8 (leB W i ++ [UInt8.ofNat (W / 256 ^ i)]) = u8 (leB W i) ++ u8 [UInt8.ofNat (W / 256 ^ i)] by simp [u8], hu _ hyb]
   have e12 : i + 1 - 1 = i := by omega
   have e13 : (i : Int) + 1 - 1 = i := by omega
   have ha0 : (a : Int) ≠ 0 := by omega
   generalize W / 256 ^ i = y at *
   simp (disch := omega) only [rq, simprocAttr, e12, e13, bO, bY, gp, go, sp, so, ln, hnM, hlen, l3, e1, e2, e3, e4, e5, e6, e7, e8, e9, d1, d2, d3]
   refine ⟨j + r, by omega, by omega, ?_⟩
   show Le ob.length _ ⟨[(2, .int .i64 ((n - (j + r) : Nat) : Int)), (1, .int .u64 ((v / 2 ^ (j + r) : Nat) : Int)), (0, .ref p 1 0)], QZ ob o p (bY t0 (N + (j + r)) (V + 2 ^ N * (v % 2 ^ (j + r)))) (bO t o (N + (j + r)))⟩
   rw [hWW, hMr, el, er]
   exact Le.slots (by simp [Am.look, e10])
 ·obtain rfl : j = n := by omega
  rw [Nat.mod_eq_of_lt hv]
  simp (disch := omega) only [rq, simprocAttr]
  exact hK
theorem QpJ {P : Prg} {f f1 fL t : Nat} (bd : Body P f 36 [] (XA f1 fL)) (b1 : Body P f1 58 [] Qm) (hL : Qgi P fL) {ob : List Ob} {p : Nat} {d : Dl} (hp : ob[p]? = some ⟨t, 4, 1, dlC d, 0⟩) (hd : okD d) {v : Nat} (hv : v < 4294967296) {K : AV → List Ob → Prop}
  (hK : K (.tup []) (ob.set p ⟨t, 4, 1, dlC (Jp d v), 0⟩)) : ACall P f [.ref p 1 0, .int .u32 v] ob K := by
 have hpl : p < ob.length := (List.getElem?_eq_some_iff.1 hp).1
 have hL' := hL d v hd hv
 have nph : ∀ cs, (⟨t, 4, 1, cs, 0⟩ : Ob) ≠ ph := fun cs e => by have := congrArg Ob.sz e; simp [ph] at this
 refine ACall.of_body bd (by simp) ?_
 unfold Jp at hK
 have hp0 := hp
 obtain ⟨k0, k1, s0, s1⟩ := d
 simp only [dlC] at hp
 simp only [dlA, dlC] at hL' hK
 by_cases c : v < 2 ^ k0
 ·rw [if_pos c] at hL' hK
  simp (disch := omega) only [rq, simprocAttr, XA, hp]
  refine Qc.vc hL' ?_
  simp (disch := omega) only [rq, simprocAttr, hp]
  refine callE.by hp0 (nph _) (fun K hK => Qd2 b1 hp0 hd hv false hK) ?_
  simp (disch := omega) only [rq, simprocAttr]
  exact hK
 ·rw [if_neg c] at hL' hK
  have hv2 : v - 2 ^ k0 < 4294967296 := Nat.lt_of_le_of_lt (Nat.sub_le _ _) hv
  obtain ⟨h1, h2, h3, h4⟩ := hd
  have pk := Qmy h2 h4 hv2
  simp only at h1 h2 h3 h4 pk
  generalize v - 2 ^ k0 = w at *
  simp (disch := omega) only [rq, simprocAttr, XA, hp]
  refine Qc.vc hL' ?_
  simp (disch := omega) only [rq, simprocAttr, hp]
  refine callE.by hp0 (nph _) (fun K hK => Qd2 b1 hp0 ⟨h1, h2, h3, h4⟩ hv2 true hK) ?_
  have hp1 : (ob.set p ⟨t, 4, 1, dlC ⟨k0, (QbA k1 s1 w).1, s0, (QbA k1 s1 w).2⟩, 0⟩)[p]? = some ⟨t, 4, 1, dlC ⟨k0, (QbA k1 s1 w).1, s0, (QbA k1 s1 w).2⟩, 0⟩ := by simp [hpl]
  have hp2 := hp1
  simp only [dlC] at hp2
  simp (disch := omega) only [rq, simprocAttr, dlC, hp2]
  refine callE.by hp1 (nph _) (fun K hK => Qd2 b1 hp1 ⟨h1, pk.1, h3, pk.2⟩ hv false hK) ?_
  rw [List.set_set]
  simp (disch := omega) only [rq, simprocAttr]
  exact hK
theorem Qkh {P : Prg} {f : Nat} (bd : Body P f 9 [.tmp 4] Xx) {v k : Nat} (hk : k ≤ 24) (hv : v < 4294967296) : VC P f [.int .u32 v, .int .i64 k] (.bool (decide (48 ≤ v / 2 ^ k))) := by
 refine VC.of_acall rfl rfl (ACall.of_body bd (by simp) ?_)
 have e1 : Qg false .u32 (v : Int) (k : Int) = some (.int .u32 ((v / 2 ^ k : Nat) : Int)) := Qmc (K := .u32) (by show k ≤ 32; omega)
 generalize v / 2 ^ k = w at *
 have e2 : decide ((48 : Int) ≤ (w : Int)) = decide (48 ≤ w) := decide_eq_decide.2 (by omega)
 simp (disch := omega) only [rq, simprocAttr, Xx, e1, e2]
def Qwu (P : Prg) (f : Nat) : Prop := ∀ v k : Nat, k ≤ 24 → v < 4294967296 → VC P f [.int .u32 v, .int .i64 k] (.bool (decide (48 ≤ v / 2 ^ k)))
theorem QtN {P : Prg} {f : Nat} (bd : Body P f 9 [.tmp 4] Xx) : Qwu P f := by
 exact fun _ _ h1 h2 => Qkh bd h1 h2
def Xk (c r : Nat) (v : List Nat) : Dl := ((List.range v.length).filter fun j => j % c == r).foldl (fun d j => Jp d (v.getD j 0)) QG
theorem Qk4 {c r x : Nat} {v : List Nat} : Xk c r (v ++ [x]) = if v.length % c = r then Jp (Xk c r v) x else Xk c r v := by
 have h1 : ∀ (l : List Nat) (d : Dl), (∀ j ∈ l, j < v.length) → l.foldl (fun d j => Jp d ((v ++ [x]).getD j 0)) d = l.foldl (fun d j => Jp d (v.getD j 0)) d := by
  intro l
  induction l with
  | nil => intro d _; rfl
  | cons a l ih =>
   intro d h
   simp only [List.foldl_cons]
   have ha : a < v.length := h a (by simp)
   rw [ih _ fun j hj => h j (by simp [hj])]
   congr 2
   rw [List.getD_eq_getElem?_getD, List.getD_eq_getElem?_getD, List.getElem?_append_left ha]
 unfold Xk
 rw [List.length_append, List.length_cons, List.length_nil, Nat.zero_add, List.range_succ, List.filter_append, List.foldl_append]
 have hf := h1 ((List.range v.length).filter fun j => j % c == r) QG (fun j hj => by
  have := (List.mem_filter.1 hj).1
  simpa using this)
 rw [hf]
 have hx : (v ++ [x]).getD v.length 0 = x := by simp [List.getD_eq_getElem?_getD]
 by_cases h : v.length % c = r
 ·rw [if_pos h]
  have : (List.filter (fun j => j % c == r) [v.length]) = [v.length] := by simp [h]
  rw [this]
  simp only [List.foldl_cons, List.foldl_nil]
  rw [hx]
 ·rw [if_neg h]
  have : (List.filter (fun j => j % c == r) [v.length]) = [] := by simp [h]
  rw [this]
  rfl
def N32 (v : List Nat) : Prop := ∀ x ∈ v, x < 4294967296
theorem Qsr {c r : Nat} {v : List Nat} (h : N32 v) : okD (Xk c r v) := by
 unfold Xk
 have key : ∀ (l : List Nat) (d : Dl), okD d → (∀ j ∈ l, j < v.length) → okD (l.foldl (fun d j => Jp d (v.getD j 0)) d) := by
  intro l
  induction l with
  | nil => intro d h _; exact h
  | cons a l ih =>
   intro d hd hl
   have ha : a < v.length := hl a (by simp)
   refine ih _ (Qt6 hd ?_) fun j hj => hl j (by simp [hj])
   rw [List.getD_eq_getElem?_getD, List.getElem?_eq_getElem ha]
   exact h _ (List.getElem_mem ha)
 exact key _ _ Qty fun j hj => by
  have := (List.mem_filter.1 hj).1
  simpa using this
def QwT (V N a : Nat) : Nat := if 7 < N - a then 12 else if V / 2 ^ a = 0 then 0 else 12
def Qdg (p : List UInt8) : Nat := 4294967295 - Qqf 4294967295 p
theorem Qvu (p : List UInt8) : Qdg p < 4294967296 := by unfold Qdg; omega
def Qdk (F : Nat → Dl) : List AV := dlC (F 0) ++ dlC (F 1) ++ dlC (F 2) ++ dlC (F 3) ++ dlC (F 4) ++ dlC (F 5)
theorem QrG (F : Nat → Dl) : isTL (Qdk F) = true := rfl
theorem Qdj (F : Nat → Dl) : (Qdk F).length = 24 := rfl
theorem QtG (F : Nat → Dl) {j : Nat} (h : j < 6) : ∃ r, (Qdk F).drop (j * 4) = .int .i64 (F j).k0 :: .int .i64 (F j).k1 :: .int .u64 (F j).s0 :: .int .u64 (F j).s1 :: r := by
 rcases (by omega : j = 0 ∨ j = 1 ∨ j = 2 ∨ j = 3 ∨ j = 4 ∨ j = 5) with rfl | rfl | rfl | rfl | rfl | rfl <;> exact ⟨_, rfl⟩
def QwC (F : Nat → Dl) (j : Nat) (d : Dl) : Nat → Dl := fun i => if i = j then d else F i
theorem Qoa (F : Nat → Dl) {j : Nat} (h : j < 6) (d : Dl) : (Qdk F).take (j * 4) ++ [.int .i64 d.k0, .int .i64 d.k1, .int .u64 d.s0, .int .u64 d.s1] ++ (Qdk F).drop (j * 4 + 4) = Qdk (QwC F j d) := by
 rcases (by omega : j = 0 ∨ j = 1 ∨ j = 2 ∨ j = 3 ∨ j = 4 ∨ j = 5) with rfl | rfl | rfl | rfl | rfl | rfl <;> rfl
def iL (o : List Nat) : List Int := o.map fun n : Nat => (n : Int)
theorem mod_mul (m c : Nat) : (m * c) % c = 0 := Nat.mul_mod_left m c
def Qki (v k : Nat) : Nat := if 48 ≤ v / 2 ^ k then 80 else v / 2 ^ k + 1 + k
def Qkj (v k : Nat) : Nat := if 48 ≤ v / 2 ^ k then 2 ^ 48 - 1 + 2 ^ 48 * v else 2 ^ (v / 2 ^ k) - 1 + 2 ^ (v / 2 ^ k + 1) * (v % 2 ^ k)
def QeO (d : Dl) (v : Nat) : Nat := if v < 2 ^ d.k0 then 1 + d.k0 else 1 + Qki (v - 2 ^ d.k0) d.k1
def Qnc (d : Dl) (v : Nat) : Nat := if v < 2 ^ d.k0 then 2 * v else 1 + 2 * Qkj (v - 2 ^ d.k0) d.k1
theorem JS {V N W n : Nat} (hV : V < 2 ^ N) (hW : W < 2 ^ n) : V + 2 ^ N * W < 2 ^ (N + n) := by
 have h1 : 2 ^ N * (W + 1) ≤ 2 ^ N * 2 ^ n := Nat.mul_le_mul_left _ hW
 rw [Nat.pow_add]
 rw [Nat.mul_add, Nat.mul_one] at h1
 omega
theorem QtP {v k : Nat} (hv : v < 4294967296) : Qkj v k < 2 ^ Qki v k := by
 unfold Qkj Qki
 split
 ·exact JS (N := 48) (n := 32) (by decide) hv
 ·have h1 : v % 2 ^ k < 2 ^ k := Nat.mod_lt _ (Nat.pow_pos (by omega))
  refine JS ?_ h1
  have : 0 < 2 ^ (v / 2 ^ k) := Nat.pow_pos (by omega)
  rw [Nat.pow_succ]
  omega
theorem QtO {v k : Nat} (hk : k ≤ 24) : Qki v k ≤ 80 := by unfold Qki; split <;> omega
theorem QoE {d : Dl} {v : Nat} (hd : okD d) : QeO d v ≤ 81 := by
 have := QtO (v := v - 2 ^ d.k0) hd.2.1
 have := hd.1
 unfold QeO
 split <;> omega
theorem Qsl (d : Dl) (v : Nat) : 1 ≤ QeO d v := by unfold QeO; split <;> omega
theorem QoF {d : Dl} {v : Nat} (hv : v < 4294967296) : Qnc d v < 2 ^ QeO d v := by
 unfold Qnc QeO
 split
 ·rename_i h
  rw [Nat.pow_add, Nat.pow_one]
  omega
 ·have h := QtP (v := v - 2 ^ d.k0) (k := d.k1) (Nat.lt_of_le_of_lt (Nat.sub_le _ _) hv)
  exact JS (N := 1) (V := 1) (by decide) h
def Qw4 (c : Nat) (v : List Nat) : Nat → Nat × Nat
 | 0 => (0, 0)
 | i + 1 => ((Qw4 c v i).1 + QeO (Xk c (i % c) (v.take i)) (v.getD i 0), (Qw4 c v i).2 + 2 ^ (Qw4 c v i).1 * Qnc (Xk c (i % c) (v.take i)) (v.getD i 0))
def QjG (c : Nat) (v : List Nat) (i : Nat) : Nat := (Qw4 c v i).1
def Qux (c : Nat) (v : List Nat) (i : Nat) : Nat := (Qw4 c v i).2
theorem QkH (c : Nat) (v : List Nat) : QjG c v 0 = 0 := rfl
theorem QkF (c : Nat) (v : List Nat) : Qux c v 0 = 0 := rfl
theorem QkI (c : Nat) (v : List Nat) (i : Nat) : QjG c v (i + 1) = QjG c v i + QeO (Xk c (i % c) (v.take i)) (v.getD i 0) := rfl
theorem QkG (c : Nat) (v : List Nat) (i : Nat) : Qux c v (i + 1) = Qux c v i + 2 ^ QjG c v i * Qnc (Xk c (i % c) (v.take i)) (v.getD i 0) := rfl
theorem N32.take {v : List Nat} (h : N32 v) (i : Nat) : N32 (v.take i) := fun x hx => h x (List.mem_of_mem_take hx)
theorem N32.getD {v : List Nat} (h : N32 v) (i : Nat) : v.getD i 0 < 4294967296 := by
 rw [List.getD_eq_getElem?_getD]
 cases hx : v[i]? with
 | none => simp
 | some x => exact h x (List.mem_of_getElem? hx)
theorem Qcm {c : Nat} {v : List Nat} (h : N32 v) : ∀ i, Qux c v i < 2 ^ QjG c v i ∧ QjG c v i ≤ 81 * i ∧ i ≤ QjG c v i
 | 0 => by rw [QkH, QkF]; decide
 | i + 1 => by
  obtain ⟨h1, h2, h3⟩ := Qcm h i
  have hd := Qsr (c := c) (r := i % c) (h.take i)
  have h4 := QoE (v := v.getD i 0) hd
  have h5 := Qsl (Xk c (i % c) (v.take i)) (v.getD i 0)
  rw [QkI, QkG]
  exact ⟨JS h1 (QoF (h.getD i)), by omega, by omega⟩
def QgH (c : Nat) (v : List Nat) : List UInt8 := leB (Qux c v v.length) (nB (QjG c v v.length))
def Jd (p : List UInt8) : List UInt8 := p ++ leB (Qdg p) 4
theorem Qke (p : List UInt8) : (Jd p).length = p.length + 4 := by simp [Jd, Qa]
theorem Qiq (c : Nat) (v : List Nat) : (QgH c v).length = nB (QjG c v v.length) := by simp [QgH, Qa]
theorem QxX (ob J : List Ob) (k : Nat) : (ob ++ J)[ob.length + k]? = J[k]? := by rw [List.getElem?_append_right (by omega), Nat.add_sub_cancel_left]
theorem Quv (ob J : List Ob) : (ob ++ J)[ob.length]? = J[0]? := QxX ob J 0
theorem QxN (ob J : List Ob) (k : Nat) (y : Ob) : (ob ++ J).set (ob.length + k) y = ob ++ J.set k y := by rw [List.set_append_right _ _ (by omega), Nat.add_sub_cancel_left]
theorem QwP (ob J : List Ob) (y : Ob) : (ob ++ J).set ob.length y = ob ++ J.set 0 y := QxN ob J 0 y
def Qfc (t : Nat) (P : Prg) (f : Nat) : Prop := ∀ l : List UInt8, l.length ≤ 1000000 → VO P f [bs l] (.own 0 l.length) ⟨t, 1, l.length, u8 l, 0⟩
theorem Qwl {P : Prg} {f t0 : Nat} (b : Body P f 8 [.tmp 2] (QS t0)) : Qfc t0 P f := by
 intro l hl
 refine VO.of_walk (by simp [isDL, QR]) (QfK l) (by simp [okr]) (ACall.virtR t0 1 (by decide) (ACall.of_body b (by simp) ?_))
 by_cases h0 : l = []
 ·subst h0
  simp (disch := omega) only [rq, simprocAttr, QS, bs, QlC, Qep]
  exact ⟨.inr ⟨true, rfl, 0, rfl, rfl⟩, .inl ⟨0, rfl, rfl⟩⟩
 ·have h1 : l.length ≠ 0 := by simpa using h0
  simp (disch := omega) only [rq, simprocAttr, QS, bs, QlC, h1]
  exact .inl ⟨0, rfl, rfl⟩
theorem QsE {P : Prg} {f fC t0 tb : Nat} (bd : Body P f 9 [.cell 2 t0] (Qan fC t0)) (hC : Qfc tb P fC) (ht : Z6 P t0 = some (some 2)) {N V : Nat} (hN : N ≤ 400000) {ob : List Ob} (hl : Low ob.length ob) {K : AV → List Ob → Prop}
  (hK : K (.agg [.own ob.length (nB N), .int .i64 N]) (ob ++ [bY tb N V])) : ACall P f [bA N V] ob K := by
 refine ACall.low (ACall.pad (ACall.of_body bd (by simp) ?_))
 have hC' := hC (leB V (nB N)) (by rw [Qa]; unfold nB; omega)
 rw [bs, Qa] at hC'
 have hlow : Low (ob.length + 1) (ob ++ [bY tb N V]) := (hl.mono (by omega)).append (Low.cons (lowL_D _ (Qac _ _)) Low.nil)
 simp (disch := omega) only [rq, simprocAttr, Qan, bA, List.append_assoc, List.cons_append, List.nil_append, QxX, Quv, QxN, QwP]
 refine ZN.vo hC' ob.length (by rw [Quv]; rfl) Nat.one_ne_zero ?_
 simp (disch := omega) only [rq, simprocAttr, shr, List.append_assoc, List.cons_append, List.nil_append, QxX, Quv, QxN, QwP, Q3, ht, QU]
 exact ⟨ob ++ [bY tb N V], [_, _], by simp [bY]; exact ⟨rfl, rfl⟩, by simp, by simpa using hlow, by simp [JJ, lowL], hK⟩
def Qlx (P : Prg) (f : Nat) : Prop := ∀ N V v n : Nat, V < 2 ^ N → v < 2 ^ n → n ≤ 64 → N + n ≤ 330000 → VC P f [bA N V, .int .u64 v, .int .i64 n] (.tup [bA (N + n) (V + 2 ^ N * v), .int .i64 0])
theorem QuP {P : Prg} {f fC fT fK fP t0 t1 tb : Nat} (bd : Body P f 44 [.cell 6 t0, .tmp 7] (Qbq fC fT fP t0)) (hC : Qcr P fC) (bT : Body P fT 9 [.cell 2 t1] (Qan fK t1)) (bP : Body P fP 75 [] (Qbp tb)) (hK : Qfc tb P fK) (ht : Z6 P t0 = some (some 2)) (ht1 : Z6 P t1 = some (some 2)) : Qlx P f := by
 intro N V v n hV hv hn hN
 refine VC.of_walk 2 (by simp [isDL, Qds, isD]) (by simp [isD, isDL, Qds]) (ACall.of_body bd (by simp) ?_)
 have hC' := hC N V hV (by omega)
 rw [bA] at hC'
 have e1 : n < 64 → Qg false .u64 (v : Int) (n : Int) = some (.int .u64 0) := fun h => by
  rw [Qmc (K := .u64) (by show n ≤ 64; omega), Nat.div_eq_of_lt hv]; rfl
 have tu : isTL (u8 (leB V (nB N))) = true := QC _
 have tl : ∀ W M, isTL (u8 (leB W M)) = true := fun W M => QC _
 have tw : ∀ (Q : Exit → St → Prop) os fr dst, wpQ P os Q ⟨Zr fr dst (.agg [.own 2 (nB N), .int .i64 N]), [⟨t0, 2, 1, [.list (nB N) (u8 (leB V (nB N))), .int .i64 N], 0⟩, ⟨t0, 2, 1, [.emp true, .int .i64 0], 0⟩, bY tb N V]⟩ →
   Qc P fT [.agg [.list (nB N) (u8 (leB V (nB N))), .int .i64 N]] [⟨t0, 2, 1, [.list (nB N) (u8 (leB V (nB N))), .int .i64 N], 0⟩, ⟨t0, 2, 1, [.emp true, .int .i64 0], 0⟩] os Q fr dst := fun Q os fr dst h =>
  QsE bT hK ht1 (N := N) (V := V) (by omega) (Low.cons (by simp [lowL, JJ, lowL_D _ (Qac _ _)]) (Low.cons (by simp [lowL, JJ]) Low.nil)) h
 have pt : ∀ (Q : Exit → St → Prop) os fr dst, wpQ P os Q ⟨Zr fr dst (.tup []), [⟨t0, 2, 1, [.own 2 (nB (N + n)), .int .i64 ((N + n : Nat) : Int)], 0⟩, ⟨t0, 2, 1, [.emp true, .int .i64 0], 0⟩, bY tb (N + n) (V + 2 ^ N * v)]⟩ →
   Qc P fP [.ref 0 1 0, .int .u64 v, .int .i64 n] [⟨t0, 2, 1, [.own 2 (nB N), .int .i64 N], 0⟩, ⟨t0, 2, 1, [.emp true, .int .i64 0], 0⟩, bY tb N V] os Q fr dst := fun Q os fr dst h =>
  QuO bP (ob := [⟨t0, 2, 1, [.own 2 (nB N), .int .i64 N], 0⟩, ⟨t0, 2, 1, [.emp true, .int .i64 0], 0⟩, bY tb N V]) (p := 0) (o := 2) (t := t0) rfl rfl (by decide) hV hv hn (by omega)
   (Low.cons (by simp [lowL, JJ]) (Low.cons (by simp [lowL, JJ]) (Low.cons (lowL_D _ (Qac _ _)) Low.nil))) h
 have tu' := tl (V + 2 ^ N * v) (nB (N + n))
 generalize V + 2 ^ N * v = W at *
 by_cases h64 : n < 64
 ·have e1' := e1 h64
  simp (disch := omega) only [rq, simprocAttr, Qbq, bA]
  refine Qc.vc hC' ?_
  simp (disch := omega) only [rq, simprocAttr, e1']
  refine tw _ _ _ _ ?_
  simp (disch := omega) only [rq, simprocAttr]
  refine pt _ _ _ _ ?_
  simp (disch := omega) only [rq, simprocAttr, Q3, ht, QU]
  simp [QO, Qz, frzL, Qv, bY, frzL_T _ tu']
 ·simp (disch := omega) only [rq, simprocAttr, Qbq, bA]
  refine Qc.vc hC' ?_
  simp (disch := omega) only [rq, simprocAttr]
  refine tw _ _ _ _ ?_
  simp (disch := omega) only [rq, simprocAttr]
  refine pt _ _ _ _ ?_
  simp (disch := omega) only [rq, simprocAttr, Q3, ht, QU]
  simp [QO, Qz, frzL, Qv, bY, frzL_T _ tu']
def uN (n : Nat) : Nat := min (n + 1) 48
def QsO (P : Prg) (f : Nat) : Prop := ∀ n : Nat, n ≤ 48 → VC P f [.int .i64 n] (.tup [.int .i64 (uN n), .int .i64 0])
theorem Qj7 {P : Prg} {f : Nat} (bd : Body P f 13 [.tmp 2, .tmp 3] JW) : QsO P f := by
 intro n hn
 refine VC.of_acall rfl rfl (ACall.of_body bd (by simp) ?_)
 have e1 : (if (48 : Int) < (n : Int) + 1 then (48 : Int) else (n : Int) + 1) = (uN n : Nat) := by unfold uN; split <;> omega
 simp (disch := omega) only [rq, simprocAttr, JW, e1]
theorem Qro {n : Nat} (h : n ≤ 48) : 2 ^ n ≤ 281474976710656 := Nat.pow_le_pow_right (by omega) h
def Qjc (P : Prg) (f : Nat) : Prop := ∀ N V n : Nat, V < 2 ^ N → n ≤ 48 → N + uN n ≤ 330000 → VC P f [bA N V, .int .i64 n] (.tup [bA (N + uN n) (V + 2 ^ N * (2 ^ n - 1)), .int .i64 0])
theorem Ql3 {P : Prg} {f fC fL fP t0 : Nat} (bd : Body P f 32 [.cell 4 t0, .tmp 5] (Qax fC fL fP t0)) (hC : Qcr P fC) (hL : QsO P fL) (hP : Qlx P fP) (ht : Z6 P t0 = some (some 2)) : Qjc P f := by
 intro N V n hV hn hN
 refine VC.of_walk 1 (by simp [isDL, Qds, isD]) (by simp [isD, isDL, Qds]) (ACall.of_body bd (by simp) ?_)
 have hC' := hC N V hV (by omega)
 have hL' := hL n hn
 have hp := Qro hn
 have hpos : 0 < 2 ^ n := Nat.pow_pos (by omega)
 have hlt : 2 ^ n - 1 < 2 ^ uN n := by
  unfold uN
  rcases Nat.lt_or_ge n 48 with h | h
  ·rw [Nat.min_eq_left (by omega), Nat.pow_succ]; omega
  ·obtain rfl : n = 48 := by omega
   decide
 have hP' := hP N V (2 ^ n - 1) (uN n) hV hlt (by unfold uN; omega) hN
 have e3 : Qg true .u64 1 (n : Int) = some (.int .u64 ((2 ^ n : Nat) : Int)) := by
  have := Qtb (K := .u64) rfl (c := 1) (s := n) (by show n ≤ 64; omega) (by show 1 * 2 ^ n < 18446744073709551616; omega)
  rw [Nat.one_mul] at this
  exact this
 have e4 : IntKind.u64.wrap (((2 ^ n : Nat) : Int) - 1) = ((2 ^ n - 1 : Nat) : Int) := by rw [Xl]; omega
 generalize V + 2 ^ N * (2 ^ n - 1) = W at *
 generalize 2 ^ n - 1 = x at *
 generalize 2 ^ n = p at *
 generalize uN n = u at *
 have tl : isTL (u8 (leB W (nB (N + u)))) = true := QC _
 simp only [bA] at hC' hP' ⊢
 simp (disch := omega) only [rq, simprocAttr, Qax]
 refine Qc.vc hC' ?_
 simp (disch := omega) only [rq, simprocAttr]
 refine Qc.vc hL' ?_
 simp (disch := omega) only [rq, simprocAttr, e3, e4]
 refine ZN.vc hP' ?_
 simp (disch := omega) only [rq, simprocAttr, Q3, ht, QU]
 simp [QO, Qz, frzL, Qv, frzL_T _ tl]
def Qje (P : Prg) (f : Nat) : Prop := ∀ N V v k : Nat, V < 2 ^ N → v < 4294967296 → k ≤ 24 → N + 80 ≤ 330000 → VC P f [bA N V, .int .u32 v, .int .i64 k] (.tup [bA (N + Qki v k) (V + 2 ^ N * Qkj v k), .int .i64 0])
theorem Qph {P : Prg} {f fC fE fU fP t0 : Nat} (bd : Body P f 57 [.cell 6 t0, .tmp 7] (Jz fC fE fU fP t0)) (hC : Qcr P fC) (hE : Qwu P fE) (hU : Qjc P fU) (hP : Qlx P fP) (ht : Z6 P t0 = some (some 2)) : Qje P f := by
 intro N V v k hV hv hk hN
 refine VC.of_walk 1 (by simp [isDL, Qds, isD]) (by simp [isD, isDL, Qds]) (ACall.of_body bd (by simp) ?_)
 have hC' := hC N V hV (by omega)
 have hE' := hE v k hk hv
 obtain ⟨q1, _⟩ := p24 hk
 have hpk : 0 < 2 ^ k := Nat.pow_pos (by omega)
 have e1 : Qg false .u32 (v : Int) (k : Int) = some (.int .u32 ((v / 2 ^ k : Nat) : Int)) := Qmc (K := .u32) (by show k ≤ 32; omega)
 have e2 : Qg true .u32 1 (k : Int) = some (.int .u32 ((2 ^ k : Nat) : Int)) := by
  have := Qtb (K := .u32) rfl (c := 1) (s := k) (by show k ≤ 32; omega) (by show 1 * 2 ^ k < 4294967296; omega)
  rw [Nat.one_mul] at this
  exact this
 have e3 : IntKind.u32.wrap (((2 ^ k : Nat) : Int) - 1) = ((2 ^ k - 1 : Nat) : Int) := by rw [J4]; omega
 have e4 : IntKind.u32.wrap (BitVec.ofInt IntKind.u32.bits (v : Int) &&& BitVec.ofInt IntKind.u32.bits ((2 ^ k - 1 : Nat) : Int)).toNat = ((v % 2 ^ k : Nat) : Int) := by
  rw [Qx1 (K := .u32) rfl hv (by show 2 ^ k - 1 < 4294967296; omega), Nat.and_two_pow_sub_one_eq_mod]
 have hqv : v / 2 ^ k ≤ v := Nat.div_le_self _ _
 have hrv : v % 2 ^ k < 2 ^ k := Nat.mod_lt _ hpk
 unfold Qki Qkj
 by_cases hq : 48 ≤ v / 2 ^ k
 ·rw [if_pos hq, if_pos hq]
  simp only [hq, decide_true] at hE'
  have hU' := hU N V 48 hV (Nat.le_refl _) (by unfold uN; omega)
  have hu : uN 48 = 48 := rfl
  rw [hu] at hU'
  have hV1 : V + 2 ^ N * (2 ^ 48 - 1) < 2 ^ (N + 48) := JS hV (by decide)
  have hP' := hP (N + 48) (V + 2 ^ N * (2 ^ 48 - 1)) v 32 hV1 hv (by omega) (by omega)
  have hW : V + 2 ^ N * (2 ^ 48 - 1) + 2 ^ (N + 48) * v = V + 2 ^ N * (2 ^ 48 - 1 + 2 ^ 48 * v) := by rw [Nat.pow_add, Nat.mul_add, Nat.mul_assoc, Nat.add_assoc]
  rw [hW] at hP'
  generalize V + 2 ^ N * (2 ^ 48 - 1 + 2 ^ 48 * v) = W at *
  generalize V + 2 ^ N * (2 ^ 48 - 1) = W1 at *
  have hNN : N + 48 + 32 = N + 80 := by omega
  rw [hNN] at hP'
  have tl : isTL (u8 (leB W (nB (N + 80)))) = true := QC _
  simp only [bA] at hC' hP' hU' ⊢
  have hU'' : VC P fU [.agg [.list (nB N) (u8 (leB V (nB N))), .int .i64 N], .int .i64 48] (.tup [.agg [.list (nB (N + 48)) (u8 (leB W1 (nB (N + 48)))), .int .i64 ((N + 48 : Nat) : Int)], .int .i64 0]) := hU'
  have hP'' : VC P fP [.agg [.list (nB (N + 48)) (u8 (leB W1 (nB (N + 48)))), .int .i64 ((N + 48 : Nat) : Int)], .int .u64 v, .int .i64 32] (.tup [.agg [.list (nB (N + 80)) (u8 (leB W (nB (N + 80)))), .int .i64 ((N + 80 : Nat) : Int)], .int .i64 0]) := hP'
  generalize v / 2 ^ k = q at *
  generalize v % 2 ^ k = r at *
  generalize 2 ^ k - 1 = mk at *
  generalize 2 ^ k = pk at *
  simp (disch := omega) only [rq, simprocAttr, Jz]
  refine Qc.vc hC' ?_
  simp (disch := omega) only [rq, simprocAttr, e1, e2, e3, e4]
  refine Qc.vc hE' ?_
  simp (disch := omega) only [rq, simprocAttr]
  refine Qc.vc hU'' ?_
  simp (disch := omega) only [rq, simprocAttr]
  refine Qc.vc hP'' ?_
  simp (disch := omega) only [rq, simprocAttr, Q3, ht, QU]
  simp [QO, Qz, frzL, Qv, frzL_T _ tl]
 ·rw [if_neg hq, if_neg hq]
  simp only [hq, decide_false] at hE'
  have hu : uN (v / 2 ^ k) = v / 2 ^ k + 1 := by unfold uN; omega
  have hU' := hU N V (v / 2 ^ k) hV (by omega) (by rw [hu]; omega)
  rw [hu] at hU'
  have hlt : 2 ^ (v / 2 ^ k) - 1 < 2 ^ (v / 2 ^ k + 1) := by
   have : 0 < 2 ^ (v / 2 ^ k) := Nat.pow_pos (by omega)
   rw [Nat.pow_succ]; omega
  have hV1 : V + 2 ^ N * (2 ^ (v / 2 ^ k) - 1) < 2 ^ (N + (v / 2 ^ k + 1)) := JS hV hlt
  have hP' := hP (N + (v / 2 ^ k + 1)) (V + 2 ^ N * (2 ^ (v / 2 ^ k) - 1)) (v % 2 ^ k) k hV1 hrv (by omega) (by omega)
  have hW : V + 2 ^ N * (2 ^ (v / 2 ^ k) - 1) + 2 ^ (N + (v / 2 ^ k + 1)) * (v % 2 ^ k) = V + 2 ^ N * (2 ^ (v / 2 ^ k) - 1 + 2 ^ (v / 2 ^ k + 1) * (v % 2 ^ k)) := by rw [Nat.pow_add 2 N, Nat.mul_add, Nat.mul_assoc, Nat.add_assoc]
  rw [hW] at hP'
  generalize V + 2 ^ N * (2 ^ (v / 2 ^ k) - 1 + 2 ^ (v / 2 ^ k + 1) * (v % 2 ^ k)) = W at *
  generalize V + 2 ^ N * (2 ^ (v / 2 ^ k) - 1) = W1 at *
  have hNN : N + (v / 2 ^ k + 1) + k = N + (v / 2 ^ k + 1 + k) := by omega
  rw [hNN] at hP'
  have tl : isTL (u8 (leB W (nB (N + (v / 2 ^ k + 1 + k))))) = true := QC _
  simp only [bA] at hC' hP' hU' ⊢
  generalize v / 2 ^ k = q at *
  generalize v % 2 ^ k = r at *
  generalize 2 ^ k - 1 = mk at *
  generalize 2 ^ k = pk at *
  generalize hM : N + (q + 1 + k) = M at *
  generalize hM1 : N + (q + 1) = M1 at *
  simp (disch := omega) only [rq, simprocAttr, Jz]
  refine Qc.vc hC' ?_
  simp (disch := omega) only [rq, simprocAttr, e1, e2, e3, e4]
  refine Qc.vc hE' ?_
  simp (disch := omega) only [rq, simprocAttr]
  refine Qc.vc hU' ?_
  simp (disch := omega) only [rq, simprocAttr]
  refine Qc.vc hP' ?_
  simp (disch := omega) only [rq, simprocAttr, Q3, ht, QU]
  simp [QO, Qz, frzL, Qv, frzL_T _ tl]
def Qjf (P : Prg) (f : Nat) : Prop := ∀ (N V v : Nat) (d : Dl), V < 2 ^ N → v < 4294967296 → okD d → N + 81 ≤ 330000 → VC P f [bA N V, dlA d, .int .u32 v] (.tup [bA (N + QeO d v) (V + 2 ^ N * Qnc d v), dlA (Jp d v), .int .i64 0])
theorem QpK {P : Prg} {f fC fD fV fP fR fL fl1 fll t0 t1 : Nat} (bd : Body P f 69 [.cell 6 t0, .cell 7 t1, .tmp 8] (JC fC fD fV fP fR fL t0 t1)) (hC : Qcr P fC) (hD : Qjw P fD) (hLv : Qgi P fV) (hP : Qlx P fP) (hR : Qje P fR)
  (bL : Body P fL 36 [] (XA fl1 fll)) (b1 : Body P fl1 58 [] Qm) (hL : Qgi P fll) (ht0 : Z6 P t0 = some (some 2)) (ht : Z6 P t1 = some (some 4)) : Qjf P f := by
 intro N V v d hV hv hd hN
 refine VC.of_walk 1 (by simp [isDL, Qds, QrK, isD]) (by simp [isD, isDL, Qds, QrK]) (ACall.of_cut 7 bd (by simp) ?_)
 have hd' := hd
 have hC' := hC N V hV (by omega)
 have hD' := hD d hd
 have hLv' := hLv d v hd hv
 have hL1 : ∀ {ob : List Ob} {p : Nat} {v : Nat} {K : AV → List Ob → Prop}, ob[p]? = some ⟨t1, 4, 1, dlC d, 0⟩ → v < 4294967296 → K (.tup []) (ob.set p ⟨t1, 4, 1, dlC (Jp d v), 0⟩) → ACall P fL [.ref p 1 0, .int .u32 v] ob K :=
  fun hp hv hK => QpJ bL b1 hL hp hd hv hK
 obtain ⟨k0, k1, s0, s1⟩ := d
 obtain ⟨h1, h2, h3, h4⟩ := hd'
 simp only at h1 h2 h3 h4
 obtain ⟨pk, _⟩ := p24 h1
 simp only [bA] at hC'
 simp only [dlA, dlC] at hD' hLv'
 unfold QeO Qnc
 by_cases c : v < 2 ^ k0
 ·simp only [c, if_true] at hLv' ⊢
  have hP1 := hP N V 0 1 hV (by decide) (by omega) (by omega)
  rw [Nat.mul_zero, Nat.add_zero] at hP1
  have hV1 : V < 2 ^ (N + 1) := Nat.lt_of_lt_of_le hV (Nat.pow_le_pow_right (by omega) (by omega))
  have hP2 := hP (N + 1) V v k0 hV1 c (by omega) (by omega)
  have hW : V + 2 ^ (N + 1) * v = V + 2 ^ N * (2 * v) := by rw [Nat.pow_succ, Nat.mul_assoc]
  rw [hW, Nat.add_assoc] at hP2
  generalize V + 2 ^ N * (2 * v) = W at *
  have tl : isTL (u8 (leB W (nB (N + (1 + k0))))) = true := QC _
  simp only [bA] at hP1 hP2 ⊢
  have hP1' : VC P fP [.agg [.list (nB N) (u8 (leB V (nB N))), .int .i64 N], .int .u64 0, .int .i64 1] (.tup [.agg [.list (nB (N + 1)) (u8 (leB V (nB (N + 1)))), .int .i64 ((N + 1 : Nat) : Int)], .int .i64 0]) := hP1
  simp (disch := omega) only [rq, simprocAttr, QdL, JC, dlA, dlC]
  refine Qc.vc hC' ?_
  simp (disch := omega) only [rq, simprocAttr, QdL]
  refine Qc.vc hD' ?_
  simp (disch := omega) only [rq, simprocAttr, QdL]
  refine Qc.vc hLv' ?_
  simp (disch := omega) only [rq, simprocAttr, QdL]
  refine Qc.vc hP1' ?_
  simp (disch := omega) only [rq, simprocAttr, QdL]
  refine Qc.vc hP2 ?_
  simp (disch := omega) only [rq, simprocAttr, QdL]
  refine hL1 (v := v) rfl hv ?_
  generalize Jp ⟨k0, k1, s0, s1⟩ v = d'
  obtain ⟨l0, l1, l2, l3⟩ := d'
  simp (disch := omega) only [rq, simprocAttr, QdL]
  refine ⟨⟨[(8, .int .i64 0), (7, .ref 3 1 0), (6, .ref 2 1 0), (4, .cell [.int .i64 l0, .int .i64 l1, .int .u64 l2, .int .u64 l3]), (3, .ref 0 1 0)], _⟩, Le.still [1] 1 (by simp [Am.look, Qz, frzL, Qv, dlC, isDL, isD]), ?_⟩
  simp (disch := omega) only [rq, simprocAttr, Q3, ht, ht0, QU, dlC, Qq]
  simp [QO, Qz, frzL, Qv, frzL_T _ tl]
 ·simp only [c, if_false] at hLv' ⊢
  have hP1 := hP N V 1 1 hV (by decide) (by omega) (by omega)
  rw [Nat.mul_one] at hP1
  have hV1 : V + 2 ^ N < 2 ^ (N + 1) := by rw [Nat.pow_succ]; omega
  have hl : v - 2 ^ k0 < 4294967296 := Nat.lt_of_le_of_lt (Nat.sub_le _ _) hv
  have hR2 := hR (N + 1) (V + 2 ^ N) (v - 2 ^ k0) k1 hV1 hl h2 (by omega)
  have hW : V + 2 ^ N + 2 ^ (N + 1) * Qkj (v - 2 ^ k0) k1 = V + 2 ^ N * (1 + 2 * Qkj (v - 2 ^ k0) k1) := by rw [Nat.pow_succ, Nat.mul_assoc, Nat.mul_add, Nat.mul_one, Nat.add_assoc]
  rw [hW, Nat.add_assoc] at hR2
  generalize V + 2 ^ N * (1 + 2 * Qkj (v - 2 ^ k0) k1) = W at *
  generalize Qki (v - 2 ^ k0) k1 = rn at *
  generalize v - 2 ^ k0 = lf at *
  generalize V + 2 ^ N = W1 at *
  have tl : isTL (u8 (leB W (nB (N + (1 + rn))))) = true := QC _
  simp only [bA] at hP1 hR2 ⊢
  have hP1' : VC P fP [.agg [.list (nB N) (u8 (leB V (nB N))), .int .i64 N], .int .u64 1, .int .i64 1] (.tup [.agg [.list (nB (N + 1)) (u8 (leB W1 (nB (N + 1)))), .int .i64 ((N + 1 : Nat) : Int)], .int .i64 0]) := hP1
  simp (disch := omega) only [rq, simprocAttr, QdL, JC, dlA, dlC]
  refine Qc.vc hC' ?_
  simp (disch := omega) only [rq, simprocAttr, QdL]
  refine Qc.vc hD' ?_
  simp (disch := omega) only [rq, simprocAttr, QdL]
  refine Qc.vc hLv' ?_
  simp (disch := omega) only [rq, simprocAttr, QdL]
  refine Qc.vc hP1' ?_
  simp (disch := omega) only [rq, simprocAttr, QdL]
  refine Qc.vc hR2 ?_
  simp (disch := omega) only [rq, simprocAttr, QdL]
  refine hL1 (v := v) rfl hv ?_
  generalize Jp ⟨k0, k1, s0, s1⟩ v = d'
  obtain ⟨l0, l1, l2, l3⟩ := d'
  simp (disch := omega) only [rq, simprocAttr, QdL]
  refine ⟨⟨[(8, .int .i64 0), (7, .ref 3 1 0), (6, .ref 2 1 0), (4, .cell [.int .i64 l0, .int .i64 l1, .int .u64 l2, .int .u64 l3]), (3, .ref 0 1 0)], _⟩, Le.still [1] 1 (by simp [Am.look, Qz, frzL, Qv, dlC, isDL, isD]), ?_⟩
  simp (disch := omega) only [rq, simprocAttr, Q3, ht, ht0, QU, dlC, Qq]
  simp [QO, Qz, frzL, Qv, frzL_T _ tl]
theorem Low.putB {ob : List Ob} (h : Low ob.length ob) {t t0 t2 o p N V N' n C : Nat} (ho : o < ob.length) : Low (ob.length + 1) (QZ ob o p (bY t0 N V) (bO t o N') ++ [⟨t2, 2, 1, [.list (nB n) (u8 (leB C (nB n))), .int .i64 n], 0⟩]) :=
 ((h.put ho).mono (by omega)).append (Low.cons (by simp [lowL, JJ, lowL_D _ (Qac _ _)]) Low.nil)
set_option maxHeartbeats 1000000 in
theorem QmV {P : Prg} {f t0 t1 : Nat} (bd : Body P f 64 [] (X3 t0 t1)) {ob : List Ob} {t p o N V C n : Nat} (hp : ob[p]? = some (bO t o N)) (ho : ob[o]? = some (bY t1 N V)) (hpo : p ≠ o) (hV : V < 2 ^ N) (hC : C < 2 ^ n) (hn : n ≤ 1000) (hN : N + n ≤ 400000) (hfz : Low ob.length ob)
  {K : AV → List Ob → Prop} (hK : K (.tup []) (QZ ob o p (bY t1 (N + n) (V + 2 ^ N * C)) (bO t o (N + n)))) : ACall P f [.ref p 1 0, bA n C] ob K := by
 have hol : o < ob.length := (List.getElem?_eq_some_iff.1 ho).1
 have hpl : p < ob.length := (List.getElem?_eq_some_iff.1 hp).1
 refine ACall.low (ACall.of_body bd (by simp) ?_)
 have g0 : ∀ x y J, (QZ ob o p x y ++ J)[p]? = some y := fun x y J => by rw [List.getElem?_append_left (by rw [QW]; exact hpl)]; exact QcQ hpl
 have g1 : ∀ x y J, (QZ ob o p x y ++ J)[o]? = some x := fun x y J => by rw [List.getElem?_append_left (by rw [QW]; exact hol)]; exact QcR hol hpo
 have g2 : ∀ x y J y', (QZ ob o p x y ++ J).set p y' = QZ ob o p x y' ++ J := fun x y J y' => by rw [List.set_append_left _ _ (by rw [QW]; exact hpl), QcF]
 have g3 : ∀ x y J x', (QZ ob o p x y ++ J).set o x' = QZ ob o p x' y ++ J := fun x y J x' => by rw [List.set_append_left _ _ (by rw [QW]; exact hol), Qfp hpo]
 have g4 : ∀ x y (J : List Ob), (QZ ob o p x y ++ J)[ob.length]? = J[0]? := fun x y J => by rw [List.getElem?_append_right (by rw [QW]; exact Nat.le_refl _), QW, Nat.sub_self]
 have g5 : ∀ x y (J : List Ob), (QZ ob o p x y ++ J)[ob.length + 1]? = J[1]? := fun x y J => by rw [List.getElem?_append_right (by rw [QW]; omega), QW, Nat.add_sub_cancel_left]
 have ln : ∀ x y, (QZ ob o p x y).length = ob.length := fun x y => QW
 have hs : ob = QZ ob o p (bY t1 N V) (bO t o N) := (QbM ho hp hpo).symm
 simp (disch := omega) only [rq, simprocAttr, X3, bA, Quv]
 refine QL.by (ι := Nat) (fun j => ⟨[(8, .int .i64 j), (7, .int .i64 n), (3, .ref ob.length 1 0), (0, .ref p 1 0)], QZ ob o p (bY t1 (N + j) (V + 2 ^ N * (C % 2 ^ j))) (bO t o (N + j)) ++ [⟨t0, 2, 1, [.list (nB n) (u8 (leB C (nB n))), .int .i64 n], 0⟩]⟩) (fun j => j ≤ n) (fun j => n - j) 0 ?_ (by omega) ?_
 ·rw [Nat.add_zero, Nat.pow_zero, Nat.mod_one, Nat.mul_zero, Nat.add_zero, ← hs]
  exact Le.slots (by simp [Am.look])
 intro j hj
 by_cases hlt : j < n
 ·obtain ⟨M, hM⟩ : ∃ M, M = N + j := ⟨_, rfl⟩
  obtain ⟨i, hi⟩ : ∃ i, i = M / 8 := ⟨_, rfl⟩
  obtain ⟨a, ha⟩ : ∃ a, a = M % 8 := ⟨_, rfl⟩
  obtain ⟨q, hq⟩ : ∃ q, q = j / 8 := ⟨_, rfl⟩
  obtain ⟨r, hr⟩ : ∃ r, r = j % 8 := ⟨_, rfl⟩
  obtain ⟨b, hb0⟩ : ∃ b, b = C / 2 ^ j % 2 := ⟨_, rfl⟩
  have hM8 : M = 8 * i + a := by omega
  have hj8 : 8 * q + r = j := by omega
  have hb : b < 2 := by rw [hb0]; exact Nat.mod_lt _ (by decide)
  have hW : V + 2 ^ N * (C % 2 ^ j) < 2 ^ M := by
   rw [hM]
   exact JS hV (Nat.mod_lt _ (Nat.pow_pos (by omega)))
  have hstep := Qx7 (V := V) (N := N) (v := C) (j := j) (r := 1)
  rw [← hM, Nat.pow_one, ← hb0] at hstep
  have hat := Qu4 (V := C) (k := nB n) (i := q) (by unfold nB; omega)
  have hbit := Qxj C q r (by omega)
  rw [hj8, ← hb0] at hbit
  have hby : C / 256 ^ q % 256 < 256 := Nat.mod_lt _ (by decide)
  have s1 : Qg false .u8 ((C / 256 ^ q % 256 : Nat) : Int) (r : Int) = some (.int .u8 ((C / 256 ^ q % 256 / 2 ^ r : Nat) : Int)) := Qmc (K := .u8) (by show r ≤ 8; omega)
  have hle : C / 256 ^ q % 256 / 2 ^ r ≤ C / 256 ^ q % 256 := Nat.div_le_self _ _
  have s2 : IntKind.u8.wrap (BitVec.ofInt IntKind.u8.bits ((C / 256 ^ q % 256 / 2 ^ r : Nat) : Int) &&& BitVec.ofInt IntKind.u8.bits ((1 : Nat) : Int)).toNat = ((b : Nat) : Int) := by
   rw [Qx1 (K := .u8) rfl (by show _ < 256; omega) (by decide), Nat.and_one_is_mod, hbit]
  have s2' : IntKind.u8.wrap (BitVec.ofInt IntKind.u8.bits ((C / 256 ^ q % 256 / 2 ^ r : Nat) : Int) &&& BitVec.ofInt IntKind.u8.bits 1).toNat = ((b : Nat) : Int) := s2
  generalize C / 256 ^ q % 256 / 2 ^ r = y1 at *
  generalize C / 256 ^ q % 256 = y0 at *
  rw [← hM]
  have hq1 : (j : Int) / 8 = (q : Int) := by omega
  have hr1 : (j : Int) % 8 = (r : Int) := by omega
  have hi1 : (M : Int) / 8 = (i : Int) := by omega
  have ha1 : (M : Int) % 8 = (a : Int) := by omega
  have hnq : q < nB n := by unfold nB; omega
  generalize V + 2 ^ N * (C % 2 ^ j) = W at *
  generalize hWW : V + 2 ^ N * (C % 2 ^ (j + 1)) = W' at *
  have h2a : 2 ^ a ≤ 2 ^ 7 := Nat.pow_le_pow_right (by omega) (by omega)
  have hpos : 0 < 2 ^ a := Nat.pow_pos (by omega)
  obtain ⟨l1, l2⟩ := Qb1 (V := W) (i := i) (at_ := a) (by rw [← hM8]; exact hW) (by omega)
  obtain ⟨b1, b2, _⟩ := QcL (V := W) (i := i) (at_ := a) (w := b) (r := 1) (by rw [← hM8]; exact hW) (by omega) (by omega)
  rw [← hM8, ← hstep] at b1
  have hyb : W / 256 ^ i < 256 := by omega
  have hyb2 : W / 256 ^ i + 2 ^ a * b < 256 := by
   have : 2 ^ (a + 1) ≤ 2 ^ 8 := Nat.pow_le_pow_right (by omega) (by omega)
   omega
  have hca : b * 2 ^ a < 2 ^ 8 := by
   rcases (by omega : b = 0 ∨ b = 1) with rfl | rfl <;> omega
  have hu : ∀ y, y < 256 → u8 [UInt8.ofNat y] = [.int .u8 (y : Int)] := fun y hy => by simp [u8]; omega
  have e8 : IntKind.u8.wrap (BitVec.ofInt IntKind.u8.bits ((W / 256 ^ i : Nat) : Int) ||| BitVec.ofInt IntKind.u8.bits ((b * 2 ^ a : Nat) : Int)).toNat = ((W / 256 ^ i + 2 ^ a * b : Nat) : Int) := by
   rw [orK (K := .u8) rfl hyb hca, Qoi l2, Nat.mul_comm]
  have e7 : Qg true .u8 (b : Int) (a : Int) = some (.int .u8 ((b * 2 ^ a : Nat) : Int)) := Qtb rfl (by show a ≤ 8; omega) hca
  have hnB : nB (M + 1) = i + 1 := by unfold nB; omega
  have hcell : u8 (leB W' (i + 1)) = u8 (leB W i) ++ [.int .u8 ((W / 256 ^ i + 2 ^ a * b : Nat) : Int)] := by
   rw [b1, show u8 (leB W i ++ [UInt8.ofNat (W / 256 ^ i + 2 ^ a * b)]) = u8 (leB W i) ++ u8 [UInt8.ofNat (W / 256 ^ i + 2 ^ a * b)] by simp [u8]]
   rw [hu _ hyb2]
  have hlen : (u8 (leB W i)).length = i := by simp [u8, Qa]
  generalize W / 256 ^ i + 2 ^ a * b = y' at *
  generalize b * 2 ^ a = ca at *
  have d1 : ∀ z : AV, (u8 (leB W i) ++ [z]).drop i = [z] := fun z => by rw [List.drop_left' hlen]
  have d2 : ∀ z : AV, (u8 (leB W i) ++ [z]).take i = u8 (leB W i) := fun z => by rw [List.take_left' hlen]
  have d3 : ∀ z : AV, (u8 (leB W i) ++ [z]).drop (i + 1) = [] := fun z => List.drop_of_length_le (by simp [hlen])
  have el : (⟨t1, 1, i + 1, u8 (leB W i) ++ [.int .u8 (y' : Int)], 0⟩ : Ob) = bY t1 (M + 1) W' := by rw [bY, hnB, hcell]
  have er : (⟨t, 2, 1, [.own o (i + 1), .int .i64 ((M : Int) + 1)], 0⟩ : Ob) = bO t o (M + 1) := by rw [bO, hnB, Int.natCast_add]; rfl
  have hMr : N + (j + 1) = M + 1 := by omega
  have hcl : (u8 (leB C (nB n))).length = nB n := by simp [u8, Qa]
  by_cases h0 : a = 0
  ·subst h0
   have hnM : nB M = i := by unfold nB; omega
   have hW0 : W / 256 ^ i = 0 := by
    have := l2
    rw [Nat.pow_zero] at this
    exact Nat.lt_one_iff.1 this
   rw [hW0] at e8
   have e8' : IntKind.u8.wrap (BitVec.ofInt IntKind.u8.bits 0 ||| BitVec.ofInt IntKind.u8.bits (ca : Int)).toNat = (y' : Int) := e8
   have e7' : Qg true .u8 (b : Int) 0 = some (.int .u8 (ca : Int)) := e7
   have ha1' : (M : Int) % 8 = 0 := ha1
   simp (disch := omega) only [rq, simprocAttr, bO, bY, g0, g1, g2, g3, g4, g5, ln, hnM, hlen, hcl, hat, s1, s2', e7', e8', hq1, hr1, hi1, ha1', d1, d2, d3, List.append_assoc, List.cons_append, List.nil_append]
   refine ⟨j + 1, by omega, by omega, ?_⟩
   show Le ob.length _ ⟨[(8, .int .i64 ((j + 1 : Nat) : Int)), (7, .int .i64 n), (3, .ref ob.length 1 0), (0, .ref p 1 0)], QZ ob o p (bY t1 (N + (j + 1)) (V + 2 ^ N * (C % 2 ^ (j + 1)))) (bO t o (N + (j + 1))) ++ [⟨t0, 2, 1, [.list (nB n) (u8 (leB C (nB n))), .int .i64 n], 0⟩]⟩
   rw [hWW, hMr, el, er, List.append_cons]
   have hl : (QZ ob o p (bY t1 (M + 1) W') (bO t o (M + 1)) ++ [⟨t0, 2, 1, [.list (nB n) (u8 (leB C (nB n))), .int .i64 n], 0⟩] : List Ob).length = ob.length + 1 := by simp [ln]
   exact Le.low (by rw [hl]; omega) (by rw [hl]; exact hfz.putB hol) (by rw [hl]; simp [Am.look, JJ, Nat.lt_succ_of_lt hpl])
  ·have hnM : nB M = i + 1 := by unfold nB; omega
   have l3 : u8 (leB W (i + 1)) = u8 (leB W i) ++ [.int .u8 ((W / 256 ^ i : Nat) : Int)] := by
    rw [l1, show u8 (leB W i ++ [UInt8.ofNat (W / 256 ^ i)]) = u8 (leB W i) ++ u8 [UInt8.ofNat (W / 256 ^ i)] by simp [u8], hu _ hyb]
   have ha0 : (a : Int) ≠ 0 := by omega
   generalize W / 256 ^ i = y at *
   simp (disch := omega) only [rq, simprocAttr, bO, bY, g0, g1, g2, g3, g4, g5, ln, hnM, hlen, hcl, l3, hat, s1, s2', e7, e8, hq1, hr1, hi1, ha1, d1, d2, d3, List.append_assoc, List.cons_append, List.nil_append]
   refine ⟨j + 1, by omega, by omega, ?_⟩
   show Le ob.length _ ⟨[(8, .int .i64 ((j + 1 : Nat) : Int)), (7, .int .i64 n), (3, .ref ob.length 1 0), (0, .ref p 1 0)], QZ ob o p (bY t1 (N + (j + 1)) (V + 2 ^ N * (C % 2 ^ (j + 1)))) (bO t o (N + (j + 1))) ++ [⟨t0, 2, 1, [.list (nB n) (u8 (leB C (nB n))), .int .i64 n], 0⟩]⟩
   rw [hWW, hMr, el, er]
   exact Le.slots (by simp [Am.look])
 ·obtain rfl : j = n := by omega
  rw [Nat.mod_eq_of_lt hC]
  simp (disch := omega) only [rq, simprocAttr]
  exact ⟨QZ ob o p (bY t1 (N + j) (V + 2 ^ N * C)) (bO t o (N + j)), _, rfl, by rw [ln]; exact Nat.le_refl _, by rw [ln]; exact hfz.put hol, by rfl, hK⟩
theorem Qst (c : JG) (x : Int) : -2147483648 ≤ Qng c x ∧ Qng c x ≤ 2147483647 := QcO _
def QuV (c : Nat) (x : Int) (t l : List Int) : List Nat := (QlB c (QaN c l) (Qd0 x t) l.length).map Int.toNat
def Qix (c : Nat) (x : Int) (t l : List Int) : List UInt8 := Jd (QgH c (QuV c x t l))
theorem Qoh (c : Nat) (L : List Int) (z : JG) (a : Nat) : U32 (QlB c L z a) := by
 intro y hy
 simp only [QlB, List.mem_map] at hy
 obtain ⟨j, _, rfl⟩ := hy
 exact QrX (Qst _ _)
theorem Qup {v : List Int} (h : U32 v) : iL (v.map Int.toNat) = v := by
 unfold iL
 rw [List.map_map]
 conv => rhs; rw [← List.map_id v]
 apply List.map_congr_left
 intro y hy
 have := h y hy
 simp; omega
theorem Qs4 {v : List Int} (h : U32 v) : N32 (v.map Int.toNat) := by
 intro y hy
 simp only [List.mem_map] at hy
 obtain ⟨z, hz, rfl⟩ := hy
 have := h z hz
 omega
theorem QhA (c : Nat) (x : Int) (t l : List Int) : (QuV c x t l).length = l.length := by simp [QuV, Qie]
theorem QlM (c : Nat) (x : Int) (t l : List Int) : N32 (QuV c x t l) := Qs4 (Qoh _ _ _ _)
theorem Qv7 (c : Nat) (x : Int) (t l : List Int) : iL (QuV c x t l) = QlB c (QaN c l) (Qd0 x t) l.length := Qup (Qoh _ _ _ _)
theorem QmQ {c : Nat} {v : List Nat} (h : N32 v) (h1 : 1 ≤ v.length) (h2 : v.length ≤ 4000) : 1 ≤ (QgH c v).length ∧ (QgH c v).length ≤ 40500 := by
 obtain ⟨_, q2, q3⟩ := Qcm (c := c) h v.length
 rw [Qiq]
 unfold nB
 omega
theorem rest0 {V N a : Nat} (hV : V < 2 ^ a) (h : N - a ≤ 7) : QwT V N a = 0 := by
 unfold QwT
 rw [if_neg (by omega), if_pos (Nat.div_eq_of_lt hV)]
theorem QnD {c x : Int} {l : List Int} (hI : I32 l) (h : QcN c x l = 0) : ∃ k m : Nat, c = k ∧ okM k l ∧ ZL x ≠ 0 ∧ Zg c x = 0 ∧ QE x l = 0 ∧ l.length = m * k ∧ 1 ≤ m ∧ (l.length : Int) / c = m ∧ Qbf c x ((l.length : Int) / c) = 0 := by
 obtain ⟨k, rfl, hk, hx⟩ := QnC hI h
 have hk' := hk
 obtain ⟨h1, h2, h3, h4, h5, _⟩ := hk'
 have e1 : Zg k x = 0 := by
  rcases Zf k x with q | ⟨q, _⟩
  ·rw [Qi8 q] at h; omega
  ·exact q
 have e2 : QE x l = 0 := by
  rcases Int.decEq (QE x l) 0 with q | q
  ·rw [Qi9 e1 q] at h; exact absurd h q
  ·exact q
 have e3 : l.length = l.length / k * k := by have := Nat.div_add_mod l.length k; rw [Nat.mul_comm] at this; omega
 have e4 : 1 ≤ l.length / k := by
  rcases Nat.eq_zero_or_pos (l.length / k) with q | q
  ·rw [q] at e3; omega
  ·exact q
 have e5 : (l.length : Int) / (k : Int) = ((l.length / k : Nat) : Int) := by rw [Int.natCast_ediv]
 refine ⟨k, l.length / k, rfl, hk, hx, e1, e2, e3, e4, e5, ?_⟩
 have e6 : l.length / k ≤ 4000 / k := Nat.div_le_div_right h4
 have e7 : (4000 : Int) / (k : Int) = ((4000 / k : Nat) : Int) := by rw [Int.natCast_ediv]; rfl
 unfold Qbf
 rw [if_neg (by omega), e5, e7, if_neg (by omega), if_neg (by omega)]
def QdI (P : Prg) (f : Nat) : Prop := VC P f [] (.agg (Qdk fun _ => QG))
theorem QgJ {P : Prg} {f fS t0 : Nat} (bd : Body P f 11 [.cell 0 t0] (XT fS t0)) (hS : Qjk P fS) (ht : Z6 P t0 = some (some 24)) : QdI P f := by
 refine VC.of_acall rfl rfl (ACall.of_body bd (by simp) ?_)
 simp only [Qjk, QG, dlA, dlC] at hS
 simp (disch := omega) only [rq, simprocAttr, XT]
 refine QL.by (ι := Nat) (fun i => ⟨[(3, .int .i64 i), (1, .ref 1 1 0), (0, .ref 0 1 0)],
   [⟨t0, 24, 1, Qdk (fun _ => ⟨0, 0, 0, 0⟩), 0⟩, ⟨t0, 24, 1, Qdk (fun j => if j < i then QG else ⟨0, 0, 0, 0⟩), 0⟩]⟩) (fun i => i ≤ 6) (fun i => 6 - i) 0 (Le.slots (by simp [Am.look])) (by omega) ?_
 intro i hi
 by_cases hlt : i < 6
 ·have e1 := Qoa (fun j => if j < i then QG else ⟨0, 0, 0, 0⟩) hlt QG
  have e2 : QwC (fun j => if j < i then QG else ⟨0, 0, 0, 0⟩) i QG = fun j => if j < i + 1 then QG else ⟨0, 0, 0, 0⟩ := by
   funext j
   unfold QwC
   by_cases h1 : j = i
   ·subst h1; simp
   ·by_cases h2 : j < i
    ·simp [h1, h2, show j < i + 1 by omega]
    ·simp [h1, h2, show ¬ j < i + 1 by omega]
  rw [e2] at e1
  have e3 := Qdj (fun j => if j < i then QG else ⟨0, 0, 0, 0⟩)
  simp (disch := omega) only [rq, simprocAttr]
  refine Qc.vc hS ?_
  generalize hF : Qdk (fun j => if j < i then QG else ⟨0, 0, 0, 0⟩) = F at *
  have e1' : F.take (i * 4) ++ [.int .i64 10, .int .i64 10, .int .u64 16384, .int .u64 16384] ++ F.drop (i * 4 + 4) = Qdk fun j => if j < i + 1 then QG else ⟨0, 0, 0, 0⟩ := e1
  generalize Qdk (fun _ => (⟨0, 0, 0, 0⟩ : Dl)) = Z
  simp (disch := omega) only [rq, simprocAttr, e3]
  refine ⟨i + 1, by omega, by omega, ?_⟩
  rw [e1']
  exact Le.slots (by simp [Am.look])
 obtain rfl : i = 6 := by omega
 have z1 : Qdk (fun j => if j < 6 then QG else ⟨0, 0, 0, 0⟩) = Qdk (fun _ => QG) := rfl
 have z2 := Qdj fun _ => QG
 have z3 := Qdj fun _ => (⟨0, 0, 0, 0⟩ : Dl)
 rw [z1]
 have z4 : (Qdk fun _ => QG).all AV.one = true := rfl
 have z5 : (Qdk fun _ => QG).take 24 = Qdk fun _ => QG := rfl
 have z6 : (Qdk fun _ => (⟨0, 0, 0, 0⟩ : Dl)).drop 24 = [] := rfl
 generalize (Qdk fun _ => (⟨0, 0, 0, 0⟩ : Dl)) = Z at *
 generalize (Qdk fun _ => QG) = S at *
 simp (disch := omega) only [rq, simprocAttr, Q3, ht, QU, z2, z3, z4, z5, z6, List.take_zero, List.nil_append, List.append_nil]
def Qog (L : List (List UInt8)) : AV := .list L.length (L.map bs)
def Qjx (P : Prg) (f : Nat) : Prop := ∀ L : List (List UInt8), L.length ≤ 1000000 → 0 < L.flatten.length → L.flatten.length ≤ 1000000 → VC P f [Qog L] (bs L.flatten)
def Qgn (t : Nat) (P : Prg) (f : Nat) : Prop := ∀ (ob : List Ob) (n : Nat) (z : Bool) (K : AV → List Ob → Prop), 0 < n → n ≤ 140737488355328 → K (.own ob.length 0) (ob ++ [⟨t, 1, 0, [], 0⟩]) → ACall P f [.emp z, .int .i64 n] ob K
theorem grow_nil {P : Prg} {f t : Nat} {ρ : Go.Shelf.Ren} (L : Go.Proofs.Lays8.n4 P.prog ρ) (hf : ρ.f 4 = f) (ht : ρ.t 25 = t) (h25 : (P.prog.info? t).map (fun i => (i.zero, i.size, i.bytes)) = some (some (.int .u8 0), 1, 1)) : Qgn t P f := by
 intro ob n z K h1 h2 hK
 subst hf; subst ht
 exact ACall.grow_nil L h25 h1 h2 hK
theorem QkL {L : List (List UInt8)} {k : Nat} (h : k < L.length) : (L.take (k + 1)).flatten = (L.take k).flatten ++ L.getD k [] := by
 rw [List.take_succ_eq_append_getElem h, List.flatten_append, List.getD_eq_getElem?_getD, List.getElem?_eq_getElem h]
 simp
theorem Qr1 (L : List (List UInt8)) (k : Nat) : (L.take k).flatten.length ≤ L.flatten.length := by
 conv => rhs; rw [← List.take_append_drop k L, List.flatten_append, List.length_append]
 omega
theorem Qh6 {P : Prg} {f fG t0 : Nat} (bd : Body P f 36 [.tmp 2] (Q9 fG t0)) (hG : Qgn t0 P fG) : Qjx P f := by
 intro L hL h0 h1
 refine VC.of_walk 1 (by simp [isDL, isD, Qog, Qio]) (QR _) (ACall.of_body bd (by simp) ?_)
 have hat : ∀ k, k < L.length → (L.map bs).drop k = bs (L.getD k []) :: (L.map bs).drop (k + 1) := fun k hk => by
  rw [List.drop_eq_getElem_cons (by simpa using hk)]
  simp [List.getD_eq_getElem?_getD, List.getElem?_eq_getElem hk]
 have hml : (L.map bs).length = L.length := by simp
 simp only [bs] at hat
 simp (disch := omega) only [rq, simprocAttr, Q9, Qog]
 refine QL.by (ι := Nat) (fun k => ⟨[(11, .int .i64 k), (10, .int .i64 L.length), (9, .list L.length (L.map bs)), (3, .int .i64 (L.take k).flatten.length), (0, .list L.length (L.map bs))], []⟩) (fun k => k ≤ L.length) (fun k => L.length - k) 0 (Le.slots (by simp [Am.look])) (by omega) ?_
 intro k hk
 by_cases hlt : k < L.length
 ·have ha := hat k hlt
  have hf := QkL hlt
  have hle := Qr1 L (k + 1)
  rw [hf, List.length_append] at hle
  have hl : ((L.take (k + 1)).flatten.length : Int) = (L.take k).flatten.length + (L.getD k []).length := by rw [hf]; simp
  generalize (L.take k).flatten.length = s at *
  generalize L.getD k [] = x at *
  simp (disch := omega) only [rq, simprocAttr, ha, hml]
  exact ⟨k + 1, by omega, by omega, by simp only [hl]; exact Le.slots (by simp [Am.look])⟩
 obtain rfl : k = L.length := by omega
 rw [List.take_length]
 have hG' := fun K hK => hG [] L.flatten.length true K h0 (by omega) hK
 simp (disch := omega) only [rq, simprocAttr]
 refine hG' _ ?_
 simp (disch := omega) only [rq, simprocAttr]
 refine QL.by (ι := Nat) (fun k => ⟨[(27, .int .i64 k), (26, .int .i64 L.length), (25, .list L.length (L.map bs)), (6, .own 0 (L.take k).flatten.length)], [⟨t0, 1, (L.take k).flatten.length, u8 (L.take k).flatten, 0⟩]⟩) (fun k => k ≤ L.length) (fun k => L.length - k) 0 (Le.slots (by simp [Am.look])) (by omega) ?_
 intro k hk
 by_cases hlt : k < L.length
 ·have ha := hat k hlt
  have hf := QkL hlt
  have hle := Qr1 L (k + 1)
  rw [hf, List.length_append] at hle
  have hl : (L.take (k + 1)).flatten.length = (L.take k).flatten.length + (L.getD k []).length := by rw [hf]; simp
  have hu : u8 (L.take (k + 1)).flatten = u8 (L.take k).flatten ++ u8 (L.getD k []) := by rw [hf, QT]
  have hc : (u8 (L.take k).flatten).length = (L.take k).flatten.length := Qr _
  have hx : (u8 (L.getD k [])).length = (L.getD k []).length := Qr _
  generalize u8 (L.take k).flatten = cs at *
  generalize (L.take k).flatten.length = s at *
  generalize u8 (L.getD k []) = us at *
  generalize (L.getD k []).length = xl at *
  simp (disch := omega) only [rq, simprocAttr, ha, hml, hc, hx]
  exact ⟨k + 1, by omega, by omega, by rw [hl, hu]; exact Le.slots (by simp [Am.look])⟩
 obtain rfl : k = L.length := by omega
 rw [List.take_length]
 simp (disch := omega) only [rq, simprocAttr]
 simp [QO, Qz, frzL, Qv, frzL_T _ (QC _), bs]
theorem Qqu (c : Nat) (x : Int) (t l : List Int) : Qvt (QlB c (QaN c l) (Qd0 x t) l.length) = .list l.length (ks .u32 ((QuV c x t l).map fun n : Nat => (n : Int))) := by
 have := Qv7 c x t l
 unfold iL at this
 rw [this, Qvt, Qie]
theorem Qtr {c i : Nat} {v : List Nat} (hc : 1 ≤ c) (hi : i < v.length) : QwC (fun j => if j < c then Xk c j (v.take i) else QG) (i % c) (Jp (Xk c (i % c) (v.take i)) (v.getD i 0)) = fun j => if j < c then Xk c j (v.take (i + 1)) else QG := by
 have ht : v.take (i + 1) = v.take i ++ [v.getD i 0] := by
  rw [List.take_succ_eq_append_getElem hi]
  simp [List.getD_eq_getElem?_getD, List.getElem?_eq_getElem hi]
 have hl : (v.take i).length = i := by simp; omega
 have hr : i % c < c := Nat.mod_lt _ (by omega)
 funext j
 unfold QwC
 rw [ht]
 by_cases hj : j = i % c
 ·subst hj
  rw [if_pos rfl, if_pos hr, Qk4, if_pos (by rw [hl])]
 ·rw [if_neg hj]
  by_cases hjc : j < c
  ·simp only [hjc, if_true]
   rw [Qk4, if_neg (by rw [hl]; exact fun e => hj e.symm)]
  ·simp only [hjc, if_false]
def Qw9 (c x : Int) (t l : List Int) : AV := if QcN c x l ≠ 0 then .tup [.list 0 [], .int .i64 (QcN c x l)] else .tup [bs (Qix c.toNat x t l), .int .i64 0]
theorem Qum (c x : Int) (t l : List Int) : isD (Qw9 c x t l) = true := by unfold Qw9; split <;> simp [isD, isDL, QR]
def Qww (P : Prg) (f : Nat) : Prop := ∀ (c x : Int) (t l : List Int), t.length = 16 → I32 t → I32 l → VC P f [shA c x, .agg (ks .i32 t), il l] (Qw9 c x t l)
set_option maxHeartbeats 2000000 in
set_option maxRecDepth 20000 in
theorem QgL {P : Prg} {f fV fS fW fP fC fB fK t0 t1 t2 t3 t4 t5 tp tb : Nat} (bd : Body P f 85 [.tmp 6, .tmp 7] (Z1 fV fS fW fP fC fB fK t0 t1 t2 t3 t4 t5)) (hV : QnP P fV) (hS : QdI P fS) (hW : Qjf P fW) (bP : Body P fP 64 [] (X3 tp tb)) (hC : Qlz P fC) (hB : Xd P fB) (hK : Qjx P fK) : Qww P f := by
 intro c x t l ht hI hL
 refine VC.of_walk 1 (by simp [isDL, isD, Zk, Q8, shA]) (Qum _ _ _ _) (ACall.of_body bd (by simp) ?_)
 have hk : (ks .i32 t).length = 16 := by simp [Qi, ht]
 have tt : (ks .i32 t).take 16 = ks .i32 t := QF (by omega)
 have ot := QaO .i32 t
 have hV' := hV c x t l ht hI hL
 unfold Qw9
 by_cases h0 : QcN c x l = 0
 case neg =>
  rw [Qtq, if_pos h0] at hV'
  rw [if_pos h0]
  rw [shA] at hV' ⊢
  simp (disch := omega) only [rq, simprocAttr, Z1, hk, ot, tt]
  refine Qc.vc hV' ?_
  simp (disch := omega) only [rq, simprocAttr, h0]
  simp [QO, Qz, frzL, Qv]
 obtain ⟨k, m, rfl, hkM, hx, e1, e2, e3, e4, e5, e6⟩ := QnD hL h0
 obtain ⟨c1, c6, l0, l4, lm, _⟩ := hkM
 rw [Qtq, if_neg (by omega), Int.toNat_natCast, Qqu] at hV'
 rw [if_neg (by omega), Int.toNat_natCast, Qix, Jd]
 have hv := QlM k x t l
 have hvl := QhA k x t l
 rw [← hvl] at hV' l0 l4
 generalize QuV k x t l = v at *
 rw [shA] at hV' ⊢
 have hfb := Qcm (c := k) hv
 have hkv : (ks .u32 (v.map fun n : Nat => (n : Int))).length = v.length := by simp [ks]
 have s24 := Qdj fun _ => QG
 have sone : (Qdk fun _ => QG).all AV.one = true := rfl
 have stk : (Qdk fun _ => QG).take 24 = Qdk fun _ => QG := rfl
 have z2 : (fun j => if j < k then Xk k j (v.take 0) else QG) = fun _ => QG := by
  funext j
  rw [List.take_zero]
  split <;> rfl
 simp only [QdI] at hS
 simp (disch := omega) only [rq, simprocAttr, Z1, hk, ot, tt]
 refine Qc.vc hV' ?_
 simp (disch := omega) only [rq, simprocAttr, hkv]
 refine Qc.vc hS ?_
 generalize hS0 : (Qdk fun _ => QG) = S0 at *
 simp (disch := omega) only [rq, simprocAttr, hkv, s24, sone, stk, List.append_nil, List.take_zero, List.nil_append]
 refine QL.by (ι := Nat) (fun i => ⟨[(32, .int .i64 i), (31, .int .i64 v.length), (30, .list v.length (ks .u32 (v.map fun n : Nat => (n : Int)))), (11, .ref 3 1 0), (10, .ref 2 1 0), (7, .int .i64 0), (6, .emp true), (3, .ref 0 1 0)],
   [⟨t0, 2, 1, [.int .i64 k, .int .i64 x], 0⟩, ⟨t1, 16, 1, ks .i32 t, 0⟩, ⟨t2, 24, 1, Qdk (fun j => if j < k then Xk k j (v.take i) else QG), 0⟩, bO t3 4 (QjG k v i), bY tb (QjG k v i) (Qux k v i)]⟩)
  (fun i => i ≤ v.length) (fun i => v.length - i) 0 ?_ (by omega) ?_
 ·simp only [z2, hS0]
  rw [QkH, QkF]
  refine Le.trans (Le.virtF 3 tb 1 (by decide) rfl rfl) ?_
  exact Le.slots (by simp [Am.look])
 intro i hi
 by_cases hlt : i < v.length
 ·obtain ⟨r, hr⟩ : ∃ r, r = i % k := ⟨_, rfl⟩
  have hrc : r < k := by rw [hr]; exact Nat.mod_lt _ (by omega)
  have q1 : (i : Int) % k = (r : Int) := by rw [hr]; simp [Int.natCast_emod]
  have q1' : ((i : Int)).tmod (k : Int) = (r : Int) := by rw [Int.tmod_eq_emod_of_nonneg (by omega), q1]
  have hc0 : (k : Int) ≠ 0 := by omega
  obtain ⟨b1, b2, b3⟩ := hfb i
  obtain ⟨_, b5, _⟩ := hfb (i + 1)
  have hd := Qsr (c := k) (r := r) (hv.take i)
  have hvi := hv.getD i
  have hW' := hW 0 0 (v.getD i 0) (Xk k r (v.take i)) (by decide) hvi hd (by omega)
  rw [Nat.zero_add, Nat.pow_zero, Nat.one_mul, Nat.zero_add] at hW'
  have hcl := QoF (d := Xk k r (v.take i)) hvi
  have hcn := QoE (v := v.getD i 0) hd
  obtain ⟨rest, hg⟩ := QtG (fun j => if j < k then Xk k j (v.take i) else QG) (j := r) (by omega)
  simp only [hrc, if_true] at hg
  have hset := Qoa (fun j => if j < k then Xk k j (v.take i) else QG) (j := r) (by omega) (Jp (Xk k r (v.take i)) (v.getD i 0))
  have hup := Qtr c1 hlt
  rw [← hr] at hup
  rw [hup] at hset
  have hln := Qdj (fun j => if j < k then Xk k j (v.take i) else QG)
  have hkat := Qin (K := .u32) (l := v.map fun n : Nat => (n : Int)) (i := i) (by simpa using hlt)
  have hgd : (v.map fun n : Nat => (n : Int)).getD i 0 = ((v.getD i 0 : Nat) : Int) := by simp [List.getD_eq_getElem?_getD, List.getElem?_eq_getElem hlt]
  rw [hgd] at hkat
  have hsN := QkI k v i
  have hsV := QkG k v i
  rw [← hr] at hsN hsV
  have hb6 : QjG k v i + QeO (Xk k r (v.take i)) (v.getD i 0) ≤ 400000 := by omega
  have hD6 : isDL (Qdk (fun j => if j < k then Xk k j (v.take (i + 1)) else QG)) = true := Qkz (QrG _)
  generalize hF1 : Qdk (fun j => if j < k then Xk k j (v.take (i + 1)) else QG) = F' at *
  generalize Qdk (fun j => if j < k then Xk k j (v.take i) else QG) = F at *
  generalize hN0 : QjG k v i = N at *
  generalize hV0 : Qux k v i = V at *
  generalize hN1 : QjG k v (i + 1) = N1 at *
  generalize hV1 : Qux k v (i + 1) = V1 at *
  generalize hn0 : QeO (Xk k r (v.take i)) (v.getD i 0) = n at *
  generalize hC0 : Qnc (Xk k r (v.take i)) (v.getD i 0) = C at *
  generalize Jp (Xk k r (v.take i)) (v.getD i 0) = d' at *
  generalize Xk k r (v.take i) = d at *
  generalize v.getD i 0 = vi at *
  obtain ⟨d0, d1, d2, d3⟩ := d
  obtain ⟨m0, m1, m2, m3⟩ := d'
  simp only [dlA, dlC, bA] at hW'
  simp only at hg hset
  have hfr : QO (fun o => ([] : List Nat).contains o) [⟨t0, 2, 1, [.int .i64 k, .int .i64 x], 0⟩, ⟨t1, 16, 1, ks .i32 t, 0⟩, ⟨t2, 24, 1, F, 0⟩, ⟨t3, 2, 1, [.own 4 (nB N), .int .i64 N], 0⟩, bY tb N V] (0 + 1) [.agg [.emp true, .int .i64 0], .agg [.int .i64 d0, .int .i64 d1, .int .u64 d2, .int .u64 d3], .int .u32 vi] =
   some [.agg [.list (nB 0) (u8 (leB 0 (nB 0))), .int .i64 ((0 : Nat) : Int)], .agg [.int .i64 d0, .int .i64 d1, .int .u64 d2, .int .u64 d3], .int .u32 vi] := by
   simp [QO, Qz, frzL, Qv, nB, leB, u8]
  have pt : ∀ (Q : Exit → St → Prop) os fr dst, wpQ P os Q ⟨Zr fr dst (.tup []), [⟨t0, 2, 1, [.int .i64 k, .int .i64 x], 0⟩, ⟨t1, 16, 1, ks .i32 t, 0⟩, ⟨t2, 24, 1, F', 0⟩, bO t3 4 N1, bY tb N1 V1, ⟨t3, 2, 1, [.list (nB n) (u8 (leB C (nB n))), .int .i64 n], 0⟩, ⟨t4, 4, 1, [.int .i64 m0, .int .i64 m1, .int .u64 m2, .int .u64 m3], 0⟩]⟩ →
    Qc P fP [.ref 3 1 0, .agg [.list (nB n) (u8 (leB C (nB n))), .int .i64 n]] [⟨t0, 2, 1, [.int .i64 k, .int .i64 x], 0⟩, ⟨t1, 16, 1, ks .i32 t, 0⟩, ⟨t2, 24, 1, F', 0⟩, ⟨t3, 2, 1, [.own 4 (nB N), .int .i64 N], 0⟩, bY tb N V, ⟨t3, 2, 1, [.list (nB n) (u8 (leB C (nB n))), .int .i64 n], 0⟩, ⟨t4, 4, 1, [.int .i64 m0, .int .i64 m1, .int .u64 m2, .int .u64 m3], 0⟩] os Q fr dst := fun Q os fr dst h =>
   QmV bP (ob := [⟨t0, 2, 1, [.int .i64 k, .int .i64 x], 0⟩, ⟨t1, 16, 1, ks .i32 t, 0⟩, ⟨t2, 24, 1, F', 0⟩, ⟨t3, 2, 1, [.own 4 (nB N), .int .i64 N], 0⟩, bY tb N V, ⟨t3, 2, 1, [.list (nB n) (u8 (leB C (nB n))), .int .i64 n], 0⟩, ⟨t4, 4, 1, [.int .i64 m0, .int .i64 m1, .int .u64 m2, .int .u64 m3], 0⟩]) (t := t3) (p := 3) (o := 4) (N := N) (V := V) (C := C) (n := n) rfl rfl (by decide) b1 hcl (by omega) (by omega)
    (Low.cons (by simp [lowL, JJ]) (Low.cons (lowL_D _ (Zk _ _)) (Low.cons (lowL_D _ hD6) (Low.cons (by simp [lowL, JJ]) (Low.cons (lowL_D _ (Qac _ _)) (Low.cons (by simp [lowL, JJ, lowL_D _ (Qac _ _)]) (Low.cons (by simp [lowL, JJ]) Low.nil)))))))
    (by rw [hsN, hsV] at h; exact h)
  simp (disch := omega) only [rq, simprocAttr, bO, hkat, hkv, q1, q1', hc0, hg, hln]
  refine Qc.still 0 [] hW' hfr ?_
  simp (disch := omega) only [rq, simprocAttr, Qq, hkat, hkv, q1, q1', hc0, hg, hln, hset]
  refine pt _ _ _ _ ?_
  simp (disch := omega) only [rq, simprocAttr]
  refine ⟨i + 1, by omega, by omega, ?_⟩
  simp only [hN1, hV1, hF1]
  refine Le.low (ob := [⟨t0, 2, 1, [.int .i64 k, .int .i64 x], 0⟩, ⟨t1, 16, 1, ks .i32 t, 0⟩, ⟨t2, 24, 1, F', 0⟩, bO t3 4 N1, bY tb N1 V1]) (J := [_, _]) (Nat.zero_le _) ?_ (by simp [Am.look, JJ, lowL_D _ (Zk _ _)])
  exact Low.cons (by simp [lowL, JJ]) (Low.cons (lowL_D _ (Zk _ _)) (Low.cons (lowL_D _ hD6) (Low.cons (by simp [bO, lowL, JJ]) (Low.cons (lowL_D _ (Qac _ _)) Low.nil))))
 ·obtain rfl : i = v.length := by omega
  obtain ⟨_, b5, b6⟩ := hfb v.length
  have hfl := Qiq k v
  have hle : nB (QjG k v v.length) ≤ 40500 := by unfold nB; omega
  have hC' := hC (QgH k v)
  rw [if_neg (by omega), ← Qdg] at hC'
  have hsm := Qvu (QgH k v)
  have hB' := hB (Qdg (QgH k v)) 4 (by omega) (by omega) hsm
  have hK' := hK [QgH k v, leB (Qdg (QgH k v)) 4] (by simp) (by simp [Qa]) (by simp [Qa]; omega)
  have hfe : QgH k v = leB (Qux k v v.length) (nB (QjG k v v.length)) := rfl
  simp only [Qog, bs, List.map_cons, List.map_nil, List.length_cons, List.length_nil, List.flatten_cons, List.flatten_nil, List.append_nil, List.length_append, hfl, Qa] at hC' hB' hK' ⊢
  have tfl : isTL (u8 (QgH k v)) = true := QC _
  have tfs : isTL (u8 (leB (Qdg (QgH k v)) 4)) = true := QC _
  have tfa : isTL (u8 (QgH k v ++ leB (Qdg (QgH k v)) 4)) = true := QC _
  have hul : (u8 (QgH k v)).length = nB (QjG k v v.length) := by rw [Qr, hfl]
  generalize Qdk (fun j => if j < k then Xk k j (v.take v.length) else QG) = F at *
  simp only [bO, bY]
  rw [← hfe]
  generalize QgH k v ++ leB (Qdg (QgH k v)) 4 = R at *
  generalize leB (Qdg (QgH k v)) 4 = s4 at *
  generalize Qdg (QgH k v) = sm at *
  generalize QgH k v = fb at *
  generalize nB (QjG k v v.length) = nn at *
  simp (disch := omega) only [rq, simprocAttr]
  refine Qc.still 1 [4] hC' (by simp [QO, Qz, frzL, Qv, frzL_T _ tfl]) ?_
  simp (disch := omega) only [rq, simprocAttr, Qq]
  refine Qc.vc hB' ?_
  simp (disch := omega) only [rq, simprocAttr]
  refine Qc.still 2 [5, 4] hK' (by simp [QO, Qz, frzL, Qv, frzL_T _ tfl, frzL_T _ tfs]) ?_
  simp (disch := omega) only [rq, simprocAttr, Qq]
  simp [QO, Qz, frzL, Qv, frzL_T _ tfa]
theorem Qr9 {c x : Int} {t l : List Int} (hL : I32 l) (h : QcN c x l = 0) : (Qix c.toNat x t l).length ≤ 40504 ∧ 5 ≤ (Qix c.toNat x t l).length := by
 obtain ⟨k, m, rfl, hkM, hx, e1, e2, e3, e4, e5, e6⟩ := QnD hL h
 obtain ⟨c1, c6, l0, l4, lm, _⟩ := hkM
 have hvl := QhA k x t l
 have := QmQ (c := k) (QlM k x t l) (by omega) (by omega)
 rw [Int.toNat_natCast, Qix, Qke]
 omega
def emL : List AV → List AV
 | [] => []
 | .emp _ :: l => .list 0 [] :: emL l
 | a :: l => a :: emL l
theorem QoQ {X : Cx} : ∀ (l : List AV) (vs : List Value), RepL X l vs → RepL X (emL l) vs
 | [], _, h => h
 | a :: l, vs, h => by
  simp only [RepL] at h
  obtain ⟨v, rest, e, g1, g2⟩ := h
  have h2 := QoQ l rest g2
  cases a with
  | emp z =>
   simp only [emL, RepL]
   refine ⟨v, rest, e, ?_, h2⟩
   simp only [Rep] at g1 ⊢
   obtain ⟨a, e, _⟩ := g1
   exact ⟨a, 0, [], e, Nat.le_refl _, .inl rfl, by simp [RepL]⟩
  | _ => simp only [emL, RepL]; exact ⟨v, rest, e, g1, h2⟩
theorem VC.emp {P : Prg} {f : FuncId} (avs : List AV) {r : AV} (h : VC P f (emL avs) r) (hd : isDL avs = true) : VC P f avs r :=
 ⟨h.1, hd, h.2.2.1, fun w C vs hC hG hr => h.2.2.2 w C vs hC hG (QoQ _ _ hr)⟩
def nl (l : List Int) : AV := .list l.length (ks .i64 l)
theorem QrJ (l : List Int) : isD (nl l) = true := by simp [nl, isD, Zk]
def nls (L : List (List Int)) : AV := .list L.length (L.map nl)
theorem Qou : ∀ L : List (List Int), isDL (L.map nl) = true
 | [] => rfl
 | l :: L => by simp [isDL, QrJ, Qou L]
def Qgo (t : Nat) (P : Prg) (f : Nat) : Prop := ∀ L : List (List Int), L.length ≤ 1000000 → 0 < L.flatten.length → L.flatten.length ≤ 1000000 → VO P f [nls L] (.own 0 L.flatten.length) ⟨t, 1, L.flatten.length, ks .i64 L.flatten, 0⟩
theorem grow_nilI {P : Prg} {f t : Nat} {ρ : Go.Shelf.Ren} (L : Go.Proofs.Lays8.n4 P.prog ρ) (hf : ρ.f 4 = f) (ht : ρ.t 25 = t) (h25 : (P.prog.info? t).map (fun i => (i.zero, i.size, i.bytes)) = some (some (.int .i64 0), 1, 8)) : ∀ (ob : List Ob) (n : Nat) (z : Bool) (K : AV → List Ob → Prop), 0 < n → n ≤ 1000000 → K (.own ob.length 0) (ob ++ [⟨t, 1, 0, [], 0⟩]) → ACall P f [.emp z, .int .i64 n] ob K := by
 intro ob n z K h1 h2 hK
 subst hf; subst ht
 exact ACall.grow_nilI (by omega) L h25 h1 (by omega) hK
def Qhx (t : Nat) (P : Prg) (f : Nat) : Prop := ∀ (ob : List Ob) (n : Nat) (z : Bool) (K : AV → List Ob → Prop), 0 < n → n ≤ 1000000 → K (.own ob.length 0) (ob ++ [⟨t, 1, 0, [], 0⟩]) → ACall P f [.emp z, .int .i64 n] ob K
theorem Qhm {L : List (List Int)} {k : Nat} (h : k < L.length) : (L.take (k + 1)).flatten = (L.take k).flatten ++ L.getD k [] := by
 rw [List.take_succ_eq_append_getElem h, List.flatten_append, List.getD_eq_getElem?_getD, List.getElem?_eq_getElem h]
 simp
theorem Qoz (L : List (List Int)) (k : Nat) : (L.take k).flatten.length ≤ L.flatten.length := by
 conv => rhs; rw [← List.take_append_drop k L, List.flatten_append, List.length_append]
 omega
theorem QgB {P : Prg} {f fG t0 : Nat} (bd : Body P f 36 [.tmp 2] (Zm fG t0)) (hG : Qhx t0 P fG) : Qgo t0 P f := by
 intro L hL h0 h1
 refine VO.of_walk (by simp [isDL, isD, nls, Qou]) (Zk _ _) (by simp [okr]) (ACall.of_body bd (by simp) ?_)
 have hat : ∀ k, k < L.length → (L.map nl).drop k = nl (L.getD k []) :: (L.map nl).drop (k + 1) := fun k hk => by
  rw [List.drop_eq_getElem_cons (by simpa using hk)]
  simp [List.getD_eq_getElem?_getD, List.getElem?_eq_getElem hk]
 have hml : (L.map nl).length = L.length := by simp
 simp only [nl] at hat
 simp (disch := omega) only [rq, simprocAttr, Zm, nls]
 refine QL.by (ι := Nat) (fun k => ⟨[(11, .int .i64 k), (10, .int .i64 L.length), (9, .list L.length (L.map nl)), (3, .int .i64 (L.take k).flatten.length), (0, .list L.length (L.map nl))], []⟩) (fun k => k ≤ L.length) (fun k => L.length - k) 0 (Le.slots (by simp [Am.look])) (by omega) ?_
 intro k hk
 by_cases hlt : k < L.length
 ·have ha := hat k hlt
  have hf := Qhm hlt
  have hle := Qoz L (k + 1)
  rw [hf, List.length_append] at hle
  have hl : ((L.take (k + 1)).flatten.length : Int) = (L.take k).flatten.length + (L.getD k []).length := by rw [hf]; simp
  generalize (L.take k).flatten.length = s at *
  generalize L.getD k [] = x at *
  simp (disch := omega) only [rq, simprocAttr, ha, hml]
  exact ⟨k + 1, by omega, by omega, by simp only [hl]; exact Le.slots (by simp [Am.look])⟩
 obtain rfl : k = L.length := by omega
 rw [List.take_length]
 have hG' := fun K hK => hG [] L.flatten.length true K h0 h1 hK
 simp (disch := omega) only [rq, simprocAttr]
 refine hG' _ ?_
 simp (disch := omega) only [rq, simprocAttr]
 refine QL.by (ι := Nat) (fun k => ⟨[(27, .int .i64 k), (26, .int .i64 L.length), (25, .list L.length (L.map nl)), (6, .own 0 (L.take k).flatten.length)], [⟨t0, 1, (L.take k).flatten.length, ks .i64 (L.take k).flatten, 0⟩]⟩) (fun k => k ≤ L.length) (fun k => L.length - k) 0 (Le.slots (by simp [Am.look, ks])) (by omega) ?_
 intro k hk
 by_cases hlt : k < L.length
 ·have ha := hat k hlt
  have hf := Qhm hlt
  have hle := Qoz L (k + 1)
  rw [hf, List.length_append] at hle
  have hl : (L.take (k + 1)).flatten.length = (L.take k).flatten.length + (L.getD k []).length := by rw [hf]; simp
  have hu : ks .i64 (L.take (k + 1)).flatten = ks .i64 (L.take k).flatten ++ ks .i64 (L.getD k []) := by rw [hf]; simp [ks]
  have hc : (ks .i64 (L.take k).flatten).length = (L.take k).flatten.length := Qi _ _
  have hx : (ks .i64 (L.getD k [])).length = (L.getD k []).length := Qi _ _
  generalize ks .i64 (L.take k).flatten = cs at *
  generalize (L.take k).flatten.length = s at *
  generalize ks .i64 (L.getD k []) = us at *
  generalize (L.getD k []).length = xl at *
  simp (disch := omega) only [rq, simprocAttr, ha, hml, hc, hx]
  exact ⟨k + 1, by omega, by omega, by rw [hl, hu]; exact Le.slots (by simp [Am.look])⟩
 obtain rfl : k = L.length := by omega
 rw [List.take_length]
 simp (disch := omega) only [rq, simprocAttr]
 exact ⟨0, rfl, rfl⟩
def Qqb (P : Prg) (f : Nat) : Prop := ∀ x y : Nat, x ≤ 65535 → y ≤ 65535 → VC P f [.int .u64 x, .int .u64 y] (.tup [.int .u64 0, .int .u64 ((x * y : Nat) : Int)])
theorem Qpo {P : Prg} {f : Nat} (bd : Body P f 51 [.tmp 4, .tmp 5] Xy) : Qqb P f := by
 intro x y hx hy
 refine VC.of_acall rfl rfl (ACall.of_body bd (by simp) ?_)
 have hxy : x * y ≤ 65535 * 65535 := Nat.mul_le_mul hx hy
 have hm : (x : Int) * (y : Int) = ((x * y : Nat) : Int) := by simp
 have an : ∀ a : Nat, a ≤ 4294967295 → IntKind.u64.wrap (BitVec.ofInt IntKind.u64.bits (a : Int) &&& BitVec.ofInt IntKind.u64.bits 4294967295).toNat = (a : Int) := by
  intro a ha
  have := QsN a 4294967295 (by omega) (by decide)
  rw [show (4294967295 : Nat) = 2 ^ 32 - 1 from rfl, Nat.and_two_pow_sub_one_eq_mod, Nat.mod_eq_of_lt (by omega)] at this
  exact this
 have sh : ∀ a : Nat, a ≤ 4294967295 → Qg false .u64 (a : Int) 32 = some (.int .u64 0) := by
  intro a ha
  have := Qmc (K := .u64) (n := a) (k := 32) (by decide)
  rw [Nat.div_eq_of_lt (by omega)] at this
  exact this
 have a1 := an x (by omega)
 have a2 := an y (by omega)
 have a3 : IntKind.u64.wrap (BitVec.ofInt IntKind.u64.bits 0 &&& BitVec.ofInt IntKind.u64.bits 4294967295).toNat = 0 := by decide
 have s1 := sh x (by omega)
 have s2 := sh y (by omega)
 have s3 := sh (x * y) (by omega)
 have s4 : Qg false .u64 0 32 = some (.int .u64 0) := sh 0 (by omega)
 generalize x * y = z at *
 simp (disch := omega) only [rq, simprocAttr, Xy, a1, a2, a3, s1, s2, s3, s4, hm, Int.zero_mul, Int.mul_zero, Int.add_zero, Int.zero_add]
theorem Qt3 {P : Prg} {f f32 f64 : Nat} (bd : Body P f 30 [.tmp 4, .tmp 5] (Jh f32 f64)) (h64 : Qqb P f64) : Qqb P f := by
 intro x y hx hy
 refine VC.of_acall rfl rfl (ACall.of_body bd (by simp) ?_)
 have h := h64 x y hx hy
 generalize x * y = z at *
 simp (disch := omega) only [rq, simprocAttr, Jh]
 refine Qc.vc h ?_
 simp (disch := omega) only [rq, simprocAttr]
def rpL (v : Int) (m c : Nat) : List Int := List.replicate m v ++ List.replicate (c - m) 0
theorem QwS {v : Int} {m c : Nat} (h : m ≤ c) : (rpL v m c).length = c := by simp [rpL]; omega
def Qgd (t : Nat) (P : Prg) (f : Nat) : Prop := ∀ (v : Int) (c : Nat), c ≤ 1000 → VO P f [nl [v], .int .i64 c] (.own 0 c) ⟨t, 1, c, ks .i64 (List.replicate c v), 0⟩
theorem QgA {P : Prg} {f fM t0 : Nat} (bd : Body P f 48 [.tmp 4] (Zl fM t0)) (hM : Qqb P fM) : Qgd t0 P f := by
 intro v c hc
 refine VO.of_walk (by simp [isDL, QrJ, isD]) (Zk _ _) (by simp [okr]) (ACall.of_body bd (by simp) ?_)
 have hM' := hM 1 c (by omega) (by omega)
 rw [Nat.one_mul] at hM'
 have hM2 : VC P fM [.int .u64 1, .int .u64 c] (.tup [.int .u64 0, .int .u64 c]) := hM'
 have e1 : nl [v] = .list 1 [.int .i64 v] := rfl
 have er : Qe [.int .i64 0] c = ks .i64 (List.replicate c 0) := Qre .i64 c
 have hl : (ks .i64 (List.replicate c 0)).length = c := by simp [Qi]
 rw [e1]
 simp (disch := omega) only [rq, simprocAttr, Zl]
 refine Qc.vc hM2 ?_
 by_cases h0 : c = 0
 ·subst h0
  simp (disch := omega) only [rq, simprocAttr, er]
  refine QL.by (ι := Nat) (fun _ => ⟨[(8, .int .i64 0), (7, .own 0 0)], [⟨t0, 1, 0, [], 0⟩]⟩) (fun _ => True) (fun _ => 0) 0 (Le.slots (by simp [Am.look, ks])) trivial ?_
  intro _ _
  simp (disch := omega) only [rq, simprocAttr]
  exact ⟨0, rfl, rfl⟩
 ·have hmn : Nat.min 1 c = 1 := Nat.min_eq_left (by omega)
  have hst : (1 : Int) < (c : Int) ∨ c = 1 := by omega
  simp (disch := omega) only [rq, simprocAttr, er, hl, hmn]
  refine QL.by (ι := Nat) (fun m => ⟨[(8, .int .i64 m), (7, .own 0 c)], [⟨t0, 1, c, ks .i64 (rpL v m c), 0⟩]⟩) (fun m => 1 ≤ m ∧ m ≤ c) (fun m => c - m) 1 ?_ (by omega) ?_
  ·have : [AV.int .i64 v] ++ (ks .i64 (List.replicate c 0)).drop 1 = ks .i64 (rpL v 1 c) := by simp [rpL, ks]
   rw [← this]
   exact Le.slots (by simp [Am.look])
  intro m hm
  obtain ⟨hm1, hm2⟩ := hm
  have hkl : (ks .i64 (rpL v m c)).length = c := by rw [Qi, QwS hm2]
  by_cases hlt : m < c
  ·obtain ⟨q, hq⟩ : ∃ q, q = Nat.min m (c - m) := ⟨_, rfl⟩
   have hq1 : q ≤ m := by rw [hq]; exact Nat.min_le_left _ _
   have hq2 : q ≤ c - m := by rw [hq]; exact Nat.min_le_right _ _
   have hq3 : 1 ≤ q := by rw [hq]; exact Nat.le_min.2 ⟨hm1, by omega⟩
   have hmc : min m c = m := Nat.min_eq_left hm2
   have hal : ((ks .i64 (rpL v m c)).take m).all AV.one = true := by
    rw [List.all_eq_true]
    intro x hx
    exact List.all_eq_true.1 (QaO .i64 (rpL v m c)) x (List.mem_of_mem_take hx)
   have e1 : (rpL v m c).take m = List.replicate m v := by unfold rpL; rw [List.take_left' (by simp)]
   have e2 : (rpL v m c).drop (m + q) = List.replicate (c - (m + q)) 0 := by
    unfold rpL
    rw [List.drop_append, List.drop_of_length_le (by simp), List.nil_append, List.drop_replicate, List.length_replicate]
    congr 1
    omega
   have hcs : (ks .i64 (rpL v m c)).take m ++ (((ks .i64 (rpL v m c)).take m).take q ++ (ks .i64 (rpL v m c)).drop (m + q)) = ks .i64 (rpL v (m + q) c) := by
    have k1 : ∀ l n, (ks .i64 l).take n = ks .i64 (l.take n) := fun l n => by simp [ks, List.map_take]
    have k2 : ∀ l n, (ks .i64 l).drop n = ks .i64 (l.drop n) := fun l n => by simp [ks, List.map_drop]
    have k3 : ∀ a b, ks .i64 a ++ ks .i64 b = ks .i64 (a ++ b) := fun a b => by simp [ks]
    rw [k1, e1, k1, k2, e2, List.take_replicate, Nat.min_eq_left hq1, k3, k3, ← List.append_assoc, List.replicate_append_replicate]
    rfl
   have hcs2 : (ks .i64 (rpL v m c)).take m ++ ((ks .i64 (rpL v m c)).take m).take q ++ (ks .i64 (rpL v m c)).drop (m + q) = ks .i64 (rpL v (m + q) c) := by rw [List.append_assoc]; exact hcs
   simp (disch := omega) only [rq, simprocAttr, hkl, h0, Nat.sub_zero, hmc, hal, ← hq, Nat.mul_one, hcs2, hcs]
   refine ⟨m + q, ⟨by omega, by omega⟩, by omega, ?_⟩
   exact Le.slots (by simp [Am.look])
  ·obtain rfl : m = c := by omega
   have : rpL v m m = List.replicate m v := by simp [rpL]
   rw [this]
   simp (disch := omega) only [rq, simprocAttr]
   exact ⟨0, rfl, rfl⟩
def Qs2 (t : Nat) (P : Prg) (f : Nat) : Prop := ∀ a b : List Int, 0 < a.length + b.length → a.length + b.length ≤ 1000000 → VO P f [nl a, nl b] (.own 0 (a.length + b.length)) ⟨t, 1, a.length + b.length, ks .i64 (a ++ b), 0⟩
theorem QgG {P : Prg} {f fC t0 t1 : Nat} (bd : Body P f 9 [.tmp 4] (XS fC t1)) (hC : Qgo t0 P fC) : Qs2 t0 P f := by
 intro a b h0 h1
 refine VO.of_walk (by simp [isDL, QrJ]) (Zk _ _) (by simp [okr]) (ACall.of_body bd (by simp) ?_)
 have hC' := hC [a, b] (by simp) (by simpa using h0) (by simpa using h1)
 have e1 : nls [a, b] = .list 2 [nl a, nl b] := rfl
 have e2 : [a, b].flatten = a ++ b := by simp
 rw [e1, e2, List.length_append] at hC'
 have ta := Qy .i64 a
 have tb := Qy .i64 b
 simp only [nl] at hC' ⊢
 simp (disch := omega) only [rq, simprocAttr, XS]
 refine Qc.vo_still 1 [0] hC' (by simp [QO, Qz, frzL, Qv, frzL_T _ ta, frzL_T _ tb]) ?_
 simp (disch := omega) only [rq, simprocAttr, Qq, shr]
 exact ⟨1, rfl, rfl⟩
def okA (r n : Int) : Prop := 1 ≤ r ∧ r ≤ 1048576 ∧ 1 ≤ n ∧ n ≤ 4000 ∧ (Q5 (QJ r).toNat n.toNat).length ≤ 1000
def Qs3 (t : Nat) (P : Prg) (f : Nat) : Prop := ∀ r n : Int, okA r n → VO P f [.int .i64 r, .int .i64 n] (.tup [.own 0 (Q5 (QJ r).toNat n.toNat).length, .int .i64 0]) ⟨t, 1, (Q5 (QJ r).toNat n.toNat).length, ks .i64 (Q5 (QJ r).toNat n.toNat), 0⟩
theorem QmD {P : Prg} {f fC fL fR fB t0 : Nat} (bd : Body P f 39 [.tmp 4, .tmp 5] (QaB fC fL fR fB t0)) (hC : Ja P fC) (hL : Qbs P fL) (hR : Qgd t0 P fR) (hB : Qs2 t0 P fB) : Qs3 t0 P f := by
 intro r n ⟨a1, a2, a3, a4, a5⟩
 refine VO.of_walk rfl (Zk _ _) (by simp [okr, flat]) (ACall.of_body bd (by simp) ?_)
 have hlong : 1 ≤ QJ r := by unfold QJ; split <;> omega
 obtain ⟨L, hLe⟩ : ∃ L : Nat, QJ r = L := ⟨(QJ r).toNat, by omega⟩
 obtain ⟨m, rfl⟩ : ∃ m : Nat, n = m := ⟨n.toNat, by omega⟩
 rw [hLe, Int.toNat_natCast, Int.toNat_natCast] at a5 ⊢
 rw [Z8] at a5
 obtain ⟨q, hq⟩ : ∃ q, q = (m - 1) / L := ⟨_, rfl⟩
 have hql : (Q5 L m).length = q + 1 := by rw [Z8, hq]
 rw [← hq] at a5
 have hcd : ((m : Int) + (L : Int) - 1) / (L : Int) = ((q + 1 : Nat) : Int) := by
  have h1 : (m : Int) + (L : Int) - 1 = ((m - 1 + L : Nat) : Int) := by omega
  rw [h1, ← Int.natCast_ediv, Nat.add_div_right _ (by omega), ← hq]
 have hk : QfR r m = .tup [.int .i64 ((q + 1 : Nat) : Int), .int .i64 0] := by
  rw [QfR, if_neg (by omega), if_neg (by omega), hLe, hcd, if_neg (by omega)]
 have hC' := hC r m
 rw [hk] at hC'
 have hL' := hL r
 rw [QbB, if_neg (by omega), hLe] at hL'
 have hR' := hR L q (by omega)
 have hB' := hB (List.replicate q (L : Int)) [(m : Int) - ((q * L : Nat) : Int)] (by simp) (by simp; omega)
 have e1 : List.replicate q (L : Int) ++ [(m : Int) - ((q * L : Nat) : Int)] = Q5 L m := by unfold Q5; rw [hq]
 rw [e1] at hB'
 have e2 : (List.replicate q (L : Int)).length + [(m : Int) - ((q * L : Nat) : Int)].length = q + 1 := by simp
 rw [e2] at hB'
 have e3 : nl [(L : Int)] = .list 1 [.int .i64 (L : Int)] := rfl
 have e4 : nl [(m : Int) - ((q * L : Nat) : Int)] = .list 1 [.int .i64 ((m : Int) - ((q * L : Nat) : Int))] := rfl
 rw [e3] at hR'
 rw [e4] at hB'
 have tr := Qy .i64 (List.replicate q (L : Int))
 have hqL : (q : Int) * (L : Int) = ((q * L : Nat) : Int) := by simp
 have hle : q * L ≤ m := by
  have := Nat.div_mul_le_self (m - 1) L
  rw [← hq] at this
  omega
 simp only [nl, List.length_replicate] at hB'
 rw [hql]
 generalize ks .i64 (Q5 L m) = LL at *
 generalize ks .i64 (List.replicate q (L : Int)) = RR at *
 generalize q * L = w at *
 simp only [Int.natCast_add, Int.cast_ofNat_Int] at hC'
 have hq1 : (q : Int) + 1 - 1 = (q : Int) := by omega
 simp (disch := omega) only [rq, simprocAttr, QaB]
 refine Qc.vc hC' ?_
 simp (disch := omega) only [rq, simprocAttr]
 refine Qc.vc hL' ?_
 simp (disch := omega) only [rq, simprocAttr, hq1]
 refine Qc.vo_still 1 [0] hR' (by simp [QO, Qz, frzL, Qv]) ?_
 simp (disch := omega) only [rq, simprocAttr, Qq, shr, hq1, hqL]
 refine Qc.vo_still 1 [1, 2] hB' (by simp [QO, Qz, frzL, Qv, frzL_T _ tr]) ?_
 simp (disch := omega) only [rq, simprocAttr, Qq, shr]
 exact ⟨3, rfl, rfl⟩
end Go.Am
