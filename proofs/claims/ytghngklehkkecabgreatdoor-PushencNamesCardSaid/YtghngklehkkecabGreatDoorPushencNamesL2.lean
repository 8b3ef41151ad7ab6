/- What the functions that the law reaches return, for every program that has their code; the conditions stand in each statement. -/
import Derived.Test.YtghngklehkkecabGreatDoorPushencNamesL1
set_option linter.unusedSectionVars false
set_option linter.unusedSimpArgs false
set_option linter.unusedVariables false
namespace Go.Am
open Go.RowKit
theorem QqK (c : JT) (x : Int) : -2147483648 ≤ Qml c x ∧ Qml c x ≤ 2147483647 := QcC _
def QmW (c : Nat) (x : Int) (t l : List Int) : List Nat := (Qk2 c (Qa1 c l) (QdP x t) l.length).map Int.toNat
def QcT (c : Nat) (x : Int) (t l : List Int) : List UInt8 := Zh (Qgt c (QmW c x t l))
theorem Qm8 (c : Nat) (L : List Int) (z : JT) (a : Nat) : U32 (Qk2 c L z a) := by
 intro y hy
 simp only [Qk2, List.mem_map] at hy
 obtain ⟨j, _, rfl⟩ := hy
 exact Qqc (QqK _ _)
theorem Qso {v : List Int} (h : U32 v) : iL (v.map Int.toNat) = v := by
 unfold iL
 rw [List.map_map]
 conv => rhs; rw [← List.map_id v]
 apply List.map_congr_left
 intro y hy
 have := h y hy
 simp; omega
theorem Qrg {v : List Int} (h : U32 v) : N32 (v.map Int.toNat) := by
 intro y hy
 simp only [List.mem_map] at hy
 obtain ⟨z, hz, rfl⟩ := hy
 have := h z hz
 omega
theorem QeL (c : Nat) (x : Int) (t l : List Int) : (QmW c x t l).length = l.length := by simp [QmW, QhZ]
theorem Qhm (c : Nat) (x : Int) (t l : List Int) : N32 (QmW c x t l) := Qrg (Qm8 _ _ _ _)
theorem Qt9 (c : Nat) (x : Int) (t l : List Int) : iL (QmW c x t l) = Qk2 c (Qa1 c l) (QdP x t) l.length := Qso (Qm8 _ _ _ _)
theorem QlU {c : Nat} {v : List Nat} (h : N32 v) (h1 : 1 ≤ v.length) (h2 : v.length ≤ 4000) : 1 ≤ (Qgt c v).length ∧ (Qgt c v).length ≤ 40500 := by
 obtain ⟨_, q2, q3⟩ := Qa3 (c := c) h v.length
 rw [QeV]
 unfold nB
 omega
theorem QiQ {c x : Int} {l : List Int} (hI : I32 l) (h : QbZ c x l = 0) : ∃ k m : Nat, c = k ∧ okM k l ∧ Xk x ≠ 0 ∧ QT c x = 0 ∧ QM x l = 0 ∧ l.length = m * k ∧ 1 ≤ m ∧ (l.length : Int) / c = m ∧ QiR c x ((l.length : Int) / c) = 0 := by
 obtain ⟨k, rfl, hk, hx⟩ := Qq0 hI h
 have hk' := hk
 obtain ⟨h1, h2, h3, h4, h5, _⟩ := hk'
 have e1 : QT k x = 0 := by
  rcases Q0 k x with q | ⟨q, _⟩
  ·rw [QmC q] at h; omega
  ·exact q
 have e2 : QM x l = 0 := by
  rcases Int.decEq (QM x l) 0 with q | q
  ·rw [QmD e1 q] at h; exact absurd h q
  ·exact q
 have e3 : l.length = l.length / k * k := by have := Nat.div_add_mod l.length k; rw [Nat.mul_comm] at this; omega
 have e4 : 1 ≤ l.length / k := by
  rcases Nat.eq_zero_or_pos (l.length / k) with q | q
  ·rw [q] at e3; omega
  ·exact q
 have e5 : (l.length : Int) / (k : Int) = ((l.length / k : Nat) : Int) := by rw [Int.natCast_ediv]
 refine ⟨k, l.length / k, rfl, hk, hx, e1, e2, e3, e4, e5, ?_⟩
 have e6 : l.length / k ≤ 4000 / k := Nat.div_le_div_right h4
 have e7 : (4000 : Int) / (k : Int) = ((4000 / k : Nat) : Int) := by rw [Int.natCast_ediv]; rfl
 unfold QiR
 rw [if_neg (by omega), e5, e7, if_neg (by omega), if_neg (by omega)]
def Qdv (P : Prg) (f : Nat) : Prop := VC P f [] (.agg (Qc5 fun _ => QL))
theorem Qgu {P : Prg} {f fS t0 : Nat} (bd : Qk P f 11 [.cell 0 t0] (X7 fS t0)) (hS : Qi0 P fS) (ht : ZP P t0 = some (some 24)) : Qdv P f := by
 refine VC.of_acall rfl rfl (ACall.of_body bd (by simp) ?_)
 simp only [Qi0, QL, dlA, dlC] at hS
 simp (maxSteps := 4000000) (disch := omega) only [rq, simprocAttr, X7]
 refine QP.by (ι := Nat) (fun i => ⟨[(3, .int .i64 i), (1, .ref 1 1 0), (0, .ref 0 1 0)],
   [⟨t0, 24, 1, Qc5 (fun _ => ⟨0, 0, 0, 0⟩), 0⟩, ⟨t0, 24, 1, Qc5 (fun j => if j < i then QL else ⟨0, 0, 0, 0⟩), 0⟩]⟩) (fun i => i ≤ 6) (fun i => 6 - i) 0 (Le.slots (by simp [Am.look])) (by omega) ?_
 intro i hi
 by_cases hlt : i < 6
 ·have e1 := Qm2 (fun j => if j < i then QL else ⟨0, 0, 0, 0⟩) hlt QL
  have e2 : QuJ (fun j => if j < i then QL else ⟨0, 0, 0, 0⟩) i QL = fun j => if j < i + 1 then QL else ⟨0, 0, 0, 0⟩ := by
   funext j
   unfold QuJ
   by_cases h1 : j = i
   ·subst h1; simp
   ·by_cases h2 : j < i
    ·simp [h1, h2, show j < i + 1 by omega]
    ·simp [h1, h2, show ¬ j < i + 1 by omega]
  rw [e2] at e1
  have e3 := Qc4 (fun j => if j < i then QL else ⟨0, 0, 0, 0⟩)
  simp (maxSteps := 4000000) (disch := omega) only [rq, simprocAttr]
  refine Qb.vc hS ?_
  generalize hF : Qc5 (fun j => if j < i then QL else ⟨0, 0, 0, 0⟩) = F at *
  have e1' : F.take (i * 4) ++ [.int .i64 10, .int .i64 10, .int .u64 16384, .int .u64 16384] ++ F.drop (i * 4 + 4) = Qc5 fun j => if j < i + 1 then QL else ⟨0, 0, 0, 0⟩ := e1
  generalize Qc5 (fun _ => (⟨0, 0, 0, 0⟩ : Dl)) = Z
  simp (maxSteps := 4000000) (disch := omega) only [rq, simprocAttr, e3]
  refine ⟨i + 1, by omega, by omega, ?_⟩
  rw [e1']
  exact Le.slots (by simp [Am.look])
 obtain rfl : i = 6 := by omega
 have z1 : Qc5 (fun j => if j < 6 then QL else ⟨0, 0, 0, 0⟩) = Qc5 (fun _ => QL) := rfl
 have z2 := Qc4 fun _ => QL
 have z3 := Qc4 fun _ => (⟨0, 0, 0, 0⟩ : Dl)
 rw [z1]
 have z4 : (Qc5 fun _ => QL).all AV.one = true := rfl
 have z5 : (Qc5 fun _ => QL).take 24 = Qc5 fun _ => QL := rfl
 have z6 : (Qc5 fun _ => (⟨0, 0, 0, 0⟩ : Dl)).drop 24 = [] := rfl
 generalize (Qc5 fun _ => (⟨0, 0, 0, 0⟩ : Dl)) = Z at *
 generalize (Qc5 fun _ => QL) = S at *
 simp (maxSteps := 4000000) (disch := omega) only [rq, simprocAttr, ZG, ht, QU, z2, z3, z4, z5, z6, List.take_zero, List.nil_append, List.append_nil]
def QjT (L : List (List UInt8)) : AV := .list L.length (L.map bs)
def Qe5 (P : Prg) (f : Nat) : Prop := ∀ L : List (List UInt8), L.length ≤ 1000000 → 0 < L.flatten.length → L.flatten.length ≤ 1000000 → VC P f [QjT L] (bs L.flatten)
def Qf8 (t : Nat) (P : Prg) (f : Nat) : Prop := ∀ (ob : List Ob) (n : Nat) (z : Bool) (K : AV → List Ob → Prop), 0 < n → n ≤ 140737488355328 → K (.own ob.length 0) (ob ++ [⟨t, 1, 0, [], 0⟩]) → ACall P f [.emp z, .int .i64 n] ob K
theorem grow_nil {P : Prg} {f t : Nat} {ρ : Go.Shelf.Ren} (L : Go.Proofs.Lays8.n4 P.prog ρ) (hf : ρ.f 4 = f) (ht : ρ.t 25 = t) (h25 : (P.prog.info? t).map (fun i => (i.zero, i.size, i.bytes)) = some (some (.int .u8 0), 1, 1)) : Qf8 t P f := by
 intro ob n z K h1 h2 hK
 subst hf; subst ht
 exact ACall.grow_nil L h25 h1 h2 hK
theorem Qke {L : List (List UInt8)} {k : Nat} (h : k < L.length) : (L.take (k + 1)).flatten = (L.take k).flatten ++ L.getD k [] := by
 rw [List.take_succ_eq_append_getElem h, List.flatten_append, List.getD_eq_getElem?_getD, List.getElem?_eq_getElem h]
 simp
theorem Qqd (L : List (List UInt8)) (k : Nat) : (L.take k).flatten.length ≤ L.flatten.length := by
 conv => rhs; rw [← List.take_append_drop k L, List.flatten_append, List.length_append]
 omega
theorem QhN {P : Prg} {f fG t0 : Nat} (bd : Qk P f 36 [.tmp 2] (Q8 fG t0)) (hG : Qf8 t0 P fG) : Qe5 P f := by
 intro L hL h0 h1
 refine VC.of_walk 1 (by simp [isDL, isD, QjT, Zf]) (Zi _) (ACall.of_body bd (by simp) ?_)
 have hat : ∀ k, k < L.length → (L.map bs).drop k = bs (L.getD k []) :: (L.map bs).drop (k + 1) := fun k hk => by
  rw [List.drop_eq_getElem_cons (by simpa using hk)]
  simp [List.getD_eq_getElem?_getD, List.getElem?_eq_getElem hk]
 have hml : (L.map bs).length = L.length := by simp
 simp only [bs] at hat
 simp (maxSteps := 4000000) (disch := omega) only [rq, simprocAttr, Q8, QjT]
 refine QP.by (ι := Nat) (fun k => ⟨[(11, .int .i64 k), (10, .int .i64 L.length), (9, .list L.length (L.map bs)), (3, .int .i64 (L.take k).flatten.length), (0, .list L.length (L.map bs))], []⟩) (fun k => k ≤ L.length) (fun k => L.length - k) 0 (Le.slots (by simp [Am.look])) (by omega) ?_
 intro k hk
 by_cases hlt : k < L.length
 ·have ha := hat k hlt
  have hf := Qke hlt
  have hle := Qqd L (k + 1)
  rw [hf, List.length_append] at hle
  have hl : ((L.take (k + 1)).flatten.length : Int) = (L.take k).flatten.length + (L.getD k []).length := by rw [hf]; simp
  generalize (L.take k).flatten.length = s at *
  generalize L.getD k [] = x at *
  simp (maxSteps := 4000000) (disch := omega) only [rq, simprocAttr, ha, hml]
  exact ⟨k + 1, by omega, by omega, by simp only [hl]; exact Le.slots (by simp [Am.look])⟩
 obtain rfl : k = L.length := by omega
 rw [List.take_length]
 have hG' := fun K hK => hG [] L.flatten.length true K h0 (by omega) hK
 simp (maxSteps := 4000000) (disch := omega) only [rq, simprocAttr]
 refine hG' _ ?_
 simp (maxSteps := 4000000) (disch := omega) only [rq, simprocAttr]
 refine QP.by (ι := Nat) (fun k => ⟨[(27, .int .i64 k), (26, .int .i64 L.length), (25, .list L.length (L.map bs)), (6, .own 0 (L.take k).flatten.length)], [⟨t0, 1, (L.take k).flatten.length, u8 (L.take k).flatten, 0⟩]⟩) (fun k => k ≤ L.length) (fun k => L.length - k) 0 (Le.slots (by simp [Am.look])) (by omega) ?_
 intro k hk
 by_cases hlt : k < L.length
 ·have ha := hat k hlt
  have hf := Qke hlt
  have hle := Qqd L (k + 1)
  rw [hf, List.length_append] at hle
  have hl : (L.take (k + 1)).flatten.length = (L.take k).flatten.length + (L.getD k []).length := by rw [hf]; simp
  have hu : u8 (L.take (k + 1)).flatten = u8 (L.take k).flatten ++ u8 (L.getD k []) := by rw [hf, QcY]
  have hc : (u8 (L.take k).flatten).length = (L.take k).flatten.length := QH _
  have hx : (u8 (L.getD k [])).length = (L.getD k []).length := QH _
  generalize u8 (L.take k).flatten = cs at *
  generalize (L.take k).flatten.length = s at *
  generalize u8 (L.getD k []) = us at *
  generalize (L.getD k []).length = xl at *
  simp (maxSteps := 4000000) (disch := omega) only [rq, simprocAttr, ha, hml, hc, hx]
  exact ⟨k + 1, by omega, by omega, by rw [hl, hu]; exact Le.slots (by simp [Am.look])⟩
 obtain rfl : k = L.length := by omega
 rw [List.take_length]
 simp (maxSteps := 4000000) (disch := omega) only [rq, simprocAttr]
 simp [QS, QF, frzL, Qu, frzL_T _ (Qy _), bs]
theorem QoY (c : Nat) (x : Int) (t l : List Int) : Qtt (Qk2 c (Qa1 c l) (QdP x t) l.length) = .list l.length (ks .u32 ((QmW c x t l).map fun n : Nat => (n : Int))) := by
 have := Qt9 c x t l
 unfold iL at this
 rw [this, Qtt, QhZ]
theorem QrA {c i : Nat} {v : List Nat} (hc : 1 ≤ c) (hi : i < v.length) : QuJ (fun j => if j < c then Xq c j (v.take i) else QL) (i % c) (JC (Xq c (i % c) (v.take i)) (v.getD i 0)) = fun j => if j < c then Xq c j (v.take (i + 1)) else QL := by
 have ht : v.take (i + 1) = v.take i ++ [v.getD i 0] := by
  rw [List.take_succ_eq_append_getElem hi]
  simp [List.getD_eq_getElem?_getD, List.getElem?_eq_getElem hi]
 have hl : (v.take i).length = i := by simp; omega
 have hr : i % c < c := Nat.mod_lt _ (by omega)
 funext j
 unfold QuJ
 rw [ht]
 by_cases hj : j = i % c
 ·subst hj
  rw [if_pos rfl, if_pos hr, Qkv, if_pos (by rw [hl])]
 ·rw [if_neg hj]
  by_cases hjc : j < c
  ·simp only [hjc, if_true]
   rw [Qkv, if_neg (by rw [hl]; exact fun e => hj e.symm)]
  ·simp only [hjc, if_false]
def QuH (c x : Int) (t l : List Int) : AV := if QbZ c x l ≠ 0 then .tup [.list 0 [], .int .i64 (QbZ c x l)] else .tup [bs (QcT c.toNat x t l), .int .i64 0]
theorem Qsm (c x : Int) (t l : List Int) : isD (QuH c x t l) = true := by unfold QuH; split <;> simp [isD, isDL, Zi]
def QmO (P : Prg) (f : Nat) : Prop := ∀ (c x : Int) (t l : List Int), t.length = 16 → I32 t → I32 l → VC P f [shA c x, .agg (ks .i32 t), il l] (QuH c x t l)
set_option maxHeartbeats 2000000 in
set_option maxRecDepth 20000 in
theorem Qgw {P : Prg} {f fV fS fW fP fC fB fK t0 t1 t2 t3 t4 t5 tp tb : Nat} (bd : Qk P f 85 [.tmp 6, .tmp 7] (Z3 fV fS fW fP fC fB fK t0 t1 t2 t3 t4 t5)) (hV : QmP P fV) (hS : Qdv P fS) (hW : QiX P fW) (bP : Qk P fP 64 [] (Jf tp tb)) (hC : Qhj P fC) (hB : Qah P fB) (hK : Qe5 P fK) : QmO P f := by
 intro c x t l ht hI hL
 refine VC.of_walk 1 (by simp [isDL, isD, QG, ZC, shA]) (Qsm _ _ _ _) (ACall.of_body bd (by simp) ?_)
 have hk : (ks .i32 t).length = 16 := by simp [Qh, ht]
 have tt : (ks .i32 t).take 16 = ks .i32 t := QK (by omega)
 have ot := J4 .i32 t
 have hV' := hV c x t l ht hI hL
 unfold QuH
 by_cases h0 : QbZ c x l = 0
 case neg =>
  rw [Qrz, if_pos h0] at hV'
  rw [if_pos h0]
  rw [shA] at hV' ⊢
  simp (maxSteps := 4000000) (disch := omega) only [rq, simprocAttr, Z3, hk, ot, tt]
  refine Qb.vc hV' ?_
  simp (maxSteps := 4000000) (disch := omega) only [rq, simprocAttr, h0]
  simp [QS, QF, frzL, Qu]
 obtain ⟨k, m, rfl, hkM, hx, e1, e2, e3, e4, e5, e6⟩ := QiQ hL h0
 obtain ⟨c1, c6, l0, l4, lm, _⟩ := hkM
 rw [Qrz, if_neg (by omega), Int.toNat_natCast, QoY] at hV'
 rw [if_neg (by omega), Int.toNat_natCast, QcT, Zh]
 have hv := Qhm k x t l
 have hvl := QeL k x t l
 rw [← hvl] at hV' l0 l4
 generalize QmW k x t l = v at *
 rw [shA] at hV' ⊢
 have hfb := Qa3 (c := k) hv
 have hkv : (ks .u32 (v.map fun n : Nat => (n : Int))).length = v.length := by simp [ks]
 have s24 := Qc4 fun _ => QL
 have sone : (Qc5 fun _ => QL).all AV.one = true := rfl
 have stk : (Qc5 fun _ => QL).take 24 = Qc5 fun _ => QL := rfl
 have z2 : (fun j => if j < k then Xq k j (v.take 0) else QL) = fun _ => QL := by
  funext j
  rw [List.take_zero]
  split <;> rfl
 simp only [Qdv] at hS
 simp (maxSteps := 4000000) (disch := omega) only [rq, simprocAttr, Z3, hk, ot, tt]
 refine Qb.vc hV' ?_
 simp (maxSteps := 4000000) (disch := omega) only [rq, simprocAttr, hkv]
 refine Qb.vc hS ?_
 generalize hS0 : (Qc5 fun _ => QL) = S0 at *
 simp (maxSteps := 4000000) (disch := omega) only [rq, simprocAttr, hkv, s24, sone, stk, List.append_nil, List.take_zero, List.nil_append]
 refine QP.by (ι := Nat) (fun i => ⟨[(32, .int .i64 i), (31, .int .i64 v.length), (30, .list v.length (ks .u32 (v.map fun n : Nat => (n : Int)))), (11, .ref 3 1 0), (10, .ref 2 1 0), (7, .int .i64 0), (6, .emp true), (3, .ref 0 1 0)],
   [⟨t0, 2, 1, [.int .i64 k, .int .i64 x], 0⟩, ⟨t1, 16, 1, ks .i32 t, 0⟩, ⟨t2, 24, 1, Qc5 (fun j => if j < k then Xq k j (v.take i) else QL), 0⟩, bO t3 4 (Qg3 k v i), bY tb (Qg3 k v i) (Qsr k v i)]⟩)
  (fun i => i ≤ v.length) (fun i => v.length - i) 0 ?_ (by omega) ?_
 ·simp only [z2, hS0]
  rw [Qkb, Qj9]
  refine Le.trans (Le.virtF 3 tb 1 (by decide) rfl rfl) ?_
  exact Le.slots (by simp [Am.look])
 intro i hi
 by_cases hlt : i < v.length
 ·obtain ⟨r, hr⟩ : ∃ r, r = i % k := ⟨_, rfl⟩
  have hrc : r < k := by rw [hr]; exact Nat.mod_lt _ (by omega)
  have q1 : (i : Int) % k = (r : Int) := by rw [hr]; simp [Int.natCast_emod]
  have q1' : ((i : Int)).tmod (k : Int) = (r : Int) := by rw [Int.tmod_eq_emod_of_nonneg (by omega), q1]
  have hc0 : (k : Int) ≠ 0 := by omega
  obtain ⟨b1, b2, b3⟩ := hfb i
  obtain ⟨_, b5, _⟩ := hfb (i + 1)
  have hd := QqI (c := k) (r := r) (hv.take i)
  have hvi := hv.getD i
  have hW' := hW 0 0 (v.getD i 0) (Xq k r (v.take i)) (by decide) hvi hd (by omega)
  rw [Nat.zero_add, Nat.pow_zero, Nat.one_mul, Nat.zero_add] at hW'
  have hcl := Qnr (d := Xq k r (v.take i)) hvi
  have hcn := Qnq (v := v.getD i 0) hd
  obtain ⟨rest, hg⟩ := QrQ (fun j => if j < k then Xq k j (v.take i) else QL) (j := r) (by omega)
  simp only [hrc, if_true] at hg
  have hset := Qm2 (fun j => if j < k then Xq k j (v.take i) else QL) (j := r) (by omega) (JC (Xq k r (v.take i)) (v.getD i 0))
  have hup := QrA c1 hlt
  rw [← hr] at hup
  rw [hup] at hset
  have hln := Qc4 (fun j => if j < k then Xq k j (v.take i) else QL)
  have hkat := Qfx (K := .u32) (l := v.map fun n : Nat => (n : Int)) (i := i) (by simpa using hlt)
  have hgd : (v.map fun n : Nat => (n : Int)).getD i 0 = ((v.getD i 0 : Nat) : Int) := by simp [List.getD_eq_getElem?_getD, List.getElem?_eq_getElem hlt]
  rw [hgd] at hkat
  have hsN := Qkc k v i
  have hsV := Qka k v i
  rw [← hr] at hsN hsV
  have hb6 : Qg3 k v i + QeA (Xq k r (v.take i)) (v.getD i 0) ≤ 400000 := by omega
  have hD6 : isDL (Qc5 (fun j => if j < k then Xq k j (v.take (i + 1)) else QL)) = true := QpY (QpW _)
  generalize hF1 : Qc5 (fun j => if j < k then Xq k j (v.take (i + 1)) else QL) = F' at *
  generalize Qc5 (fun j => if j < k then Xq k j (v.take i) else QL) = F at *
  generalize hN0 : Qg3 k v i = N at *
  generalize hV0 : Qsr k v i = V at *
  generalize hN1 : Qg3 k v (i + 1) = N1 at *
  generalize hV1 : Qsr k v (i + 1) = V1 at *
  generalize hn0 : QeA (Xq k r (v.take i)) (v.getD i 0) = n at *
  generalize hC0 : Qmg (Xq k r (v.take i)) (v.getD i 0) = C at *
  generalize JC (Xq k r (v.take i)) (v.getD i 0) = d' at *
  generalize Xq k r (v.take i) = d at *
  generalize v.getD i 0 = vi at *
  obtain ⟨d0, d1, d2, d3⟩ := d
  obtain ⟨m0, m1, m2, m3⟩ := d'
  simp only [dlA, dlC, bA] at hW'
  simp only at hg hset
  have hfr : QS (fun o => ([] : List Nat).contains o) [⟨t0, 2, 1, [.int .i64 k, .int .i64 x], 0⟩, ⟨t1, 16, 1, ks .i32 t, 0⟩, ⟨t2, 24, 1, F, 0⟩, ⟨t3, 2, 1, [.own 4 (nB N), .int .i64 N], 0⟩, bY tb N V] (0 + 1) [.agg [.emp true, .int .i64 0], .agg [.int .i64 d0, .int .i64 d1, .int .u64 d2, .int .u64 d3], .int .u32 vi] =
   some [.agg [.list (nB 0) (u8 (leB 0 (nB 0))), .int .i64 ((0 : Nat) : Int)], .agg [.int .i64 d0, .int .i64 d1, .int .u64 d2, .int .u64 d3], .int .u32 vi] := by
   simp [QS, QF, frzL, Qu, nB, leB, u8]
  have pt : ∀ (Q : Exit → St → Prop) os fr dst, wpQ P os Q ⟨Zn fr dst (.tup []), [⟨t0, 2, 1, [.int .i64 k, .int .i64 x], 0⟩, ⟨t1, 16, 1, ks .i32 t, 0⟩, ⟨t2, 24, 1, F', 0⟩, bO t3 4 N1, bY tb N1 V1, ⟨t3, 2, 1, [.list (nB n) (u8 (leB C (nB n))), .int .i64 n], 0⟩, ⟨t4, 4, 1, [.int .i64 m0, .int .i64 m1, .int .u64 m2, .int .u64 m3], 0⟩]⟩ →
    Qb P fP [.ref 3 1 0, .agg [.list (nB n) (u8 (leB C (nB n))), .int .i64 n]] [⟨t0, 2, 1, [.int .i64 k, .int .i64 x], 0⟩, ⟨t1, 16, 1, ks .i32 t, 0⟩, ⟨t2, 24, 1, F', 0⟩, ⟨t3, 2, 1, [.own 4 (nB N), .int .i64 N], 0⟩, bY tb N V, ⟨t3, 2, 1, [.list (nB n) (u8 (leB C (nB n))), .int .i64 n], 0⟩, ⟨t4, 4, 1, [.int .i64 m0, .int .i64 m1, .int .u64 m2, .int .u64 m3], 0⟩] os Q fr dst := fun Q os fr dst h =>
   Ql0 bP (ob := [⟨t0, 2, 1, [.int .i64 k, .int .i64 x], 0⟩, ⟨t1, 16, 1, ks .i32 t, 0⟩, ⟨t2, 24, 1, F', 0⟩, ⟨t3, 2, 1, [.own 4 (nB N), .int .i64 N], 0⟩, bY tb N V, ⟨t3, 2, 1, [.list (nB n) (u8 (leB C (nB n))), .int .i64 n], 0⟩, ⟨t4, 4, 1, [.int .i64 m0, .int .i64 m1, .int .u64 m2, .int .u64 m3], 0⟩]) (t := t3) (p := 3) (o := 4) (N := N) (V := V) (C := C) (n := n) rfl rfl (by decide) b1 hcl (by omega) (by omega)
    (Low.cons (by simp [lowL, Ja]) (Low.cons (lowL_D _ (QG _ _)) (Low.cons (lowL_D _ hD6) (Low.cons (by simp [lowL, Ja]) (Low.cons (lowL_D _ (Qau _ _)) (Low.cons (by simp [lowL, Ja, lowL_D _ (Qau _ _)]) (Low.cons (by simp [lowL, Ja]) Low.nil)))))))
    (by rw [hsN, hsV] at h; exact h)
  simp (maxSteps := 4000000) (disch := omega) only [rq, simprocAttr, bO, hkat, hkv, q1, q1', hc0, hg, hln]
  refine Qb.still 0 [] hW' hfr ?_
  simp (maxSteps := 4000000) (disch := omega) only [rq, simprocAttr, Qm, hkat, hkv, q1, q1', hc0, hg, hln, hset]
  refine pt _ _ _ _ ?_
  simp (maxSteps := 4000000) (disch := omega) only [rq, simprocAttr]
  refine ⟨i + 1, by omega, by omega, ?_⟩
  simp only [hN1, hV1, hF1]
  refine Le.low (ob := [⟨t0, 2, 1, [.int .i64 k, .int .i64 x], 0⟩, ⟨t1, 16, 1, ks .i32 t, 0⟩, ⟨t2, 24, 1, F', 0⟩, bO t3 4 N1, bY tb N1 V1]) (J := [_, _]) (Nat.zero_le _) ?_ (by simp [Am.look, Ja, lowL_D _ (QG _ _)])
  exact Low.cons (by simp [lowL, Ja]) (Low.cons (lowL_D _ (QG _ _)) (Low.cons (lowL_D _ hD6) (Low.cons (by simp [bO, lowL, Ja]) (Low.cons (lowL_D _ (Qau _ _)) Low.nil))))
 ·obtain rfl : i = v.length := by omega
  obtain ⟨_, b5, b6⟩ := hfb v.length
  have hfl := QeV k v
  have hle : nB (Qg3 k v v.length) ≤ 40500 := by unfold nB; omega
  have hC' := hC (Qgt k v)
  rw [if_neg (by omega), ← QbN] at hC'
  have hsm := Qtv (Qgt k v)
  have hB' := hB (QbN (Qgt k v)) 4 (by omega) (by omega) hsm
  have hK' := hK [Qgt k v, leB (QbN (Qgt k v)) 4] (by simp) (by simp [Qc]) (by simp [Qc]; omega)
  have hfe : Qgt k v = leB (Qsr k v v.length) (nB (Qg3 k v v.length)) := rfl
  simp only [QjT, bs, List.map_cons, List.map_nil, List.length_cons, List.length_nil, List.flatten_cons, List.flatten_nil, List.append_nil, List.length_append, hfl, Qc] at hC' hB' hK' ⊢
  have tfl : isTL (u8 (Qgt k v)) = true := Qy _
  have tfs : isTL (u8 (leB (QbN (Qgt k v)) 4)) = true := Qy _
  have tfa : isTL (u8 (Qgt k v ++ leB (QbN (Qgt k v)) 4)) = true := Qy _
  have hul : (u8 (Qgt k v)).length = nB (Qg3 k v v.length) := by rw [QH, hfl]
  generalize Qc5 (fun j => if j < k then Xq k j (v.take v.length) else QL) = F at *
  simp only [bO, bY]
  rw [← hfe]
  generalize Qgt k v ++ leB (QbN (Qgt k v)) 4 = R at *
  generalize leB (QbN (Qgt k v)) 4 = s4 at *
  generalize QbN (Qgt k v) = sm at *
  generalize Qgt k v = fb at *
  generalize nB (Qg3 k v v.length) = nn at *
  simp (maxSteps := 4000000) (disch := omega) only [rq, simprocAttr]
  refine Qb.still 1 [4] hC' (by simp [QS, QF, frzL, Qu, frzL_T _ tfl]) ?_
  simp (maxSteps := 4000000) (disch := omega) only [rq, simprocAttr, Qm]
  refine Qb.vc hB' ?_
  simp (maxSteps := 4000000) (disch := omega) only [rq, simprocAttr]
  refine Qb.still 2 [5, 4] hK' (by simp [QS, QF, frzL, Qu, frzL_T _ tfl, frzL_T _ tfs]) ?_
  simp (maxSteps := 4000000) (disch := omega) only [rq, simprocAttr, Qm]
  simp [QS, QF, frzL, Qu, frzL_T _ tfa]
theorem Qkj {c x : Int} {t l : List Int} (hL : I32 l) (h : QbZ c x l = 0) : (QcT c.toNat x t l).length ≤ 40504 ∧ 5 ≤ (QcT c.toNat x t l).length := by
 obtain ⟨k, m, rfl, hkM, hx, e1, e2, e3, e4, e5, e6⟩ := QiQ hL h
 obtain ⟨c1, c6, l0, l4, lm, _⟩ := hkM
 have hvl := QeL k x t l
 have := QlU (c := k) (Qhm k x t l) (by omega) (by omega)
 rw [Int.toNat_natCast, QcT, Qfk]
 omega
def emL : List AV → List AV
 | [] => []
 | .emp _ :: l => .list 0 [] :: emL l
 | a :: l => a :: emL l
theorem QnE {X : Cx} : ∀ (l : List AV) (vs : List Value), RepL X l vs → RepL X (emL l) vs
 | [], _, h => h
 | a :: l, vs, h => by
  simp only [RepL] at h
  obtain ⟨v, rest, e, g1, g2⟩ := h
  have h2 := QnE l rest g2
  cases a with
  | emp z =>
   simp only [emL, RepL]
   refine ⟨v, rest, e, ?_, h2⟩
   simp only [Rep] at g1 ⊢
   obtain ⟨a, e, _⟩ := g1
   exact ⟨a, 0, [], e, Nat.le_refl _, .inl rfl, by simp [RepL]⟩
  | _ => simp only [emL, RepL]; exact ⟨v, rest, e, g1, h2⟩
theorem J0 : ∀ n : Nat, Qe [.int .u8 0] n = u8 (List.replicate n 0)
 | 0 => rfl
 | n + 1 => by rw [Qe, J0 n]; simp [u8, List.replicate_succ]
theorem VC.emp {P : Prg} {f : FuncId} (avs : List AV) {r : AV} (h : VC P f (emL avs) r) (hd : isDL avs = true) : VC P f avs r :=
 ⟨h.1, hd, h.2.2.1, fun w C vs hC hG hr => h.2.2.2 w C vs hC hG (QnE _ _ hr)⟩
def nl (l : List Int) : AV := .list l.length (ks .i64 l)
theorem QpZ (l : List Int) : isD (nl l) = true := by simp [nl, isD, QG]
def nls (L : List (List Int)) : AV := .list L.length (L.map nl)
theorem Qne : ∀ L : List (List Int), isDL (L.map nl) = true
 | [] => rfl
 | l :: L => by simp [isDL, QpZ, Qne L]
def Qgb (t : Nat) (P : Prg) (f : Nat) : Prop := ∀ L : List (List Int), L.length ≤ 1000000 → 0 < L.flatten.length → L.flatten.length ≤ 1000000 → VO P f [nls L] (.own 0 L.flatten.length) ⟨t, 1, L.flatten.length, ks .i64 L.flatten, 0⟩
theorem grow_nilI {P : Prg} {f t : Nat} {ρ : Go.Shelf.Ren} (L : Go.Proofs.Lays8.n4 P.prog ρ) (hf : ρ.f 4 = f) (ht : ρ.t 25 = t) (h25 : (P.prog.info? t).map (fun i => (i.zero, i.size, i.bytes)) = some (some (.int .i64 0), 1, 8)) : ∀ (ob : List Ob) (n : Nat) (z : Bool) (K : AV → List Ob → Prop), 0 < n → n ≤ 1000000 → K (.own ob.length 0) (ob ++ [⟨t, 1, 0, [], 0⟩]) → ACall P f [.emp z, .int .i64 n] ob K := by
 intro ob n z K h1 h2 hK
 subst hf; subst ht
 exact ACall.grow_nilI (by omega) L h25 h1 (by omega) hK
def Qhi (t : Nat) (P : Prg) (f : Nat) : Prop := ∀ (ob : List Ob) (n : Nat) (z : Bool) (K : AV → List Ob → Prop), 0 < n → n ≤ 1000000 → K (.own ob.length 0) (ob ++ [⟨t, 1, 0, [], 0⟩]) → ACall P f [.emp z, .int .i64 n] ob K
theorem Qg4 {L : List (List Int)} {k : Nat} (h : k < L.length) : (L.take (k + 1)).flatten = (L.take k).flatten ++ L.getD k [] := by
 rw [List.take_succ_eq_append_getElem h, List.flatten_append, List.getD_eq_getElem?_getD, List.getElem?_eq_getElem h]
 simp
theorem Qnj (L : List (List Int)) (k : Nat) : (L.take k).flatten.length ≤ L.flatten.length := by
 conv => rhs; rw [← List.take_append_drop k L, List.flatten_append, List.length_append]
 omega
theorem Qgo {P : Prg} {f fG t0 : Nat} (bd : Qk P f 36 [.tmp 2] (Zq fG t0)) (hG : Qhi t0 P fG) : Qgb t0 P f := by
 intro L hL h0 h1
 refine VO.of_walk (by simp [isDL, isD, nls, Qne]) (QG _ _) (by simp [okr]) (ACall.of_body bd (by simp) ?_)
 have hat : ∀ k, k < L.length → (L.map nl).drop k = nl (L.getD k []) :: (L.map nl).drop (k + 1) := fun k hk => by
  rw [List.drop_eq_getElem_cons (by simpa using hk)]
  simp [List.getD_eq_getElem?_getD, List.getElem?_eq_getElem hk]
 have hml : (L.map nl).length = L.length := by simp
 simp only [nl] at hat
 simp (maxSteps := 4000000) (disch := omega) only [rq, simprocAttr, Zq, nls]
 refine QP.by (ι := Nat) (fun k => ⟨[(11, .int .i64 k), (10, .int .i64 L.length), (9, .list L.length (L.map nl)), (3, .int .i64 (L.take k).flatten.length), (0, .list L.length (L.map nl))], []⟩) (fun k => k ≤ L.length) (fun k => L.length - k) 0 (Le.slots (by simp [Am.look])) (by omega) ?_
 intro k hk
 by_cases hlt : k < L.length
 ·have ha := hat k hlt
  have hf := Qg4 hlt
  have hle := Qnj L (k + 1)
  rw [hf, List.length_append] at hle
  have hl : ((L.take (k + 1)).flatten.length : Int) = (L.take k).flatten.length + (L.getD k []).length := by rw [hf]; simp
  generalize (L.take k).flatten.length = s at *
  generalize L.getD k [] = x at *
  simp (maxSteps := 4000000) (disch := omega) only [rq, simprocAttr, ha, hml]
  exact ⟨k + 1, by omega, by omega, by simp only [hl]; exact Le.slots (by simp [Am.look])⟩
 obtain rfl : k = L.length := by omega
 rw [List.take_length]
 have hG' := fun K hK => hG [] L.flatten.length true K h0 h1 hK
 simp (maxSteps := 4000000) (disch := omega) only [rq, simprocAttr]
 refine hG' _ ?_
 simp (maxSteps := 4000000) (disch := omega) only [rq, simprocAttr]
 refine QP.by (ι := Nat) (fun k => ⟨[(27, .int .i64 k), (26, .int .i64 L.length), (25, .list L.length (L.map nl)), (6, .own 0 (L.take k).flatten.length)], [⟨t0, 1, (L.take k).flatten.length, ks .i64 (L.take k).flatten, 0⟩]⟩) (fun k => k ≤ L.length) (fun k => L.length - k) 0 (Le.slots (by simp [Am.look, ks])) (by omega) ?_
 intro k hk
 by_cases hlt : k < L.length
 ·have ha := hat k hlt
  have hf := Qg4 hlt
  have hle := Qnj L (k + 1)
  rw [hf, List.length_append] at hle
  have hl : (L.take (k + 1)).flatten.length = (L.take k).flatten.length + (L.getD k []).length := by rw [hf]; simp
  have hu : ks .i64 (L.take (k + 1)).flatten = ks .i64 (L.take k).flatten ++ ks .i64 (L.getD k []) := by rw [hf]; simp [ks]
  have hc : (ks .i64 (L.take k).flatten).length = (L.take k).flatten.length := Qh _ _
  have hx : (ks .i64 (L.getD k [])).length = (L.getD k []).length := Qh _ _
  generalize ks .i64 (L.take k).flatten = cs at *
  generalize (L.take k).flatten.length = s at *
  generalize ks .i64 (L.getD k []) = us at *
  generalize (L.getD k []).length = xl at *
  simp (maxSteps := 4000000) (disch := omega) only [rq, simprocAttr, ha, hml, hc, hx]
  exact ⟨k + 1, by omega, by omega, by rw [hl, hu]; exact Le.slots (by simp [Am.look])⟩
 obtain rfl : k = L.length := by omega
 rw [List.take_length]
 simp (maxSteps := 4000000) (disch := omega) only [rq, simprocAttr]
 exact ⟨0, rfl, rfl⟩
def QoH (P : Prg) (f : Nat) : Prop := ∀ x y : Nat, x ≤ 65535 → y ≤ 65535 → VC P f [.int .u64 x, .int .u64 y] (.tup [.int .u64 0, .int .u64 ((x * y : Nat) : Int)])
theorem Qn2 {P : Prg} {f : Nat} (bd : Qk P f 51 [.tmp 4, .tmp 5] XH) : QoH P f := by
 intro x y hx hy
 refine VC.of_acall rfl rfl (ACall.of_body bd (by simp) ?_)
 have hxy : x * y ≤ 65535 * 65535 := Nat.mul_le_mul hx hy
 have hm : (x : Int) * (y : Int) = ((x * y : Nat) : Int) := by simp
 have an : ∀ a : Nat, a ≤ 4294967295 → IntKind.u64.wrap (BitVec.ofInt IntKind.u64.bits (a : Int) &&& BitVec.ofInt IntKind.u64.bits 4294967295).toNat = (a : Int) := by
  intro a ha
  have := Qq4 a 4294967295 (by omega) (by decide)
  rw [show (4294967295 : Nat) = 2 ^ 32 - 1 from rfl, Nat.and_two_pow_sub_one_eq_mod, Nat.mod_eq_of_lt (by omega)] at this
  exact this
 have sh : ∀ a : Nat, a ≤ 4294967295 → Ql false .u64 (a : Int) 32 = some (.int .u64 0) := by
  intro a ha
  have := Qlu (K := .u64) (n := a) (k := 32) (by decide)
  rw [Nat.div_eq_of_lt (by omega)] at this
  exact this
 have a1 := an x (by omega)
 have a2 := an y (by omega)
 have a3 : IntKind.u64.wrap (BitVec.ofInt IntKind.u64.bits 0 &&& BitVec.ofInt IntKind.u64.bits 4294967295).toNat = 0 := by decide
 have s1 := sh x (by omega)
 have s2 := sh y (by omega)
 have s3 := sh (x * y) (by omega)
 have s4 : Ql false .u64 0 32 = some (.int .u64 0) := sh 0 (by omega)
 generalize x * y = z at *
 simp (maxSteps := 4000000) (disch := omega) only [rq, simprocAttr, XH, a1, a2, a3, s1, s2, s3, s4, hm, Int.zero_mul, Int.mul_zero, Int.add_zero, Int.zero_add]
theorem Qsa {P : Prg} {f f32 f64 : Nat} (bd : Qk P f 30 [.tmp 4, .tmp 5] (Jv f32 f64)) (h64 : QoH P f64) : QoH P f := by
 intro x y hx hy
 refine VC.of_acall rfl rfl (ACall.of_body bd (by simp) ?_)
 have h := h64 x y hx hy
 generalize x * y = z at *
 simp (maxSteps := 4000000) (disch := omega) only [rq, simprocAttr, Jv]
 refine Qb.vc h ?_
 simp (maxSteps := 4000000) (disch := omega) only [rq, simprocAttr]
def rpL (v : Int) (m c : Nat) : List Int := List.replicate m v ++ List.replicate (c - m) 0
theorem QuY {v : Int} {m c : Nat} (h : m ≤ c) : (rpL v m c).length = c := by simp [rpL]; omega
def Qf0 (t : Nat) (P : Prg) (f : Nat) : Prop := ∀ (v : Int) (c : Nat), c ≤ 1000 → VO P f [nl [v], .int .i64 c] (.own 0 c) ⟨t, 1, c, ks .i64 (List.replicate c v), 0⟩
theorem Qgn {P : Prg} {f fM t0 : Nat} (bd : Qk P f 48 [.tmp 4] (Zp fM t0)) (hM : QoH P fM) : Qf0 t0 P f := by
 intro v c hc
 refine VO.of_walk (by simp [isDL, QpZ, isD]) (QG _ _) (by simp [okr]) (ACall.of_body bd (by simp) ?_)
 have hM' := hM 1 c (by omega) (by omega)
 rw [Nat.one_mul] at hM'
 have hM2 : VC P fM [.int .u64 1, .int .u64 c] (.tup [.int .u64 0, .int .u64 c]) := hM'
 have e1 : nl [v] = .list 1 [.int .i64 v] := rfl
 have er : Qe [.int .i64 0] c = ks .i64 (List.replicate c 0) := Qpv .i64 c
 have hl : (ks .i64 (List.replicate c 0)).length = c := by simp [Qh]
 rw [e1]
 simp (maxSteps := 4000000) (disch := omega) only [rq, simprocAttr, Zp]
 refine Qb.vc hM2 ?_
 by_cases h0 : c = 0
 ·subst h0
  simp (maxSteps := 4000000) (disch := omega) only [rq, simprocAttr, er]
  refine QP.by (ι := Nat) (fun _ => ⟨[(8, .int .i64 0), (7, .own 0 0)], [⟨t0, 1, 0, [], 0⟩]⟩) (fun _ => True) (fun _ => 0) 0 (Le.slots (by simp [Am.look, ks])) trivial ?_
  intro _ _
  simp (maxSteps := 4000000) (disch := omega) only [rq, simprocAttr]
  exact ⟨0, rfl, rfl⟩
 ·have hmn : Nat.min 1 c = 1 := Nat.min_eq_left (by omega)
  have hst : (1 : Int) < (c : Int) ∨ c = 1 := by omega
  simp (maxSteps := 4000000) (disch := omega) only [rq, simprocAttr, er, hl, hmn]
  refine QP.by (ι := Nat) (fun m => ⟨[(8, .int .i64 m), (7, .own 0 c)], [⟨t0, 1, c, ks .i64 (rpL v m c), 0⟩]⟩) (fun m => 1 ≤ m ∧ m ≤ c) (fun m => c - m) 1 ?_ (by omega) ?_
  ·have : [AV.int .i64 v] ++ (ks .i64 (List.replicate c 0)).drop 1 = ks .i64 (rpL v 1 c) := by simp [rpL, ks]
   rw [← this]
   exact Le.slots (by simp [Am.look])
  intro m hm
  obtain ⟨hm1, hm2⟩ := hm
  have hkl : (ks .i64 (rpL v m c)).length = c := by rw [Qh, QuY hm2]
  by_cases hlt : m < c
  ·obtain ⟨q, hq⟩ : ∃ q, q = Nat.min m (c - m) := ⟨_, rfl⟩
   have hq1 : q ≤ m := by rw [hq]; exact Nat.min_le_left _ _
   have hq2 : q ≤ c - m := by rw [hq]; exact Nat.min_le_right _ _
   have hq3 : 1 ≤ q := by rw [hq]; exact Nat.le_min.2 ⟨hm1, by omega⟩
   have hmc : min m c = m := Nat.min_eq_left hm2
   have hal : ((ks .i64 (rpL v m c)).take m).all AV.one = true := by
    rw [List.all_eq_true]
    intro x hx
    exact List.all_eq_true.1 (J4 .i64 (rpL v m c)) x (List.mem_of_mem_take hx)
   have e1 : (rpL v m c).take m = List.replicate m v := by unfold rpL; rw [List.take_left' (by simp)]
   have e2 : (rpL v m c).drop (m + q) = List.replicate (c - (m + q)) 0 := by
    unfold rpL
    rw [List.drop_append, List.drop_of_length_le (by simp), List.nil_append, List.drop_replicate, List.length_replicate]
    congr 1
    omega
   have hcs : (ks .i64 (rpL v m c)).take m ++ (((ks .i64 (rpL v m c)).take m).take q ++ (ks .i64 (rpL v m c)).drop (m + q)) = ks .i64 (rpL v (m + q) c) := by
    have k1 : ∀ l n, (ks .i64 l).take n = ks .i64 (l.take n) := fun l n => by simp [ks, List.map_take]
    have k2 : ∀ l n, (ks .i64 l).drop n = ks .i64 (l.drop n) := fun l n => by simp [ks, List.map_drop]
    have k3 : ∀ a b, ks .i64 a ++ ks .i64 b = ks .i64 (a ++ b) := fun a b => by simp [ks]
    rw [k1, e1, k1, k2, e2, List.take_replicate, Nat.min_eq_left hq1, k3, k3, ← List.append_assoc, List.replicate_append_replicate]
    rfl
   have hcs2 : (ks .i64 (rpL v m c)).take m ++ ((ks .i64 (rpL v m c)).take m).take q ++ (ks .i64 (rpL v m c)).drop (m + q) = ks .i64 (rpL v (m + q) c) := by rw [List.append_assoc]; exact hcs
   simp (maxSteps := 4000000) (disch := omega) only [rq, simprocAttr, hkl, h0, Nat.sub_zero, hmc, hal, ← hq, Nat.mul_one, hcs2, hcs]
   refine ⟨m + q, ⟨by omega, by omega⟩, by omega, ?_⟩
   exact Le.slots (by simp [Am.look])
  ·obtain rfl : m = c := by omega
   have : rpL v m m = List.replicate m v := by simp [rpL]
   rw [this]
   simp (maxSteps := 4000000) (disch := omega) only [rq, simprocAttr]
   exact ⟨0, rfl, rfl⟩
def Qre (t : Nat) (P : Prg) (f : Nat) : Prop := ∀ a b : List Int, 0 < a.length + b.length → a.length + b.length ≤ 1000000 → VO P f [nl a, nl b] (.own 0 (a.length + b.length)) ⟨t, 1, a.length + b.length, ks .i64 (a ++ b), 0⟩
theorem Qgs {P : Prg} {f fC t0 t1 : Nat} (bd : Qk P f 9 [.tmp 4] (X6 fC t1)) (hC : Qgb t0 P fC) : Qre t0 P f := by
 intro a b h0 h1
 refine VO.of_walk (by simp [isDL, QpZ]) (QG _ _) (by simp [okr]) (ACall.of_body bd (by simp) ?_)
 have hC' := hC [a, b] (by simp) (by simpa using h0) (by simpa using h1)
 have e1 : nls [a, b] = .list 2 [nl a, nl b] := rfl
 have e2 : [a, b].flatten = a ++ b := by simp
 rw [e1, e2, List.length_append] at hC'
 have ta := QD .i64 a
 have tb := QD .i64 b
 simp only [nl] at hC' ⊢
 simp (maxSteps := 4000000) (disch := omega) only [rq, simprocAttr, X6]
 refine Qb.vo_still 1 [0] hC' (by simp [QS, QF, frzL, Qu, frzL_T _ ta, frzL_T _ tb]) ?_
 simp (maxSteps := 4000000) (disch := omega) only [rq, simprocAttr, Qm, shr]
 exact ⟨1, rfl, rfl⟩
def okA (r n : Int) : Prop := 1 ≤ r ∧ r ≤ 1048576 ∧ 1 ≤ n ∧ n ≤ 4000 ∧ (Zx (Qf r).toNat n.toNat).length ≤ 1000
def Qrf (t : Nat) (P : Prg) (f : Nat) : Prop := ∀ r n : Int, okA r n → VO P f [.int .i64 r, .int .i64 n] (.tup [.own 0 (Zx (Qf r).toNat n.toNat).length, .int .i64 0]) ⟨t, 1, (Zx (Qf r).toNat n.toNat).length, ks .i64 (Zx (Qf r).toNat n.toNat), 0⟩
theorem QlK {P : Prg} {f fC fL fR fB t0 : Nat} (bd : Qk P f 39 [.tmp 4, .tmp 5] (QaQ fC fL fR fB t0)) (hC : Qb4 P fC) (hL : QaF P fL) (hR : Qf0 t0 P fR) (hB : Qre t0 P fB) : Qrf t0 P f := by
 intro r n ⟨a1, a2, a3, a4, a5⟩
 refine VO.of_walk rfl (QG _ _) (by simp [okr, flat]) (ACall.of_body bd (by simp) ?_)
 have hlong : 1 ≤ Qf r := by unfold Qf; split <;> omega
 obtain ⟨L, hLe⟩ : ∃ L : Nat, Qf r = L := ⟨(Qf r).toNat, by omega⟩
 obtain ⟨m, rfl⟩ : ∃ m : Nat, n = m := ⟨n.toNat, by omega⟩
 rw [hLe, Int.toNat_natCast, Int.toNat_natCast] at a5 ⊢
 rw [XC] at a5
 obtain ⟨q, hq⟩ : ∃ q, q = (m - 1) / L := ⟨_, rfl⟩
 have hql : (Zx L m).length = q + 1 := by rw [XC, hq]
 rw [← hq] at a5
 have hcd : ((m : Int) + (L : Int) - 1) / (L : Int) = ((q + 1 : Nat) : Int) := by
  have h1 : (m : Int) + (L : Int) - 1 = ((m - 1 + L : Nat) : Int) := by omega
  rw [h1, ← Int.natCast_ediv, Nat.add_div_right _ (by omega), ← hq]
 have hk : Qku r m = .tup [.int .i64 ((q + 1 : Nat) : Int), .int .i64 0] := by
  rw [Qku, if_neg (by omega), if_neg (by omega), hLe, hcd, if_neg (by omega)]
 have hC' := hC r m
 rw [hk] at hC'
 have hL' := hL r
 rw [Qdg, if_neg (by omega), hLe] at hL'
 have hR' := hR L q (by omega)
 have hB' := hB (List.replicate q (L : Int)) [(m : Int) - ((q * L : Nat) : Int)] (by simp) (by simp; omega)
 have e1 : List.replicate q (L : Int) ++ [(m : Int) - ((q * L : Nat) : Int)] = Zx L m := by unfold Zx; rw [hq]
 rw [e1] at hB'
 have e2 : (List.replicate q (L : Int)).length + [(m : Int) - ((q * L : Nat) : Int)].length = q + 1 := by simp
 rw [e2] at hB'
 have e3 : nl [(L : Int)] = .list 1 [.int .i64 (L : Int)] := rfl
 have e4 : nl [(m : Int) - ((q * L : Nat) : Int)] = .list 1 [.int .i64 ((m : Int) - ((q * L : Nat) : Int))] := rfl
 rw [e3] at hR'
 rw [e4] at hB'
 have tr := QD .i64 (List.replicate q (L : Int))
 have hqL : (q : Int) * (L : Int) = ((q * L : Nat) : Int) := by simp
 have hle : q * L ≤ m := by
  have := Nat.div_mul_le_self (m - 1) L
  rw [← hq] at this
  omega
 simp only [nl, List.length_replicate] at hB'
 rw [hql]
 generalize ks .i64 (Zx L m) = LL at *
 generalize ks .i64 (List.replicate q (L : Int)) = RR at *
 generalize q * L = w at *
 simp only [Int.natCast_add, Int.cast_ofNat_Int] at hC'
 have hq1 : (q : Int) + 1 - 1 = (q : Int) := by omega
 simp (maxSteps := 4000000) (disch := omega) only [rq, simprocAttr, QaQ]
 refine Qb.vc hC' ?_
 simp (maxSteps := 4000000) (disch := omega) only [rq, simprocAttr]
 refine Qb.vc hL' ?_
 simp (maxSteps := 4000000) (disch := omega) only [rq, simprocAttr, hq1]
 refine Qb.vo_still 1 [0] hR' (by simp [QS, QF, frzL, Qu]) ?_
 simp (maxSteps := 4000000) (disch := omega) only [rq, simprocAttr, Qm, shr, hq1, hqL]
 refine Qb.vo_still 1 [1, 2] hB' (by simp [QS, QF, frzL, Qu, frzL_T _ tr]) ?_
 simp (maxSteps := 4000000) (disch := omega) only [rq, simprocAttr, Qm, shr]
 exact ⟨3, rfl, rfl⟩
def Z0 (Lc : Nat) (l : List Int) (j : Nat) : List Int := (l.drop (j * Lc)).take Lc
def Qf2 (t : Nat) (P : Prg) (f : Nat) : Prop := ∀ (k n : Nat) (x r : Int) (l : List Int), 1 ≤ k → k ≤ 1000 → l.length = n * k → okA r n →
 Qrh P f [.int .i64 k, .int .i64 x, .int .i64 r, il l] [t] (cnt := (Zx (Qf r).toNat n).length) (fun j => il (Z0 ((Qf r).toNat * k) l j.1))
theorem Qca {X : Cx} {a : Act} : ∀ i, Rep X (look [] i) (a.tmps.getD i undef) := fun i => by simp only [look, Rep]
theorem QO {X : Cx} {a : Act} {fr : List (Nat × AV)} {j : Nat} {v : AV} (h : Rep X v (a.tmps.getD j undef)) (g : ∀ i, Rep X (look fr i) (a.tmps.getD i undef)) : ∀ i, Rep X (look ((j, v) :: fr) i) (a.tmps.getD i undef) := fun i => by
 simp only [look]
 split
 ·rename_i e; subst e; exact h
 ·exact g i
theorem QvI {N : Nat} {fr : List (Nat × AV)} {a : Act} {W : World} (hd : a.defers = []) (hz : a.tmps.size = N) (h : ∀ i, Rep ⟨W, [], [], fun _ _ => False⟩ (look fr i) (a.tmps.getD i undef)) : Sim ⟨W.heap.size, ⟨W, [], [], fun _ _ => False⟩, N, []⟩ ⟨fr, []⟩ a W :=
 ⟨hd, hz, Below.refl _ _, [], ⟨rfl, by simp, by simp, by simp, fun _ _ h => h.elim, Nat.le_refl _⟩, Moves.refl _, h⟩
theorem J8 {W W' : World} (h : Below W.heap.size W W') : W.grownBy W' none := ⟨h.os, h.tape, h.output, h.size, fun k hk _ => h.block k hk⟩
theorem QgW {k n L j : Nat} {l : List Int} (hl : l.length = n * k) (hn : 1 ≤ n) (hL : 1 ≤ L) (hj : j < (Zx L n).length) :
  ∃ m : Nat, (Zx L n).getD j 0 = m ∧ m ≤ n ∧ min (j * (L * k)) (n * k) = j * (L * k) ∧ j * (L * k) ≤ n * k ∧ min ((j + 1) * (L * k)) (n * k) = j * (L * k) + m * k ∧ Z0 (L * k) l j = (l.drop (j * (L * k))).take (m * k) ∧ j * (L * k) + m * k ≤ n * k := by
 rw [XC] at hj
 have g0 : (n - 1) / L * L ≤ n - 1 := Nat.div_mul_le_self _ _
 have g2 : n - 1 < (n - 1) / L * L + L := Nat.lt_div_mul_add (by omega)
 have g1 : j * L ≤ (n - 1) / L * L := Nat.mul_le_mul_right _ (by omega)
 have e0 : j * (L * k) = j * L * k := by rw [Nat.mul_assoc]
 have e1 : (j + 1) * (L * k) = (j * L + L) * k := by rw [← Nat.mul_assoc, Nat.add_mul, Nat.one_mul]
 have h3 : j * L * k ≤ n * k := Nat.mul_le_mul_right _ (by omega)
 by_cases hq : j < (n - 1) / L
 ·have g3 : (j + 1) * L ≤ (n - 1) / L * L := Nat.mul_le_mul_right _ (by omega)
  rw [Nat.add_mul, Nat.one_mul] at g3
  have h7 : j * L + L ≤ n := Nat.le_trans g3 (Nat.le_trans g0 (Nat.sub_le _ _))
  have h4 : (j * L + L) * k ≤ n * k := Nat.mul_le_mul_right _ h7
  refine ⟨L, ?_, by omega, by rw [e0]; exact Nat.min_eq_left h3, by rw [e0]; exact h3, by rw [e1, e0, Nat.min_eq_left h4, Nat.add_mul], rfl, by rw [e0, ← Nat.add_mul]; exact h4⟩
  unfold Zx
  rw [List.getD_eq_getElem?_getD, List.getElem?_append_left (by simpa using hq), List.getElem?_replicate, if_pos hq]
  rfl
 ·have hjq : j = (n - 1) / L := by omega
  have h7 : n ≤ j * L + L := by rw [hjq]; generalize (n - 1) / L * L = w at *; omega
  have h8 : n - j * L ≤ L := by omega
  have h4 : n * k ≤ (j * L + L) * k := Nat.mul_le_mul_right _ h7
  have h5 : j * L * k + (n - j * L) * k = n * k := by rw [← Nat.add_mul]; congr 1; omega
  refine ⟨n - j * L, ?_, Nat.sub_le _ _, by rw [e0]; exact Nat.min_eq_left h3, by rw [e0]; exact h3, by rw [e1, e0, Nat.min_eq_right h4, h5], ?_, by rw [e0, h5]; exact Nat.le_refl _⟩
  ·unfold Zx
   rw [List.getD_eq_getElem?_getD, List.getElem?_append_right (by simp; omega)]
   simp only [List.length_replicate, ← hjq, Nat.sub_self, List.getElem?_cons_zero, Option.getD_some]
   omega
  ·unfold Z0
   have h6 : (l.drop (j * (L * k))).length = (n - j * L) * k := by rw [List.length_drop, hl, e0]; omega
   rw [List.take_of_length_le (by rw [h6]; exact Nat.mul_le_mul_right _ h8), List.take_of_length_le (by rw [h6]; exact Nat.le_refl _)]
theorem Qqg {m j : Nat} (h : j < m) : (List.finRange m).take (j + 1) = (List.finRange m).take j ++ [⟨j, h⟩] := by
 rw [List.take_succ_eq_append_getElem (by simpa using h)]
 simp
theorem Qsb (L n : Nat) : 1 ≤ (Zx L n).length := by rw [XC]; exact Nat.le_add_left 1 _
set_option maxHeartbeats 1000000 in
theorem Qmh {P : Prg} {f fA t0 : Nat} (bd : Qk P f 43 [] (XL fA)) (hA : Qrf t0 P fA) : Qf2 t0 P f := by
 intro k n x r l hk1 hk2 hl hok
 obtain ⟨L, hL⟩ : ∃ L, (Qf r).toNat = L := ⟨_, rfl⟩
 have hL1 : 1 ≤ L := by have := ZS r; omega
 obtain ⟨a1, a2, a3, a4, a5⟩ := hok
 have hn1 : 1 ≤ n := by omega
 have hn2 : n ≤ 4000 := by omega
 have hA' := hA r n ⟨a1, a2, a3, a4, a5⟩
 rw [hL, Int.toNat_natCast] at hA' a5
 rw [hL]
 refine ⟨fun j => ZC _, fun w C v1 hv1 hex hG => ?_⟩
 have hv1' := hv1
 simp only [Rep] at hv1
 obtain ⟨b, o, vs, hv1e, hat, hvs⟩ := hv1
 simp only [RepL] at hvs
 obtain ⟨u0, q0, rfl, hu0, u1, q1, rfl, hu1, u2, q2, rfl, hu2, u3, q3, rfl, hu3, rfl⟩ := hvs
 have hu0' := hu0
 have hu3' := hu3
 simp only [Rep] at hu0 hu1 hu2
 rw [il] at hu3
 simp only [Rep] at hu3
 obtain ⟨sa, cap, ws, e3, hcap, hws, hwr⟩ := hu3
 rw [hl] at hcap
 obtain ⟨atN, hatN⟩ : ∃ atN : Nat → Nat, ∀ j, atN j = min (j * (L * k)) (n * k) := ⟨_, fun _ => rfl⟩
 obtain ⟨cnt, hcnt⟩ : ∃ cnt, (Zx L n).length = cnt := ⟨_, rfl⟩
 have hnk : n * k ≤ 4000000 := Nat.mul_le_mul hn2 hk2
 rw [hcnt] at hA' a5 ⊢
 have hcnt1 : 1 ≤ cnt := by rw [← hcnt]; exact Qsb _ _
 have pf : ∀ j, j < cnt → ∃ m : Nat, (Zx L n).getD j 0 = m ∧ m ≤ n ∧ atN j = j * (L * k) ∧ atN (j + 1) = atN j + m * k ∧ Z0 (L * k) l j = (l.drop (atN j)).take (m * k) ∧ atN j + m * k ≤ n * k := fun j hj => by
  obtain ⟨m, h1, h2, h3, h4, h5, h6, h7⟩ := QgW (j := j) hl hn1 hL1 (by rw [hcnt]; exact hj)
  refine ⟨m, h1, h2, by rw [hatN]; exact h3, by rw [hatN, hatN, h3]; exact h5, by rw [hatN, h3]; exact h6, by rw [hatN, h3]; exact h7⟩
 have hun : ∀ {W' : World}, (∀ (b k : Nat) (v : Value), ¬ C b k → w.cell? ⟨b, k, none⟩ = some v → W'.cell? ⟨b, k, none⟩ = some v) → ∀ (c : AV) (v : Value), isD c = true → Rep ⟨w, [], [], C⟩ c v → Rep ⟨W', [], [], fun _ _ => False⟩ c v := fun h c v hd hr =>
  Rep.data (X := ⟨w, [], [], C⟩) (Y := ⟨_, [], [], fun _ _ => False⟩) (fun b k v hc ha => ⟨h b k v (fun h => ha (.inl h)) hc, fun h => by
   rcases h with h | ⟨o, x, c, h1, _⟩
   ·exact h.elim
   ·simp at h1⟩) c v hd hr
 have hlit : ∀ {W' : World}, (∀ (b k : Nat) (v : Value), ¬ C b k → w.cell? ⟨b, k, none⟩ = some v → W'.cell? ⟨b, k, none⟩ = some v) → Rep ⟨W', [], [], fun _ _ => False⟩ (.cell [.int .i64 k, .int .i64 x, .int .i64 r, .lit u3]) v1 := fun {W'} h => by
  have h1 : Rep ⟨w, [], [], C⟩ (.cell [.int .i64 k, .int .i64 x, .int .i64 r, .lit u3]) v1 := by
   simp only [Rep]
   exact ⟨b, o, _, hv1e, hat, by simp only [RepL, Rep]; exact ⟨u0, _, rfl, hu0, u1, _, rfl, hu1, u2, _, rfl, hu2, u3, _, rfl, rfl, rfl⟩⟩
  exact hun h _ _ rfl h1
 refine ⟨fun j => .slice (if cap = atN j.1 then sa else sa.map (·.add (atN j.1 * 1))) (atN (j.1 + 1) - atN j.1) (cap - atN j.1), fun j => ?rep, ?seq⟩
 case rep =>
  obtain ⟨m, h1, h2, h3, h4, h5, h6⟩ := pf j.1 j.2
  have g : Held 0 ⟨w, [], [], fun _ _ => False⟩ := ⟨rfl, by simp, by simp, by simp, fun _ _ h => h.elim, Nat.zero_le _⟩
  have e4 : ((atN (j.1 + 1) : Nat) - (atN j.1 : Nat) : Int).toNat = m * k := by omega
  have e5 : (Z0 (L * k) l j.1).length = m * k := by rw [h5, List.length_take, List.length_drop, hl]; omega
  have hs : Qgf [] 1 (il l) (atN j.1 : Nat) (atN (j.1 + 1) : Nat) = some (il (Z0 (L * k) l j.1)) := by
   simp only [Qgf, il]
   rw [if_pos (by omega), if_pos (by rw [hl]; simp [ks]; omega), e4, e5, h5]
   simp [ks, List.map_take, List.map_drop]
  have hr := Qlz (X := ⟨w, [], [], fun b k => C b k ∧ b < w.heap.size⟩) (B := w.heap.size) ⟨rfl, by simp, by simp, by simp, fun _ _ h => h.2, Nat.le_refl _⟩ (η := fun _ => .any) (ρ := fun _ => undef) (fun _ => by simp only [Rep]) (sz := 1) (n := l.length) (cs := ks .i32 l) (a := sa) (cap := cap) (m := cap) (by
   rw [← e3]
   exact Rep.data (X := ⟨w, [], [], C⟩) (Y := ⟨w, [], [], fun b k => C b k ∧ b < w.heap.size⟩) (fun b k v hc ha => ⟨hc, fun h => ha (by
    rcases h with h | ⟨o, x, c, h1, _⟩
    ·exact .inl h.1
    ·simp at h1)⟩) _ _ (ZC l) hu3') rfl hs (by omega) (.inl (Nat.le_refl _))
  have hr2 := hr.2.2.2
  simp only [Int.toNat_natCast] at hr2
  exact Rep.data (X := ⟨w, [], [], fun b k => C b k ∧ b < w.heap.size⟩) (Y := ⟨w, [], [], C⟩) (fun b k v hc ha => ⟨hc, fun h => ha (by
   rcases h with h | ⟨o, x, c, h1, _⟩
   ·exact .inl ⟨h, World.block_lt_of_cell? w _ hc⟩
   ·simp at h1)⟩) _ _ (ZC _) hr2
 case seq =>
  intro ll J Jx W hW hJ hJx hY hJ0
  have hkw : ∀ (b k : Nat) (v : Value), ¬ C b k → w.cell? ⟨b, k, none⟩ = some v → W.cell? ⟨b, k, none⟩ = some v := fun b k v _ hc => (hW.cell (p := ⟨b, k, none⟩) (World.block_lt_of_cell? w _ hc)).trans hc
  obtain ⟨fn, hf, hnm, hN, hrl, hc'⟩ := bd
  obtain ⟨c, hb, hc⟩ := Option.bind_eq_some_iff.1 hc'
  refine callsIn_of_wp hf hb trivial ?_ rfl
  rw [hN]
  unfold XL at hc
  obtain ⟨c1, r1, rfl, hc1, hr1⟩ := Xe hc
  obtain ⟨c2, r2, rfl, hc2, hr2⟩ := Xe hr1
  obtain ⟨c3, c4, rfl, hc3, hc4⟩ := Xe hr2
  obtain ⟨c5, rfl, hc5⟩ := QfH hc4
  obtain ⟨c6, rfl, hc6⟩ := Qox hc5
  obtain ⟨d1, s1, rfl, hd1, hs1⟩ := Xe hc6
  obtain ⟨d2, s2, rfl, hd2, hs2⟩ := Xe hs1
  obtain ⟨y1, y2, rfl, hy1, hy2⟩ := Qhe hd2
  obtain rfl := Qhd hy1
  obtain rfl := Qoy hy2
  obtain ⟨d3, d9, rfl, hd3, hd9⟩ := Xe hs2
  obtain ⟨d4, rfl, hd4⟩ := QfH hd3
  obtain ⟨d5, s5, rfl, hd5, hs5⟩ := Xe hd4
  obtain ⟨d6, s6, rfl, hd6, hs6⟩ := Xe hs5
  obtain ⟨s7, d8, rfl, hs7, hd8⟩ := Xe hs6
  obtain ⟨d7, dc, rfl, hd7, hdc⟩ := Xe hs7
  obtain ⟨y3, y4, rfl, hy3, hy4⟩ := Qhe hdc
  obtain rfl := QqT hy3
  obtain rfl := Qhd hy4
  obtain ⟨id7, ops, rfl, hm7⟩ := QkC hd7
  obtain ⟨l5, l3, hops, hm5, hm3⟩ := Qnd (q1 := [_, _, _, _, _]) hm7
  obtain ⟨oS, l2, rfl, hoS, hm2⟩ := Qnc hm3
  obtain ⟨oY, l1, rfl, hoY, hm1⟩ := Qnc hm2
  generalize hyv : (Value.func (.yield ll) #[] #[]) = yv at *
  let a0 : Act := { tmps := #[yv] ++ #[v1] ++ Array.replicate (43 - (#[yv] ++ #[v1]).size) undef, defers := [] }
  show Code.wpIn _ _ _ _ _ a0 _
  have z0 : a0.tmps.size = 43 := by simp [a0]
  have t00 : a0.tmps.getD 0 undef = yv := by simp [a0]
  have t01 : a0.tmps.getD 1 undef = v1 := by simp [a0]
  let C0 : Nat → Nat → Prop := fun b k => C b k ∧ b < W.heap.size
  have g0 : Held W.heap.size ⟨W, [ph2], [none], C0⟩ := by
   have g := (Held.empty (B := W.heap.size) (X := ⟨W, [], [], C0⟩) ⟨rfl, by simp, by simp, by simp, fun _ _ h => h.2, Nat.le_refl _⟩ 1 0).1
   exact g
  have hC0 : ∀ c v, isD c = true → Rep ⟨w, [], [], C⟩ c v → Rep ⟨W, [ph2], [none], C0⟩ c v := fun c v hd hr =>
   Rep.data (X := ⟨w, [], [], C⟩) (Y := ⟨W, [ph2], [none], C0⟩) (fun b k v hc ha => ⟨hkw b k v (fun h => ha (.inl h)) hc, fun h => by
    rcases h with h | ⟨o, x, c, h1, h2, _⟩
    ·exact ha (.inl h.1)
    ·rcases o with _ | o <;> simp at h2⟩) c v hd hr
  let Γ0 : Ctx := ⟨W.heap.size, ⟨W, [ph2], [none], C0⟩, 43, []⟩
  have hs0 : Sim Γ0 ⟨[(0, .lit yv), (1, .cell [.int .i64 k, .int .i64 x, .int .i64 r, il l])], [ph2]⟩ a0 W :=
   ⟨rfl, z0, Below.refl _ _, [none], g0, Moves.refl _, QO (by rw [t00]; simp only [Rep]) (QO (by rw [t01]; exact hC0 _ _ (by simp [isD, isDL, ZC]) hv1') Qca)⟩
  have hF0 : Fit P 43 Γ0 := ⟨rfl, fun q cs hq => hC0 _ _ (by simp only [isD]; exact P.gd q cs hq) (hG q cs hq)⟩
  refine wpIn_seq ?_
  have hk0 : ((n * k : Nat) : Int) / (k : Int) = n := by
   rw [Int.natCast_mul, Int.mul_ediv_cancel _ (by omega)]
  have hk3 : ((n * k : Nat) : Int).tdiv (k : Int) = n := by rw [Int.tdiv_eq_ediv_of_nonneg (by omega), hk0]
  refine Qqw (Q := fun _ st' => st'.ob = [⟨t0, 1, cnt, ks .i64 (Zx L n), 0⟩] ∧ look st'.fr 0 = .lit yv ∧ look st'.fr 3 = .own 0 cnt) hF0 hc1 1 (by rfl) t01 ?_ hs0 ?_
  ·simp only [il]
   simp (maxSteps := 4000000) (disch := omega) only [rq, simprocAttr, hl, hk3, hk0]
   refine ⟨shr 0 (.tup [.own 0 cnt, .int .i64 0]), some (0, ⟨t0, 1, cnt, ks .i64 (Zx L n), 0⟩), ?_, ?_⟩
   ·unfold JS
    rw [if_pos rfl]
    exact ⟨ACall.of_vo_at hA' rfl ⟨rfl, rfl⟩, fun o x' e => by cases e; exact ⟨ph2, rfl, by simp [ph2, ph]⟩⟩
   ·simp (maxSteps := 4000000) (disch := omega) only [rq, simprocAttr, shr]
  ·intro st1 a1 W1 ⟨hob1, h10, h13⟩ hs1 t11
   show (Code.seq c2 _).wpIn Fence.wide 4 _ _ a1 W1
   let row : Ob := ⟨t0, 1, cnt, ks .i64 (Zx L n), 0⟩
   have hs1' : Sim Γ0 ⟨[(0, .lit yv), (3, .own 0 cnt)], [row]⟩ a1 W1 := by
    have h : st1 = ⟨st1.fr, [row]⟩ := by rw [← hob1]
    rw [h] at hs1
    exact Le.slots (M := 1) (by simp [h10, h13]) Γ0 a1 W1 rfl hs1
   refine wpIn_seq ?_
   refine Qbj (Q := fun _ st' => st' = ⟨[(5, .int .i64 0), (0, .lit yv), (3, .own 0 cnt)], [row]⟩) hF0 hc2 [(1, v1)] (by simp only [List.mem_singleton]; rintro _ rfl; exact ⟨rfl, t11⟩) (by simp (maxSteps := 4000000) (disch := omega) only [rq, simprocAttr]) hs1' ?_
   rintro _ a2 W2 rfl hs2 t2
   show (Code.seq c3 _).wpIn Fence.wide 4 _ _ a2 W2
   refine wpIn_seq ?_
   refine Qbj (Q := fun _ st' => st' = ⟨[(23, .int .i64 0), (22, .int .i64 cnt), (21, .own 0 cnt), (5, .int .i64 0), (0, .lit yv), (3, .own 0 cnt)], [row]⟩) hF0 hc3 [(1, v1)] (by simp only [List.mem_singleton]; rintro _ rfl; exact ⟨rfl, t2 _ (by simp)⟩) (by simp (maxSteps := 4000000) (disch := omega) only [rq, simprocAttr, row]) hs2 ?_
   rintro _ a3 W3 rfl hs3 t3
   show (Code.block 0 (.loop _)).wpIn Fence.wide 4 _ _ a3 W3
   obtain ⟨f1, f2, f3, be, f4, f5, f6⟩ := hs3
   have f1' : a3.defers = [] := f1
   have f2' : a3.tmps.size = 43 := f2
   obtain ⟨e, he, hoke⟩ := f4.get (o := 0) (x := row) rfl
   have f21 := f6 21
   simp only [look, Nat.reduceEqDiff, if_false, if_true, Rep] at f21
   obtain ⟨⟨rw', hrw, _, _, hown⟩, _⟩ := f21
   have hrw' : row = rw' := by simpa using hrw
   subst hrw'
   have hown' := hown rfl
   have he' : be[0]? = some e := he
   simp only [he'] at hown'
   cases e with
   | none => exact absurd hoke.1 (by simp only [row]; omega)
   | some p =>
   obtain ⟨br, capr⟩ := p
   obtain ⟨cur, ⟨frz, hblk, _⟩, hcs, hnc, _, hcl, hcr, hone⟩ := hoke
   simp only [OwnV] at hown'
   have hblk' : W3.heap[br]? = some (.cells cur t0 frz) := hblk
   obtain ⟨sv, hsv⟩ : ∃ sv, sv = Value.slice (some ⟨br, 0, none⟩) cnt capr := ⟨_, rfl⟩
   have hcr' : ∀ {Y : Cx}, RepL Y (ks .i64 (Zx L n)) (cur.toList.take cnt) := fun {Y} => by
    have h := RepL.flat (Y := Y) (by simp [row, ks, flat]) hcr
    have e : row.cs.length = cnt := by simp [row, ks, hcnt]
    rw [e] at h
    exact h
   have hrowR : ∀ {W' : World}, W'.heap[br]? = some (.cells cur t0 frz) → Rep ⟨W', [], [], fun _ _ => False⟩ (.list cnt (ks .i64 (Zx L n))) sv := fun {W'} h => by
    simp only [Rep]
    refine ⟨_, _, cur.toList.take cnt, hsv, hnc, .inr ⟨br, 0, rfl, fun i v hv => ?_⟩, hcr'⟩
    rw [List.getElem?_take] at hv
    split at hv
    ·have hv2 : cur[i]? = some v := by simpa using hv
     refine ⟨⟨by simp [World.cell?, h, hv2], fun h => ?_⟩, hone v (by
      obtain ⟨h1, h2⟩ := Array.getElem?_eq_some_iff.1 hv2
      rw [← h2]; simp)⟩
     rcases h with h | ⟨o, x, c, h1, _⟩
     ·exact h.elim
     ·simp at h1
    ·cases hv
   have hJ3 : J [] W3 := hJ _ W W3 none hJ0 (J8 f3) (fun r h => by cases h)
   refine wpIn_block ?_
   refine wpIn_loop (fun a W' => ∃ j, j ≤ cnt ∧ a.defers = [] ∧ a.tmps.size = 43 ∧ a.tmps.getD 0 undef = yv ∧ a.tmps.getD 1 undef = v1 ∧ a.tmps.getD 5 undef = .int .i64 (atN j : Nat) ∧ a.tmps.getD 21 undef = sv ∧ a.tmps.getD 22 undef = .int .i64 cnt ∧ a.tmps.getD 23 undef = .int .i64 j ∧
     W'.heap[br]? = some (.cells cur t0 frz) ∧ (∀ (b k : Nat) (v : Value), ¬ C b k → w.cell? ⟨b, k, none⟩ = some v → W'.cell? ⟨b, k, none⟩ = some v) ∧ J ((List.finRange cnt).take j) W')
    (fun a _ => match a.tmps.getD 23 undef with | .int _ z => cnt - z.toNat | _ => 0) ?_ ?_
   ·refine ⟨0, Nat.zero_le _, f1', f2', ?_, t3 (1, v1) (by simp), ?_, by rw [hsv]; exact hown', ?_, ?_, hblk', ?_, hJ3⟩
    ·have h := f6 0
     simpa [look, Rep] using h
    ·have h := f6 5
     have e0 : atN 0 = 0 := by rw [hatN]; simp
     simpa [look, Rep, e0] using h
    ·have h := f6 22
     simpa [look, Rep] using h
    ·have h := f6 23
     simpa [look, Rep] using h
    ·intro b k v hc hv
     have h := hkw b k v hc hv
     exact (f3.cell (p := ⟨b, k, none⟩) (World.block_lt_of_cell? W _ h)).trans h
   intro a Wj ⟨j, hj, i1, i2, i3, i4, i5, i6, i7, i8, i9, i10, i11⟩
   let ΓW : World → Ctx := fun W' => ⟨W'.heap.size, ⟨W', [], [], fun _ _ => False⟩, 43, []⟩
   have hF : ∀ {W' : World}, (∀ (b k : Nat) (v : Value), ¬ C b k → w.cell? ⟨b, k, none⟩ = some v → W'.cell? ⟨b, k, none⟩ = some v) → Fit P 43 (ΓW W') := fun {W'} h => ⟨rfl, fun q cs hq => hun h _ _ (by simp only [isD]; exact P.gd q cs hq) (hG q cs hq)⟩
   have hsA : Sim (ΓW Wj) ⟨[(0, .lit yv), (1, .cell [.int .i64 k, .int .i64 x, .int .i64 r, .lit u3]), (5, .int .i64 (atN j : Nat)), (21, .list cnt (ks .i64 (Zx L n))), (22, .int .i64 cnt), (23, .int .i64 j)], []⟩ a Wj :=
    QvI i1 i2 (QO (by rw [i3]; simp only [Rep]) (QO (by rw [i4]; exact hlit i10) (QO (by rw [i5]; simp only [Rep]) (QO (by rw [i6]; exact hrowR i9) (QO (by rw [i7]; simp only [Rep]) (QO (by rw [i8]; simp only [Rep]) Qca))))))
   have hI : ∀ {qs : List AO} {a : Act}, Qfs 1 qs = true → Qfs 21 qs = true → a.tmps.getD 1 undef = v1 → a.tmps.getD 21 undef = sv → ∀ p ∈ [(1, v1), (21, sv)], Qfs p.1 qs = true ∧ a.tmps.getD p.1 undef = p.2 := fun h1 h2 h3 h4 p hp => by
    simp only [List.mem_cons, List.not_mem_nil, or_false] at hp
    rcases hp with rfl | rfl
    ·exact ⟨h1, h3⟩
    ·exact ⟨h2, h4⟩
   refine wpIn_seq ?_
   refine Qbj (Q := fun _ st' => st' = ⟨[(24, .bool (decide ((j : Int) < cnt))), (0, .lit yv), (1, .cell [.int .i64 k, .int .i64 x, .int .i64 r, .lit u3]), (5, .int .i64 (atN j : Nat)), (21, .list cnt (ks .i64 (Zx L n))), (22, .int .i64 cnt), (23, .int .i64 j)], []⟩) (hF i10) hd1 [(1, v1), (21, sv)] (hI rfl rfl i4 i6) (by simp (maxSteps := 4000000) (disch := omega) only [rq, simprocAttr]) hsA ?_
   rintro _ aB WB rfl hsB tB
   have bW : Below Wj.heap.size Wj WB := hsB.2.2.1
   show (Code.seq (.cond _ .skip (.exit 0)) _).wpIn Fence.wide 4 _ _ aB WB
   have h24 : aB.eval (.tmp 24) = .bool (decide ((j : Int) < cnt)) := by
    obtain ⟨_, _, _, _, _, _, h⟩ := hsB
    have h : Rep _ (.bool _) (aB.tmps.getD 24 undef) := h 24
    simp only [Rep] at h
    exact h
   refine wpIn_seq ?_
   by_cases hjc : j < cnt
   ·have e24 : decide ((j : Int) < cnt) = true := by simp; omega
    rw [e24] at h24 hsB
    obtain ⟨m, p1, p2, p3, p4, p5, p6⟩ := pf j hjc
    have la : (ks .i64 (Zx L n)).drop j = .int .i64 m :: (ks .i64 (Zx L n)).drop (j + 1) := by
     have h := Qfx (K := .i64) (l := Zx L n) (i := j) (by omega)
     rw [p1, ← Qbl] at h
     exact h
    refine wpIn_cond_true h24 (wpIn_skip ?_)
    show (Code.seq (.block 1 (.seq d5 _)) _).wpIn Fence.wide 4 _ _ aB WB
    obtain ⟨mk, hmk⟩ : ∃ mk, m * k = mk := ⟨_, rfl⟩
    rw [hmk] at p4 p5 p6
    have emk : (m : Int) * (k : Int) = mk := by rw [← hmk]; simp
    have e8 : ((atN j : Nat) : Int) + (mk : Int) = ((atN (j + 1) : Nat) : Int) := by omega
    obtain ⟨nk, hnk'⟩ : ∃ nk, n * k = nk := ⟨_, rfl⟩
    rw [hnk'] at p6 hnk hcap hl
    have hm4 : (m : Int) ≤ 4000 := by omega
    refine wpIn_seq (wpIn_block (wpIn_seq ?_))
    refine Qbj (Q := fun _ st' => Le 0 st' ⟨[(7, .int .i64 m), (0, .lit yv), (1, .cell [.int .i64 k, .int .i64 x, .int .i64 r, .lit u3]), (5, .int .i64 (atN j : Nat)), (21, .list cnt (ks .i64 (Zx L n))), (22, .int .i64 cnt), (23, .int .i64 j)], []⟩) (hF i10) hd5 [(1, v1), (21, sv)] (hI rfl rfl (tB (1, v1) (by simp)) (tB (21, sv) (by simp)))
     (by simp (maxSteps := 4000000) (disch := omega) only [rq, simprocAttr, la, Qh]; exact Le.slots (by simp [Am.look])) hsB ?_
    intro st5 a5 W5 hle5 hs5' t5
    have hs5 := hle5 _ _ _ rfl hs5'
    show (Code.seq d6 _).wpIn Fence.wide 4 _ _ a5 W5
    refine wpIn_seq ?_
    refine Qbj (Q := fun _ st' => Le 0 st' ⟨[(8, .int .i64 (atN (j + 1) : Nat)), (0, .lit yv), (1, .cell [.int .i64 k, .int .i64 x, .int .i64 r, .lit u3]), (5, .int .i64 (atN j : Nat)), (21, .list cnt (ks .i64 (Zx L n))), (22, .int .i64 cnt), (23, .int .i64 j)], []⟩) (hF i10) hd6 [(1, v1), (21, sv)] (hI rfl rfl (t5 (1, v1) (by simp)) (t5 (21, sv) (by simp)))
     (by simp (maxSteps := 4000000) (disch := omega) only [rq, simprocAttr, emk, e8]; exact Le.slots (by simp [Am.look])) hs5 ?_
    intro st6 a6 W6 hle6 hs6' t6
    have hs6 := hle6 _ _ _ rfl hs6'
    show (Code.seq (.seq (.region id7 ops false) _) d8).wpIn Fence.wide 4 _ _ a6 W6
    refine wpIn_seq (wpIn_seq (wpIn_region_list ?_))
    rw [hops]
    refine QbJ l5 _ a6 W6 (QC ?_ _ _ _ (Qdh (Q := fun _ st' => Le 0 st' ⟨[(33, .lit yv), (0, .lit yv), (35, .lit u3), (36, .int .i64 (atN j : Nat)), (37, .int .i64 (atN (j + 1) : Nat)), (8, .int .i64 (atN (j + 1) : Nat)), (22, .int .i64 cnt), (23, .int .i64 j)], []⟩) (hF i10) hm5 [(1, v1), (21, sv)] (hI rfl rfl (t6 (1, v1) (by simp)) (t6 (21, sv) (by simp)))
     (by simp (maxSteps := 4000000) (disch := omega) only [rq, simprocAttr]; exact Le.slots (by simp [Am.look])) hs6))
    rintro _ a7 W7 ⟨rfl, st7, hle7, hs7', t7⟩
    have hs7 := hle7 _ _ _ rfl hs7'
    show wpListIn Fence.wide 4 _ _ _ (oS :: oY :: l1) a7 W7
    have W7b : Below Wj.heap.size Wj W7 := hs7.2.2.1
    have hd7 : a7.defers = [] := hs7.1
    have hz7 : a7.tmps.size = 43 := hs7.2.1
    have f7 : ∀ {i : Nat} {v : Value}, Rep ⟨W7, [], [], fun _ _ => False⟩ (.lit v) (a7.tmps.getD i undef) → a7.tmps.getD i undef = v := fun h => by simpa only [Rep] using h
    have f33 : a7.tmps.getD 33 undef = yv := by obtain ⟨_, _, _, _, _, _, h⟩ := hs7; have h : Rep _ (.lit yv) (a7.tmps.getD 33 undef) := h 33; simpa only [Rep] using h
    have f35 : a7.tmps.getD 35 undef = u3 := by obtain ⟨_, _, _, _, _, _, h⟩ := hs7; have h : Rep _ (.lit u3) (a7.tmps.getD 35 undef) := h 35; simpa only [Rep] using h
    have f8 : a7.tmps.getD 8 undef = .int .i64 (atN (j + 1) : Nat) := by obtain ⟨_, _, _, _, _, _, h⟩ := hs7; have h : Rep _ (.int .i64 _) (a7.tmps.getD 8 undef) := h 8; simpa only [Rep] using h
    have f22 : a7.tmps.getD 22 undef = .int .i64 cnt := by obtain ⟨_, _, _, _, _, _, h⟩ := hs7; have h : Rep _ (.int .i64 _) (a7.tmps.getD 22 undef) := h 22; simpa only [Rep] using h
    have f23 : a7.tmps.getD 23 undef = .int .i64 j := by obtain ⟨_, _, _, _, _, _, h⟩ := hs7; have h : Rep _ (.int .i64 _) (a7.tmps.getD 23 undef) := h 23; simpa only [Rep] using h
    obtain ⟨be7, g7, _, hη, _⟩ := hs7.eta (hF i10).2
    obtain ⟨cS, dS, _, gS⟩ := Z2 hoS
    obtain ⟨tS, eS, opS, uS, zS⟩ := QqO (Qhf cS (by intro h; cases h))
    have gS' : oS.guard = none := by
     rcases gS with ⟨h, _⟩ | ⟨_, _, _, _, _, h⟩
     ·exact h
     ·cases h
    have ex : a7.eval (.tmp 35) = .slice sa nk cap := by rw [← hl]; exact f35.trans e3
    have hrun := Qlr (X := ⟨W7, [], be7, fun _ _ => False⟩) g7 hη opS uS zS ex (l := (atN j : Nat)) (h := (atN (j + 1) : Nat)) (by simp [loA, opd, look]) (by simp [hiA, opd, look]) (by omega) (by omega) (by omega)
    simp only [Int.toNat_natCast] at hrun
    unfold wpListIn
    rw [if_pos (by simp [Region.wanted, gS'])]
    unfold Oper.wpIn
    refine ⟨fun _ _ => trivial, ?_⟩
    rw [Qvr, hrun]
    show wpListIn Fence.wide 4 _ _ _ (oY :: l1) (a7.put oS.dst _) W7
    rw [← dS]
    obtain ⟨cY, dY, _, gY⟩ := Z2 hoY
    obtain ⟨cl, opY, calY, argY⟩ := QbV cY
    have gY' : oY.guard = none := by
     rcases gY with ⟨h, _⟩ | ⟨_, _, _, _, _, h⟩
     ·exact h
     ·cases h
    have argY' : cl.args = #[.tmp 38] := Array.ext' argY.symm
    unfold wpListIn
    rw [if_pos (by simp [Region.wanted, gY'])]
    have hJ7 : J ((List.finRange cnt).take j) W7 := hJ _ Wj W7 none i11 (J8 W7b) (fun r h => by cases h)
    have hlen : ((List.finRange cnt).take j).length < cnt := by simp; omega
    obtain ⟨vj, hvj⟩ : ∃ vj : Value, vj = .slice (if cap = atN j then sa else sa.map (·.add (atN j * 1))) (atN (j + 1) - atN j) (cap - atN j) := ⟨_, rfl⟩
    have hY' := hY ((List.finRange cnt).take j) ⟨j, hjc⟩ W7 hJ7 hlen
    simp only at hY'
    rw [← hvj] at hY' ⊢
    have p38 : (a7.put (some 38) vj).tmps.getD 38 undef = vj := by simp [Act.put, hz7]
    have p33 : (a7.put (some 38) vj).tmps.getD 33 undef = .func (.yield ll) #[] #[] := by rw [XB (by simp), f33]; exact hyv.symm
    refine QnG opY calY argY' p33 p38 hY' ?_
    rw [← dY]
    have z8 : ∀ bb : Bool, ((a7.put (some 38) vj).put (some 39) (.bool bb)).tmps.size = 43 := fun bb => by rw [QeQ, QeQ]; exact hz7
    have p39 : ∀ bb : Bool, ((a7.put (some 38) vj).put (some 39) (.bool bb)).tmps.getD 39 undef = .bool bb := fun bb => by simp [Act.put, hz7]
    have pO : ∀ (bb : Bool) (i : Nat), i ≠ 38 → i ≠ 39 → ((a7.put (some 38) vj).put (some 39) (.bool bb)).tmps.getD i undef = a7.tmps.getD i undef := fun bb i h1 h2 => by
     rw [XB (by simpa using fun h => h2 h.symm), XB (by simpa using fun h => h1 h.symm)]
    have d8' : ∀ bb : Bool, ((a7.put (some 38) vj).put (some 39) (.bool bb)).defers = [] := fun bb => by rw [QdM, QdM]; exact hd7
    have hI3 : ∀ {qs : List AO} {a : Act}, Qfs 0 qs = true → Qfs 1 qs = true → Qfs 21 qs = true → a.tmps.getD 0 undef = yv → a.tmps.getD 1 undef = v1 → a.tmps.getD 21 undef = sv → ∀ p ∈ [(0, yv), (1, v1), (21, sv)], Qfs p.1 qs = true ∧ a.tmps.getD p.1 undef = p.2 := fun h1 h2 h3 h4 h5 h6 p hp => by
     simp only [List.mem_cons, List.not_mem_nil, or_false] at hp
     rcases hp with rfl | rfl | rfl
     ·exact ⟨h1, h4⟩
     ·exact ⟨h2, h5⟩
     ·exact ⟨h3, h6⟩
    have f0 : a7.tmps.getD 0 undef = yv := by obtain ⟨_, _, _, _, _, _, h⟩ := hs7; have h : Rep _ (.lit yv) (a7.tmps.getD 0 undef) := h 0; simpa only [Rep] using h
    have q0 : ∀ bb : Bool, _ := fun bb => (pO bb 0 (by omega) (by omega)).trans f0
    have q1 : ∀ bb : Bool, _ := fun bb => (pO bb 1 (by omega) (by omega)).trans (t7 (1, v1) (by simp))
    have q21 : ∀ bb : Bool, _ := fun bb => (pO bb 21 (by omega) (by omega)).trans (t7 (21, sv) (by simp))
    rintro e W8 (⟨rfl, hJ8, hK8⟩ | ⟨rfl, hX8⟩)
    ·refine ⟨true, rfl, ?_⟩
     have hbr7 : W7.heap[br]? = some (.cells cur t0 frz) := (W7b.block br (Array.getElem?_eq_some_iff.1 i9).1).trans i9
     have hbr8 : W8.heap[br]? = some (.cells cur t0 frz) := (hK8.1 br cur t0 frz hbr7 (by simp)).trans hbr7
     have hk8 : ∀ (b k : Nat) (v : Value), ¬ C b k → w.cell? ⟨b, k, none⟩ = some v → W8.cell? ⟨b, k, none⟩ = some v := fun b k v hc hv => by
      have h1 := i10 b k v hc hv
      exact hK8.2 b k v hc ((W7b.cell (p := ⟨b, k, none⟩) (World.block_lt_of_cell? Wj _ h1)).trans h1)
     have hs8 : Sim (ΓW W8) ⟨[(39, .bool true), (8, .int .i64 (atN (j + 1) : Nat)), (22, .int .i64 cnt), (23, .int .i64 j)], []⟩ ((a7.put (some 38) vj).put (some 39) (.bool true)) W8 :=
      QvI (d8' true) (z8 true) (QO (by rw [p39]; simp only [Rep]) (QO (by rw [pO true 8 (by omega) (by omega), f8]; simp only [Rep]) (QO (by rw [pO true 22 (by omega) (by omega), f22]; simp only [Rep]) (QO (by rw [pO true 23 (by omega) (by omega), f23]; simp only [Rep]) Qca))))
     refine QC ?_ _ _ _ (Qdh (Q := fun _ st' => Le 0 st' ⟨[(40, .bool false), (8, .int .i64 (atN (j + 1) : Nat)), (22, .int .i64 cnt), (23, .int .i64 j)], []⟩) (hF hk8) hm1 [(0, yv), (1, v1), (21, sv)] (hI3 rfl rfl rfl (q0 true) (q1 true) (q21 true))
      (by simp (maxSteps := 4000000) (disch := omega) only [rq, simprocAttr, Bool.not_true]; exact Le.slots (by simp [Am.look])) hs8)
     rintro _ a9 W9 ⟨rfl, st9, hle9, hs9', t9⟩
     have hs9 := hle9 _ _ _ rfl hs9'
     show (Code.cond _ .ret .skip).wpIn Fence.wide 4 _ _ a9 W9
     have h40 : a9.eval (.tmp 40) = .bool false := by obtain ⟨_, _, _, _, _, _, h⟩ := hs9; have h : Rep _ (.bool _) (a9.tmps.getD 40 undef) := h 40; simp only [Rep] at h; exact h
     refine wpIn_cond_false h40 (wpIn_skip ?_)
     show d8.wpIn Fence.wide 4 _ _ a9 W9
     refine Qbj (Q := fun _ st' => Le 0 st' ⟨[(5, .int .i64 (atN (j + 1) : Nat)), (22, .int .i64 cnt), (23, .int .i64 j)], []⟩) (hF hk8) hd8 [(0, yv), (1, v1), (21, sv)] (hI3 rfl rfl rfl (t9 (0, yv) (by simp)) (t9 (1, v1) (by simp)) (t9 (21, sv) (by simp)))
      (by simp (maxSteps := 4000000) (disch := omega) only [rq, simprocAttr]; exact Le.slots (by simp [Am.look])) hs9 ?_
     intro stA aA WA hleA hsA' tA
     have hsA2 := hleA _ _ _ rfl hsA'
     show d9.wpIn Fence.wide 4 _ _ aA WA
     refine Qbj (Q := fun _ st' => Le 0 st' ⟨[(5, .int .i64 (atN (j + 1) : Nat)), (22, .int .i64 cnt), (23, .int .i64 ((j + 1 : Nat) : Int))], []⟩) (hF hk8) hd9 [(0, yv), (1, v1), (21, sv)] (hI3 rfl rfl rfl (tA (0, yv) (by simp)) (tA (1, v1) (by simp)) (tA (21, sv) (by simp)))
      (by simp (maxSteps := 4000000) (disch := omega) only [rq, simprocAttr]; exact Le.slots (by simp [Am.look])) hsA2 ?_
     intro stC aC WC hleC hsC' tC
     have hsC := hleC _ _ _ rfl hsC'
     have WCb : Below W8.heap.size W8 WC := hsC.2.2.1
     obtain ⟨h1, h2, _, _, _, _, hC⟩ := hsC
     have c5 : aC.tmps.getD 5 undef = .int .i64 (atN (j + 1) : Nat) := by have h : Rep _ (.int .i64 _) (aC.tmps.getD 5 undef) := hC 5; simpa only [Rep] using h
     have c22 : aC.tmps.getD 22 undef = .int .i64 cnt := by have h : Rep _ (.int .i64 _) (aC.tmps.getD 22 undef) := hC 22; simpa only [Rep] using h
     have c23 : aC.tmps.getD 23 undef = .int .i64 ((j + 1 : Nat) : Int) := by have h : Rep _ (.int .i64 _) (aC.tmps.getD 23 undef) := hC 23; simpa only [Rep] using h
     refine ⟨⟨j + 1, by omega, h1, h2, tC (0, yv) (by simp), tC (1, v1) (by simp), c5, tC (21, sv) (by simp), c22, c23, (WCb.block br (Array.getElem?_eq_some_iff.1 hbr8).1).trans hbr8, fun b k v hc hv => ?_, ?_⟩, ?_⟩
     ·have h := hk8 b k v hc hv
      exact (WCb.cell (p := ⟨b, k, none⟩) (World.block_lt_of_cell? W8 _ h)).trans h
     ·rw [Qqg hjc]
      exact hJ _ W8 WC none hJ8 (J8 WCb) (fun r h => by cases h)
     ·simp only [c23, i8, Int.toNat_natCast]
      omega
    ·refine ⟨false, rfl, ?_⟩
     have hs8 : Sim (ΓW W8) ⟨[(39, .bool false)], []⟩ ((a7.put (some 38) vj).put (some 39) (.bool false)) W8 :=
      QvI (d8' false) (z8 false) (QO (by rw [p39]; simp only [Rep]) Qca)
     let P0 : Prg := ⟨P.prog, [], fun _ _ h => by cases h⟩
     refine QC ?_ _ _ _ (Qdh (P := P0) (N := 43) (Γ := ΓW W8) (Q := fun _ st' => Le 0 st' ⟨[(40, .bool true)], []⟩) ⟨rfl, fun _ _ h => by cases h⟩ hm1 [] (fun p hp => by cases hp)
      (by simp (maxSteps := 4000000) (disch := omega) only [rq, simprocAttr, Bool.not_false]; exact Le.slots (by simp [Am.look])) hs8)
     rintro _ a9 W9 ⟨rfl, st9, hle9, hs9', t9⟩
     have hs9 := hle9 _ _ _ rfl hs9'
     show (Code.cond _ .ret .skip).wpIn Fence.wide 4 _ _ a9 W9
     have h40 : a9.eval (.tmp 40) = .bool true := by obtain ⟨_, _, _, _, _, _, h⟩ := hs9; have h : Rep _ (.bool _) (a9.tmps.getD 40 undef) := h 40; simp only [Rep] at h; exact h
     refine wpIn_cond_true h40 (wpIn_ret ?_)
     have hX9 := hJx _ W8 W9 none hX8 (J8 hs9.2.2.1) (fun r h => by cases h)
     exact ⟨hs9.1, .tuple #[], results_none (Array.ext' hrl) _ _ _, ⟨_, rfl⟩, .inr ⟨_, trivial, hX9⟩⟩
   ·have e24 : decide ((j : Int) < cnt) = false := by simp; omega
    rw [e24] at h24
    refine wpIn_cond_false h24 (wpIn_exit ?_)
    have hjc' : j = cnt := by omega
    rw [hjc', List.take_of_length_le (by simp)] at i11
    have hJB : J (List.finRange cnt) WB := hJ _ Wj WB none i11 (J8 bW) (fun r h => by cases h)
    have hdB : aB.defers = [] := hsB.1
    exact ⟨hdB, .tuple #[], results_none (Array.ext' hrl) _ _ _, ⟨_, rfl⟩, .inl ⟨_, rfl, hJB⟩⟩
def Qf3 (g : Nat) (P : Prg) (f : Nat) : Prop := ∀ (c x r : Int) (l : List Int), VC P f [clA c x r l] (.fn (.func g) [] [.cell [.int .i64 c, .int .i64 x, .int .i64 r, il l]])
theorem Qos {P : Prg} {f g t0 : Nat} (b : Qk P f 4 [.tmp 2] (Qbx g t0)) : Qf3 g P f := by
 intro c x r l
 refine VC.of_walk 1 (by simp [isDL, isD, ZC, clA]) (by simp [isD, isDL, ZC]) (ACall.of_body b (by simp) ?_)
 simp (maxSteps := 4000000) (disch := omega) only [rq, simprocAttr, Qbx, clA, il]
 simp [QS, QF, frzL, Qu, isDL, isD, frzL_T _ (QD .i32 _)]
def QY (c r : Int) (l : List Int) : List (List Int) := (List.range (Zx (Qf r).toNat (l.length / c.toNat)).length).map (Z0 ((Qf r).toNat * c.toNat) l)
theorem Qax {c x r : Int} {l : List Int} (h : ZL c x r l = 0) : ∃ k n : Nat, c = k ∧ 1 ≤ k ∧ k ≤ 1000 ∧ l.length = n * k ∧ okA r n ∧ l.length ≤ 4000 := by
 unfold ZL at h
 split at h
 ·cases h
 rename_i h1
 split at h
 ·cases h
 rename_i h2
 split at h
 ·cases h
 rename_i h3
 have h3' : XV c x r (l.length / c) = 0 := by simpa using h3
 have h2' : (l.length : Int) % c = 0 := by simpa using h2
 obtain ⟨k, rfl⟩ : ∃ k : Nat, c = k := ⟨c.toNat, by omega⟩
 have e1 : (l.length : Int) / (k : Int) = ((l.length / k : Nat) : Int) := by simp
 have e2 : l.length % k = 0 := by exact_mod_cast h2'
 rw [e1] at h3'
 have e3 := Nat.div_add_mod l.length k
 rw [e2, Nat.add_zero, Nat.mul_comm] at e3
 unfold XV at h3'
 split at h3'
 ·cases h3'
 rename_i a1
 split at h3'
 ·cases h3'
 rename_i a2
 split at h3'
 ·cases h3'
 rename_i a3
 split at h3'
 ·cases h3'
 rename_i a4
 obtain ⟨n, hn⟩ : ∃ n, l.length / k = n := ⟨_, rfl⟩
 rw [hn] at e3 a2 a3 a4
 have a5 : QT k x = 0 := by simpa using a1
 have a6 : Qit r n = 0 := by simpa using a4
 rcases Q0 (k : Int) x with h4 | ⟨_, h5, h6, h7⟩
 ·omega
 have hle : n * k ≤ 4000 := by
  have h8 : (n : Int) ≤ 4000 / (k : Int) := by omega
  have h9 := Int.mul_le_of_le_ediv (a := (n : Int)) (b := 4000) (c := (k : Int)) (by omega) h8
  have h10 : ((n * k : Nat) : Int) ≤ 4000 := by rw [Int.natCast_mul]; exact h9
  omega
 have hn4 : n ≤ 4000 := Nat.le_trans (Nat.le_mul_of_pos_right n (by omega)) hle
 refine ⟨k, n, rfl, by omega, by omega, e3.symm, ?_, by omega⟩
 unfold Qit at a6
 split at a6
 ·cases a6
 split at a6
 ·cases a6
 split at a6
 ·cases a6
 rename_i b1 b2 b3
 refine ⟨by omega, by omega, by omega, by omega, ?_⟩
 have hlong : 1 ≤ Qf r := ZS r
 obtain ⟨L, hLe⟩ : ∃ L : Nat, Qf r = L := ⟨(Qf r).toNat, by omega⟩
 rw [hLe, Int.toNat_natCast, Int.toNat_natCast, XC]
 rw [hLe] at b3
 have h1 : (n : Int) + (L : Int) - 1 = ((n - 1 + L : Nat) : Int) := by omega
 rw [h1, ← Int.natCast_ediv, Nat.add_div_right _ (by omega)] at b3
 omega
theorem Qfq (c r : Int) (l : List Int) : (QY c r l).length = (Zx (Qf r).toNat (l.length / c.toNat)).length := by simp [QY]
theorem QcM (c x r : Int) (l : List Int) : ZL c x r l = 0 ∨ ZL c x r l = 8 := by
 unfold ZL; repeat' split
 all_goals simp
theorem QgV (Lc : Nat) (l : List Int) : ∀ m : Nat, ((List.range m).map (Z0 Lc l)).flatten = l.take (m * Lc)
 | 0 => by simp
 | m + 1 => by
  rw [List.range_succ, List.map_append, List.flatten_append, QgV Lc l m, Nat.add_mul, Nat.one_mul, List.take_add]
  simp [Z0]
theorem QdN {c x r : Int} {l : List Int} (h : ZL c x r l = 0) : (QY c r l).flatten = l := by
 obtain ⟨k, n, rfl, h1, h2, h3, ⟨o1, o2, o3, o4, o5⟩, h4⟩ := Qax h
 unfold QY
 rw [QgV, Int.toNat_natCast, h3, Nat.mul_div_cancel _ (by omega), XC, List.take_of_length_le]
 have hL : 1 ≤ (Qf r).toNat := by have := ZS r; omega
 have g2 : n - 1 < (n - 1) / (Qf r).toNat * (Qf r).toNat + (Qf r).toNat := Nat.lt_div_mul_add (by omega)
 rw [h3, ← Nat.mul_assoc, Nat.add_mul, Nat.one_mul]
 refine Nat.mul_le_mul_right _ ?_
 generalize (n - 1) / (Qf r).toNat * (Qf r).toNat = w at *
 omega
theorem Qcb {c x r : Int} {l : List Int} (h : ZL c x r l = 0) : (QY c r l).length ≤ 1000 := by
 obtain ⟨k, n, rfl, h1, h2, h3, ⟨o1, o2, o3, o4, o5⟩, h4⟩ := Qax h
 rw [Qfq, Int.toNat_natCast, h3, Nat.mul_div_cancel _ (by omega)]
 rwa [Int.toNat_natCast] at o5
def QrP (c : Nat) : Nat := (2 * c) % 18446744073709551616 ^^^ (if 9223372036854775808 ≤ c then 4823603603198064275 else 0)
def QeO : Nat → Nat → Nat
 | 0, c => c
 | k + 1, c => QeO k (QrP c)
theorem Qpk (c : Nat) : QrP c < 18446744073709551616 := by
 unfold QrP
 have : (if 9223372036854775808 ≤ c then 4823603603198064275 else 0) < 2 ^ 64 := by split <;> decide
 exact Nat.xor_lt_two_pow (n := 64) (Nat.mod_lt _ (by decide)) this
theorem QhQ : ∀ (k : Nat) {c : Nat}, c < 18446744073709551616 → QeO k c < 18446744073709551616
 | 0, _, h => h
 | k + 1, c, _ => QhQ k (Qpk c)
theorem QjF : ∀ (k c : Nat), QeO (k + 1) c = QrP (QeO k c)
 | 0, _ => rfl
 | k + 1, c => by rw [QeO, QjF k, QeO]
theorem Qtd (c : Nat) (h : c < 18446744073709551616) : (9223372036854775808 ≤ c) ↔ c.testBit 63 = true := by
 constructor
 ·intro h2
  rw [Nat.testBit_eq_decide_div_mod_eq]
  have : c / 2 ^ 63 = 1 := by omega
  rw [this]; rfl
 ·intro h2
  exact Nat.ge_two_pow_of_testBit h2
theorem QrO {x l : Nat} (hx : x < 18446744073709551616) (hl : l < 9223372036854775808) : QrP (x ^^^ l) = QrP x ^^^ 2 * l := by
 have hxl : x ^^^ l < 18446744073709551616 := Nat.xor_lt_two_pow (n := 64) hx (by omega)
 have e1 : (9223372036854775808 ≤ x ^^^ l) ↔ (9223372036854775808 ≤ x) := by
  rw [Qtd _ hxl, Qtd _ hx, Nat.testBit_xor, Nat.testBit_lt_two_pow (show l < 2 ^ 63 from hl), Bool.xor_false]
 have e2 : (2 * (x ^^^ l)) % 18446744073709551616 = (2 * x) % 18446744073709551616 ^^^ 2 * l := by
  apply Nat.eq_of_testBit_eq
  intro i
  rw [show (18446744073709551616 : Nat) = 2 ^ 64 from rfl, Nat.testBit_mod_two_pow, Nat.testBit_xor, Nat.testBit_mod_two_pow]
  rw [show 2 * (x ^^^ l) = 2 ^ 1 * (x ^^^ l) from rfl, show 2 * x = 2 ^ 1 * x from rfl, show 2 * l = 2 ^ 1 * l from rfl, Nat.testBit_two_pow_mul, Nat.testBit_two_pow_mul, Nat.testBit_two_pow_mul, Nat.testBit_xor]
  by_cases h : i < 64
  ·by_cases h1 : 1 ≤ i <;> simp [h, h1]
  ·have h2 : l.testBit (i - 1) = false := Nat.testBit_lt_two_pow (Nat.lt_of_lt_of_le (show l < 2 ^ 63 from hl) (Nat.pow_le_pow_right (by decide) (by omega)))
   simp [h, h2]
 unfold QrP
 rw [e2]
 by_cases h : 9223372036854775808 ≤ x
 ·rw [if_pos h, if_pos (e1.2 h), Nat.xor_assoc, Nat.xor_assoc, Nat.xor_comm (2 * l)]
 ·rw [if_neg h, if_neg (fun h2 => h (e1.1 h2)), Nat.xor_assoc, Nat.xor_assoc, Nat.xor_comm (2 * l)]
theorem Qm1 : ∀ (k : Nat) {x l : Nat}, k ≤ 64 → x < 18446744073709551616 → l < 2 ^ (64 - k) → QeO k (x ^^^ l) = QeO k x ^^^ 2 ^ k * l
 | 0, x, l, _, _, _ => by simp [QeO]
 | k + 1, x, l, hk, hx, hl => by
  have h1 : l < 9223372036854775808 := Nat.lt_of_lt_of_le hl (Nat.pow_le_pow_right (by omega) (by omega : 64 - (k + 1) ≤ 63))
  have h2 : 2 * l < 2 ^ (64 - k) := by
   rw [show 64 - k = (64 - (k + 1)) + 1 by omega, Nat.pow_succ]; omega
  rw [QeO, QrO hx h1, Qm1 k (by omega) (Qpk x) h2, QeO, Nat.pow_succ, Nat.mul_assoc]
def QuT (s b : Nat) : Nat := QeO 8 (s ^^^ b * 72057594037927936)
theorem Qtm {s b : Nat} (hs : s < 18446744073709551616) : s ^^^ b * 72057594037927936 = (s / 72057594037927936 ^^^ b) * 72057594037927936 ^^^ s % 72057594037927936 := by
 have h := Qjj s 56
 rw [show (2 : Nat) ^ 56 = 72057594037927936 from rfl] at h
 have e : (s / 72057594037927936 ^^^ b) * 72057594037927936 = s / 72057594037927936 * 72057594037927936 ^^^ b * 72057594037927936 := by
  apply Nat.eq_of_testBit_eq
  intro i
  rw [Nat.testBit_xor, show (72057594037927936 : Nat) = 2 ^ 56 from rfl, Nat.mul_comm _ (2 ^ 56), Nat.mul_comm _ (2 ^ 56), Nat.mul_comm b, Nat.testBit_two_pow_mul, Nat.testBit_two_pow_mul, Nat.testBit_two_pow_mul, Nat.testBit_xor]
  by_cases h : 56 ≤ i <;> simp [h]
 rw [e, Nat.xor_comm (s / 72057594037927936 * 72057594037927936), Nat.xor_assoc, Nat.mul_comm (s / 72057594037927936), Nat.xor_comm (72057594037927936 * _), ← h, Nat.xor_comm]
theorem QnT {s b : Nat} (hs : s < 18446744073709551616) (hb : b < 256) : QuT s b = s * 256 % 18446744073709551616 ^^^ QeO 8 ((s / 72057594037927936 ^^^ b) * 72057594037927936) := by
 have h0 : (s / 72057594037927936 ^^^ b) < 2 ^ 8 := Nat.xor_lt_two_pow (by omega) hb
 rw [QuT, Qtm hs, Qm1 8 (by omega) (by omega) (by show s % 72057594037927936 < 2 ^ 56; exact Nat.mod_lt _ (by decide)), Nat.xor_comm]
 congr 1
 omega
theorem QtA {s b : Nat} (hs : s < 18446744073709551616) (hb : b < 256) : QuT s b < 18446744073709551616 := QhQ 8 (Nat.xor_lt_two_pow (n := 64) hs (by omega))
def ZZ (s : Nat) (l : List UInt8) : Nat := l.foldl (fun s b => QuT s b.toNat) s
theorem Qpl {s : Nat} {l : List UInt8} {k : Nat} (h : k < l.length) : ZZ s (l.take (k + 1)) = QuT (ZZ s (l.take k)) (l[k]).toNat := by
 rw [List.take_succ_eq_append_getElem h, ZZ, List.foldl_append]; rfl
theorem QhR : ∀ {l : List UInt8} {s : Nat}, s < 18446744073709551616 → ZZ s l < 18446744073709551616
 | [], _, h => h
 | b :: l, s, h => QhR (l := l) (QtA h (UInt8.toNat_lt b))
def Qjf (i : Nat) : List Int := (List.range 256).map fun j => if j < i then ((QeO 8 (j * 72057594037927936) : Nat) : Int) else 0
theorem Xp (i : Nat) : (Qjf i).length = 256 := by simp [Qjf]
theorem QeN {i j : Nat} (h : j < 256) : (Qjf i)[j]'(by rw [Xp]; exact h) = if j < i then ((QeO 8 (j * 72057594037927936) : Nat) : Int) else 0 := by simp [Qjf]
theorem QrE {i : Nat} (h : i < 256) : (Qjf i).set i ((QeO 8 (i * 72057594037927936) : Nat) : Int) = Qjf (i + 1) := by
 refine List.ext_getElem (by simp [Xp]) fun j h1 h2 => ?_
 have hj : j < 256 := by simpa [Xp] using h2
 rw [List.getElem_set, QeN hj]
 split
 ·rename_i e; subst e; rw [QeN hj, if_pos (by omega)]
 ·rename_i e; rw [QeN hj]
  by_cases h3 : j < i
  ·rw [if_pos h3, if_pos (by omega)]
  ·rw [if_neg h3, if_neg (by omega)]
theorem QtE (c : Nat) : Ql true .u64 (c : Int) 1 = some (.int .u64 (((2 * c) % 18446744073709551616 : Nat) : Int)) := by
 have h3 : ¬ ((1 : Int) < 0) := by omega
 simp only [Ql, if_neg h3, if_true]
 have h5 : (min (1 : Int).toNat IntKind.u64.bits) = 1 := rfl
 rw [h5, Xs]
 congr 2
 omega
theorem Qpm (c : Nat) : Ql true .u64 (c : Int) 8 = some (.int .u64 ((c * 256 % 18446744073709551616 : Nat) : Int)) := by
 have h3 : ¬ ((8 : Int) < 0) := by omega
 simp only [Ql, if_neg h3, if_true]
 have h5 : (min (8 : Int).toNat IntKind.u64.bits) = 8 := rfl
 rw [h5, Xs]
 congr 2
def QiV (P : Prg) (f : Nat) : Prop := VC P f [] (.cell (ks .u64 (Qjf 256)))
set_option maxRecDepth 40000 in
theorem Qmd {P : Prg} {f t0 : Nat} (bd : Qk P f 25 [.tmp 0] (QaT t0)) : QiV P f := by
 refine VC.of_walk 1 rfl (by simp [isD, QpY (QD _ _)]) (ACall.of_body bd (by simp) ?_)
 unfold QaT
 simp (maxSteps := 4000000) (disch := omega) only [rq, simprocAttr]
 refine QP.by (ι := Nat) (fun i => ⟨[(5, .int .i64 i), (1, .ref 0 1 0)], [⟨t0, 256, 1, ks .u64 (Qjf i), 0⟩]⟩) (fun i => i ≤ 256) (fun i => 256 - i) 0 (Le.slots (by simp [Am.look])) (by omega) ?_
 intro i hi
 by_cases hlt : i < 256
 ·have s0 : Ql true .u64 (i : Int) 56 = some (.int .u64 ((i * 72057594037927936 : Nat) : Int)) := by
   have := Qro (K := .u64) rfl (c := i) (s := 56) (by decide) (by show i * 2 ^ 56 < 2 ^ 64; omega)
   exact this
  have w0 : IntKind.u64.wrap (i : Int) = i := Qhk (by omega) (by omega)
  simp (maxSteps := 4000000) (disch := omega) only [rq, simprocAttr, s0, w0]
  refine QP.by (ι := Nat) (fun j => ⟨[(11, .int .i64 j), (3, .int .u64 (QeO j (i * 72057594037927936))), (5, .int .i64 i), (2, .int .i64 i), (1, .ref 0 1 0)], [⟨t0, 256, 1, ks .u64 (Qjf i), 0⟩]⟩) (fun j => j ≤ 8) (fun j => 8 - j) 0 (Le.slots (by simp [Am.look, QeO])) (by omega) ?_
  intro j hj
  by_cases hjl : j < 8
  ·have hc := QhQ j (c := i * 72057594037927936) (by omega)
   have hn := QjF j (i * 72057594037927936)
   generalize QeO j (i * 72057594037927936) = c at *
   have a1 := QtE c
   have a2 : Ql false .u64 (c : Int) 63 = some (.int .u64 ((c / 9223372036854775808 : Nat) : Int)) := Qlu (K := .u64) (n := c) (k := 63) (by decide)
   have hm := Nat.mod_lt (2 * c) (show 0 < 18446744073709551616 by decide)
   by_cases h2 : 9223372036854775808 ≤ c
   ·have a3 : IntKind.u64.wrap (BitVec.ofInt IntKind.u64.bits ((2 * c % 18446744073709551616 : Nat) : Int) ^^^ BitVec.ofInt IntKind.u64.bits 4823603603198064275).toNat = ((QeO (j + 1) (i * 72057594037927936) : Nat) : Int) := by
     rw [hn, QrP, if_pos h2]
     exact Qrw (K := .u64) rfl (a := 2 * c % 18446744073709551616) (b := 4823603603198064275) hm (by decide)
    have a4 : c / 9223372036854775808 = 1 := by omega
    rw [a4] at a2
    generalize 2 * c % 18446744073709551616 = d at *
    simp (maxSteps := 4000000) (disch := omega) only [rq, simprocAttr, a1, a2, a3]
    exact ⟨j + 1, by omega, by omega, Le.slots (by simp [Am.look])⟩
   ·have a3 : IntKind.u64.wrap (BitVec.ofInt IntKind.u64.bits ((2 * c % 18446744073709551616 : Nat) : Int) ^^^ BitVec.ofInt IntKind.u64.bits 0).toNat = ((QeO (j + 1) (i * 72057594037927936) : Nat) : Int) := by
     rw [hn, QrP, if_neg h2]
     exact Qrw (K := .u64) rfl (a := 2 * c % 18446744073709551616) (b := 0) hm (by decide)
    have a4 : c / 9223372036854775808 = 0 := by omega
    rw [a4] at a2
    generalize 2 * c % 18446744073709551616 = d at *
    simp (maxSteps := 4000000) (disch := omega) only [rq, simprocAttr, a1, a2, a3]
    exact ⟨j + 1, by omega, by omega, Le.slots (by simp [Am.look])⟩
  ·obtain rfl : j = 8 := by omega
   have e1 := Xp i
   have e2 := Qh .u64 (Qjf i)
   have e3 : (ks .u64 (Qjf i)).take i ++ [.int .u64 (QeO 8 (i * 72057594037927936))] ++ (ks .u64 (Qjf i)).drop (i + 1) = ks .u64 (Qjf (i + 1)) := by
    rw [← QrE hlt, List.set_eq_take_append_cons_drop, if_pos (by rw [Xp]; exact hlt)]; simp [ks, List.map_take, List.map_drop]
   simp (maxSteps := 4000000) (disch := omega) only [rq, simprocAttr, e1, e2, e3]
   exact ⟨i + 1, by omega, by omega, Le.slots (by simp [Am.look])⟩
 ·obtain rfl : i = 256 := by omega
  simp (maxSteps := 4000000) (disch := omega) only [rq, simprocAttr]
  simp [QS, QF, frzL, Qu, frzL_T _ (QD _ _)]
def Qgc (P : Prg) (f : Nat) : Prop := ∀ (s : Nat) (l : List UInt8), s < 18446744073709551616 → l.length ≤ 1000000 → VC P f [.cell (ks .u64 (Qjf 256)), .int .u64 s, bs l] (.int .u64 (ZZ s l : Nat))
set_option maxRecDepth 40000 in
theorem Qks {P : Prg} {f : Nat} (bd : Qk P f 29 [.tmp 6] Qaf) : Qgc P f := by
 intro s l hs hl
 refine VC.of_acall (by simp [isDL, isD, Zi, QG]) rfl (ACall.of_body bd (by simp) ?_)
 have t0 := Qh .u64 (Qjf 256)
 rw [Xp] at t0
 simp (maxSteps := 4000000) (disch := omega) only [rq, simprocAttr, Qaf, bs]
 refine QP.by (ι := Nat) (fun k => ⟨[(11, .int .i64 k), (10, .int .i64 l.length), (9, .list l.length (u8 l)), (0, .cell (ks .u64 (Qjf 256))), (1, .int .u64 (ZZ s (l.take k)))], []⟩) (fun k => k ≤ l.length) (fun k => l.length - k) 0 (Le.slots (by simp [Am.look, ZZ])) (by omega) ?_
 intro k hk
 have hc := QhR (l := l.take k) hs
 by_cases hlt : k < l.length
 ·have e1 := Qeg hlt
  have hn := Qpl (s := s) hlt
  generalize ZZ s (l.take k) = c at *
  have hb := (l[k]).toNat_lt
  rw [QnT hc hb] at hn
  have h0 : (c / 72057594037927936 ^^^ (l[k]).toNat) < 256 := Nat.xor_lt_two_pow (n := 8) (by omega) hb
  have h1 := QhQ 8 (c := (c / 72057594037927936 ^^^ (l[k]).toNat) * 72057594037927936) (by omega)
  have a1 : Ql false .u64 (c : Int) 56 = some (.int .u64 ((c / 72057594037927936 : Nat) : Int)) := Qlu (K := .u64) (n := c) (k := 56) (by decide)
  have a0 := Qpm c
  have a2 : IntKind.u8.wrap ((c / 72057594037927936 : Nat) : Int) = ((c / 72057594037927936 : Nat) : Int) := by rw [QcB]; omega
  have a3 : IntKind.u8.wrap (BitVec.ofInt IntKind.u8.bits ((c / 72057594037927936 : Nat) : Int) ^^^ BitVec.ofInt IntKind.u8.bits ((l[k]).toNat : Int)).toNat = ((c / 72057594037927936 ^^^ (l[k]).toNat : Nat) : Int) :=
   Qrw (K := .u8) rfl (a := c / 72057594037927936) (b := (l[k]).toNat) (by show c / 72057594037927936 < 256; omega) hb
  have hm := Nat.mod_lt (c * 256) (show 0 < 18446744073709551616 by decide)
  have a4 : IntKind.u64.wrap (BitVec.ofInt IntKind.u64.bits ((c * 256 % 18446744073709551616 : Nat) : Int) ^^^ BitVec.ofInt IntKind.u64.bits ((QeO 8 ((c / 72057594037927936 ^^^ (l[k]).toNat) * 72057594037927936) : Nat) : Int)).toNat = ((ZZ s (l.take (k + 1)) : Nat) : Int) := by
   rw [hn]; exact Qrw (K := .u64) rfl hm h1
  generalize c * 256 % 18446744073709551616 = d at *
  generalize c / 72057594037927936 ^^^ (l[k]).toNat = x at *
  have e2 : (ks .u64 (Qjf 256)).drop x = .int .u64 ((QeO 8 (x * 72057594037927936) : Nat) : Int) :: ks .u64 ((Qjf 256).drop (x + 1)) := by
   rw [Qbl, List.drop_eq_getElem_cons (by rw [Xp]; exact h0), Qfw, QeN h0, if_pos h0]
  generalize c / 72057594037927936 = q at *
  simp (maxSteps := 4000000) (disch := omega) only [rq, simprocAttr, e1, a0, a1, a2, a3, a4, e2, t0]
  exact ⟨k + 1, by omega, by omega, Le.slots (by simp [Am.look])⟩
 ·have ek : k = l.length := by omega
  subst ek
  rw [List.take_length]
  simp (maxSteps := 4000000) (disch := omega) only [rq, simprocAttr]
def QmL (P : Prg) (f : Nat) : Prop := ∀ (s : Nat) (l : List UInt8), s < 18446744073709551616 → VC P f [.int .u64 s, bs l] (if 100000 < l.length then .tup [.int .u64 0, .int .i64 4] else .tup [.int .u64 (ZZ s l), .int .i64 0])
theorem Qon {P : Prg} {f fT fB : Nat} (bd : Qk P f 13 [.tmp 4, .tmp 5] (JO fT fB)) (hT : QiV P fT) (hB : Qgc P fB) : QmL P f := by
 intro s l hs
 refine VC.of_acall (by simp [isDL, isD, Zi]) (by split <;> rfl) (ACall.of_body bd (by simp) ?_)
 by_cases hl : 100000 < l.length
 ·rw [if_pos hl]
  simp (maxSteps := 4000000) (disch := omega) only [rq, simprocAttr, JO, bs]
 ·rw [if_neg hl]
  have hB' := hB s l hs (by omega)
  rw [bs] at hB'
  have hT' : VC P fT [] _ := hT
  simp (maxSteps := 4000000) (disch := omega) only [rq, simprocAttr, JO, bs]
  refine Qb.vc hT' ?_
  simp (maxSteps := 4000000) (disch := omega) only [rq, simprocAttr]
  refine Qb.vc hB' ?_
  simp (maxSteps := 4000000) (disch := omega) only [rq, simprocAttr]
def QnB (P : Prg) (f : Nat) : Prop := ∀ (l : List UInt8), VC P f [bs l] (if 100000 < l.length then .tup [.int .u64 0, .int .i64 4] else .tup [.int .u64 (ZZ 0 l), .int .i64 0])
theorem QqA {P : Prg} {f fN : Nat} (bd : Qk P f 8 [.tmp 2, .tmp 3] (QaB fN)) (hN : QmL P fN) : QnB P f := by
 intro l
 refine VC.of_acall (by simp [isDL, isD, Zi]) (by split <;> rfl) (ACall.of_body bd (by simp) ?_)
 have hN' := hN 0 l (by decide)
 rw [bs] at hN'
 by_cases hl : 100000 < l.length
 ·rw [if_pos hl] at hN' ⊢
  simp (maxSteps := 4000000) (disch := omega) only [rq, simprocAttr, QaB, bs]
  refine Qb.vc hN' ?_
  simp (maxSteps := 4000000) (disch := omega) only [rq, simprocAttr]
 ·rw [if_neg hl] at hN' ⊢
  simp (maxSteps := 4000000) (disch := omega) only [rq, simprocAttr, QaB, bs]
  refine Qb.vc hN' ?_
  simp (maxSteps := 4000000) (disch := omega) only [rq, simprocAttr]
def sb8 (x : Nat) : Int := if 127 < x % 256 then ((x % 256 : Nat) : Int) - 256 else ((x % 256 : Nat) : Int)
theorem QuX (x : Nat) : -128 ≤ sb8 x ∧ sb8 x ≤ 127 := by unfold sb8; split <;> omega
def ofK (d k : Nat) : List Int := (List.range 16).map fun i => if i < k then sb8 (d / 2 ^ (8 * i)) else 0
theorem QbQ (d k : Nat) : (ofK d k).length = 16 := by simp [ofK]
theorem QtS {d k : Nat} (h : k < 16) : (ofK d k).set k (sb8 (d / 2 ^ (8 * k))) = ofK d (k + 1) := by
 refine List.ext_getElem (by simp [QbQ]) fun j h1 h2 => ?_
 have hj : j < 16 := by simpa [QbQ] using h2
 rw [List.getElem_set]
 simp only [ofK, List.getElem_map, List.getElem_range]
 split
 ·rename_i e; subst e; rw [if_pos (by omega)]
 ·by_cases h3 : j < k
  ·rw [if_pos h3, if_pos (by omega)]
  ·rw [if_neg h3, if_neg (by omega)]
theorem Qtp (x : Nat) : IntKind.i8.wrap (x : Int) = sb8 x := by
 unfold sb8
 simp only [IntKind.wrap, IntKind.bits, IntKind.signed]
 simp
 split <;> split <;> omega
def Qq7 (P : Prg) (f : Nat) : Prop := ∀ d : Nat, d < 18446744073709551616 → VC P f [.int .u64 d] (.agg (ks .i32 (ofK d 8)))
theorem QtK {P : Prg} {f t0 : Nat} (bd : Qk P f 18 [.cell 2 t0] (Qd0 t0)) (ht : ZP P t0 = some (some 16)) : Qq7 P f := by
 intro d hd
 refine VC.of_acall rfl (by simp [isD, QG]) (ACall.of_body bd (by simp) ?_)
 unfold Qd0
 have z : ([.int .i32 0, .int .i32 0, .int .i32 0, .int .i32 0, .int .i32 0, .int .i32 0, .int .i32 0, .int .i32 0, .int .i32 0, .int .i32 0, .int .i32 0, .int .i32 0, .int .i32 0, .int .i32 0, .int .i32 0, .int .i32 0] : List AV) = ks .i32 (ofK 0 0) := rfl
 have z0 : ks .i32 (ofK 0 0) = ks .i32 (ofK d 0) := rfl
 rw [z]
 have ol := J4 .i32 (ofK 0 0)
 have kl0 : (ks .i32 (ofK 0 0)).length = 16 := rfl
 simp (maxSteps := 4000000) (disch := omega) only [rq, simprocAttr, ol, kl0]
 refine QP.by (ι := Nat) (fun i => ⟨[(5, .int .i64 i), (0, .int .u64 d), (3, .ref 1 1 0), (2, .ref 0 1 0)], [⟨t0, 16, 1, ks .i32 (ofK 0 0), 0⟩, ⟨t0, 16, 1, ks .i32 (ofK d i), 0⟩]⟩) (fun i => i ≤ 8) (fun i => 8 - i) 0 (Le.slots (by simp [Am.look])) (by omega) ?_
 intro i hi
 have kl : (ks .i32 (ofK d i)).length = 16 := by rw [Qh, QbQ]
 by_cases hlt : i < 8
 ·have a1 : Ql false .u64 (d : Int) (8 * (i : Int)) = some (.int .u64 ((d / 2 ^ (8 * i) : Nat) : Int)) := by
   have := Qlu (K := .u64) (n := d) (k := 8 * i) (by show 8 * i ≤ 64; omega)
   simpa using this
  have a2 := Qtp (d / 2 ^ (8 * i))
  have a3 := QuX (d / 2 ^ (8 * i))
  have e3 : (ks .i32 (ofK d i)).take i ++ [.int .i32 (sb8 (d / 2 ^ (8 * i)))] ++ (ks .i32 (ofK d i)).drop (i + 1) = ks .i32 (ofK d (i + 1)) := by
   rw [← QtS (by omega), List.set_eq_take_append_cons_drop, if_pos (by rw [QbQ]; omega)]; simp [ks, List.map_take, List.map_drop]
  generalize d / 2 ^ (8 * i) = q at *
  generalize sb8 q = y at *
  simp (maxSteps := 4000000) (disch := omega) only [rq, simprocAttr, a1, a2, kl, e3]
  exact ⟨i + 1, by omega, by omega, Le.slots (by simp [Am.look])⟩
 ·obtain rfl : i = 8 := by omega
  have o8 := J4 .i32 (ofK d 8)
  have t8 : (ks .i32 (ofK d 8)).take 16 = ks .i32 (ofK d 8) := List.take_of_length_le (by omega)
  simp (maxSteps := 4000000) (disch := omega) only [rq, simprocAttr, kl, kl0, t8, o8, ZG, ht]
  try simp [kl]
theorem Qtb : ∀ p : List UInt8, isTL (u8 p) = true
 | [] => rfl
 | b :: p => by have := Qtb p; simp only [u8, List.map_cons, isTL, isT, Bool.true_and] at this ⊢; exact this
def JU : List Int := List.replicate 16 0
def Qev (p : List UInt8) : AV := if 64 < p.length then .tup [.agg (ks .i32 JU), .int .i64 2] else .tup [.agg (ks .i32 (ofK (ZZ 0 p) 8)), .int .i64 0]
theorem Qsj (p : List UInt8) : isD (Qev p) = true := by unfold Qev; split <;> simp [isD, isDL, QG]
def QfY (P : Prg) (f : Nat) : Prop := ∀ p : List UInt8, VC P f [.str p] (Qev p)
theorem Qpo {P : Prg} {f fS fO t0 : Nat} (bd : Qk P f 22 [.cell 2 t0, .tmp 3] (Qb1 fS fO t0)) (hS : QnB P fS) (hO : Qq7 P fO) (ht : ZP P t0 = some (some 16)) : QfY P f := by
 intro p
 refine VC.of_acall rfl (Qsj p) (ACall.of_body bd (by simp) ?_)
 unfold Qb1
 have z : ([.int .i32 0, .int .i32 0, .int .i32 0, .int .i32 0, .int .i32 0, .int .i32 0, .int .i32 0, .int .i32 0, .int .i32 0, .int .i32 0, .int .i32 0, .int .i32 0, .int .i32 0, .int .i32 0, .int .i32 0, .int .i32 0] : List AV) = ks .i32 JU := rfl
 rw [z]
 have ol := J4 .i32 JU
 have kl0 : (ks .i32 JU).length = 16 := rfl
 have t0' : (ks .i32 JU).take 16 = ks .i32 JU := rfl
 by_cases hp : 64 < p.length
 ·have e9 : Qev p = .tup [.agg (ks .i32 JU), .int .i64 2] := by rw [Qev, if_pos hp]
  simp (maxSteps := 4000000) (disch := omega) only [rq, simprocAttr, ol, kl0, ZG, ht, t0', e9]
  rfl
 ·have e9 : Qev p = .tup [.agg (ks .i32 (ofK (ZZ 0 p) 8)), .int .i64 0] := by rw [Qev, if_neg hp]
  have hS' := hS p
  rw [if_neg (by omega)] at hS'
  have hO' := hO (ZZ 0 p) (QhR (by decide))
  have o8 := J4 .i32 (ofK (ZZ 0 p) 8)
  have kl : (ks .i32 (ofK (ZZ 0 p) 8)).length = 16 := by rw [Qh, QbQ]
  have t8 : (ks .i32 (ofK (ZZ 0 p) 8)).take 16 = ks .i32 (ofK (ZZ 0 p) 8) := List.take_of_length_le (by omega)
  have tp := Qtb p
  rw [bs] at hS'
  simp (maxSteps := 4000000) (disch := omega) only [rq, simprocAttr, ol, kl0]
  refine Qb.flat 1 hS' rfl (by simp [QS, QF, frzL, Qu, frzL_T _ tp]) ?_
  simp (maxSteps := 4000000) (disch := omega) only [rq, simprocAttr]
  refine Qb.vc hO' ?_
  have zl : JU.length = 16 := rfl
  have zd : (ks .i32 JU).drop 16 = [] := rfl
  simp (maxSteps := 4000000) (disch := omega) only [rq, simprocAttr, o8, kl, t8, ZG, ht, e9, zl, zd, List.append_nil]
  try simp [kl]
theorem QtX {L n j : Nat} (hn : 1 ≤ n) (hL : 1 ≤ L) (hj : j < (Zx L n).length) : 1 ≤ (Zx L n).getD j 0 := by
 rw [List.getD_eq_getElem?_getD, List.getElem?_eq_getElem hj, Option.getD_some]
 have hm := List.getElem_mem hj
 unfold Zx at hm
 simp only [List.mem_append, List.mem_replicate, List.mem_singleton] at hm
 unfold Zx
 rcases hm with hm | hm
 ·rw [hm.2]; omega
 ·rw [hm]
  have g0 : (n - 1) / L * L ≤ n - 1 := Nat.div_mul_le_self _ _
  clear hm
  generalize (n - 1) / L * L = w at *
  omega
theorem Quz {c x : Int} {l p : List Int} (h : QbZ c x l = 0) (hs : ∀ v ∈ p, v ∈ l) (hp : 1 ≤ p.length) (hl : p.length ≤ l.length) (hc : (p.length : Int) % c = 0) : QbZ c x p = 0 := by
 unfold QbZ at h ⊢
 split at h
 ·cases h
 rename_i h1
 split at h
 ·rename_i h2; exact absurd h h2
 rename_i h2
 have h2' : QM x l = 0 := by simpa using h2
 have h3 : QM x p = 0 := by
  unfold QM at h2' ⊢
  split at h2'
  ·cases h2'
  rename_i a1
  split at h2'
  ·cases h2'
  rename_i a2
  split at h2'
  ·rename_i a3
   rw [if_neg a1, if_neg (by omega), if_pos (List.all_eq_true.2 fun v hv => List.all_eq_true.1 a3 v (hs v hv))]
  ·cases h2'
 rw [if_neg h1, if_neg (by rw [h3]; simp), if_neg (by omega)]
theorem Qdb {c x r : Int} {l : List Int} (h : ZL c x r l = 0) : ∀ p ∈ QY c r l, QbZ c x p = 0 ∧ p.length ≤ 4000 ∧ 1 ≤ p.length := by
 have ha : QbZ c x l = 0 := by
  have h2 := Qnt (c := c) (x := x) (r := r) (l := l)
  rw [h] at h2
  by_cases h3 : QbZ c x l = 0 ∧ XV c x r (l.length / c) = 0
  ·exact h3.1
  ·rw [if_neg h3] at h2; cases h2
 obtain ⟨k, n, rfl, k1, k2, hlen, ⟨o1, o2, o3, o4, o5⟩, h4⟩ := Qax h
 intro p hp
 unfold QY at hp
 rw [Int.toNat_natCast, hlen, Nat.mul_div_cancel _ (by omega)] at hp
 obtain ⟨j, hj, rfl⟩ := List.mem_map.1 hp
 rw [List.mem_range] at hj
 have hL1 : 1 ≤ (Qf r).toNat := by have := ZS r; omega
 obtain ⟨m, p1, p2, p3, p4, p5, p6, p7⟩ := QgW (j := j) hlen (by omega) hL1 hj
 have hm1 := QtX (n := n) (by omega) hL1 hj
 rw [p1] at hm1
 have hlen2 : (Z0 ((Qf r).toNat * k) l j).length = m * k := by
  rw [p6, List.length_take, List.length_drop, hlen]
  omega
 have hmk : 1 ≤ m * k := Nat.mul_pos (by omega) k1
 have hmn : m * k ≤ n * k := Nat.mul_le_mul_right _ p2
 refine ⟨Quz ha (fun v hv => ?_) (by rw [hlen2]; exact hmk) (by rw [hlen2, hlen]; exact hmn) ?_, by rw [hlen2]; omega, by rw [hlen2]; exact hmk⟩
 ·rw [p6] at hv
  exact List.mem_of_mem_drop (List.mem_of_mem_take hv)
 ·rw [hlen2, Int.natCast_mul, Int.mul_emod_left]
def Qq (c x r : Int) (l : List Int) (t : List Int) : List (List UInt8) := (QY c r l).map (QcT c.toNat x t)
def J6 (c x r : Int) (l : List Int) (p : List UInt8) : AV :=
 if ZL c x r l ≠ 0 then .tup [bss [], .int .i64 8] else if 64 < p.length then .tup [bss [], .int .i64 2] else .tup [bss (Qq c x r l (ofK (ZZ 0 p) 8)), .int .i64 0]
theorem QlN (c x r : Int) (l : List Int) (p : List UInt8) : isD (J6 c x r l p) = true := by unfold J6; split <;> (try split) <;> simp [isD, isDL, QcK]
theorem Qri (d k : Nat) : I32 (ofK d k) := fun x hx => by
 unfold ofK at hx
 obtain ⟨i, _, rfl⟩ := List.mem_map.1 hx
 split
 ·have := QuX (d / 2 ^ (8 * i)); omega
 ·omega
def Qi7 (P : Prg) (f : Nat) : Prop := ∀ (c x r : Int) (l : List Int) (p : List UInt8), I32 l → l.length ≤ 1000000 → VC P f [clA c x r l, .str p] (J6 c x r l p)
set_option maxHeartbeats 1000000 in
theorem Qmi {P : Prg} {f fC fT fP fS fE fA g t0 t1 t2 t3 t4 ti : Nat} (b : Qrm P f 45 [.cell 4 t1, .cell 5 t2] (QaV fC fT fP fS fE t0 t1 t2 t3 t4)) (hC : QbA P fC) (hT : QfY P fT) (hP : Qf3 g P fP) (hI : Qf2 ti P g) (bG : Qk P g 43 [] (XL fA)) (hS : Qdz P fS) (hE : QmO P fE)
  (ht1 : ZP P t1 = some none) (ht2 : ZP P t2 = some none) (h0 : t0 ≠ ti) (h1 : t1 ≠ ti) (h2 : t2 ≠ ti) (h3 : t3 ≠ ti) (h4 : t4 ≠ ti) : Qi7 P f := by
 intro c x r l p hI32 hl
 refine VC.of_walk 2 (by simp [isDL, isD, ZC, clA]) (QlN _ _ _ _ _) (ACall.of_rangeC b (by simp) ?_)
 have hC' := hC c x r l hI32 hl
 rw [il] at hC'
 have tl := QD .i32 l
 have z : ([.int .i32 0, .int .i32 0, .int .i32 0, .int .i32 0, .int .i32 0, .int .i32 0, .int .i32 0, .int .i32 0, .int .i32 0, .int .i32 0, .int .i32 0, .int .i32 0, .int .i32 0, .int .i32 0, .int .i32 0, .int .i32 0] : List AV) = ks .i32 JU := rfl
 unfold QaV
 rw [z]
 have ol := J4 .i32 JU
 have kl0 : (ks .i32 JU).length = 16 := rfl
 rcases QcM c x r l with h | h
 ·rw [h] at hC'
  have hT' := hT p
  simp (maxSteps := 4000000) (disch := omega) only [rq, simprocAttr, clA, il, Qb8, QdE, Qa2, Qg2, Qfz, Qta]
  refine Qb.vc hC' ?_
  simp (maxSteps := 4000000) (disch := omega) only [rq, simprocAttr, Qa2, Qg2, Qb8, QdE]
  refine Qb.vc hT' ?_
  by_cases hp : 64 < p.length
  ·have e9 : J6 c x r l p = .tup [bss [], .int .i64 2] := by rw [J6, if_neg (by omega), if_pos hp]
   have e8 : Qev p = .tup [.agg (ks .i32 JU), .int .i64 2] := by rw [Qev, if_pos hp]
   have t0' : (ks .i32 JU).take 16 = ks .i32 JU := rfl
   have zl : JU.length = 16 := rfl
   have zd : (ks .i32 JU).drop 16 = [] := rfl
   rw [e8]
   simp (maxSteps := 4000000) (disch := omega) only [rq, simprocAttr, Qa2, Qg2, Qb8, QdE, ol, kl0, t0', zl, zd, List.append_nil, e9, ZG, ht1, ht2]
   simp [QS, QF, frzL, Qu, isDL, isD, bss]
  ·have e9 : J6 c x r l p = .tup [bss (Qq c x r l (ofK (ZZ 0 p) 8)), .int .i64 0] := by rw [J6, if_neg (by omega), if_neg hp]
   have e8 : Qev p = .tup [.agg (ks .i32 (ofK (ZZ 0 p) 8)), .int .i64 0] := by rw [Qev, if_neg hp]
   obtain ⟨T, hTe⟩ : ∃ T, ofK (ZZ 0 p) 8 = T := ⟨_, rfl⟩
   have hTl : T.length = 16 := by rw [← hTe, QbQ]
   have hTI : I32 T := by rw [← hTe]; exact Qri _ _
   have oT := J4 .i32 T
   have kT : (ks .i32 T).length = 16 := by rw [Qh, hTl]
   have tT : (ks .i32 T).take 16 = ks .i32 T := List.take_of_length_le (by omega)
   have zl : JU.length = 16 := rfl
   have zd : (ks .i32 JU).drop 16 = [] := rfl
   rw [hTe] at e8 e9
   have hparts := Qdb h
   obtain ⟨k, n, rfl, k1, k2, hlen, hok, h4'⟩ := Qax h
   have hP' := hP k x r l
   have hI' := hI k n x r l k1 k2 hlen hok
   rw [clA] at hP'
   rw [il] at hP' hI'
   have hS' := hS k x r l
   rw [shA, il] at hS'
   rw [e8]
   simp (maxSteps := 4000000) (disch := omega) only [rq, simprocAttr, Qa2, Qg2, Qb8, QdE, ol, kl0, oT, kT, zl, zd, List.append_nil]
   refine Qb.vc hP' ?_
   simp (maxSteps := 4000000) (disch := omega) only [rq, simprocAttr, Qfz]
   obtain ⟨Lc, hLc⟩ : ∃ Lc, (Qf r).toNat * k = Lc := ⟨_, rfl⟩
   rw [hLc] at hI'
   have hcnt : (Zx (Qf r).toNat n).length ≤ 1000 := by have := hok.2.2.2.2; rwa [Int.toNat_natCast] at this
   obtain ⟨cnt, hcn⟩ : ∃ cnt, (Zx (Qf r).toNat n).length = cnt := ⟨_, rfl⟩
   have hpo : QY k r l = (List.finRange cnt).map (fun j => Z0 Lc l j.1) := by
    unfold QY
    rw [Int.toNat_natCast, hlen, Nat.mul_div_cancel _ (by omega), hcn, hLc]
    apply List.ext_getElem <;> simp
   rw [hcn] at hI' hcnt
   refine ⟨cnt, g, _, [ti], _, [(27, .fn (.func g) [] [.cell [.int .i64 k, .int .i64 x, .int .i64 r, .list l.length (ks .i32 l)]]), (2, .ref 0 1 0), (4, .ref 1 1 0), (5, .ref 2 1 0), (7, .ref 3 1 0), (9, .ref 4 1 0)],
    fun pre => [⟨t0, 4, 1, [.int .i64 k, .int .i64 x, .int .i64 r, .list l.length (ks .i32 l)], 0⟩, ⟨t1, 1, 1, [.list 0 []], 0⟩, ⟨t2, 1, 1, [.int .i64 0], 0⟩, ⟨t3, 16, 1, ks .i32 T, 0⟩, ⟨t1, 1, 1, [.own 5 pre.length], 0⟩, ⟨t4, 1, pre.length, pre.map (fun j => bs (QcT k x T (Z0 Lc l j.1))), 0⟩], ?_, rfl, bG.ent, by simp [isDL, isD, QG], hI', by omega, by omega, rfl, ?_, ?_, ?_⟩
   ·refine Le.trans (Le.virtF (p := 4) (ty := t4) (sz := 1) (by omega) rfl rfl) (Le.drop 6 2 (by omega) rfl (by simp [Am.look, QF, frzL, Qu, frzL_T _ tl]) ?_)
    intro i z hz
    match i, hz with
    | 0, hz => cases hz; exact ⟨_, rfl, by simp [QF, frzL, Qu, frzL_T _ tl]⟩
    | 1, hz => cases hz; exact ⟨_, rfl, by simp [QF, frzL, Qu]⟩
    | 2, hz => cases hz; exact ⟨_, rfl, by simp [QF, frzL, Qu]⟩
    | 3, hz => cases hz; exact ⟨_, rfl, by simp [QF, frzL_T _ (QD .i32 T)]⟩
    | 4, hz => cases hz; exact ⟨_, rfl, by simp [QF, frzL, Qu]⟩
    | 5, hz => cases hz; exact ⟨_, rfl, by simp [QF, frzL, Qu]⟩
    | i + 6, hz => simp at hz
   ·intro pre x hx
    simp only [List.mem_cons, List.not_mem_nil, or_false] at hx ⊢
    rcases hx with rfl | rfl | rfl | rfl | rfl | rfl
    ·exact h0
    ·exact h1
    ·exact h2
    ·exact h3
    ·exact h1
    ·exact h4
   ·intro pre y hpl
    have hmem : Z0 Lc l y.1 ∈ QY k r l := by rw [hpo]; exact List.mem_map.2 ⟨y, List.mem_finRange _, rfl⟩
    obtain ⟨q1, q2, q3⟩ := hparts _ hmem
    have hqI : I32 (Z0 Lc l y.1) := fun v hv => hI32 v (by
     unfold Z0 at hv
     exact List.mem_of_mem_drop (List.mem_of_mem_take hv))
    have hE' := hE k x T (Z0 Lc l y.1) hTl hTI hqI
    rw [QuH, if_neg (by omega), Int.toNat_natCast] at hE'
    obtain ⟨w1, w2⟩ := Qkj (t := T) hqI q1
    rw [Int.toNat_natCast] at w1 w2
    have hpm : (pre.map (fun j => bs (QcT k x T (Z0 Lc l j.1)))).length = pre.length := by simp
    obtain ⟨Y, hYe⟩ : ∃ Y, QcT k x T (Z0 Lc l y.1) = Y := ⟨_, rfl⟩
    rw [hYe] at hE' w1 w2
    obtain ⟨Z, hZ⟩ : ∃ Z, Z0 Lc l y.1 = Z := ⟨_, rfl⟩
    rw [hZ] at hE' hqI q1 q2 q3 hYe ⊢
    rw [shA, il, bs] at hE'
    have tZ := QD .i32 Z
    have tT2 := QD .i32 T
    rw [il]
    simp (maxSteps := 4000000) (disch := omega) only [rq, simprocAttr, tT, kT]
    refine Q2.vc hS' ?_
    simp (maxSteps := 4000000) (disch := omega) only [rq, simprocAttr, tT, kT]
    refine Q2.vc hE' ?_
    simp (maxSteps := 4000000) (disch := omega) only [rq, simprocAttr, hpm]
    refine Le.drop 6 2 (by omega) rfl (by simp) ?_
    intro i z hz
    match i, hz with
    | 0, hz => cases hz; exact ⟨_, rfl, by simp [QF, frzL, Qu, frzL_T _ tl]⟩
    | 1, hz => cases hz; exact ⟨_, rfl, by simp [QF, frzL, Qu]⟩
    | 2, hz => cases hz; exact ⟨_, rfl, by simp [QF, frzL, Qu]⟩
    | 3, hz => cases hz; exact ⟨_, rfl, by simp [QF, frzL_T _ tT2]⟩
    | 4, hz => cases hz; exact ⟨_, rfl, by simp [QF, frzL, Qu]⟩
    | 5, hz =>
     cases hz
     have e : (pre ++ [y]).map (fun j => bs (QcT k x T (Z0 Lc l j.1))) = pre.map (fun j => bs (QcT k x T (Z0 Lc l j.1))) ++ [.list Y.length (u8 Y)] := by
      simp only [List.map_append, List.map_cons, List.map_nil, hZ, hYe]
      rfl
     rw [e]
     refine ⟨_, rfl, frzL_T _ ?_⟩
     rw [← e]
     have := Zy ((pre ++ [y]).map (fun j => QcT k x T (Z0 Lc l j.1)))
     rwa [List.map_map] at this
    | i + 6, hz => simp at hz
   ·have hfl : (List.finRange cnt).length = cnt := by simp
    have hpi : (List.finRange cnt).map (fun j => bs (QcT k x T (Z0 Lc l j.1))) = (Qq k x r l T).map bs := by
     unfold Qq
     rw [hpo, List.map_map, List.map_map, Int.toNat_natCast]
     rfl
    dsimp only
    rw [hpi, hfl, e9]
    have hpl : (Qq k x r l T).length = cnt := by unfold Qq; rw [hpo]; simp
    have tp := Zy (Qq k x r l T)
    generalize hPP : (Qq k x r l T).map bs = PP at *
    simp (maxSteps := 4000000) (disch := omega) only [rq, simprocAttr, ZG, ht1, ht2]
    simp [QS, QF, frzL, Qu, isDL, isD, bss, hpl, hPP, frzL_T _ tp]
 ·rw [h] at hC'
  have e9 : J6 c x r l p = .tup [bss [], .int .i64 8] := by rw [J6, if_pos (by omega)]
  simp (maxSteps := 4000000) (disch := omega) only [rq, simprocAttr, clA, il, Qb8, QdE, Qa2, Qg2, Qfz, Qta]
  refine Qb.vc hC' ?_
  simp (maxSteps := 4000000) (disch := omega) only [rq, simprocAttr, Qa2, Qg2, Qb8, QdE, e9, ZG, ht1, ht2]
  simp [QS, QF, frzL, Qu, isDL, isD, bss]
theorem Qeo {L : List (List UInt8)} {k : Nat} (h : k < L.length) : (L.map bs).drop k = bs (L.getD k []) :: (L.map bs).drop (k + 1) := by
 rw [List.drop_eq_getElem_cons (by simpa using h)]
 simp [List.getD_eq_getElem?_getD, List.getElem?_eq_getElem h]
theorem Qub {c x r n : Int} (h : XV c x r n = 0) : okA r n ∧ QT c x = 0 ∧ 1 ≤ n ∧ n ≤ 4000 / c := by
 unfold XV at h
 split at h
 ·cases h
 rename_i a1
 split at h
 ·cases h
 rename_i a2
 split at h
 ·cases h
 rename_i a3
 split at h
 ·cases h
 rename_i a4
 have a5 : QT c x = 0 := by simpa using a1
 have a6 : Qit r n = 0 := by simpa using a4
 refine ⟨?_, a5, by omega, by omega⟩
 unfold Qit at a6
 split at a6
 ·cases a6
 split at a6
 ·cases a6
 split at a6
 ·cases a6
 rename_i b1 b2 b3
 refine ⟨by omega, by omega, by omega, by omega, ?_⟩
 have hlong : 1 ≤ Qf r := ZS r
 obtain ⟨L, hLe⟩ : ∃ L : Nat, Qf r = L := ⟨(Qf r).toNat, by omega⟩
 obtain ⟨m, rfl⟩ : ∃ m : Nat, n = m := ⟨n.toNat, by omega⟩
 rw [hLe, Int.toNat_natCast, Int.toNat_natCast, XC]
 rw [hLe] at b3
 have h1 : (m : Int) + (L : Int) - 1 = ((m - 1 + L : Nat) : Int) := by omega
 rw [h1, ← Int.natCast_ediv, Nat.add_div_right _ (by omega)] at b3
 omega
theorem RepL.split {X : Cx} : ∀ {cs bs : List AV} {vs : List Value}, RepL X (cs ++ bs) vs → ∃ us ws, vs = us ++ ws ∧ RepL X cs us ∧ RepL X bs ws
 | [], bs, vs, h => ⟨[], vs, rfl, by simp [RepL], h⟩
 | a :: cs, bs, vs, h => by
  simp only [List.cons_append, RepL] at h
  obtain ⟨v, rest, rfl, h1, h2⟩ := h
  obtain ⟨us, ws, rfl, h3, h4⟩ := RepL.split h2
  exact ⟨v :: us, ws, rfl, by simp only [RepL]; exact ⟨v, us, rfl, h1, h3⟩, h4⟩
def ph3 : Ob := ⟨1, 1, 0, [], 0⟩
theorem Held.fill {B : Nat} {w : World} {ob : List Ob} {be : List (Option (Nat × Nat))} {C : Nat → Nat → Prop} {o : Nat} (g : Held B ⟨w, ob, be, C⟩) (ho : ob[o]? = some ph2) :
  Held B ⟨w, ob.set o ph3, be.set o none, C⟩ ∧ Moves ⟨w, ob, be, C⟩ ⟨w, ob.set o ph3, be.set o none, C⟩ := by
 have hol : o < ob.length := (List.getElem?_eq_some_iff.1 ho).1
 have hlen : be.length = ob.length := g.len
 have hav : ∀ b k, (Cx.mk w (ob.set o ph3) (be.set o none) C).av b k → (Cx.mk w ob be C).av b k := by
  rintro b k (h | ⟨o', x, c, h1, h2, h3⟩)
  ·exact .inl h
  ·simp only [List.getElem?_set] at h1 h2
   by_cases e : o = o'
   ·subst e; simp [hlen, hol] at h2
   ·simp [e] at h1 h2
    exact .inr ⟨o', x, c, h1, h2, h3⟩
 have m : Moves ⟨w, ob, be, C⟩ ⟨w, ob.set o ph3, be.set o none, C⟩ := by
  refine ⟨fun b k v hc ha => ⟨hc, fun h => ha (hav b k h)⟩, fun o' x hx => ?_, fun b hb hf => ⟨rfl, fun o' c h => ?_⟩⟩
  ·by_cases e : o = o'
   ·subst e
    have hx' : ob[o]? = some x := hx
    rw [ho] at hx'; cases hx'
    exact ⟨ph3, by simp [hol], Nat.le_refl _, fun h => absurd rfl h⟩
   ·exact ⟨x, by simp only [List.getElem?_set, e, if_false]; exact hx, Nat.le_refl _, fun h => ⟨h, fun _ => by simp only [List.getElem?_set, e, if_false]⟩⟩
  ·simp only [List.getElem?_set] at h
   by_cases e : o = o'
   ·subst e; simp [hlen, hol] at h
   ·simp [e] at h; exact hf o' c h
 refine ⟨⟨by simp [hlen], fun o' x e' hx he => ?_, fun o1 o2 b c c' q1 q2 => ?_, fun o1 b c q => ?_, g.bnd, g.size⟩, m⟩
 ·simp only [List.getElem?_set] at hx he
  by_cases e : o = o'
  ·subst e
   simp [hlen, hol] at hx he
   subst hx; subst he
   exact ⟨rfl, rfl⟩
  ·simp [e] at hx he
   exact (g.ok o' x e' hx he).move m fun _ _ _ => rfl
 ·simp only [List.getElem?_set] at q1 q2
  by_cases e : o = o1
  ·subst e; simp [hlen, hol] at q1
  ·by_cases e2 : o = o2
   ·subst e2; simp [hlen, hol] at q2
   ·simp [e] at q1; simp [e2] at q2
    exact g.inj o1 o2 b c c' q1 q2
 ·simp only [List.getElem?_set] at q
  by_cases e : o = o1
  ·subst e; simp [hlen, hol] at q
  ·simp [e] at q; exact g.base o1 b c q
theorem ACall.fill {P : Prg} {f : FuncId} {avs : List AV} {r : AV} {ob : List Ob} {o : Nat} (ho : ob[o]? = some ph2) (h : ACall P f avs ob (fun r' ob' => r' = r ∧ ob' = ob)) : ACall P f avs ob (fun r' ob' => r' = r ∧ ob' = ob.set o ph3) := by
 obtain ⟨hE, h⟩ := h
 refine ⟨hE, fun B w be C vs g hG hr => (h B w be C vs g hG hr).mono ?_⟩
 rintro e w' ⟨v, r', ob', be', rfl, hb, hh, hm, hv, rfl, rfl⟩
 obtain ⟨g1, m1⟩ := hh.fill ho
 exact ⟨v, r', _, _, rfl, hb, g1, hm.trans m1, Rep.move m1 _ _ hv, rfl, rfl⟩
theorem Q2.own {P : Prg} {B : Nat} {Q : Exit → St → Prop} {f : FuncId} {avs : List AV} {r : AV} {ob : List Ob} (o : Nat) (he : Qb6 P f) (h : ∀ ob', ob'[o]? = some ph2 → ACall P f avs ob' (fun r' ob'' => r' = r ∧ ob'' = ob')) (ho : ob[o]? = some ph2)
  {xs : List It} {fr : List (Nat × AV)} {dst : Option Nat} (hK : Qaj P B xs Q ⟨Zn fr dst r, ob.set o ph3⟩) : Q2 P B false 0 f avs xs Q fr ob dst := by
 refine Q2.at (r := r) o ph3 he (fun ob' h' => ACall.fill h' (h ob' h')) ho (by decide) ?_
 simp only [app, if_pos (List.getElem?_eq_some_iff.1 ho).1]
 exact hK
def Qwg (L : List (List UInt8)) : Prop := L.length ≤ 1000000 ∧ ∀ j, (L.getD j []).length ≤ 1000000
def Qgd (P : Prg) (f : Nat) : Prop := VC P f [] (.bool true)
theorem Qp7 {c x r : Int} {l : List Int} {p : List UInt8} (h : ZL c x r l = 0) (hp : ¬ 64 < p.length) : J6 c x r l p = .tup [bss (Qq c x r l (ofK (ZZ 0 p) 8)), .int .i64 0] := by rw [J6, if_neg (by omega), if_neg hp]
theorem Qav (c x r : Int) (l T : List Int) : (Qq c x r l T).length = (QY c r l).length := by unfold Qq; simp
theorem callE.vo {P : Prg} {B k : Nat} {Q : Exit → St → Prop} {f : FuncId} {ds : List AV} {r : AV} {x : Ob} (h : VO P f ds r x) {ob : List Ob} (o : Nat) (ho : ob[o]? = some ph2) {xs : List It} {fr : List (Nat × AV)} {dst : Option Nat} (hK : Qaj P B xs Q ⟨Zn fr dst (shr o r), ob.set o x⟩) : Q2 P B true k f ds xs Q fr ob dst := by
 have hl : o < ob.length := (List.getElem?_eq_some_iff.1 ho).1
 have ha : app ob (some (o, x)) = ob.set o x := by simp [app, hl]
 refine ⟨shr o r, some (o, x), ?_, by rw [ha]; exact hK⟩
 unfold JS
 rw [if_pos rfl]
 refine ⟨ACall.of_vo_at h ho ⟨rfl, by rw [ha]⟩, fun o' y e => ?_⟩
 cases e
 exact ⟨ph2, ho, by simp [ph2, ph]⟩
theorem Qot {c x r : Int} {l : List Int} (h : ZL c x r l = 0) : QbZ c x l = 0 ∧ XV c x r (l.length / c) = 0 := by
 have h' := Qnt (c := c) (x := x) (r := r) (l := l)
 rw [h] at h'
 by_cases h9 : QbZ c x l = 0 ∧ XV c x r (l.length / c) = 0
 ·exact h9
 ·rw [if_neg h9] at h'; cases h'
theorem Qr4 {c x r : Int} {l : List Int} (h : ZL c x r l = 0) (hI : I32 l) (j : Nat) : I32 ((QY c r l).getD j []) := fun v hv => by
 rcases Nat.lt_or_ge j (QY c r l).length with hj | hj
 ·refine hI v ?_
  rw [← QdN h]
  refine List.mem_flatten.2 ⟨_, ?_, hv⟩
  rw [List.getD_eq_getElem?_getD, List.getElem?_eq_getElem hj]
  exact List.getElem_mem _
 ·rw [List.getD_eq_getElem?_getD, List.getElem?_eq_none hj] at hv
  simp at hv
theorem Qp9 {c x r : Int} {l T : List Int} {j : Nat} (hj : j < (QY c r l).length) : (Qq c x r l T).getD j [] = QcT c.toNat x T ((QY c r l).getD j []) := by
 unfold Qq
 rw [List.getD_eq_getElem?_getD, List.getD_eq_getElem?_getD, List.getElem?_map, List.getElem?_eq_getElem hj]
 rfl
theorem Qp8 {c x r : Int} {l T : List Int} (h : ZL c x r l = 0) (hI : I32 l) : Qwg (Qq c x r l T) := by
 have h1 := Qav c x r l T
 have h2 := Qcb h
 refine ⟨by omega, fun j => ?_⟩
 rcases Nat.lt_or_ge j (QY c r l).length with hj | hj
 ·rw [Qp9 hj]
  have hmem : (QY c r l).getD j [] ∈ QY c r l := by rw [List.getD_eq_getElem?_getD, List.getElem?_eq_getElem hj]; exact List.getElem_mem _
  have := (Qkj (t := T) (Qr4 h hI j) (Qdb h _ hmem).1).1
  omega
 ·rw [List.getD_eq_getElem?_getD, List.getElem?_eq_none (by omega)]; exact Nat.zero_le _
theorem QjS {c x r : Int} {l : List Int} (h : ZL c x r l = 0) (hI : I32 l) : ∀ q ∈ QY c r l, I32 q := fun q hq v hv => hI v (by rw [← QdN h]; exact List.mem_flatten.2 ⟨q, hq, hv⟩)
def QmR (P : Prg) (f : Nat) : Prop := ∀ p : List UInt8, VC P f [.str p] (if 64 < p.length then .tup [.int .u64 0, .int .i64 2] else .tup [.int .u64 (ZZ 0 p), .int .i64 0])
theorem Qqy {P : Prg} {f fS : Nat} (bd : Qk P f 16 [.tmp 2, .tmp 3] (QaA fS)) (hS : QnB P fS) : QmR P f := by
 intro p
 refine VC.of_acall rfl (by split <;> rfl) (ACall.of_body bd (by simp) ?_)
 by_cases h : 64 < p.length
 ·rw [if_pos h]
  simp (maxSteps := 4000000) (disch := omega) only [rq, simprocAttr, QaA]
 ·have hS' := hS p
  rw [if_neg (by omega)] at hS'
  rw [if_neg h]
  rw [bs] at hS'
  simp (maxSteps := 4000000) (disch := omega) only [rq, simprocAttr, QaA]
  refine Qb.vc hS' ?_
  simp (maxSteps := 4000000) (disch := omega) only [rq, simprocAttr]
def Qur (p : List UInt8) : AV := if 64 < p.length then .tup [.list 0 [], .int .i64 2] else .tup [bs (leB (ZZ 0 p) 8), .int .i64 0]
theorem Qt6 (p : List UInt8) : isD (Qur p) = true := by unfold Qur; split <;> simp [isD, isDL, Zi]
def Qcl (P : Prg) (f : Nat) : Prop := ∀ p : List UInt8, VC P f [.str p] (Qur p)
theorem Qkq {P : Prg} {f fO fB : Nat} (bd : Qk P f 18 [.tmp 2, .tmp 3] (XJ fO fB)) (hO : QmR P fO) (hB : Qah P fB) : Qcl P f := by
 intro p
 refine VC.of_walk 1 rfl (Qt6 p) (ACall.of_body bd (by simp) ?_)
 have hO' := hO p
 by_cases h : 64 < p.length
 ·rw [if_pos h] at hO'
  rw [Qur, if_pos h]
  simp (maxSteps := 4000000) (disch := omega) only [rq, simprocAttr, XJ]
  refine Qb.vc hO' ?_
  simp (maxSteps := 4000000) (disch := omega) only [rq, simprocAttr]
  simp [QS, QF, frzL, Qu]
 ·rw [if_neg h] at hO'
  have hB' := hB (ZZ 0 p) 8 (by omega) (by omega) (QhR (by decide))
  have tb := Qy (leB (ZZ 0 p) 8)
  rw [Qur, if_neg h]
  simp only [bs] at hB' ⊢
  simp (maxSteps := 4000000) (disch := omega) only [rq, simprocAttr, XJ]
  refine Qb.vc hO' ?_
  simp (maxSteps := 4000000) (disch := omega) only [rq, simprocAttr]
  refine Qb.vc hB' ?_
  simp (maxSteps := 4000000) (disch := omega) only [rq, simprocAttr]
  simp [QS, QF, frzL, Qu, frzL_T _ tb]
def Qls : Int → List Int → Prop
 | _, [] => True
 | m, n :: l => 5 ≤ n ∧ n ≤ m ∧ Qls (m - n) l
instance decSk : ∀ (m : Int) (l : List Int), Decidable (Qls m l)
 | _, [] => isTrue trivial
 | m, n :: l => by
  unfold Qls
  have := decSk (m - n) l
  exact inferInstance
def skN (l : List Int) : Int := if l.length = 0 ∨ 1000 < l.length then 8 else if Qls 100000 l then 0 else 8
def skL (m : Int) (l : List Int) : Nat → Int
 | 0 => m
 | k + 1 => skL m l k - l.getD k 0
theorem Qm0 (l : List Int) : ∀ (m : Int) , Qls m l ↔ ∀ k, k < l.length → 5 ≤ l.getD k 0 ∧ l.getD k 0 ≤ skL m l k := by
 induction l with
 | nil => intro m; simp [Qls]
 | cons n l ih =>
  intro m
  have e : ∀ k, skL m (n :: l) (k + 1) = skL (m - n) l k := fun k => by
   induction k with
   | zero => simp [skL]
   | succ k ih2 =>
    show skL m (n :: l) (k + 1) - (n :: l).getD (k + 1) 0 = skL (m - n) l k - l.getD k 0
    rw [ih2]; rfl
  rw [Qls, ih]
  constructor
  ·rintro ⟨h1, h2, h3⟩ k hk
   match k with
   | 0 => exact ⟨h1, h2⟩
   | k + 1 =>
    rw [e]
    exact h3 k (by simpa using hk)
  ·intro h
   refine ⟨(h 0 (by simp)).1, (h 0 (by simp)).2, fun k hk => ?_⟩
   have := h (k + 1) (by simpa using hk)
   rw [e] at this
   exact this
def QfZ (P : Prg) (f : Nat) : Prop := ∀ l : List Int, l.length ≤ 1000000 → (∀ v ∈ l, -9223372036854775808 ≤ v ∧ v ≤ 9223372036854775807) → VC P f [QoJ l] (.int .i64 (skN l))
theorem Qlx {P : Prg} {f : Nat} (bd : Qk P f 31 [.tmp 2] Xf) : QfZ P f := by
 intro l hl hv
 refine VC.of_acall (by simp [isDL, Qh9]) rfl (ACall.of_body bd (by simp) ?_)
 by_cases h1 : l.length = 0 ∨ 1000 < l.length
 ·have e8 : skN l = 8 := by rw [skN, if_pos h1]
  rw [e8]
  rcases h1 with h1 | h1
  ·simp (maxSteps := 4000000) (disch := omega) only [rq, simprocAttr, Xf, QoJ]
  ·by_cases h0 : l.length = 0
   ·omega
   ·simp (maxSteps := 4000000) (disch := omega) only [rq, simprocAttr, Xf, QoJ]
 have e8 : skN l = if Qls 100000 l then 0 else 8 := by rw [skN, if_neg h1]
 rw [e8]
 clear e8
 have hiff := Qm0 l 100000
 have kl : (ks .i64 l).length = l.length := Qh _ _
 have h0 : ¬ l.length = 0 := by omega
 simp (maxSteps := 4000000) (disch := omega) only [rq, simprocAttr, Xf, QoJ]
 refine QP.by (ι := Nat) (fun k => ⟨[(16, .int .i64 k), (15, .int .i64 l.length), (14, .list l.length (ks .i64 l)), (3, .int .i64 (skL 100000 l k))], []⟩) (fun k => k ≤ l.length ∧ (∀ j, j < k → 5 ≤ l.getD j 0 ∧ l.getD j 0 ≤ skL 100000 l j) ∧ 0 ≤ skL 100000 l k ∧ skL 100000 l k ≤ 100000) (fun k => l.length - k) 0 (Le.slots (by simp [Am.look, skL])) ⟨by omega, by omega, by simp [skL], by simp [skL]⟩ ?_
 rintro k ⟨hk, ha, hb, hc⟩
 by_cases hlt : k < l.length
 ·have e1 : (ks .i64 l).drop k = .int .i64 (l.getD k 0) :: (ks .i64 l).drop (k + 1) := by
   have h := Qfx (K := .i64) (l := l) (i := k) hlt
   rw [← Qbl] at h
   exact h
  have hr := hv (l.getD k 0) (by rw [List.getD_eq_getElem?_getD, List.getElem?_eq_getElem hlt]; exact List.getElem_mem _)
  have hs : skL 100000 l (k + 1) = skL 100000 l k - l.getD k 0 := rfl
  by_cases g1 : l.getD k 0 < 5
  ·have hn : ¬ Qls 100000 l := fun h => by have := (hiff.1 h k hlt).1; omega
   rw [if_neg hn]
   generalize l.getD k 0 = v at *
   simp (maxSteps := 4000000) (disch := omega) only [rq, simprocAttr, e1, kl]
  ·by_cases g2 : skL 100000 l k < l.getD k 0
   ·have hn : ¬ Qls 100000 l := fun h => by have := (hiff.1 h k hlt).2; omega
    rw [if_neg hn]
    generalize l.getD k 0 = v at *
    simp (maxSteps := 4000000) (disch := omega) only [rq, simprocAttr, e1, kl]
   ·have ha' : ∀ j, j < k + 1 → 5 ≤ l.getD j 0 ∧ l.getD j 0 ≤ skL 100000 l j := fun j hj => by
     by_cases e : j = k
     ·subst e; omega
     ·exact ha j (by omega)
    generalize l.getD k 0 = v at *
    generalize skL 100000 l k = m at *
    simp (maxSteps := 4000000) (disch := omega) only [rq, simprocAttr, e1, kl]
    refine ⟨k + 1, ⟨by omega, ha', by omega, by omega⟩, by omega, ?_⟩
    simp only [hs]
    exact Le.slots (by simp [Am.look])
 ·have ek : k = l.length := by omega
  subst ek
  rw [if_pos (hiff.2 ha)]
  simp (maxSteps := 4000000) (disch := omega) only [rq, simprocAttr]
def Jo (l : List Int) : List UInt8 := (l.map fun n => leB n.toNat 4).flatten
theorem Qo6 (l : List Int) (k : Nat) (h : k < l.length) : Jo (l.take (k + 1)) = Jo (l.take k) ++ leB (l.getD k 0).toNat 4 := by
 unfold Jo
 rw [List.take_succ_eq_append_getElem h, List.map_append, List.flatten_append]
 simp [List.getD_eq_getElem?_getD, List.getElem?_eq_getElem h]
theorem QhK (l : List Int) : (Jo l).length = 4 * l.length := by
 unfold Jo
 induction l with
 | nil => rfl
 | cons a l ih => simp only [List.map_cons, List.flatten_cons, List.length_append, Qc, ih, List.length_cons]; omega
def skA (l : List Int) : AV := if skN l = 0 then .tup [bs (Zh (Jo l)), .int .i64 0] else .tup [.list 0 [], .int .i64 (skN l)]
theorem Qt1 (l : List Int) : isD (skA l) = true := by unfold skA; split <;> simp [isD, isDL, Zi]
theorem Qfi (l : List Int) : skN l = 8 ∨ skN l = 0 ∧ 1 ≤ l.length ∧ l.length ≤ 1000 ∧ ∀ k, k < l.length → 5 ≤ l.getD k 0 ∧ l.getD k 0 ≤ 100000 := by
 by_cases h : l.length = 0 ∨ 1000 < l.length
 ·exact .inl (by rw [skN, if_pos h])
 ·by_cases h2 : Qls 100000 l
  ·refine .inr ⟨by rw [skN, if_neg h, if_pos h2], by omega, by omega, fun k hk => ?_⟩
   have h3 := (Qm0 l 100000).1 h2
   have hm : ∀ k, k ≤ l.length → skL 100000 l k ≤ 100000 := fun k => by
    induction k with
    | zero => simp [skL]
    | succ k ih =>
     intro hk
     have := ih (by omega)
     have := (h3 k (by omega)).1
     simp only [skL]
     omega
   have := h3 k hk
   have := hm k (by omega)
   omega
  ·exact .inl (by rw [skN, if_neg h, if_neg h2])
def Qdy (P : Prg) (f : Nat) : Prop := ∀ l : List Int, l.length ≤ 1000000 → (∀ v ∈ l, -9223372036854775808 ≤ v ∧ v ≤ 9223372036854775807) → VC P f [QoJ l] (skA l)
theorem Qlw {P : Prg} {f fC fP fS fB t0 tb : Nat} (bd : Qk P f 38 [.tmp 2, .tmp 3] (Jd fC fP fS t0)) (hC : QfZ P fC) (bP : Qk P fP 13 [] (Xm fB tb)) (hB : Qah P fB) (hS : Qhj P fS) : Qdy P f := by
 intro l hl hv
 refine VC.of_walk 1 (by simp [isDL, Qh9]) (Qt1 l) (ACall.of_cut 3 bd (by simp) ?_)
 have hC' := hC l hl hv
 rw [QoJ] at hC' ⊢
 rcases Qfi l with h | ⟨h, n1, n2, hr⟩
 ·rw [h] at hC'
  rw [skA, if_neg (by omega), h]
  simp (maxSteps := 4000000) (disch := omega) only [rq, simprocAttr, Jd, XY]
  refine Qb.vc hC' ?_
  simp (maxSteps := 4000000) (disch := omega) only [rq, simprocAttr, XY]
  simp [QS, QF, frzL, Qu]
 rw [h] at hC'
 rw [skA, if_pos h]
 have kl : (ks .i64 l).length = l.length := Qh _ _
 have tl := QD .i64 l
 have tB := fun m => Qy (Jo (l.take m))
 have hpl : ∀ m, (Jo (l.take m)).length ≤ 4000 := fun m => by rw [QhK, List.length_take]; omega
 simp (maxSteps := 4000000) (disch := omega) only [rq, simprocAttr, Jd, XY]
 refine Qb.vc hC' ?_
 simp (maxSteps := 4000000) (disch := omega) only [rq, simprocAttr, XY]
 refine ⟨_, Le.virtF 0 tb 1 (by decide) rfl rfl, ?_⟩
 simp (maxSteps := 4000000) (disch := omega) only [rq, simprocAttr, XY]
 refine QP.by (ι := Nat) (fun k => ⟨[(19, .int .i64 k), (18, .int .i64 l.length), (17, .list l.length (ks .i64 l)), (6, .fn (.func fP) [] [.ref 0 1 0]), (5, .ref 0 1 0)], [⟨t0, 1, 1, [.own 1 (Jo (l.take k)).length], 0⟩, ⟨tb, 1, (Jo (l.take k)).length, u8 (Jo (l.take k)), 0⟩]⟩) (fun k => k ≤ l.length) (fun k => l.length - k) 0 (Le.slots (by simp [Am.look, Jo, u8])) (by omega) ?_
 intro k hk
 have hpk := hpl k
 by_cases hlt : k < l.length
 ·have e1 : (ks .i64 l).drop k = .int .i64 (l.getD k 0) :: (ks .i64 l).drop (k + 1) := by
   have h := Qfx (K := .i64) (l := l) (i := k) hlt
   rw [← Qbl] at h
   exact h
  have hs := Qo6 l k hlt
  have hrk := hr k hlt
  generalize hz : l.getD k 0 = z at *
  obtain ⟨z, rfl⟩ : ∃ m : Nat, z = m := ⟨z.toNat, by omega⟩
  rw [Int.toNat_natCast] at hs
  have hB' := hB z 4 (by omega) (by omega) (by simp; omega)
  rw [bs, Qc] at hB'
  have hul : (u8 (leB z 4)).length = 4 := by rw [QH, Qc]
  have hcat : u8 (Jo (l.take k)) ++ u8 (leB z 4) = u8 (Jo (l.take (k + 1))) := by rw [hs]; simp [u8]
  have hlen : (Jo (l.take k)).length + 4 = (Jo (l.take (k + 1))).length := by rw [hs, List.length_append, Qc]
  generalize hB1 : Jo (l.take (k + 1)) = B1 at *
  generalize Jo (l.take k) = B0 at *
  simp (maxSteps := 4000000) (disch := omega) only [rq, simprocAttr, XY, kl, e1]
  refine ACall.of_body bP (by simp) ?_
  simp (maxSteps := 4000000) (disch := omega) only [rq, simprocAttr, Xm]
  refine Qb.vc hB' ?_
  simp (maxSteps := 4000000) (disch := omega) only [rq, simprocAttr, hul, hcat, hlen]
  refine ⟨k + 1, by omega, by omega, ?_⟩
  simp only [hB1]
  exact Le.slots (by simp [Am.look])
 ·have ek : k = l.length := by omega
  subst ek
  rw [List.take_length] at hpk ⊢
  have tB := Qy (Jo l)
  have hS' := hS (Jo l)
  rw [if_neg (by omega)] at hS'
  have hsm : QbN (Jo l) < 4294967296 := by unfold QbN; omega
  rw [← QbN, bs] at hS'
  have hB' := hB (QbN (Jo l)) 4 (by omega) (by omega) (by simpa using hsm)
  rw [bs, Qc] at hB'
  have hul : (u8 (leB (QbN (Jo l)) 4)).length = 4 := by rw [QH, Qc]
  have hcat : u8 (Jo l) ++ u8 (leB (QbN (Jo l)) 4) = u8 (Zh (Jo l)) := by simp [u8, Zh]
  have hlen : (Jo l).length + 4 = (Zh (Jo l)).length := by rw [Zh, List.length_append, Qc]
  have tS := Qy (Zh (Jo l))
  rw [bs]
  generalize Zh (Jo l) = B1 at *
  generalize QbN (Jo l) = sm at *
  generalize Jo l = B0 at *
  simp (maxSteps := 4000000) (disch := omega) only [rq, simprocAttr, XY, kl]
  refine Qb.still 1 [1] hS' (by simp [QS, QF, frzL, Qu, frzL_T _ tB]) ?_
  simp (maxSteps := 4000000) (disch := omega) only [rq, simprocAttr, XY, Qm]
  refine ACall.of_body bP (by simp) ?_
  simp (maxSteps := 4000000) (disch := omega) only [rq, simprocAttr, Xm]
  refine Qb.vc hB' ?_
  simp (maxSteps := 4000000) (disch := omega) only [rq, simprocAttr, hul, hcat, hlen, XY]
  simp [QS, QF, frzL, Qu, frzL_T _ tS]
def hdA (f c b r n : Int) : AV := .agg [.int .i64 f, .int .i64 c, .int .i64 b, .int .i64 r, .int .i64 n]
def shP (f c b r n : Int) : Prop := (b = 8 ∨ b = 16 ∨ b = 24) ∧ (f = 1 ∨ f = 2) ∧ 1 ≤ c ∧ c ≤ 6 ∧ 1 ≤ r ∧ r ≤ 1048576 ∧ 1 ≤ n
instance decShP (f c b r n : Int) : Decidable (shP f c b r n) := by unfold shP; exact inferInstance
def Qi1 (P : Prg) (g : Nat) : Prop := ∀ f c b r n : Int, VC P g [hdA f c b r n] (.bool (decide (shP f c b r n)))
theorem Qic {P : Prg} {g t0 : Nat} (bd : Qk P g 44 [.tmp 2] (QE t0)) : Qi1 P g := by
 intro f c b r n
 refine VC.of_acall rfl rfl (ACall.of_body bd (by simp) ?_)
 by_cases hb : b = 8 ∨ b = 16 ∨ b = 24
 case neg =>
  have hn : decide (shP f c b r n) = false := decide_eq_false fun h => hb h.1
  rw [hn]
  simp (maxSteps := 4000000) (disch := omega) only [rq, simprocAttr, QE, hdA]
 by_cases hf : f = 1 ∨ f = 2
 case neg =>
  have hn : decide (shP f c b r n) = false := decide_eq_false fun h => hf h.2.1
  rw [hn]
  rcases hb with rfl | rfl | rfl <;> simp (maxSteps := 4000000) (disch := omega) only [rq, simprocAttr, QE, hdA]
 by_cases hc1 : 1 ≤ c
 case neg =>
  have hn : decide (shP f c b r n) = false := decide_eq_false fun h => hc1 h.2.2.1
  rw [hn]
  rcases hb with rfl | rfl | rfl <;> rcases hf with rfl | rfl <;> simp (maxSteps := 4000000) (disch := omega) only [rq, simprocAttr, QE, hdA]
 by_cases hc2 : c ≤ 6
 case neg =>
  have hn : decide (shP f c b r n) = false := decide_eq_false fun h => hc2 h.2.2.2.1
  rw [hn]
  rcases hb with rfl | rfl | rfl <;> rcases hf with rfl | rfl <;> simp (maxSteps := 4000000) (disch := omega) only [rq, simprocAttr, QE, hdA]
 by_cases hr1 : 1 ≤ r
 case neg =>
  have hn : decide (shP f c b r n) = false := decide_eq_false fun h => hr1 h.2.2.2.2.1
  rw [hn]
  rcases hb with rfl | rfl | rfl <;> rcases hf with rfl | rfl <;> simp (maxSteps := 4000000) (disch := omega) only [rq, simprocAttr, QE, hdA]
 by_cases hr2 : r ≤ 1048576
 case neg =>
  have hn : decide (shP f c b r n) = false := decide_eq_false fun h => hr2 h.2.2.2.2.2.1
  rw [hn]
  rcases hb with rfl | rfl | rfl <;> rcases hf with rfl | rfl <;> simp (maxSteps := 4000000) (disch := omega) only [rq, simprocAttr, QE, hdA]
 by_cases hn1 : 1 ≤ n
 case neg =>
  have hn : decide (shP f c b r n) = false := decide_eq_false fun h => hn1 h.2.2.2.2.2.2
  rw [hn]
  rcases hb with rfl | rfl | rfl <;> rcases hf with rfl | rfl <;> simp (maxSteps := 4000000) (disch := omega) only [rq, simprocAttr, QE, hdA]
 have hn : decide (shP f c b r n) = true := decide_eq_true ⟨hb, hf, hc1, hc2, hr1, hr2, hn1⟩
 rw [hn]
 rcases hb with rfl | rfl | rfl <;> rcases hf with rfl | rfl <;> simp (maxSteps := 4000000) (disch := omega) only [rq, simprocAttr, QE, hdA]
def Qru (c r n : Int) : Prop := n ≤ 4000 / c ∧ Qit r n = 0
instance decFitP (c r n : Int) : Decidable (Qru c r n) := by unfold Qru; exact inferInstance
theorem QqE {r n : Int} (h : Qit r n = 0) : ∃ k : Int, Qku r n = .tup [.int .i64 k, .int .i64 0] ∧ 0 ≤ k ∧ k ≤ 1000 := by
 unfold Qit at h
 unfold Qku
 split at h
 ·cases h
 rename_i a1
 split at h
 ·cases h
 rename_i a2
 split at h
 ·cases h
 rename_i a3
 rw [if_neg a1, if_neg a2, if_neg a3]
 have := ZS r
 exact ⟨_, rfl, Int.ediv_nonneg (by omega) (by omega), by omega⟩
def Qra (P : Prg) (g : Nat) : Prop := ∀ f c b r n : Int, 1 ≤ c → c ≤ 6 → VC P g [hdA f c b r n] (.bool (decide (Qru c r n)))
theorem QlQ {P : Prg} {g fC t0 : Nat} (bd : Qk P g 25 [.tmp 2] (Xg fC t0)) (hC : Qb4 P fC) : Qra P g := by
 intro f c b r n c1 c2
 refine VC.of_acall rfl rfl (ACall.of_body bd (by simp) ?_)
 have hC' := hC r n
 have q0 : ¬ c = 0 := by omega
 have q1 : (4000 : Int).tdiv c = 4000 / c := Int.tdiv_eq_ediv_of_nonneg (by omega)
 have q2 : 0 ≤ 4000 / c := Int.ediv_nonneg (by omega) (by omega)
 have q3 : 4000 / c ≤ 4000 := Int.ediv_le_self _ (by omega)
 by_cases h1 : n ≤ 4000 / c
 case neg =>
  have hn : decide (Qru c r n) = false := decide_eq_false fun h => h1 h.1
  rw [hn]
  generalize hQ : 4000 / c = Q at *
  have hw : IntKind.i64.wrap Q = Q := Qa7 (by omega) (by omega)
  simp (maxSteps := 4000000) (disch := omega) only [rq, simprocAttr, Xg, hdA, q1, hQ, hw]
 by_cases h2 : Qit r n = 0
 ·have hn : decide (Qru c r n) = true := decide_eq_true ⟨h1, h2⟩
  rw [hn]
  obtain ⟨k, e, k1, k2⟩ := QqE h2
  rw [e] at hC'
  generalize hQ : 4000 / c = Q at *
  have hw : IntKind.i64.wrap Q = Q := Qa7 (by omega) (by omega)
  simp (maxSteps := 4000000) (disch := omega) only [rq, simprocAttr, Xg, hdA, q1, hQ, hw]
  refine Qb.vc hC' ?_
  simp (maxSteps := 4000000) (disch := omega) only [rq, simprocAttr]
 ·have hn : decide (Qru c r n) = false := decide_eq_false fun h => h2 h.2
  rw [hn]
  obtain ⟨k, e⟩ := Qns r n
  rw [e] at hC'
  generalize hQ : 4000 / c = Q at *
  have hw : IntKind.i64.wrap Q = Q := Qa7 (by omega) (by omega)
  generalize Qit r n = E at *
  simp (maxSteps := 4000000) (disch := omega) only [rq, simprocAttr, Xg, hdA, q1, hQ, hw]
  refine Qb.vc hC' ?_
  simp (maxSteps := 4000000) (disch := omega) only [rq, simprocAttr]
def hdN (f c b r n : Int) : Int := if shP f c b r n ∧ Qru c r n then 0 else 8
def QdB (P : Prg) (g : Nat) : Prop := ∀ f c b r n : Int, VC P g [hdA f c b r n] (.int .i64 (hdN f c b r n))
theorem Qj7 {P : Prg} {g fS fF t0 : Nat} (bd : Qk P g 11 [.tmp 2] (ZW fS fF t0)) (hS : Qi1 P fS) (hF : Qra P fF) : QdB P g := by
 intro f c b r n
 refine VC.of_acall rfl rfl (ACall.of_body bd (by simp) ?_)
 have hS' := hS f c b r n
 by_cases h1 : shP f c b r n
 case neg =>
  have e : hdN f c b r n = 8 := by rw [hdN, if_neg fun h => h1 h.1]
  rw [decide_eq_false h1] at hS'
  rw [e]
  rw [hdA] at hS' ⊢
  simp (maxSteps := 4000000) (disch := omega) only [rq, simprocAttr, ZW]
  refine Qb.vc hS' ?_
  simp (maxSteps := 4000000) (disch := omega) only [rq, simprocAttr]
 have hF' := hF f c b r n h1.2.2.1 h1.2.2.2.1
 rw [decide_eq_true h1] at hS'
 by_cases h2 : Qru c r n
 ·have e : hdN f c b r n = 0 := by rw [hdN, if_pos ⟨h1, h2⟩]
  rw [decide_eq_true h2] at hF'
  rw [e]
  rw [hdA] at hS' hF' ⊢
  simp (maxSteps := 4000000) (disch := omega) only [rq, simprocAttr, ZW]
  refine Qb.vc hS' ?_
  simp (maxSteps := 4000000) (disch := omega) only [rq, simprocAttr]
  refine Qb.vc hF' ?_
  simp (maxSteps := 4000000) (disch := omega) only [rq, simprocAttr]
 ·have e : hdN f c b r n = 8 := by rw [hdN, if_neg fun h => h2 h.2]
  rw [decide_eq_false h2] at hF'
  rw [e]
  rw [hdA] at hS' hF' ⊢
  simp (maxSteps := 4000000) (disch := omega) only [rq, simprocAttr, ZW]
  refine Qb.vc hS' ?_
  simp (maxSteps := 4000000) (disch := omega) only [rq, simprocAttr]
  refine Qb.vc hF' ?_
  simp (maxSteps := 4000000) (disch := omega) only [rq, simprocAttr]
def mkA (c x r : Int) (l : List Int) (p : List UInt8) : AV := if ZL c x r l ≠ 0 then .tup [hdA 0 0 0 0 0, .int .i64 8] else if 64 < p.length then .tup [hdA 0 0 0 0 0, .int .i64 2] else .tup [hdA (if p = [] then 1 else 2) c x r (l.length / c), .int .i64 0]
theorem Qt3 (c x r : Int) (l : List Int) (p : List UInt8) : isD (mkA c x r l p) = true := by
 unfold mkA
 repeat' split
 all_goals rfl
def Qi6 (P : Prg) (g : Nat) : Prop := ∀ (c x r : Int) (l : List Int) (p : List UInt8), I32 l → l.length ≤ 1000000 → VC P g [clA c x r l, .str p] (mkA c x r l p)
theorem QlR {P : Prg} {g fC t0 t1 : Nat} (bd : Qk P g 35 [.cell 4 t1, .tmp 5] (ZJ fC t0 t1)) (hC : QbA P fC) (ht : ZP P t1 = some (some 5)) : Qi6 P g := by
 intro c x r l p hI hl
 refine VC.of_acall (by simp [isDL, isD, ZC, clA]) (Qt3 _ _ _ _ _) (ACall.of_body bd (by simp) ?_)
 have hC' := hC c x r l hI hl
 rw [il] at hC'
 rcases QcM c x r l with h | h
 case inr =>
  rw [h] at hC'
  rw [mkA, if_pos (by omega)]
  simp (maxSteps := 4000000) (disch := omega) only [rq, simprocAttr, ZJ, clA, il]
  refine Qb.vc hC' ?_
  simp (maxSteps := 4000000) (disch := omega) only [rq, simprocAttr, ZG, ht, QU, hdA]
 rw [h] at hC'
 rw [mkA, if_neg (by omega)]
 by_cases hp : 64 < p.length
 ·rw [if_pos hp]
  simp (maxSteps := 4000000) (disch := omega) only [rq, simprocAttr, ZJ, clA, il]
  refine Qb.vc hC' ?_
  simp (maxSteps := 4000000) (disch := omega) only [rq, simprocAttr, ZG, ht, QU, hdA]
 rw [if_neg hp]
 obtain ⟨k, n, rfl, k1, k2, hlen, hok, h4⟩ := Qax h
 have hk0 : (l.length : Int) / (k : Int) = n := by rw [hlen, Int.natCast_mul, Int.mul_ediv_cancel _ (by omega)]
 have hk3 : ((l.length : Int)).tdiv (k : Int) = n := by rw [Int.tdiv_eq_ediv_of_nonneg (by omega), hk0]
 have hq0 : (k : Int) ≠ 0 := by omega
 have hn4 : n ≤ 4000 := by have := hok.2.2.2.1; omega
 rw [hk0]
 by_cases hn : p = []
 ·subst hn
  simp (maxSteps := 4000000) (disch := omega) only [rq, simprocAttr, ZJ, clA, il]
  refine Qb.vc hC' ?_
  simp (maxSteps := 4000000) (disch := omega) only [rq, simprocAttr, ZG, ht, QU, hdA, QnO, hk0, hk3]
 ·have hs : QnO .neq p [] = some (.bool true) := by simp [QnO, hn]
  have h2 : (if p = [] then (1 : Int) else 2) = 2 := if_neg hn
  rw [h2]
  simp (maxSteps := 4000000) (disch := omega) only [rq, simprocAttr, ZJ, clA, il]
  refine Qb.vc hC' ?_
  simp (maxSteps := 4000000) (disch := omega) only [rq, simprocAttr, ZG, ht, QU, hdA, hs, hk0, hk3]
def QuF : List AV := [.int .i64 2, .int .i64 2, .int .i64 2, .int .i64 4, .int .i64 4]
def hdP (f c b r n : Nat) : Nat → List UInt8
 | 0 => [84, 84, 65, 49]
 | 1 => [84, 84, 65, 49] ++ leB f 2
 | 2 => [84, 84, 65, 49] ++ leB f 2 ++ leB c 2
 | 3 => [84, 84, 65, 49] ++ leB f 2 ++ leB c 2 ++ leB b 2
 | 4 => [84, 84, 65, 49] ++ leB f 2 ++ leB c 2 ++ leB b 2 ++ leB r 4
 | _ => [84, 84, 65, 49] ++ leB f 2 ++ leB c 2 ++ leB b 2 ++ leB r 4 ++ leB n 4
def hdB (f c b r n : Nat) : List UInt8 := Zh (hdP f c b r n 5)
theorem QlS {f c b r n : Int} (h : hdN f c b r n = 0) : ∃ f' c' b' r' n' : Nat, f = f' ∧ c = c' ∧ b = b' ∧ r = r' ∧ n = n' ∧ f' ≤ 2 ∧ c' ≤ 6 ∧ b' ≤ 24 ∧ r' ≤ 1048576 ∧ n' ≤ 4000 := by
 unfold hdN at h
 split at h
 case isFalse => cases h
 rename_i h1
 obtain ⟨⟨a1, a2, a3, a4, a5, a6, a7⟩, b1, b2⟩ := h1
 have q3 : 4000 / c ≤ 4000 := Int.ediv_le_self _ (by omega)
 exact ⟨f.toNat, c.toNat, b.toNat, r.toNat, n.toNat, by omega, by omega, by omega, by omega, by omega, by omega, by omega, by omega, by omega, by omega⟩
def hwA (f c b r n : Int) : AV := if hdN f c b r n = 0 then .tup [bs (hdB f.toNat c.toNat b.toNat r.toNat n.toNat), .int .i64 0] else .tup [.list 0 [], .int .i64 8]
theorem Qt4 (f c b r n : Int) : isD (hwA f c b r n) = true := by unfold hwA; split <;> simp [isD, isDL, Zi]
theorem Qp2 (f c b r n : Int) : hdN f c b r n = 0 ∨ hdN f c b r n = 8 := by unfold hdN; split <;> simp
def Qf7 (P : Prg) (g : Nat) : Prop := ∀ f c b r n : Int, VC P g [hdA f c b r n] (hwA f c b r n)
set_option maxHeartbeats 2000000 in
theorem Qj6 {P : Prg} {g fC fB fS t0 t1 g0 : Nat} (bd : Qk P g 63 [.tmp 2, .tmp 3] (Zs fC fB fS t0 t1 g0)) (hC : QdB P fC) (hB : Qah P fB) (hS : Qhj P fS) (h0 : P.G.lookup g0 = some QuF) : Qf7 P g := by
 intro f c b r n
 refine VC.of_walk 1 rfl (Qt4 _ _ _ _ _) (ACall.of_body bd (by simp) ?_)
 have hC' := hC f c b r n
 have g0' : Qsp P.G g0 = .cell QuF := by simp [Qsp, h0]
 rcases Qp2 f c b r n with h | h
 case inr =>
  rw [h] at hC'
  rw [hwA, if_neg (by omega)]
  rw [hdA] at hC' ⊢
  simp (maxSteps := 4000000) (disch := omega) only [rq, simprocAttr, Zs]
  refine Qb.vc hC' ?_
  simp (maxSteps := 4000000) (disch := omega) only [rq, simprocAttr]
  simp [QS, QF, frzL, Qu]
 rw [h] at hC'
 rw [hwA, if_pos h]
 obtain ⟨f, c, b, r, n, rfl, rfl, rfl, rfl, rfl, a1, a2, a3, a4, a5⟩ := QlS h
 simp only [Int.toNat_natCast]
 rw [hdA] at hC' ⊢
 have B1 := hB f 2 (by omega) (by omega) (by simp; omega)
 have B2 := hB c 2 (by omega) (by omega) (by simp; omega)
 have B3 := hB b 2 (by omega) (by omega) (by simp; omega)
 have B4 := hB r 4 (by omega) (by omega) (by simp; omega)
 have B5 := hB n 4 (by omega) (by omega) (by simp; omega)
 rw [bs, Qc] at B1 B2 B3 B4 B5
 have u2 : ∀ m, (u8 (leB m 2)).length = 2 := fun m => by rw [QH, Qc]
 have u4 : ∀ m, (u8 (leB m 4)).length = 4 := fun m => by rw [QH, Qc]
 have c0 : u8 (hdP f c b r n 0) ++ u8 (leB f 2) = u8 (hdP f c b r n 1) := by simp [hdP, u8]
 have c1 : u8 (hdP f c b r n 1) ++ u8 (leB c 2) = u8 (hdP f c b r n 2) := by simp [hdP, u8]
 have c2 : u8 (hdP f c b r n 2) ++ u8 (leB b 2) = u8 (hdP f c b r n 3) := by simp [hdP, u8]
 have c3 : u8 (hdP f c b r n 3) ++ u8 (leB r 4) = u8 (hdP f c b r n 4) := by simp [hdP, u8]
 have c4 : u8 (hdP f c b r n 4) ++ u8 (leB n 4) = u8 (hdP f c b r n 5) := by simp [hdP, u8]
 have l0 : (hdP f c b r n 0).length = 4 := rfl
 have l1 : (hdP f c b r n 1).length = 6 := by simp [hdP, Qc]
 have l2 : (hdP f c b r n 2).length = 8 := by simp [hdP, Qc]
 have l3 : (hdP f c b r n 3).length = 10 := by simp [hdP, Qc]
 have l4 : (hdP f c b r n 4).length = 14 := by simp [hdP, Qc]
 have l5 : (hdP f c b r n 5).length = 18 := by simp [hdP, Qc]
 have e0 : u8 (hdP f c b r n 0) = [.int .u8 84, .int .u8 84, .int .u8 65, .int .u8 49] := rfl
 have hcat : u8 (hdP f c b r n 5) ++ u8 (leB (QbN (hdP f c b r n 5)) 4) = u8 (hdB f c b r n) := by simp [u8, hdB, Zh]
 have hlen : (hdB f c b r n).length = 22 := by rw [hdB, Zh, List.length_append, Qc, l5]
 have hS' := hS (hdP f c b r n 5)
 rw [if_neg (by omega), ← QbN, bs, l5] at hS'
 have hsm : QbN (hdP f c b r n 5) < 4294967296 := by unfold QbN; omega
 have B6 := hB (QbN (hdP f c b r n 5)) 4 (by omega) (by omega) (by simpa using hsm)
 rw [bs, Qc] at B6
 have t5 := Qy (hdP f c b r n 5)
 have tb := Qy (hdB f c b r n)
 rw [bs, hlen]
 obtain ⟨H, hH⟩ : ∃ H, H = hdP f c b r n := ⟨_, rfl⟩
 rw [← hH] at c0 c1 c2 c3 c4 l0 l1 l2 l3 l4 l5 e0 hcat hS' hsm B6 t5
 generalize QbN (H 5) = sm at *
 generalize hdB f c b r n = D at *
 have g0'' : Qsp P.G g0 = .cell [.int .i64 2, .int .i64 2, .int .i64 2, .int .i64 4, .int .i64 4] := g0'
 simp (maxSteps := 4000000) (disch := omega) only [rq, simprocAttr, Zs]
 refine Qb.vc hC' ?_
 simp (maxSteps := 4000000) (disch := omega) only [rq, simprocAttr]
 refine QP.by (ι := Nat) (fun j => ⟨[(32, .int .i64 j), (31, .agg [.int .i64 f, .int .i64 c, .int .i64 b, .int .i64 r, .int .i64 n]), (5, .own 1 (H j).length)], [⟨t0, 5, 1, [.int .i64 f, .int .i64 c, .int .i64 b, .int .i64 r, .int .i64 n], 0⟩, ⟨t1, 1, (H j).length, u8 (H j), 1⟩]⟩) (fun j => j ≤ 5) (fun j => 5 - j) 0 ?_ (by omega) ?_
 ·simp only [e0, l0]
  exact Le.slots (by simp [Am.look])
 intro j hj
 have hj5 : j = 0 ∨ j = 1 ∨ j = 2 ∨ j = 3 ∨ j = 4 ∨ j = 5 := by omega
 rcases hj5 with rfl | rfl | rfl | rfl | rfl | rfl
 ·simp (maxSteps := 4000000) (disch := omega) only [rq, simprocAttr, g0'', l0]
  refine Qb.vc B1 ?_
  simp (maxSteps := 4000000) (disch := omega) only [rq, simprocAttr, u2, c0]
  exact ⟨1, by omega, by omega, by rw [l1]; exact Le.slots (by simp [Am.look])⟩
 ·simp (maxSteps := 4000000) (disch := omega) only [rq, simprocAttr, g0'', l1]
  refine Qb.vc B2 ?_
  simp (maxSteps := 4000000) (disch := omega) only [rq, simprocAttr, u2, c1]
  exact ⟨2, by omega, by omega, by rw [l2]; exact Le.slots (by simp [Am.look])⟩
 ·simp (maxSteps := 4000000) (disch := omega) only [rq, simprocAttr, g0'', l2]
  refine Qb.vc B3 ?_
  simp (maxSteps := 4000000) (disch := omega) only [rq, simprocAttr, u2, c2]
  exact ⟨3, by omega, by omega, by rw [l3]; exact Le.slots (by simp [Am.look])⟩
 ·simp (maxSteps := 4000000) (disch := omega) only [rq, simprocAttr, g0'', l3]
  refine Qb.vc B4 ?_
  simp (maxSteps := 4000000) (disch := omega) only [rq, simprocAttr, u4, c3]
  exact ⟨4, by omega, by omega, by rw [l4]; exact Le.slots (by simp [Am.look])⟩
 ·simp (maxSteps := 4000000) (disch := omega) only [rq, simprocAttr, g0'', l4]
  refine Qb.vc B5 ?_
  simp (maxSteps := 4000000) (disch := omega) only [rq, simprocAttr, u4, c4]
  exact ⟨5, by omega, by omega, by rw [l5]; exact Le.slots (by simp [Am.look])⟩
 ·simp (maxSteps := 4000000) (disch := omega) only [rq, simprocAttr, l5]
  refine Qb.flat 1 hS' rfl (by simp [QS, QF, frzL, Qu, frzL_T _ t5]) ?_
  simp (maxSteps := 4000000) (disch := omega) only [rq, simprocAttr]
  refine Qb.vc B6 ?_
  simp (maxSteps := 4000000) (disch := omega) only [rq, simprocAttr, u4, hcat]
  simp [QS, QF, frzL, Qu, frzL_T _ tb]
def Zo (L : List (List UInt8)) : List Int := L.map fun b => (b.length : Int)
theorem Qce (L : List (List UInt8)) : (Zo L).length = L.length := by simp [Zo]
def Qq8 (P : Prg) (f : Nat) : Prop := ∀ b : List UInt8, VC P f [bs b] (.int .i64 b.length)
theorem Qij {P : Prg} {f : Nat} (bd : Qk P f 5 [.tmp 2] JA) : Qq8 P f := by
 intro b
 refine VC.of_acall (by simp [isDL, Zi]) rfl (ACall.of_body bd (by simp) ?_)
 simp (maxSteps := 4000000) (disch := omega) only [rq, simprocAttr, JA, bs]
def Qrb (g : Nat) (P : Prg) (f : Nat) : Prop := ∀ L : List (List UInt8), L.length ≤ 1000000 → (∀ j, (L.getD j []).length ≤ 1000000) → VC P f [bss L, .fn (.func g) [] []] (QoJ (Zo L))
theorem Ql2 {P : Prg} {f g t0 : Nat} (bd : Qk P f 26 [.tmp 4] (ZA t0)) (hg : Qq8 P g) : Qrb g P f := by
 intro L hL hL2
 refine VC.of_walk 1 (by simp [isDL, isD, QcK]) (Qh9 _) (ACall.of_body bd (by simp) ?_)
 have hmb : (L.map bs).length = L.length := by simp
 have hz : Qe [.int .i64 0] L.length = ks .i64 ((Zo L).take 0 ++ List.replicate (L.length - 0) 0) := by rw [Qpv]; simp
 have tl := QD .i64 (Zo L)
 have hll := Qce L
 rw [QoJ, hll, bss]
 simp (maxSteps := 4000000) (disch := omega) only [rq, simprocAttr, ZA, hz]
 refine QP.by (ι := Nat) (fun k => ⟨[(13, .int .i64 k), (12, .int .i64 L.length), (11, .list L.length (L.map bs)), (5, .own 0 L.length), (1, .fn (.func g) [] [])], [⟨t0, 1, L.length, ks .i64 ((Zo L).take k ++ List.replicate (L.length - k) 0), 0⟩]⟩) (fun k => k ≤ L.length) (fun k => L.length - k) 0 (Le.slots (by simp [Am.look])) (by omega) ?_
 intro k hk
 have hkl : (ks .i64 ((Zo L).take k ++ List.replicate (L.length - k) 0)).length = L.length := by rw [Qh, List.length_append, List.length_take, hll, List.length_replicate]; omega
 by_cases hlt : k < L.length
 ·have e1 := Qeo (L := L) (k := k) hlt
  have hg' := hg (L.getD k [])
  have hst : (ks .i64 ((Zo L).take k ++ List.replicate (L.length - k) 0)).take k ++ .int .i64 ((L.getD k []).length : Int) :: (ks .i64 ((Zo L).take k ++ List.replicate (L.length - k) 0)).drop (k + 1) = ks .i64 ((Zo L).take (k + 1) ++ List.replicate (L.length - (k + 1)) 0) := by
   have hq : (Zo L)[k]? = some ((L.getD k []).length : Int) := by simp [Zo, List.getD_eq_getElem?_getD, List.getElem?_eq_getElem hlt]
   have htk : (Zo L).take (k + 1) = (Zo L).take k ++ [((L.getD k []).length : Int)] := by rw [List.take_add_one, hq]; rfl
   have hl1 : ((Zo L).take k).length = k := by rw [List.length_take, hll]; omega
   rw [QpV, Qbl, htk, List.take_append_of_le_length (by omega), List.take_of_length_le (by omega), List.drop_append, List.drop_eq_nil_of_le (by omega), hl1, List.drop_replicate, List.nil_append]
   simp only [ks, List.map_append, List.map_cons, List.map_nil, List.append_assoc, List.cons_append, List.nil_append]
   rw [show L.length - k - (k + 1 - k) = L.length - (k + 1) by omega]
  have hst2 : (ks .i64 ((Zo L).take k ++ List.replicate (L.length - k) 0)).take k ++ [.int .i64 ((L.getD k []).length : Int)] ++ (ks .i64 ((Zo L).take k ++ List.replicate (L.length - k) 0)).drop (k + 1) = ks .i64 ((Zo L).take (k + 1) ++ List.replicate (L.length - (k + 1)) 0) := by rw [← hst]; simp
  rw [bs] at e1 hg'
  have hl2 := hL2 k
  generalize L.getD k [] = b at *
  simp (maxSteps := 4000000) (disch := omega) only [rq, simprocAttr, e1, hmb, hkl]
  refine Qb.vc hg' ?_
  simp (maxSteps := 4000000) (disch := omega) only [rq, simprocAttr, hkl, hst, hst2]
  exact ⟨k + 1, by omega, by omega, Le.slots (by simp [Am.look])⟩
 ·have ek : k = L.length := by omega
  subst ek
  have e0 : (Zo L).take L.length ++ List.replicate (L.length - L.length) (0 : Int) = Zo L := by rw [← hll, List.take_length]; simp
  rw [e0]
  simp (maxSteps := 4000000) (disch := omega) only [rq, simprocAttr]
  simp [QS, QF, frzL, Qu, frzL_T _ tl]
def QmN (P : Prg) (f : Nat) : Prop := ∀ L : List (List UInt8), L.length ≤ 1000000 → L.flatten.length ≤ 1000000 → VC P f [bss L] (bs L.flatten)
theorem Ql1 {P : Prg} {f t0 : Nat} (bd : Qk P f 17 [.tmp 2] (QaS t0)) : QmN P f := by
 intro L hL hF
 refine VC.of_walk 1 (by simp [isDL, QcK]) (Zi _) (ACall.of_cut 2 bd (by simp) ?_)
 have hmb : (L.map bs).length = L.length := by simp
 rw [bs, bss]
 simp (maxSteps := 4000000) (disch := omega) only [rq, simprocAttr, QaS, XY]
 refine ⟨_, Le.virt 3 t0 1 (by decide) rfl, ?_⟩
 simp (maxSteps := 4000000) (disch := omega) only [rq, simprocAttr, XY]
 refine QP.by (ι := Nat) (fun k => ⟨[(8, .int .i64 k), (7, .int .i64 L.length), (6, .list L.length (L.map bs)), (3, .own 0 (L.take k).flatten.length)], [⟨t0, 1, (L.take k).flatten.length, u8 (L.take k).flatten, 0⟩]⟩) (fun k => k ≤ L.length) (fun k => L.length - k) 0 (Le.slots (by simp [Am.look, u8])) (by omega) ?_
 intro k hk
 have hle : (L.take k).flatten.length ≤ L.flatten.length := by
  conv => rhs; rw [← List.take_append_drop k L, List.flatten_append, List.length_append]
  omega
 by_cases hlt : k < L.length
 ·have e1 := Qeo (L := L) (k := k) hlt
  have hs : (L.take (k + 1)).flatten = (L.take k).flatten ++ L.getD k [] := by
   rw [List.take_succ_eq_append_getElem hlt, List.flatten_append]
   simp [List.getD_eq_getElem?_getD, List.getElem?_eq_getElem hlt]
  have hle2 : (L.take (k + 1)).flatten.length ≤ L.flatten.length := by
   conv => rhs; rw [← List.take_append_drop (k + 1) L, List.flatten_append, List.length_append]
   omega
  rw [hs, List.length_append] at hle2
  have hcat : u8 (L.take k).flatten ++ u8 (L.getD k []) = u8 (L.take (k + 1)).flatten := by rw [hs]; simp [u8]
  have hlen : (L.take k).flatten.length + (L.getD k []).length = (L.take (k + 1)).flatten.length := by rw [hs, List.length_append]
  have hbl : (u8 (L.getD k [])).length = (L.getD k []).length := QH _
  rw [bs] at e1
  generalize hY : (L.take (k + 1)).flatten = Y at *
  generalize L.getD k [] = b at *
  generalize (L.take k).flatten = X at *
  simp (maxSteps := 4000000) (disch := omega) only [rq, simprocAttr, XY, e1, hmb, hbl, hcat, hlen]
  refine ⟨k + 1, by omega, by omega, ?_⟩
  simp only [hY]
  exact Le.slots (by simp [Am.look])
 ·have ek : k = L.length := by omega
  subst ek
  have tF := Qy L.flatten
  rw [List.take_length]
  simp (maxSteps := 4000000) (disch := omega) only [rq, simprocAttr, XY]
  simp [QS, QF, frzL, Qu, frzL_T _ tF]
theorem QhP : ∀ {l : List Int} {m : Int}, Qls m l → l.sum ≤ m ∨ l = []
 | [], _, _ => .inr rfl
 | n :: l, m, h => by
  obtain ⟨h1, h2, h3⟩ := h
  rcases QhP h3 with h4 | h4
  ·left; rw [List.sum_cons]; omega
  ·left; subst h4; simp; omega
theorem Qc1 : ∀ L : List (List UInt8), (Zo L).sum = (L.flatten.length : Int)
 | [] => rfl
 | b :: L => by
  have h := Qc1 L
  simp only [Zo, List.map_cons, List.sum_cons, List.flatten_cons, List.length_append] at h ⊢
  omega
def QbT (p : List UInt8) : Int := if p = [] then 1 else 2
theorem Qnf {c x r : Int} {l : List Int} (p : List UInt8) (h : ZL c x r l = 0) : hdN (QbT p) c x r (l.length / c) = 0 := by
 obtain ⟨h1, h2⟩ := Qot h
 obtain ⟨⟨o1, o2, o3, o4, o5⟩, he, hn1, hn2⟩ := Qub h2
 have hce : Qit r (l.length / c) = 0 := by
  rw [Qp1] at h2
  by_cases h9 : QiR c x (l.length / c) = 0 ∧ Qit r (l.length / c) = 0
  ·exact h9.2
  ·rw [if_neg h9] at h2; cases h2
 have hc : Xk x ≠ 0 ∧ 1 ≤ c ∧ c ≤ 6 := by
  rcases Q0 c x with q | ⟨q, a, b, d⟩
  ·omega
  ·exact ⟨by omega, by omega, by omega⟩
 have hx := (QlT x).1 hc.1
 rw [hdN, if_pos ⟨⟨hx, by unfold QbT; split <;> simp, hc.2.1, hc.2.2, o1, o2, hn1⟩, hn2, hce⟩]
def QmX (p : List UInt8) : List UInt8 := if p = [] then [] else leB (ZZ 0 p) 8
def QdS (c x r : Int) (l : List Int) (p : List UInt8) : List UInt8 :=
 hdB (QbT p).toNat c.toNat x.toNat r.toNat (l.length / c.toNat) ++ (QmX p ++ (Zh (Jo (Zo (Qq c x r l (ofK (ZZ 0 p) 8)))) ++ (Qq c x r l (ofK (ZZ 0 p) 8)).flatten))
def QlZ (c x r : Int) (l : List Int) (p : List UInt8) : AV :=
 if ZL c x r l ≠ 0 then .tup [.list 0 [], .int .i64 8] else if 64 < p.length then .tup [.list 0 [], .int .i64 2] else if skN (Zo (Qq c x r l (ofK (ZZ 0 p) 8))) ≠ 0 then .tup [.list 0 [], .int .i64 8] else .tup [bs (QdS c x r l p), .int .i64 0]
theorem Qsl (c x r : Int) (l : List Int) (p : List UInt8) : isD (QlZ c x r l p) = true := by
 unfold QlZ
 repeat' split
 all_goals simp [isD, isDL, Zi]
def QmQ (P : Prg) (f : Nat) : Prop := ∀ (c x r : Int) (l : List Int) (p : List UInt8), I32 l → l.length ≤ 1000000 → VC P f [clA c x r l, .str p] (QlZ c x r l p)
set_option maxHeartbeats 2000000 in
theorem Ql3 {P : Prg} {f fM fF fW fD fE fg fS fJ t0 t1 t2 : Nat} (bd : Qk P f 62 [.tmp 4, .tmp 5] (Q1 fM fF fW fD fE fg fS fJ t0 t1 t2)) (hM : Qi6 P fM) (hF : Qi7 P fF) (hW : Qf7 P fW) (hD : Qcl P fD) (hE : Qrb fg P fE) (hS : Qdy P fS) (hJ : QmN P fJ) : QmQ P f := by
 intro c x r l p hI hl
 refine VC.of_walk 1 (by simp [isDL, isD, ZC, clA]) (Qsl _ _ _ _ _) (ACall.of_body bd (by simp) ?_)
 have hM' := hM c x r l p hI hl
 have tl := QD .i32 l
 rcases QcM c x r l with h | h
 case inr =>
  rw [mkA, if_pos (by omega), hdA] at hM'
  rw [QlZ, if_pos (by omega)]
  rw [clA, il] at hM' ⊢
  simp (maxSteps := 4000000) (disch := omega) only [rq, simprocAttr, Q1]
  refine Qb.vc hM' ?_
  simp (maxSteps := 4000000) (disch := omega) only [rq, simprocAttr]
  simp [QS, QF, frzL, Qu]
 rw [mkA, if_neg (by omega)] at hM'
 rw [QlZ, if_neg (by omega)]
 by_cases hp : 64 < p.length
 ·rw [if_pos hp, hdA] at hM'
  rw [if_pos hp]
  rw [clA, il] at hM' ⊢
  simp (maxSteps := 4000000) (disch := omega) only [rq, simprocAttr, Q1]
  refine Qb.vc hM' ?_
  simp (maxSteps := 4000000) (disch := omega) only [rq, simprocAttr]
  simp [QS, QF, frzL, Qu]
 rw [if_neg hp, ← QbT] at hM'
 rw [if_neg hp]
 have hF' := hF c x r l p hI hl
 rw [Qp7 h hp] at hF'
 have hW' := hW (QbT p) c x r (l.length / c)
 rw [hwA, if_pos (Qnf p h)] at hW'
 have hD' := hD p
 rw [Qur, if_neg hp] at hD'
 have hfr := Qp8 (T := ofK (ZZ 0 p) 8) h hI
 have hfl := Qav c x r l (ofK (ZZ 0 p) 8)
 have hple := Qcb h
 obtain ⟨k, n, rfl, k1, k2, hlen, hok, h4⟩ := Qax h
 have hk0 : (l.length : Int) / (k : Int) = n := by rw [hlen, Int.natCast_mul, Int.mul_ediv_cancel _ (by omega)]
 have hk1 : l.length / k = n := by rw [hlen, Nat.mul_div_cancel _ (by omega)]
 simp only [QdS, Int.toNat_natCast, hk0, hk1] at hM' hW' ⊢
 have hE' := hE (Qq k x r l (ofK (ZZ 0 p) 8)) hfr.1 hfr.2
 have hv : ∀ v ∈ Zo (Qq k x r l (ofK (ZZ 0 p) 8)), -9223372036854775808 ≤ v ∧ v ≤ 9223372036854775807 := fun v hv => by
  obtain ⟨b, hb, rfl⟩ := List.mem_map.1 hv
  obtain ⟨i, hi, rfl⟩ := List.mem_iff_getElem.1 hb
  have := hfr.2 i
  rw [List.getD_eq_getElem?_getD, List.getElem?_eq_getElem hi] at this
  simp only [Option.getD_some] at this
  omega
 have hS' := hS (Zo (Qq k x r l (ofK (ZZ 0 p) 8))) (by rw [Qce]; omega) hv
 have hff := Qc1 (Qq k x r l (ofK (ZZ 0 p) 8))
 have hll := Qce (Qq k x r l (ofK (ZZ 0 p) 8))
 have htl := QhK (Zo (Qq k x r l (ofK (ZZ 0 p) 8)))
 have hJ0 := fun A B C hx hy => hJ (A :: B :: C :: Qq k x r l (ofK (ZZ 0 p) 8)) hx hy
 generalize Qq k x r l (ofK (ZZ 0 p) 8) = FF at *
 generalize hHd : hdB (QbT p).toNat k x.toNat r.toNat n = HD at *
 have hHl : HD.length = 22 := by
  rw [← hHd, hdB, Zh, List.length_append, Qc]
  simp [hdP, Qc]
 rw [QoJ, hll] at hE' hS'
 have hmf : (FF.map bs).length = FF.length := by simp
 have tF := Zy FF
 have kn : (ks .i64 (Zo FF)).length = FF.length := by rw [Qh, hll]
 rw [bss] at hF' hE'
 simp only [clA, il, hdA] at hM' hF' hW' ⊢
 rcases Qfi (Zo FF) with hs | ⟨hs, s1, s2, s3⟩
 ·rw [skA, if_neg (by omega), hs] at hS'
  rw [if_pos (by omega)]
  by_cases hn : p = []
  ·have hf : QbT p = 1 := by rw [QbT, if_pos hn]
   rw [hf] at hM' hW'
   simp (maxSteps := 4000000) (disch := omega) only [rq, simprocAttr, Q1]
   refine Qb.vc hM' ?_
   simp (maxSteps := 4000000) (disch := omega) only [rq, simprocAttr]
   refine Qb.vc hF' ?_
   simp (maxSteps := 4000000) (disch := omega) only [rq, simprocAttr]
   refine Qb.vc hW' ?_
   simp (maxSteps := 4000000) (disch := omega) only [rq, simprocAttr]
   refine Qb.vc hE' ?_
   simp (maxSteps := 4000000) (disch := omega) only [rq, simprocAttr]
   refine Qb.vc hS' ?_
   simp (maxSteps := 4000000) (disch := omega) only [rq, simprocAttr]
   simp [QS, QF, frzL, Qu]
  ·have hf : QbT p = 2 := by rw [QbT, if_neg hn]
   rw [hf] at hM' hW'
   simp (maxSteps := 4000000) (disch := omega) only [rq, simprocAttr, Q1]
   refine Qb.vc hM' ?_
   simp (maxSteps := 4000000) (disch := omega) only [rq, simprocAttr]
   refine Qb.vc hF' ?_
   simp (maxSteps := 4000000) (disch := omega) only [rq, simprocAttr]
   refine Qb.vc hW' ?_
   simp (maxSteps := 4000000) (disch := omega) only [rq, simprocAttr]
   refine Qb.vc hD' ?_
   simp (maxSteps := 4000000) (disch := omega) only [rq, simprocAttr]
   refine Qb.vc hE' ?_
   simp (maxSteps := 4000000) (disch := omega) only [rq, simprocAttr]
   refine Qb.vc hS' ?_
   simp (maxSteps := 4000000) (disch := omega) only [rq, simprocAttr]
   simp [QS, QF, frzL, Qu]
 ·rw [skA, if_pos hs] at hS'
  rw [if_neg (by omega)]
  have hsum : FF.flatten.length ≤ 100000 := by
   have hok2 : Qls 100000 (Zo FF) := by
    unfold skN at hs
    split at hs
    ·cases hs
    split at hs
    ·assumption
    ·cases hs
   rcases QhP hok2 with q | q
   ·rw [hff] at q; omega
   ·rw [q] at s1; simp at s1
  have hTb : (Zh (Jo (Zo FF))).length ≤ 5000 := by rw [Zh, List.length_append, Qc, htl]; omega
  have tH := Qy HD
  have tT := Qy (Zh (Jo (Zo FF)))
  generalize Zh (Jo (Zo FF)) = TB at *
  by_cases hn : p = []
  ·have hf : QbT p = 1 := by rw [QbT, if_pos hn]
   have hsb : QmX p = [] := by rw [QmX, if_pos hn]
   rw [hf] at hM' hW'
   rw [hsb, List.nil_append]
   have hJ' := hJ0 HD [] TB (by simp only [List.length_cons]; omega) (by simp only [List.flatten_cons, List.length_append, List.length_nil]; omega)
   simp only [List.flatten_cons, List.nil_append] at hJ'
   have tX := Qy (HD ++ (TB ++ FF.flatten))
   generalize HD ++ (TB ++ FF.flatten) = XX at *
   simp only [bss, bs, List.map_cons, List.length_cons, JZ, List.length_nil] at hJ' hW' hS' ⊢
   simp (maxSteps := 4000000) (disch := omega) only [rq, simprocAttr, Q1]
   refine Qb.vc hM' ?_
   simp (maxSteps := 4000000) (disch := omega) only [rq, simprocAttr]
   refine Qb.vc hF' ?_
   simp (maxSteps := 4000000) (disch := omega) only [rq, simprocAttr]
   refine Qb.vc hW' ?_
   simp (maxSteps := 4000000) (disch := omega) only [rq, simprocAttr]
   refine Qb.vc hE' ?_
   simp (maxSteps := 4000000) (disch := omega) only [rq, simprocAttr]
   refine Qb.vc hS' ?_
   simp (maxSteps := 4000000) (disch := omega) only [rq, simprocAttr, hmf]
   refine Qb.still 1 [2] hJ' (by simp [QS, QF, frzL, Qu, frzL_T _ tH, frzL_T _ tT, frzL_T _ tF]; omega) ?_
   simp (maxSteps := 4000000) (disch := omega) only [rq, simprocAttr]
   simp [QS, QF, frzL, Qu, frzL_T _ tX]
  ·have hf : QbT p = 2 := by rw [QbT, if_neg hn]
   have hsb : QmX p = leB (ZZ 0 p) 8 := by rw [QmX, if_neg hn]
   rw [hf] at hM' hW'
   rw [hsb]
   have hJ' := hJ0 HD (leB (ZZ 0 p) 8) TB (by simp only [List.length_cons]; omega) (by simp only [List.flatten_cons, List.length_append, Qc]; omega)
   simp only [List.flatten_cons] at hJ'
   have tX := Qy (HD ++ (leB (ZZ 0 p) 8 ++ (TB ++ FF.flatten)))
   have tS := Qy (leB (ZZ 0 p) 8)
   have l8 : (leB (ZZ 0 p) 8).length = 8 := Qc _ _
   generalize HD ++ (leB (ZZ 0 p) 8 ++ (TB ++ FF.flatten)) = XX at *
   generalize leB (ZZ 0 p) 8 = SB at *
   simp only [bss, bs, List.map_cons, List.length_cons] at hJ' hW' hS' hD' ⊢
   simp (maxSteps := 4000000) (disch := omega) only [rq, simprocAttr, Q1]
   refine Qb.vc hM' ?_
   simp (maxSteps := 4000000) (disch := omega) only [rq, simprocAttr]
   refine Qb.vc hF' ?_
   simp (maxSteps := 4000000) (disch := omega) only [rq, simprocAttr]
   refine Qb.vc hW' ?_
   simp (maxSteps := 4000000) (disch := omega) only [rq, simprocAttr]
   refine Qb.vc hD' ?_
   simp (maxSteps := 4000000) (disch := omega) only [rq, simprocAttr]
   refine Qb.vc hE' ?_
   simp (maxSteps := 4000000) (disch := omega) only [rq, simprocAttr]
   refine Qb.vc hS' ?_
   simp (maxSteps := 4000000) (disch := omega) only [rq, simprocAttr, hmf]
   refine Qb.still 1 [2] hJ' (by simp [QS, QF, frzL, Qu, frzL_T _ tH, frzL_T _ tT, frzL_T _ tF, frzL_T _ tS]; omega) ?_
   simp (maxSteps := 4000000) (disch := omega) only [rq, simprocAttr]
   simp [QS, QF, frzL, Qu, frzL_T _ tX]
theorem Qul {c x : Int} {t l : List Int} (hL : I32 l) (h : QbZ c x l = 0) : (QcT c.toNat x t l).length ≤ 11 * l.length + 5 := by
 obtain ⟨k, m, rfl, hkM, hx, e1, e2, e3, e4, e5, e6⟩ := QiQ hL h
 have hvl := QeL k x t l
 obtain ⟨_, q2, _⟩ := Qa3 (c := k) (Qhm k x t l) (QmW k x t l).length
 rw [Int.toNat_natCast, QcT, Qfk, QeV]
 unfold nB
 omega
theorem Qpi : ∀ (l : List Int) (m : Int), (∀ v ∈ l, 5 ≤ v) → l.sum ≤ m → Qls m l
 | [], _, _, _ => trivial
 | n :: l, m, h, hs => by
  have h1 := h n List.mem_cons_self
  rw [List.sum_cons] at hs
  have hn : 0 ≤ l.sum := by
   have : ∀ l : List Int, (∀ v ∈ l, 5 ≤ v) → 0 ≤ l.sum := fun l => by
    induction l with
    | nil => intro _; simp
    | cons a l ih =>
     intro h
     have := h a List.mem_cons_self
     have := ih fun v hv => h v (List.mem_cons_of_mem _ hv)
     rw [List.sum_cons]; omega
   exact this l fun v hv => h v (List.mem_cons_of_mem _ hv)
  exact ⟨h1, by omega, Qpi l (m - n) (fun v hv => h v (List.mem_cons_of_mem _ hv)) (by omega)⟩
theorem Qqe {c x : Int} {T : List Int} : ∀ S : List (List Int), (∀ q ∈ S, I32 q ∧ QbZ c x q = 0) → ((S.map (QcT c.toNat x T)).flatten.length ≤ 11 * S.flatten.length + 5 * S.length)
 | [], _ => by simp
 | q :: S, h => by
  have h1 := Qqe (T := T) S fun p hp => h p (List.mem_cons_of_mem _ hp)
  obtain ⟨h2, h3⟩ := h q List.mem_cons_self
  have h4 := Qul (t := T) h2 h3
  rw [List.map_cons, List.flatten_cons, List.flatten_cons, List.length_append, List.length_append, List.length_cons]
  omega
theorem QhO {c x r : Int} {l T : List Int} (h : ZL c x r l = 0) (hI : I32 l) : skN (Zo (Qq c x r l T)) = 0 ∧ (Qq c x r l T).flatten.length ≤ 49000 := by
 have hple := Qcb h
 have hfl := Qav c x r l T
 have hpl := Qfq c r l
 have hf := Qqe (T := T) (QY c r l) fun q hq => ⟨QjS h hI q hq, (Qdb h q hq).1⟩
 rw [QdN h] at hf
 have h4 : l.length ≤ 4000 := by obtain ⟨_, _, _, _, _, _, _, h4⟩ := Qax h; exact h4
 have hfr : (Qq c x r l T).flatten.length ≤ 49000 := by
  show ((QY c r l).map (QcT c.toNat x T)).flatten.length ≤ 49000
  omega
 have hll := Qce (Qq c x r l T)
 have h1 : 1 ≤ (Qq c x r l T).length := by rw [hfl, hpl, XC]; exact Nat.le_add_left 1 _
 refine ⟨?_, hfr⟩
 rw [skN, if_neg (by omega), if_pos]
 refine Qpi _ _ (fun v hv => ?_) (by rw [Qc1]; omega)
 obtain ⟨b, hb, rfl⟩ := List.mem_map.1 hv
 obtain ⟨q, hq, rfl⟩ := List.mem_map.1 (show b ∈ (QY c r l).map (QcT c.toNat x T) from hb)
 have := (Qkj (t := T) (QjS h hI q hq) (Qdb h q hq).1).2
 omega
def rdF (b : List UInt8) (o k : Nat) : Nat := leN ((b.drop o).take k)
def Qvs : List UInt8 := [84, 84, 65, 49]
def hrN (b : List UInt8) : Int :=
 if b.take 4 ≠ Qvs.take b.length then 12
 else if b.length < 22 then 24
 else if QbN (b.take 18) ≠ rdF b 18 4 then 22
 else if ¬ shP (rdF b 4 2) (rdF b 6 2) (rdF b 8 2) (rdF b 10 4) (rdF b 14 4) then 12
 else if ¬ Qru (rdF b 6 2) (rdF b 10 4) (rdF b 14 4) then 4 else 0
def hrA (b : List UInt8) : AV := if hrN b = 0 then .tup [hdA (rdF b 4 2) (rdF b 6 2) (rdF b 8 2) (rdF b 10 4) (rdF b 14 4), .int .i64 0] else .tup [hdA 0 0 0 0 0, .int .i64 (hrN b)]
theorem QgU {A B C : List UInt8} {o k n : Nat} (h : A.length = o) (hn : n < 256 ^ k) (e : B = leB n k) : rdF (A ++ (B ++ C)) o k = n := by
 subst h e
 rw [rdF, List.drop_left, List.take_append_of_le_length (by rw [Qc]; omega), List.take_of_length_le (by rw [Qc]; omega), QpS _ _ hn]
theorem Qua {f c b r n : Int} (h : hdN f c b r n = 0) (R : List UInt8) : hrA (hdB f.toNat c.toNat b.toNat r.toNat n.toNat ++ R) = .tup [hdA f c b r n, .int .i64 0] := by
 have hh : shP f c b r n ∧ Qru c r n := by
  unfold hdN at h
  split at h
  ·assumption
  ·cases h
 obtain ⟨f, c, b, r, n, rfl, rfl, rfl, rfl, rfl, a1, a2, a3, a4, a5⟩ := QlS h
 simp only [Int.toNat_natCast]
 have l5 : (hdP f c b r n 5).length = 18 := by simp [hdP, Qc]
 have hsm : QbN (hdP f c b r n 5) < 4294967296 := by unfold QbN; omega
 have e0 : hdB f c b r n ++ R = [84, 84, 65, 49] ++ (leB f 2 ++ (leB c 2 ++ (leB b 2 ++ (leB r 4 ++ (leB n 4 ++ (leB (QbN (hdP f c b r n 5)) 4 ++ R)))))) := by
  simp only [hdB, Zh, hdP, List.append_assoc]
 have lX : (hdB f c b r n ++ R).length = 22 + R.length := by rw [hdB, Zh, List.length_append, List.length_append, Qc, l5]
 have e1 : rdF (hdB f c b r n ++ R) 4 2 = f := by
  rw [e0]
  exact QgU rfl (by omega) rfl
 have e2 : rdF (hdB f c b r n ++ R) 6 2 = c := by
  rw [e0, ← List.append_assoc]
  exact QgU (by simp [Qc]) (by omega) rfl
 have e3 : rdF (hdB f c b r n ++ R) 8 2 = b := by
  rw [e0, ← List.append_assoc, ← List.append_assoc]
  exact QgU (by simp [Qc]) (by omega) rfl
 have e4 : rdF (hdB f c b r n ++ R) 10 4 = r := by
  rw [e0, ← List.append_assoc, ← List.append_assoc, ← List.append_assoc]
  exact QgU (by simp [Qc]) (by omega) rfl
 have e5 : rdF (hdB f c b r n ++ R) 14 4 = n := by
  rw [e0, ← List.append_assoc, ← List.append_assoc, ← List.append_assoc, ← List.append_assoc]
  exact QgU (by simp [Qc]) (by omega) rfl
 have e6 : rdF (hdB f c b r n ++ R) 18 4 = QbN (hdP f c b r n 5) := by
  rw [hdB, Zh, List.append_assoc]
  exact QgU l5 (by simpa using hsm) rfl
 have e7 : (hdB f c b r n ++ R).take 18 = hdP f c b r n 5 := by
  rw [hdB, Zh, List.append_assoc, ← l5, List.take_left]
 have e8 : (hdB f c b r n ++ R).take 4 = Qvs.take (hdB f c b r n ++ R).length := by
  rw [lX, List.take_of_length_le (l := Qvs) (by simp [Qvs]; omega), e0]
  rfl
 have h0 : hrN (hdB f c b r n ++ R) = 0 := by
  unfold hrN
  rw [if_neg (by rw [e8]; simp), if_neg (by omega), if_neg (by rw [e6, e7]; simp), e1, e2, e3, e4, e5, if_neg (fun q => q hh.1), if_neg (fun q => q hh.2)]
 rw [hrA, if_pos h0, e1, e2, e3, e4, e5]
def Qtu (c x r : Int) (l : List Int) (p : List UInt8) : List UInt8 := QmX p ++ (Zh (Jo (Zo (Qq c x r l (ofK (ZZ 0 p) 8)))) ++ (Qq c x r l (ofK (ZZ 0 p) 8)).flatten)
theorem Qqi {c x r : Int} {l : List Int} (p : List UInt8) (h : ZL c x r l = 0) : QdS c x r l p = hdB (QbT p).toNat c.toNat x.toNat r.toNat (((l.length : Int) / c).toNat) ++ Qtu c x r l p ∧ hrA (QdS c x r l p) = .tup [hdA (QbT p) c x r (l.length / c), .int .i64 0] := by
 have hd := Qnf p h
 obtain ⟨k, n, rfl, _⟩ := Qax h
 have e1 : (((l.length : Int) / (k : Int)).toNat) = l.length / (k : Int).toNat := by
  rw [Int.toNat_natCast, ← Int.natCast_ediv, Int.toNat_natCast]
 have e2 : QdS k x r l p = hdB (QbT p).toNat (k : Int).toNat x.toNat r.toNat (((l.length : Int) / (k : Int)).toNat) ++ Qtu k x r l p := by rw [e1]; rfl
 exact ⟨e2, by rw [e2]; exact Qua hd _⟩
theorem Qie (f c b r n : Nat) : (hdB f c b r n).length = 22 := by
 rw [hdB, Zh, List.length_append, Qc]
 simp [hdP, Qc]
theorem QjH (l : List Int) : (Zh (Jo l)).length = 4 * l.length + 4 := by rw [Zh, List.length_append, Qc, QhK]
theorem Qsw {c x r : Int} {l : List Int} {p : List UInt8} (h : ZL c x r l = 0) (hI : I32 l) : (QdS c x r l p).length = 22 + (QmX p).length + (4 * (Qq c x r l (ofK (ZZ 0 p) 8)).length + 4) + (Qq c x r l (ofK (ZZ 0 p) 8)).flatten.length ∧ (QdS c x r l p).length ≤ 60000 := by
 have h1 := (Qqi p h).1
 have h2 := Qcb h
 have h3 := Qav c x r l (ofK (ZZ 0 p) 8)
 have h4 := (QhO (T := ofK (ZZ 0 p) 8) h hI).2
 have h5 : (QmX p).length ≤ 8 := by unfold QmX; split <;> simp [Qc]
 have h6 := QjH (Zo (Qq c x r l (ofK (ZZ 0 p) 8)))
 rw [Qce] at h6
 rw [h1, Qtu, List.length_append, List.length_append, List.length_append, Qie, h6]
 omega
def fEx : List UInt8 := QdS 1 8 8000 [0] []
theorem QvQ : QlZ 1 8 8000 [0] [] = .tup [bs fEx, .int .i64 0] := by
 have h1 : ZL 1 8 8000 [0] = 0 := by decide +kernel
 have h2 : skN (Zo (Qq 1 8 8000 [0] (ofK (ZZ 0 []) 8))) = 0 := (QhO h1 (by intro v hv; simp at hv; omega)).1
 rw [QlZ, if_neg (by omega), if_neg (by simp), if_neg (by omega)]
 rfl
theorem Quk : fEx.length = 36 ∧ fEx.take 4 = [84, 84, 65, 49] ∧ (fEx.drop 22).take 4 = [6, 0, 0, 0] := by decide +kernel
def z65 : List UInt8 := List.replicate 65 0
def z64 : List UInt8 := List.replicate 64 0
def QdD : Enc := ⟨0, 0, 0, [], [], [], [], [], false, 0⟩
def tpE (e : Enc) : List Int := ofK (ZZ 0 e.pw) 8
def ZK (e : Enc) (x : Int) : Enc := ⟨e.ch, e.bits, e.rate, e.pw, [], [], [], [], false, x⟩
def Xd (e : Enc) : Enc := { e with frs := e.frs ++ [QcT e.ch.toNat e.bits (tpE e) e.smp], smp := [] }
def Z1 (e : Enc) (m : List UInt8) : Enc := { e with smp := e.smp ++ ZY e.bits m, rest := [] }
def Z8 (e : Enc) (m : List UInt8) : Enc := if ((Z1 e m).smp.length : Int) < Qf e.rate * e.ch then Z1 e m else Xd (Z1 e m)
def Qal (e : Enc) (c : UInt8) : Enc × Int :=
 if (e.rest.length : Int) + 1 < e.ch * e.bits / 8 then ({ e with rest := e.rest ++ [c] }, 0)
 else if Qak e.ch (e.frs.length + 1) (Qx e (Qf e.rate) + 1) = false then (ZK e 18, 18)
 else (Z8 e (e.rest ++ [c]), 0)
def QI : Enc → List UInt8 → Enc × Int
 | e, [] => (e, 0)
 | e, c :: l => if (Qal e c).2 ≠ 0 then Qal e c else QI (Qal e c).1 l
def Xb (e : Enc) (l : List UInt8) : Enc × Int := if Qs e ≠ 0 then (QdD, 8) else if e.err ≠ 0 then (e, e.err) else if e.done = true then (e, 36) else QI e l
structure OkG (e : Enc) : Prop where
 r : Qz e.ch e.bits e.rate e.pw = true
 err : e.err = 0
 done : e.done = false
 out : e.out = []
 rest : (e.rest.length : Int) < e.ch * e.bits / 8
 dv : (e.smp.length : Int) % e.ch = 0
 lt : (e.smp.length : Int) / e.ch < Qf e.rate
 fr : e.frs.length ≤ 1000
 ck : QM e.bits e.smp = 0
 rm : Qak e.ch (e.frs.length + if 0 < e.smp.length then 1 else 0) (Qx e (Qf e.rate)) = true
 bd : e.frs.any (Qcx ((81 * Qf e.rate * e.ch + 7) / 8 + 4)) = false
set_option maxRecDepth 20000 in
theorem Qkh {e : Enc} (hr : Qz e.ch e.bits e.rate e.pw = true) (h1 : e.err = 0) (h2 : e.done = false) : Qdn e = true ↔ OkG e := by
 constructor
 ·intro h
  unfold Qdn at h
  simp only at h
  by_cases a1 : 0 < e.out.length ∨ e.ch * e.bits / 8 ≤ e.rest.length ∨ (e.smp.length : Int) % e.ch ≠ 0 ∨ Qf e.rate ≤ (e.smp.length : Int) / e.ch ∨ 1000 < e.frs.length
  ·rw [if_pos a1] at h; cases h
  rw [if_neg a1] at h
  by_cases a2 : QM e.bits e.smp ≠ 0
  ·rw [if_pos a2] at h; cases h
  rw [if_neg a2] at h
  by_cases a3 : Qak e.ch (e.frs.length + if 0 < e.smp.length then 1 else 0) (Qx e (Qf e.rate)) = false
  ·rw [if_pos a3] at h; cases h
  rw [if_neg a3] at h
  have a3' : Qak e.ch (e.frs.length + if 0 < e.smp.length then 1 else 0) (Qx e (Qf e.rate)) = true := by
   cases hq : Qak e.ch (e.frs.length + if 0 < e.smp.length then 1 else 0) (Qx e (Qf e.rate))
   ·exact absurd hq a3
   ·rfl
  refine ⟨hr, h1, h2, ?_, by omega, by omega, by omega, by omega, by simpa using a2, a3', by
   cases hq : e.frs.any (Qcx ((81 * Qf e.rate * e.ch + 7) / 8 + 4))
   ·rfl
   ·rw [hq] at h; cases h⟩
  exact List.eq_nil_of_length_eq_zero (by omega)
 ·rintro ⟨b1, b2, b3, b4, b5, b6, b7, b8, b9, b10, b11⟩
  unfold Qdn
  have ho : e.out.length = 0 := by rw [b4]; rfl
  simp only
  rw [if_neg (by omega), if_neg (by rw [b9]; simp), if_neg (by rw [b10]; exact Bool.noConfusion), b11]
  rfl
theorem Qdd {e : Enc} (h : OkG e) : Qs e = 0 := by
 unfold Qs
 rw [if_neg]
 rintro (h1 | h1)
 ·rw [h.r] at h1; cases h1
 ·unfold Q5 at h1
  rw [if_neg (by rw [h.err]; simp), if_neg (by rw [h.done]; simp), (Qkh h.r h.err h.done).2 h] at h1
  cases h1
theorem Qs0 {e : Enc} (h : Qs e = 0) (h1 : e.err = 0) (h2 : e.done = false) : OkG e := by
 unfold Qs at h
 split at h
 ·cases h
 rename_i a
 have hr : Qz e.ch e.bits e.rate e.pw = true := by
  cases hq : Qz e.ch e.bits e.rate e.pw
  ·exact absurd (.inl hq) a
  ·rfl
 refine (Qkh hr h1 h2).1 ?_
 have hp : Q5 e = true := by
  cases hq : Q5 e
  ·exact absurd (.inr hq) a
  ·rfl
 unfold Q5 at hp
 rwa [if_neg (by rw [h1]; simp), if_neg (by rw [h2]; simp)] at hp
theorem QcN {e : Enc} (h : Qs e = 0) : Qz e.ch e.bits e.rate e.pw = true := by
 unfold Qs at h
 split at h
 ·cases h
 rename_i a
 cases hq : Qz e.ch e.bits e.rate e.pw
 ·exact absurd (.inl hq) a
 ·rfl
theorem Qg7 {e : Enc} {x : Int} (hr : Qz e.ch e.bits e.rate e.pw = true) (hx : x = 18 ∨ x = 24) : Qs (ZK e x) = 0 := by
 unfold Qs
 rw [if_neg]
 rintro (h1 | h1)
 ·simp only [ZK] at h1; rw [hr] at h1; cases h1
 ·unfold Q5 at h1
  simp only [ZK] at h1
  rw [if_pos (by omega)] at h1
  rcases hx with h | h <;> simp [h] at h1
theorem Qlq {c x : Int} {m : List UInt8} (hx : Xk x ≠ 0) (h1 : 1 ≤ c) (h2 : c ≤ 6) (hm : (m.length : Int) = c * x / 8) : ((ZY x m).length : Int) = c := by
 have hb := (QlT x).1 hx
 rw [XT]
 rcases hb with rfl | rfl | rfl
 ·simp at hm ⊢; omega
 ·simp at hm ⊢; omega
 ·simp at hm ⊢; omega
theorem Qe1 {x : Int} {l : List Int} (hx : Xk x ≠ 0) (hl : l.length ≤ 4000) (h : ∀ y ∈ l, -Xk x ≤ y ∧ y < Xk x) : QM x l = 0 := by
 unfold QM
 rw [if_neg hx, if_neg (by omega), if_pos]
 rw [List.all_eq_true]
 intro y hy
 have := h y hy
 simp only [inR, Bool.and_eq_true, decide_eq_true_eq]
 omega
theorem QbU {x : Int} {l : List Int} (h : QM x l = 0) : Xk x ≠ 0 ∧ l.length ≤ 4000 ∧ ∀ y ∈ l, -Xk x ≤ y ∧ y < Xk x := by
 unfold QM at h
 split at h
 ·cases h
 rename_i a1
 split at h
 ·cases h
 rename_i a2
 split at h
 ·rename_i a3
  refine ⟨a1, by omega, fun y hy => ?_⟩
  have := List.all_eq_true.1 a3 y hy
  simp only [inR, Bool.and_eq_true, decide_eq_true_eq] at this
  omega
 ·cases h
theorem Qbh (c n m : Int) : Qak c n m = true ↔ n ≤ 1000 ∧ m * c ≤ 4000 := by simp [Qak]
theorem Qmj {x : Int} {l : List Int} (h : QM x l = 0) : I32 l := fun y hy => by
 obtain ⟨h1, _, h2⟩ := QbU h
 have := h2 y hy
 rcases ZH x with ⟨_, q⟩ | ⟨_, q⟩ | ⟨_, q⟩ | ⟨_, _, _, q⟩ <;> omega
set_option maxRecDepth 20000 in
theorem OkG.nat {e : Enc} (h : OkG e) : ∃ k L q : Nat, e.ch = k ∧ 1 ≤ k ∧ k ≤ 6 ∧ Qf e.rate = L ∧ 1 ≤ L ∧ L ≤ 1095654 ∧ e.smp.length = q * k ∧ q < L ∧ Xk e.bits ≠ 0 ∧ (e.frs.length * L + q) * k ≤ 4000 ∧ Qx e (Qf e.rate) = ((e.frs.length * L + q : Nat) : Int) ∧ (e.bits = 8 ∨ e.bits = 16 ∨ e.bits = 24) := by
 obtain ⟨⟨r1, r2, r3⟩, ⟨r4, r5⟩, r6⟩ := QJ.1 h.r
 have hL := ZS e.rate
 have hL2 := QeT r5
 obtain ⟨k, hk⟩ : ∃ k : Nat, e.ch = k := ⟨e.ch.toNat, by omega⟩
 obtain ⟨L, hLe⟩ : ∃ k : Nat, Qf e.rate = k := ⟨(Qf e.rate).toNat, by omega⟩
 have h1 := h.dv
 have h2 := h.lt
 have h3 := (Qbh _ _ _).1 h.rm
 rw [hk] at h1 h2 r2 r3 h3
 rw [hLe] at h2 hL hL2
 have h1' : e.smp.length % k = 0 := by exact_mod_cast h1
 have h2' : e.smp.length / k < L := by exact_mod_cast h2
 have e3 := Nat.div_add_mod e.smp.length k
 rw [h1', Nat.add_zero, Nat.mul_comm] at e3
 have hc : Qx e (Qf e.rate) = ((e.frs.length * L + e.smp.length / k : Nat) : Int) := by rw [Qx, hLe, hk]; simp
 refine ⟨k, L, e.smp.length / k, hk, by omega, by omega, hLe, by omega, by omega, e3.symm, h2', r1, ?_, hc, (QlT _).1 r1⟩
 have := h3.2
 rw [hc] at this
 exact_mod_cast this
theorem QsT {α : Type} {p : α → Bool} {l : List α} {a : α} (h : l.any p = false) (ha : p a = false) : (l ++ [a]).any p = false := by simp [List.any_append, h, ha]
set_option maxRecDepth 20000 in
theorem QeK {e : Enc} {m : List UInt8} (h : OkG e) (hm : (m.length : Int) = e.ch * e.bits / 8) (hr : Qak e.ch (e.frs.length + 1) (Qx e (Qf e.rate) + 1) = true) : OkG (Z8 e m) ∧ QbZ e.ch e.bits ((Z1 e m).smp) = 0 ∧ (Z1 e m).smp.length ≤ 4000 ∧ I32 (Z1 e m).smp := by
 obtain ⟨k, L, q, hk, k1, k6, hL, L1, L2, hlen, hq, hx, hrm, hcn, hbits⟩ := h.nat
 obtain ⟨⟨r1, r2, r3⟩, ⟨r4, r5⟩, r6⟩ := QJ.1 h.r
 have hsl := Qlq hx r2 r3 hm
 rw [hk] at hsl
 have hsl' : (ZY e.bits m).length = k := by exact_mod_cast hsl
 obtain ⟨g1, g2⟩ := (Qbh _ _ _).1 hr
 rw [hcn, hk] at g2
 have g2' : (e.frs.length * L + q + 1) * k ≤ 4000 := by exact_mod_cast g2
 have hml : (Z1 e m).smp.length = (q + 1) * k := by simp only [Z1, List.length_append, hlen, hsl']; rw [Nat.add_mul, Nat.one_mul]
 have hle : (q + 1) * k ≤ 4000 := Nat.le_trans (Nat.mul_le_mul_right k (by omega)) g2'
 obtain ⟨_, _, c3⟩ := QbU h.ck
 have hck : QM e.bits (Z1 e m).smp = 0 := Qe1 hx (by omega) fun y hy => by
  simp only [Z1, List.mem_append] at hy
  rcases hy with hy | hy
  ·exact c3 y hy
  ·exact QdI hx m y hy
 have hI := Qmj hck
 have he0 : QT e.ch e.bits = 0 := by
  rcases Q0 e.ch e.bits with q' | q'
  ·unfold QT at q'; split at q' <;> omega
  ·exact q'.1
 have hask : QbZ e.ch e.bits (Z1 e m).smp = 0 := Qq1 he0 hck (by
  rw [hml, hk]
  have : 0 < (q + 1) * k := Nat.mul_pos (by omega) (by omega)
  have h2 : (((q + 1) * k : Nat) : Int) % (k : Int) = 0 := by rw [Int.natCast_mul]; exact Int.mul_emod_left _ _
  omega)
 refine ⟨?_, hask, by omega, hI⟩
 unfold Z8
 have hm0 : (0 : Int) < e.ch * e.bits / 8 := by have := (J2 r2 r3 r1).1; omega
 by_cases hlt : ((Z1 e m).smp.length : Int) < Qf e.rate * e.ch
 ·rw [if_pos hlt]
  rw [hml, hL, hk] at hlt
  have hlt' : (q + 1) * k < L * k := by exact_mod_cast hlt
  have hq1 : q + 1 < L := Nat.lt_of_mul_lt_mul_right hlt'
  have hd : (((q + 1) * k : Nat) : Int) / (k : Int) = ((q + 1 : Nat) : Int) := by rw [Int.natCast_mul]; exact Int.mul_ediv_cancel _ (by omega)
  refine ⟨h.r, h.err, h.done, h.out, by simpa [Z1] using hm0, ?_, ?_, h.fr, hck, ?_, h.bd⟩
  ·show (((Z1 e m).smp.length : Nat) : Int) % e.ch = 0
   rw [hml, hk, Int.natCast_mul]; exact Int.mul_emod_left _ _
  ·show (((Z1 e m).smp.length : Nat) : Int) / e.ch < Qf e.rate
   rw [hml, hk, hd, hL]; omega
  ·refine (Qbh _ _ _).2 ⟨?_, ?_⟩
   ·show (e.frs.length : Int) + (if 0 < (Z1 e m).smp.length then 1 else 0) ≤ 1000
    split <;> omega
   ·show Qx (Z1 e m) (Qf e.rate) * e.ch ≤ 4000
    have : Qx (Z1 e m) (Qf e.rate) = ((e.frs.length * L + q + 1 : Nat) : Int) := by
     show (e.frs.length : Int) * Qf e.rate + ((Z1 e m).smp.length : Int) / e.ch = _
     rw [hml, hk, hd, hL]; simp; omega
    rw [this, hk]
    exact_mod_cast g2'
 ·rw [if_neg hlt]
  rw [hml, hL, hk] at hlt
  have hlt' : L * k ≤ (q + 1) * k := by
   have := Int.not_lt.1 hlt
   exact_mod_cast this
  have hq1 : q + 1 = L := by
   have := Nat.le_of_mul_le_mul_right hlt' (by omega)
   omega
  have hb : Qcx ((81 * Qf e.rate * e.ch + 7) / 8 + 4) (QcT e.ch.toNat e.bits (tpE e) (Z1 e m).smp) = false := by
   obtain ⟨a1, a2⟩ := Qkj (t := tpE e) hI hask
   obtain ⟨k', m', hk', hkM, _, _⟩ := QiQ hI hask
   have hkk : k' = k := by omega
   subst hkk
   have hvl := QeL k' e.bits (tpE e) (Z1 e m).smp
   obtain ⟨_, q2, _⟩ := Qa3 (c := k') (Qhm k' e.bits (tpE e) (Z1 e m).smp) (QmW k' e.bits (tpE e) (Z1 e m).smp).length
   have hEl : (QcT e.ch.toNat e.bits (tpE e) (Z1 e m).smp).length = nB (Qg3 k' (QmW k' e.bits (tpE e) (Z1 e m).smp) (QmW k' e.bits (tpE e) (Z1 e m).smp).length) + 4 := by
    rw [hk, Int.toNat_natCast, QcT, Qfk, QeV]
   have hnb : nB (Qg3 k' (QmW k' e.bits (tpE e) (Z1 e m).smp) (QmW k' e.bits (tpE e) (Z1 e m).smp).length) ≤ (81 * ((q + 1) * k') + 7) / 8 := by
    unfold nB
    have : (QmW k' e.bits (tpE e) (Z1 e m).smp).length = (q + 1) * k' := by rw [hvl, hml]
    rw [this] at q2 ⊢
    omega
   simp only [Qcx, Bool.or_eq_false_iff, decide_eq_false_iff_not]
   refine ⟨by omega, ?_⟩
   rw [hEl, hL, hk, ← hq1]
   have h81 : (81 * ((q + 1 : Nat) : Int) * (k' : Int) + 7) / 8 = (((81 * ((q + 1) * k') + 7) / 8 : Nat) : Int) := by
    rw [Int.natCast_ediv]
    congr 1
    simp only [Int.natCast_add, Int.natCast_mul]
    rw [Int.mul_assoc]; rfl
   rw [h81]
   omega
  refine ⟨h.r, h.err, h.done, h.out, by simpa [Xd, Z1] using hm0, by simp [Xd, Z1], ?_, ?_, ?_, ?_, QsT h.bd hb⟩
  ·show (((Xd (Z1 e m)).smp.length : Nat) : Int) / e.ch < Qf e.rate
   simp only [Xd, List.length_nil]
   rw [hL]; simp; omega
  ·show (e.frs ++ [_]).length ≤ 1000
   simp only [List.length_append, List.length_cons, List.length_nil]; omega
  ·show QM e.bits [] = 0
   exact Qe1 hx (by simp) (by simp)
  ·refine (Qbh _ _ _).2 ⟨?_, ?_⟩
   ·show (((e.frs ++ [_]).length : Nat) : Int) + (if 0 < ([] : List Int).length then 1 else 0) ≤ 1000
    simp only [List.length_append, List.length_cons, List.length_nil, Nat.lt_irrefl, if_false]; omega
   ·show (((e.frs ++ [_]).length : Nat) * Qf e.rate + ((([] : List Int).length : Nat) : Int) / e.ch) * e.ch ≤ 4000
    have : (((e.frs ++ [QcT e.ch.toNat e.bits (tpE e) (Z1 e m).smp]).length : Nat) * Qf e.rate + ((([] : List Int).length : Nat) : Int) / e.ch) = ((e.frs.length * L + q + 1 : Nat) : Int) := by
     simp only [List.length_append, List.length_cons, List.length_nil, hL]
     have : (e.frs.length + (0 + 1)) * L = e.frs.length * L + L := by rw [Nat.zero_add, Nat.add_mul, Nat.one_mul]
     have h3 : (((e.frs.length + (0 + 1) : Nat) : Int)) * (L : Int) = ((e.frs.length * L + L : Nat) : Int) := by rw [← this]; simp
     rw [h3]; simp; omega
    rw [show (((e.frs ++ [QcT (Z1 e m).ch.toNat (Z1 e m).bits (tpE (Z1 e m)) (Z1 e m).smp]).length : Nat) * Qf e.rate + ((([] : List Int).length : Nat) : Int) / e.ch) = _ from this, hk]
    exact_mod_cast g2'
theorem Qmp {e : Enc} (c : UInt8) (h : OkG e) : ((Qal e c).2 = 0 ∧ OkG (Qal e c).1) ∨ Qal e c = (ZK e 18, 18) := by
 unfold Qal
 split
 ·rename_i h1
  refine .inl ⟨rfl, h.r, h.err, h.done, h.out, ?_, h.dv, h.lt, h.fr, h.ck, h.rm, h.bd⟩
  show (((e.rest ++ [c]).length : Nat) : Int) < _
  simp only [List.length_append, List.length_cons, List.length_nil]
  omega
 ·rename_i h1
  split
  ·exact .inr rfl
  ·rename_i h2
   refine .inl ⟨rfl, (QeK h ?_ (by simpa using h2)).1⟩
   have := h.rest
   simp only [List.length_append, List.length_cons, List.length_nil]
   omega
theorem Qki (e e' : Enc) (x : Int) (h : e.ch = e'.ch ∧ e.bits = e'.bits ∧ e.rate = e'.rate ∧ e.pw = e'.pw) : ZK e x = ZK e' x := by simp [ZK, h.1, h.2.1, h.2.2.1, h.2.2.2]
def Sib (e e' : Enc) : Prop := e.ch = e'.ch ∧ e.bits = e'.bits ∧ e.rate = e'.rate ∧ e.pw = e'.pw
theorem QsK (e : Enc) (c : UInt8) : Sib (Qal e c).1 e := by
 unfold Qal Z8
 split
 ·exact ⟨rfl, rfl, rfl, rfl⟩
 ·split
  ·exact ⟨rfl, rfl, rfl, rfl⟩
  ·simp only
   split <;> exact ⟨rfl, rfl, rfl, rfl⟩
theorem Qnv : ∀ (l : List UInt8) {e : Enc}, OkG e → Sib (QI e l).1 e ∧ (((QI e l).2 = 0 ∧ OkG (QI e l).1) ∨ QI e l = (ZK e 18, 18))
 | [], e, h => ⟨⟨rfl, rfl, rfl, rfl⟩, .inl ⟨rfl, h⟩⟩
 | c :: l, e, h => by
  have hs := QsK e c
  rcases Qmp c h with ⟨h1, h2⟩ | h1
  ·have := Qnv l h2
   rw [QI, if_neg (by rw [h1]; simp)]
   refine ⟨⟨this.1.1.trans hs.1, this.1.2.1.trans hs.2.1, this.1.2.2.1.trans hs.2.2.1, this.1.2.2.2.trans hs.2.2.2⟩, ?_⟩
   rcases this.2 with h3 | h3
   ·exact .inl h3
   ·exact .inr (by rw [h3, Qki _ _ 18 hs])
  ·rw [QI, if_pos (by rw [h1]; simp), h1]
   exact ⟨⟨rfl, rfl, rfl, rfl⟩, .inr rfl⟩
theorem QfJ : ∀ (a b : List UInt8) (e : Enc), QI e (a ++ b) = if (QI e a).2 ≠ 0 then QI e a else QI (QI e a).1 b
 | [], b, e => by simp [QI]
 | c :: a, b, e => by
  rw [List.cons_append, QI, QI]
  by_cases h : (Qal e c).2 ≠ 0
  ·rw [if_pos h, if_pos h, if_pos h]
  ·rw [if_neg h, if_neg h, QfJ a b]
theorem QfB {e : Enc} (h : OkG e) (l : List UInt8) : Xb e l = QI e l := by
 rw [Xb, if_neg (by rw [Qdd h]; simp), if_neg (by rw [h.err]; simp), if_neg (by rw [h.done]; simp)]
theorem Qqk {e : Enc} {x : Int} (hr : Qz e.ch e.bits e.rate e.pw = true) (hx : x = 18 ∨ x = 24) (l : List UInt8) : Xb (ZK e x) l = (ZK e x, x) := by
 rw [Xb, if_neg (by rw [Qg7 hr hx]; simp), if_pos (by show x ≠ 0; omega)]
 rfl
def Qai (t : Nat) (P : Prg) (f : Nat) : Prop := ∀ l : List Int, l.length ≤ 1000000 → VO P f [il l] (.own 0 l.length) ⟨t, 1, l.length, ks .i32 l, 0⟩
theorem QsH {P : Prg} {f t0 : Nat} (b : Qk P f 8 [.tmp 2] (Qw t0)) : Qai t0 P f := by
 intro l hl
 refine VO.of_walk (by simp [isDL, ZC]) (QG _ _) (by simp [okr]) (ACall.virtR t0 1 (by decide) (ACall.of_body b (by simp) ?_))
 by_cases h0 : l = []
 ·subst h0
  simp (maxSteps := 4000000) (disch := omega) only [rq, simprocAttr, Qw, il, Qna, J5]
  exact ⟨.inr ⟨true, rfl, 0, rfl, rfl⟩, .inl ⟨0, rfl, rfl⟩⟩
 ·have h1 : l.length ≠ 0 := by simpa using h0
  simp (maxSteps := 4000000) (disch := omega) only [rq, simprocAttr, Qw, il, Qna, h1, J5]
  exact .inl ⟨0, rfl, rfl⟩
def twA (M : Nat) (e : Enc) : AV := .agg [.int .i64 e.ch, .int .i64 e.bits, .int .i64 e.rate, .str e.pw, .own M e.rest.length, .own (M + 1) e.smp.length, .own (M + 2) e.frs.length, bs e.out, .bool e.done, .int .i64 e.err]
def twO (tb tj tf : Nat) (e : Enc) : List Ob := [⟨tb, 1, e.rest.length, u8 e.rest, 0⟩, ⟨tj, 1, e.smp.length, ks .i32 e.smp, 0⟩, ⟨tf, 1, e.frs.length, e.frs.map bs, 0⟩]
theorem Qn4 {L : List (List UInt8)} {k : Nat} (h : k < L.length) : (L.map bs).take k ++ bs (L.getD k []) :: (L.map bs).drop (k + 1) = L.map bs := by
 have := Qeo h
 conv => rhs; rw [← List.take_append_drop k (L.map bs), this]
set_option maxHeartbeats 1000000 in
theorem Qei {P : Prg} {f fC fJ t0 t1 tb tj : Nat} (bd : Qk P f 42 [.cell 2 t0] (Q6 fC fJ t0 t1)) (hC : JR tb P fC) (hJ : Qai tj P fJ) (ht : ZP P t0 = some (some 10)) {e : Enc} (ho : okC e) (hfr : ∀ b ∈ e.frs, b.length ≤ 1000000) {ob : List Ob} (hl : Low ob.length ob) {K : AV → List Ob → Prop}
  (hK : K (twA ob.length e) (ob ++ twO tb tj t1 e)) : ACall P f [XO e] ob K := by
 refine ACall.pick (ACall.pad (ACall.pad (ACall.of_body bd (by simp) ?_)))
 obtain ⟨o0, o1, o2, o3, o4, o5⟩ := ho
 have hR := hC e.rest (by omega)
 have hS := hJ e.smp (by omega)
 have hOv := VC.of_vo (hC e.out (by omega)) (Qy _) (QR _)
 have hF := fun b (hb : b ∈ e.frs) => VC.of_vo (hC b (hfr b hb)) (Qy _) (QR _)
 have hmb : (e.frs.map bs).length = e.frs.length := by simp
 rw [bs] at hR hOv
 rw [il] at hS
 simp only [XO, XQ, il, bss, bs]
 simp (maxSteps := 4000000) (disch := omega) only [rq, simprocAttr, Q6, List.append_assoc, List.cons_append, List.nil_append, Qj8, QbE, Qk1, QcE]
 refine Q2.vo hR ob.length (by rw [QbE]; rfl) Nat.one_ne_zero ?_
 simp (maxSteps := 4000000) (disch := omega) only [rq, simprocAttr, shr, List.append_assoc, List.cons_append, List.nil_append, Qj8, QbE, Qk1, QcE]
 refine Q2.vo hS (ob.length + 1) (by rw [Qj8]; rfl) Nat.one_ne_zero ?_
 simp (maxSteps := 4000000) (disch := omega) only [rq, simprocAttr, shr, List.append_assoc, List.cons_append, List.nil_append, Qj8, QbE, Qk1, QcE]
 refine Q2.vc hOv ?_
 have hzl : (Qe [.emp true] e.frs.length).length = e.frs.length := by rw [Qv]; simp
 have hall : (e.frs.map bs).all AV.one = true := by simp [List.all_map, bs, AV.one]
 have hmin : Nat.min e.frs.length e.frs.length = e.frs.length := Nat.min_self _
 have htk : (e.frs.map bs).take e.frs.length ++ (Qe [.emp true] e.frs.length).drop e.frs.length = e.frs.map bs := by rw [List.take_of_length_le (by omega), List.drop_of_length_le (by omega), List.append_nil]
 simp (maxSteps := 4000000) (disch := omega) only [rq, simprocAttr, shr, List.append_assoc, List.cons_append, List.nil_append, Qj8, QbE, Qk1, QcE, hmb, hzl, hall, hmin, htk]
 refine QP.by (ι := Nat) (fun k => ⟨[(27, .int .i64 k), (26, .int .i64 e.frs.length), (3, .own (ob.length + 4) e.frs.length), (2, .ref (ob.length + 3) 1 0), (1, .ref (ob.length + 2) 1 0)], ob ++ [⟨tb, 1, e.rest.length, u8 e.rest, 0⟩, ⟨tj, 1, e.smp.length, ks .i32 e.smp, 0⟩, ⟨t0, 10, 1, [.int .i64 e.ch, .int .i64 e.bits, .int .i64 e.rate, .str e.pw, .own ob.length e.rest.length, .own (ob.length + 1) e.smp.length, .list e.frs.length (e.frs.map bs), .list e.out.length (u8 e.out), .bool e.done, .int .i64 e.err], 0⟩, ⟨t0, 10, 1, [.int .i64 0, .int .i64 0, .int .i64 0, .str [], .emp true, .emp true, .emp true, .emp true, .bool false, .int .i64 0], 0⟩, ⟨t1, 1, e.frs.length, e.frs.map bs, 0⟩]⟩) (fun k => k ≤ e.frs.length) (fun k => e.frs.length - k) 0 (Le.slots (by simp [Am.look])) (by omega) ?_
 intro k hk
 by_cases hlt : k < e.frs.length
 ·have e1 := Qeo (L := e.frs) (k := k) hlt
  have hst := Qn4 (L := e.frs) hlt
  have hst2 : (e.frs.map bs).take k ++ [bs (e.frs.getD k [])] ++ (e.frs.map bs).drop (k + 1) = e.frs.map bs := by rw [List.append_assoc]; exact hst
  have hF' := hF (e.frs.getD k []) (by rw [List.getD_eq_getElem?_getD, List.getElem?_eq_getElem hlt]; exact List.getElem_mem hlt)
  have ho1 : AV.one (bs (e.frs.getD k [])) = true := rfl
  rw [bs] at hF'
  rw [bs] at e1 hst hst2
  generalize e.frs.getD k [] = F at *
  simp (maxSteps := 4000000) (disch := omega) only [rq, simprocAttr, List.append_assoc, List.cons_append, List.nil_append, Qj8, QbE, Qk1, QcE, hmb, e1]
  refine Qb.vc hF' ?_
  simp (maxSteps := 4000000) (disch := omega) only [rq, simprocAttr, List.append_assoc, List.cons_append, List.nil_append, Qj8, QbE, Qk1, QcE, hmb, hst, hst2]
  exact ⟨k + 1, by omega, by omega, Le.slots (by simp [Am.look])⟩
 ·simp (maxSteps := 4000000) (disch := omega) only [rq, simprocAttr, List.append_assoc, List.cons_append, List.nil_append, Qj8, QbE, Qk1, QcE, hmb, ZG, ht, QU]
  refine ⟨[0, 1, 4], ob, _, rfl, Nat.le_refl _, hl, by decide, by simp, ?_⟩
  simpa [rnV, rnL, pkO, QtP, Qwa, rnL_D _ _ (QR _), rnL_D _ _ (QG _ _), rnL_D _ _ (Zf _), List.idxOf_cons, twA, twO, bs] using hK
def Qrp (c x r : Int) (p : List UInt8) (y : Int) : List AV := [.int .i64 c, .int .i64 x, .int .i64 r, .str p, .emp true, .emp true, .emp true, .emp true, .bool false, .int .i64 y]
def Qi3 (P : Prg) (f : Nat) : Prop := ∀ (e : Enc) (y : Int), VC P f [XO e, .int .i64 y] (.tup [.agg (Qrp e.ch e.bits e.rate e.pw y), .int .i64 y])
theorem QjQ {P : Prg} {f t0 : Nat} (bd : Qk P f 15 [.cell 4 t0, .tmp 5] (Qad t0)) (ht : ZP P t0 = some (some 10)) : Qi3 P f := by
 intro e y
 refine VC.of_acall (by simp [isDL, isD, ZT]) (by simp [isD, isDL, Qrp]) (ACall.of_body bd (by simp) ?_)
 simp only [XO, XQ, il, bss, bs]
 simp (maxSteps := 4000000) (disch := omega) only [rq, simprocAttr, Qad, ZG, ht, QU, Qrp]
def Qcn (e : Enc) : Int := if e.err ≠ 0 then e.err else if e.done = true then 36 else 0
set_option maxHeartbeats 1000000 in
theorem Qc9 {P : Prg} {f fC fL fT fK fJ t0 t1 tb tj : Nat} (bd : Qk P f 33 [.cell 2 t0, .tmp 3, .tmp 4] (Zb fC fL fT t0)) (hC : QaE P fC) (hL : QaF P fL) (bT : Qk P fT 42 [.cell 2 t0] (Q6 fK fJ t0 t1)) (hK1 : JR tb P fK) (hJ : Qai tj P fJ) (ht : ZP P t0 = some (some 10)) {e : Enc} (ho : okC e) (hfr : ∀ b ∈ e.frs, b.length ≤ 1000000) {ob : List Ob} (hl : Low ob.length ob) {K : AV → List Ob → Prop}
  (h8 : Qs e = 8 → K (.tup [.agg (Qrp 0 0 0 [] 0), .int .i64 0, .int .i64 8]) ob)
  (h0 : Qs e = 0 → K (.tup [twA ob.length e, .int .i64 (Qf e.rate), .int .i64 (Qcn e)]) (ob ++ twO tb tj t1 e)) : ACall P f [XO e] ob K := by
 refine ACall.pick (ACall.of_body bd (by simp) ?_)
 have hC' := hC e ho
 have hL' := hL e.rate
 have hc : Qs e = 0 ∨ Qs e = 8 := by unfold Qs; split <;> simp
 have tw := fun {ob : List Ob} (hl : Low ob.length ob) {K : AV → List Ob → Prop} => Qei bT hK1 hJ ht ho hfr hl (K := K)
 simp only [XO, XQ, il, bss, bs] at hC' tw ⊢
 rcases hc with hc | hc
 ·have h0' := h0 hc
  have hr := QcN hc
  obtain ⟨_, hr2, _⟩ := QJ.1 hr
  rw [hc] at hC'
  rw [Qdg, if_neg (by omega)] at hL'
  have hst : Qcn e = if e.err ≠ 0 then e.err else if e.done = true then 36 else 0 := rfl
  have hlow : ∀ B1 B2 : Ob, isDL B1.cs = true → isDL B2.cs = true → Low (ob ++ [B1, B2]).length (ob ++ [B1, B2]) := fun B1 B2 q1 q2 => by
   rw [List.length_append]
   exact (hl.mono (by omega)).append (Low.cons (lowL_D _ q1) (Low.cons (lowL_D _ q2) Low.nil))
  have q1 : isDL [.int .i64 e.ch, .int .i64 e.bits, .int .i64 e.rate, .str e.pw, .list e.rest.length (u8 e.rest), .list e.smp.length (ks .i32 e.smp), .list e.frs.length (e.frs.map bs), .list e.out.length (u8 e.out), .bool e.done, .int .i64 e.err] = true := by simp [isDL, isD, QR, QG, Zf]
  have q2 : isDL [.int .i64 0, .int .i64 0, .int .i64 0, .str [], .emp true, .emp true, .emp true, .emp true, .bool false, .int .i64 0] = true := by simp [isDL, isD]
  have hlow2 := hlow ⟨t0, 10, 1, _, 0⟩ ⟨t0, 10, 1, _, 0⟩ q1 q2
  clear hlow
  rcases Bool.eq_false_or_eq_true e.done with hd | hd <;> by_cases h1 : e.err = 0
  all_goals
   simp (maxSteps := 4000000) (disch := omega) only [rq, simprocAttr, Zb, List.append_assoc, List.cons_append, List.nil_append, Qj8, QbE, Qk1, QcE]
   refine Qb.vc hC' ?_
   simp (maxSteps := 4000000) (disch := omega) only [rq, simprocAttr, List.append_assoc, List.cons_append, List.nil_append, Qj8, QbE, Qk1, QcE]
   refine Qb.vc hL' ?_
   first | rw [if_neg (by omega), if_pos hd] at hst | rw [if_neg (by omega), if_neg (by rw [hd]; simp)] at hst | rw [if_pos h1] at hst
   simp only [hd] at tw hlow2
   try simp only [h1] at tw hlow2
   simp (maxSteps := 4000000) (disch := omega) only [rq, simprocAttr, List.append_assoc, List.cons_append, List.nil_append, Qj8, QbE, Qk1, QcE, hd, h1]
  all_goals
   refine tw hlow2 ?_
   simp (maxSteps := 4000000) (disch := omega) only [rq, simprocAttr, List.append_assoc, List.cons_append, List.nil_append, Qj8, QbE, Qk1, QcE, hd, h1, twA, twO, bs, ZG, ht, QU]
   refine ⟨[2, 3, 4], ob, _, rfl, Nat.le_refl _, hl, by decide, by simp, ?_⟩
   have hk := h0'
   simp only [twA, twO, bs, hst, hd, h1] at hk
   simpa [rnV, rnL, pkO, QtP, Qwa, rnL_D _ _ (QR _), rnL_D _ _ (QG _ _), rnL_D _ _ (Zf _), List.idxOf_cons, Nat.add_assoc] using hk
 ·have h8' := h8 hc
  rw [hc] at hC'
  simp (maxSteps := 4000000) (disch := omega) only [rq, simprocAttr, Zb, List.append_assoc, List.cons_append, List.nil_append, Qj8, QbE, Qk1, QcE]
  refine Qb.vc hC' ?_
  simp (maxSteps := 4000000) (disch := omega) only [rq, simprocAttr, List.append_assoc, List.cons_append, List.nil_append, Qj8, QbE, Qk1, QcE, ZG, ht, QU]
  refine ⟨[], ob, _, rfl, Nat.le_refl _, hl, by decide, by simp, ?_⟩
  simpa [rnV, rnL, pkO, Qrp] using h8'
def Qe3 (e : Enc) (r s f o : AV) : List AV := [.int .i64 e.ch, .int .i64 e.bits, .int .i64 e.rate, .str e.pw, r, s, f, o, .bool e.done, .int .i64 e.err]
set_option maxHeartbeats 2000000 in
theorem Qej {P : Prg} {f fT fE t0 tf : Nat} (bd : Qk P f 46 [.tmp 2] (Zr fT fE t0 tf)) (hT : QfY P fT) (hE : QmO P fE) {e : Enc} (hp : ¬ 64 < e.pw.length) (ha : QbZ e.ch e.bits e.smp = 0) (hI : I32 e.smp) (hf : e.frs.length ≤ 1001) (hs : e.smp.length ≤ 4000) {te tj : Nat} {x1 x2 : Ob} {T : List Ob} (hT1 : T = [] ∨ ∃ x y, T = [x, y]) {vr vo : AV} (hl : Low (5 + T.length) (⟨te, 10, 1, Qe3 e vr (.own 3 e.smp.length) (.own 4 e.frs.length) vo, 0⟩ :: x1 :: x2 :: ⟨tj, 1, e.smp.length, ks .i32 e.smp, 0⟩ :: ⟨tf, 1, e.frs.length, e.frs.map bs, 0⟩ :: T)) {K : AV → List Ob → Prop}
  (hK : K (.int .i64 0) (⟨te, 10, 1, Qe3 e vr (.emp true) (.own 4 (e.frs.length + 1)) vo, 0⟩ :: x1 :: x2 :: ⟨tj, 1, e.smp.length, ks .i32 e.smp, e.smp.length⟩ :: ⟨tf, 1, e.frs.length + 1, (Xd e).frs.map bs, 0⟩ :: T)) :
  ACall P f [.ref 0 1 0] (⟨te, 10, 1, Qe3 e vr (.own 3 e.smp.length) (.own 4 e.frs.length) vo, 0⟩ :: x1 :: x2 :: ⟨tj, 1, e.smp.length, ks .i32 e.smp, 0⟩ :: ⟨tf, 1, e.frs.length, e.frs.map bs, 0⟩ :: T) K := by
 have hT' := hT e.pw
 rw [Qev, if_neg hp] at hT'
 have hE' := hE e.ch e.bits (tpE e) e.smp (QbQ _ _) (Qri _ _) hI
 rw [QuH, if_neg (by omega)] at hE'
 rw [← tpE] at hT'
 have hel := (Qkj (t := tpE e) hI ha).1
 have hTl : (tpE e).length = 16 := QbQ _ _
 have oT := J4 .i32 (tpE e)
 have kT : (ks .i32 (tpE e)).length = 16 := by rw [Qh, hTl]
 have tT : (ks .i32 (tpE e)).take 16 = ks .i32 (tpE e) := List.take_of_length_le (by omega)
 have tj1 := QD .i32 e.smp
 have tTP := QD .i32 (tpE e)
 have hcat : e.frs.map bs ++ [bs (QcT e.ch.toNat e.bits (tpE e) e.smp)] = (Xd e).frs.map bs := by simp [Xd]
 have hml : (e.frs.map bs).length = e.frs.length := by simp
 rw [bs] at hE' hcat
 rw [shA, il] at hE'
 have hFD : isDL ((Xd e).frs.map bs) = true := Zf _
 generalize QcT e.ch.toNat e.bits (tpE e) e.smp = EB at *
 generalize (Xd e).frs.map bs = FSx at *
 generalize tpE e = TP at *
 have z : ([.int .i32 0, .int .i32 0, .int .i32 0, .int .i32 0, .int .i32 0, .int .i32 0, .int .i32 0, .int .i32 0, .int .i32 0, .int .i32 0, .int .i32 0, .int .i32 0, .int .i32 0, .int .i32 0, .int .i32 0, .int .i32 0] : List AV) = ks .i32 JU := rfl
 have ol := J4 .i32 JU
 have kl0 : (ks .i32 JU).length = 16 := rfl
 have zd : (ks .i32 JU).drop 16 = [] := rfl
 have kc := Qh .i32 e.smp
 refine ACall.low (ACall.of_body bd (by simp) ?_)
 unfold Zr
 rw [z]
 simp only [Qe3] at hl hK ⊢
 have hl2 : ∀ y ∈ (⟨te, 10, 1, [.int .i64 e.ch, .int .i64 e.bits, .int .i64 e.rate, .str e.pw, vr, .emp true, .own 4 (e.frs.length + 1), vo, .bool e.done, .int .i64 e.err], 0⟩ :: x1 :: x2 :: ⟨tj, 1, e.smp.length, ks .i32 e.smp, e.smp.length⟩ :: ⟨tf, 1, e.frs.length + 1, FSx, 0⟩ :: T : List Ob), lowL (5 + T.length) y.cs = true := by
  have hx : ∀ y ∈ x1 :: x2 :: T, lowL (5 + T.length) y.cs = true := fun y hy => hl y (by simp only [List.mem_cons] at hy ⊢; rcases hy with h | h | h <;> simp [h])
  have hb0 := hl _ List.mem_cons_self
  have hFS : isDL FSx = true := hFD
  simp only [lowL, Ja, Bool.and_eq_true, decide_eq_true_eq] at hb0
  intro y hy
  simp only [List.mem_cons] at hy hx
  rcases hy with rfl | rfl | rfl | rfl | rfl | hy
  ·simp only [lowL, Ja, Bool.and_eq_true, decide_eq_true_eq, and_true, true_and]
   exact ⟨hb0.2.2.2.2.1, by omega, hb0.2.2.2.2.2.2.2.1⟩
  ·exact hx _ (.inl rfl)
  ·exact hx _ (.inr (.inl rfl))
  ·exact lowL_D _ (QG _ _)
  ·exact lowL_D _ hFS
  ·exact hx _ (.inr (.inr hy))
 rcases hT1 with rfl | ⟨x, y, rfl⟩
 all_goals
  simp (maxSteps := 4000000) (disch := omega) only [rq, simprocAttr]
  refine Qb.vc hT' ?_
  simp (maxSteps := 4000000) (disch := omega) only [rq, simprocAttr, ol, kl0, oT, kT, zd, List.append_nil, tT]
  refine Q2.still 1 3 rfl (by simp [ph]) hE' (by simp [QS, QF, frzL, Qu, frzL_T _ tj1, frzL_T _ tTP]) ?_
  simp (maxSteps := 4000000) (disch := omega) only [rq, simprocAttr, kc, hml, hcat]
 ·exact ⟨[_, _, _, _, _], [_, _], rfl, by simp, hl2, by simp [Ja], hK⟩
 ·exact ⟨[_, _, _, _, _, _, _], [_, _], rfl, by simp, hl2, by simp [Ja], hK⟩
set_option maxRecDepth 20000 in
set_option maxHeartbeats 4000000 in
theorem QhU {P : Prg} {f fC fR fS fK fT fE t0 tf tj : Nat} (bd : Qk P f 44 [.tmp 2] (Q3 fC fR fS fK tj)) (hC : Qd6 P fC) (hR : QkX P fR) (hS : QdA P fS) (bK : Qk P fK 46 [.tmp 2] (Zr fT fE t0 tf)) (hT : QfY P fT) (hE : QmO P fE)
  {e : Enc} (h : OkG e) {m : List UInt8} (hm : (m.length : Int) = e.ch * e.bits / 8) {te tb tl : Nat} {x1 x6 : Ob} (hx1 : isDL x1.cs = true) (hx6 : isDL x6.cs = true) {K : AV → List Ob → Prop}
  (h18 : Qak e.ch (e.frs.length + 1) (Qx e (Qf e.rate) + 1) = false → K (.int .i64 18) [⟨te, 10, 1, Qe3 e (.own 2 m.length) (.own 3 e.smp.length) (.own 4 e.frs.length) (.list 0 []), 0⟩, x1, ⟨tb, 1, m.length, u8 m, 0⟩, ⟨tj, 1, e.smp.length, ks .i32 e.smp, 0⟩, ⟨tf, 1, e.frs.length, e.frs.map bs, 0⟩, ⟨tl, 1, 1, [.int .i64 (Qf e.rate)], 0⟩, x6])
  (hA : Qak e.ch (e.frs.length + 1) (Qx e (Qf e.rate) + 1) = true → ((Z1 e m).smp.length : Int) < Qf e.rate * e.ch → K (.int .i64 0) [⟨te, 10, 1, Qe3 e (.emp true) (.own 3 (Z1 e m).smp.length) (.own 4 e.frs.length) (.list 0 []), 0⟩, x1, ⟨tb, 1, m.length, u8 m, m.length⟩, ⟨tj, 1, (Z1 e m).smp.length, ks .i32 (Z1 e m).smp, 0⟩, ⟨tf, 1, e.frs.length, e.frs.map bs, 0⟩, ⟨tl, 1, 1, [.int .i64 (Qf e.rate)], 0⟩, x6])
  (hB : Qak e.ch (e.frs.length + 1) (Qx e (Qf e.rate) + 1) = true → ¬ ((Z1 e m).smp.length : Int) < Qf e.rate * e.ch → K (.int .i64 0) [⟨te, 10, 1, Qe3 e (.emp true) (.emp true) (.own 4 (e.frs.length + 1)) (.list 0 []), 0⟩, x1, ⟨tb, 1, m.length, u8 m, m.length⟩, ⟨tj, 1, (Z1 e m).smp.length, ks .i32 (Z1 e m).smp, (Z1 e m).smp.length⟩, ⟨tf, 1, e.frs.length + 1, (Xd (Z1 e m)).frs.map bs, 0⟩, ⟨tl, 1, 1, [.int .i64 (Qf e.rate)], 0⟩, x6]) :
  ACall P f [.ref 0 1 0, .ref 5 1 0] [⟨te, 10, 1, Qe3 e (.own 2 m.length) (.own 3 e.smp.length) (.own 4 e.frs.length) (.list 0 []), 0⟩, x1, ⟨tb, 1, m.length, u8 m, 0⟩, ⟨tj, 1, e.smp.length, ks .i32 e.smp, 0⟩, ⟨tf, 1, e.frs.length, e.frs.map bs, 0⟩, ⟨tl, 1, 1, [.int .i64 (Qf e.rate)], 0⟩, x6] K := by
 obtain ⟨k, L, q, hk, k1, k6, hL, L1, L2, hlen, hq, hx, hrm, hcn, hbits⟩ := h.nat
 obtain ⟨⟨r1, r2, r3⟩, ⟨r4, r5⟩, r6⟩ := QJ.1 h.r
 have hI := Qmj h.ck
 have h4 := (QbU h.ck).2.1
 have hfr := h.fr
 have hmm := J2 r2 r3 r1
 let e1 : Enc := { e with rest := m }
 have hC' := hC e1 (Qf e.rate) ⟨r2, r3, hfr, by show e.smp.length ≤ 400000; omega, hI⟩ (by omega) (by omega)
 have hcn1 : Qx e1 (Qf e.rate) = Qx e (Qf e.rate) := rfl
 rw [hcn1] at hC'
 have hc0 : 0 ≤ Qx e (Qf e.rate) ∧ Qx e (Qf e.rate) ≤ 4000 := by
  rw [hcn]
  have : e.frs.length * L + q ≤ 4000 := Nat.le_trans (Nat.le_mul_of_pos_right _ (by omega)) hrm
  omega
 have hR' := hR e1 (e.frs.length + 1) (Qx e (Qf e.rate) + 1) r2 r3 (by omega) (by omega)
 have hml : m.length ≤ 18 := by omega
 have hS' := hS e.bits m (by omega)
 have hsl := Qlq hx r2 r3 hm
 have t1 := Qy m
 have t2 := QD .i32 e.smp
 have t3 := Zy e.frs
 have e1c : e1.ch = e.ch := rfl
 have hout : bs e.out = .list 0 [] := by rw [h.out]; rfl
 simp only [XO, XQ, il, bss, e1] at hC' hR'
 rw [hout] at hC' hR'
 rw [bs] at hC' hR' hS'
 have kc := Qh .i32 e.smp
 have hbl : (e.frs.map bs).length = e.frs.length := by simp
 cases hroom : Qak e.ch (e.frs.length + 1) (Qx e (Qf e.rate) + 1) with
 | false =>
  have hk18 := h18 hroom
  rw [hroom] at hR'
  generalize hcc : Qx e (Qf e.rate) = CC at *
  simp only [Qe3] at hk18 ⊢
  refine ACall.of_body bd (by simp) ?_
  simp (maxSteps := 4000000) (disch := omega) only [rq, simprocAttr, Q3]
  refine Q2.ro (fun K hK => ACall.of_vc_flat 1 (by simp [QS, QF, frzL, Qu, isDL, isD, frzL_T _ t1, frzL_T _ t2, frzL_T _ t3]) hC' rfl hK) ?_
  simp (maxSteps := 4000000) (disch := omega) only [rq, simprocAttr]
  refine callE.ro (fun K hK => ACall.of_vc_flat 1 (by simp [QS, QF, frzL, Qu, isDL, isD, frzL_T _ t1, frzL_T _ t2, frzL_T _ t3]) hR' rfl hK) ?_
  simp (maxSteps := 4000000) (disch := omega) only [rq, simprocAttr]
  exact hk18
 | true =>
  have hkA := hA hroom
  have hkB := hB hroom
  obtain ⟨_, hask, hs4, hI4⟩ := QeK h hm hroom
  have cK := fun (x2 : Ob) (hx2 : isDL x2.cs = true) (T : List Ob) (hT1 : T = [] ∨ ∃ x y, T = [x, y]) (hlo : Low (5 + T.length) (⟨te, 10, 1, Qe3 (Z1 e m) (.emp true) (.own 3 (Z1 e m).smp.length) (.own 4 (Z1 e m).frs.length) (.list 0 []), 0⟩ :: x1 :: x2 :: ⟨tj, 1, (Z1 e m).smp.length, ks .i32 (Z1 e m).smp, 0⟩ :: ⟨tf, 1, (Z1 e m).frs.length, (Z1 e m).frs.map bs, 0⟩ :: T)) (K : AV → List Ob → Prop) hK =>
   Qej (e := Z1 e m) bK hT hE (by show ¬ 64 < e.pw.length; omega) hask hI4 (by show e.frs.length ≤ 1001; omega) hs4 hT1 hlo (K := K) hK
  rw [hroom] at hR'
  generalize hcc : Qx e (Qf e.rate) = CC at *
  simp only [Qe3] at hkA hkB ⊢
  have hsm : (Z1 e m).smp = e.smp ++ ZY e.bits m := rfl
  have hml2 : (Z1 e m).smp.length = e.smp.length + (ZY e.bits m).length := by rw [hsm, List.length_append]
  have hkk : ks .i32 e.smp ++ ks .i32 (ZY e.bits m) = ks .i32 (Z1 e m).smp := by rw [hsm, Qfy]
  have kc2 := Qh .i32 (ZY e.bits m)
  have hsA : JH e.bits m = .tup [.list (ZY e.bits m).length (ks .i32 (ZY e.bits m)), .int .i64 0] := by
   have hd0 : 0 < (e.bits / 8).toNat := by rcases hbits with b | b | b <;> rw [b] <;> decide
   have hd1 : m.length % (e.bits / 8).toNat = 0 := by rcases hbits with b | b | b <;> rw [b] at hm ⊢ <;> simp at hm ⊢ <;> omega
   have hd2 : m.length / (e.bits / 8).toNat ≤ 4000 := Nat.le_trans (Nat.div_le_self _ _) (by omega)
   rw [JH, if_neg hx, if_neg (by omega), if_neg (by omega), il]
  rw [hsA] at hS'
  have hmul : Qf e.rate * e.ch = ((L * k : Nat) : Int) := by rw [hL, hk]; simp
  have hLk : L * k ≤ 6573924 := by
   have : L * k ≤ 1095654 * 6 := Nat.mul_le_mul L2 k6
   omega
  rw [hmul] at hkA hkB
  generalize ZY e.bits m = SL at *
  by_cases hlt : ((Z1 e m).smp.length : Int) < ((L * k : Nat) : Int)
  ·have hk' := hkA hlt
   refine ACall.of_body bd (by simp) ?_
   simp (maxSteps := 4000000) (disch := omega) only [rq, simprocAttr, Q3]
   refine Q2.ro (fun K hK => ACall.of_vc_flat 1 (by simp [QS, QF, frzL, Qu, isDL, isD, frzL_T _ t1, frzL_T _ t2, frzL_T _ t3]) hC' rfl hK) ?_
   simp (maxSteps := 4000000) (disch := omega) only [rq, simprocAttr]
   refine callE.ro (fun K hK => ACall.of_vc_flat 1 (by simp [QS, QF, frzL, Qu, isDL, isD, frzL_T _ t1, frzL_T _ t2, frzL_T _ t3]) hR' rfl hK) ?_
   simp (maxSteps := 4000000) (disch := omega) only [rq, simprocAttr]
   refine Qb.still 1 [2] hS' (by simp [QS, QF, frzL, Qu, frzL_T _ t1]) ?_
   simp (maxSteps := 4000000) (disch := omega) only [rq, simprocAttr, Qm, kc, kc2, hkk, hmul]
   simpa only [hml2] using hk'
  ·have hk' := hkB hlt
   refine ACall.of_body bd (by simp) ?_
   simp (maxSteps := 4000000) (disch := omega) only [rq, simprocAttr, Q3]
   refine Q2.ro (fun K hK => ACall.of_vc_flat 1 (by simp [QS, QF, frzL, Qu, isDL, isD, frzL_T _ t1, frzL_T _ t2, frzL_T _ t3]) hC' rfl hK) ?_
   simp (maxSteps := 4000000) (disch := omega) only [rq, simprocAttr]
   refine callE.ro (fun K hK => ACall.of_vc_flat 1 (by simp [QS, QF, frzL, Qu, isDL, isD, frzL_T _ t1, frzL_T _ t2, frzL_T _ t3]) hR' rfl hK) ?_
   simp (maxSteps := 4000000) (disch := omega) only [rq, simprocAttr]
   refine Qb.still 1 [2] hS' (by simp [QS, QF, frzL, Qu, frzL_T _ t1]) ?_
   simp (maxSteps := 4000000) (disch := omega) only [rq, simprocAttr, Qm, kc, kc2, hkk, hmul]
   rw [← hml2]
   refine cK ⟨tb, 1, m.length, u8 m, m.length⟩ (QR _) [⟨tl, 1, 1, [.int .i64 (Qf e.rate)], 0⟩, x6] (.inr ⟨_, _, rfl⟩) ?_ _ ?_
   ·refine Low.cons ?_ (Low.cons (lowL_D _ hx1) (Low.cons (lowL_D _ (QR _)) (Low.cons (lowL_D _ (QG _ _)) (Low.cons (lowL_D _ (Zf _)) (Low.cons (lowL_D _ (by simp [isDL, isD])) (Low.cons (lowL_D _ hx6) Low.nil))))))
    simp [Qe3, lowL, Ja]
   ·simp (maxSteps := 4000000) (disch := omega) only [rq, simprocAttr]
    exact hk'
end Go.Am
