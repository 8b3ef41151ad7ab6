/- What the functions that the law reaches return, for every program that has their code; the conditions stand in each statement. -/
import Derived.Test.YtkilhchobbfjhaaGreatDoorTopFramesL2
set_option linter.unusedSectionVars false
set_option linter.unusedSimpArgs false
set_option linter.unusedVariables false
namespace Go.Am
open Go.RowKit

/-! ### First states; slices of bytes joined -/

def QaS (P : Prg) (f : Nat) : Prop := VC P f [] (.agg (Jk fun _ => Qi))
theorem QgL {P : Prg} {f fS t0 : Nat} (bd : Ql P f 11 [.cell 0 t0] (X6 fS t0)) (hS : Qca P fS) (ht : ZD P t0 = some (some 24)) : QaS P f := by
  refine VC.of_acall rfl rfl (ACall.of_body bd (by simp) ?_)
  simp only [Qca, Qi, dlA, dlC] at hS
  simp (maxSteps := 4000000) (disch := omega) only [rr, aop, cV, cV1, AV.one, Qb, okW, Qd, app, Qa, Qc, Qe, Qf, Qg, simprocAttr, X6]
  refine QN.by (ι := Nat) (fun i => ⟨[(3, .int .i64 i), (1, .ref 1 1 0), (0, .ref 0 1 0)],
      [⟨t0, 24, 1, Jk (fun _ => ⟨0, 0, 0, 0⟩), 0⟩, ⟨t0, 24, 1, Jk (fun j => if j < i then Qi else ⟨0, 0, 0, 0⟩), 0⟩]⟩) (fun i => i ≤ 6) (fun i => 6 - i) 0 (Le.slots (by simp [Am.look])) (by omega) ?_
  intro i hi
  by_cases hlt : i < 6
  · have e1 := Qa1 (fun j => if j < i then Qi else ⟨0, 0, 0, 0⟩) hlt Qi
    have e2 : Qor (fun j => if j < i then Qi else ⟨0, 0, 0, 0⟩) i Qi = fun j => if j < i + 1 then Qi else ⟨0, 0, 0, 0⟩ := by
      funext j
      unfold Qor
      by_cases h1 : j = i
      · subst h1; simp
      · by_cases h2 : j < i
        · simp [h1, h2, show j < i + 1 by omega]
        · simp [h1, h2, show ¬ j < i + 1 by omega]
    rw [e2] at e1
    have e3 := Xz (fun j => if j < i then Qi else ⟨0, 0, 0, 0⟩)
    simp (maxSteps := 4000000) (disch := omega) only [rr, aop, cV, cV1, AV.one, Qb, okW, Qd, app, Qa, Qc, Qe, Qf, Qg, simprocAttr]
    refine Qh.vc hS ?_
    generalize hF : Jk (fun j => if j < i then Qi else ⟨0, 0, 0, 0⟩) = F at *
    have e1' : F.take (i * 4) ++ [.int .i64 10, .int .i64 10, .int .u64 16384, .int .u64 16384] ++ F.drop (i * 4 + 4) = Jk fun j => if j < i + 1 then Qi else ⟨0, 0, 0, 0⟩ := e1
    generalize Jk (fun _ => (⟨0, 0, 0, 0⟩ : Dl)) = Z
    simp (maxSteps := 4000000) (disch := omega) only [rr, aop, cV, cV1, AV.one, Qb, okW, Qd, app, Qa, Qc, Qe, Qf, Qg, simprocAttr, e3]
    refine ⟨i + 1, by omega, by omega, ?_⟩
    rw [e1']
    exact Le.slots (by simp [Am.look])
  obtain rfl : i = 6 := by omega
  have z1 : Jk (fun j => if j < 6 then Qi else ⟨0, 0, 0, 0⟩) = Jk (fun _ => Qi) := rfl
  have z2 := Xz fun _ => Qi
  have z3 := Xz fun _ => (⟨0, 0, 0, 0⟩ : Dl)
  rw [z1]
  have z4 : (Jk fun _ => Qi).all AV.one = true := rfl
  have z5 : (Jk fun _ => Qi).take 24 = Jk fun _ => Qi := rfl
  have z6 : (Jk fun _ => (⟨0, 0, 0, 0⟩ : Dl)).drop 24 = [] := rfl
  generalize (Jk fun _ => (⟨0, 0, 0, 0⟩ : Dl)) = Z at *
  generalize (Jk fun _ => Qi) = S at *
  simp (maxSteps := 4000000) (disch := omega) only [rr, aop, cV, cV1, AV.one, Qb, okW, Qd, app, Qa, Qc, Qe, Qf, Qg, simprocAttr, ZG, ht, Q8, z2, z3, z4, z5, z6, List.take_zero, List.nil_append, List.append_nil]

def Qnp (L : List (List UInt8)) : AV := .list L.length (L.map bs)
def Qi9 (P : Prg) (f : Nat) : Prop := ∀ L : List (List UInt8), L.length ≤ 1000000 → 0 < L.flatten.length → L.flatten.length ≤ 1000000 → VC P f [Qnp L] (bs L.flatten)
def Qgn (t : Nat) (P : Prg) (f : Nat) : Prop := ∀ (ob : List Ob) (n : Nat) (z : Bool) (K : AV → List Ob → Prop), 0 < n → n ≤ 140737488355328 → K (.own ob.length 0) (ob ++ [⟨t, 1, 0, [], 0⟩]) → ACall P f [.emp z, .int .i64 n] ob K
theorem grow_nil {P : Prg} {f t : Nat} {ρ : Go.Shelf.Ren} (L : Go.Proofs.Lays8.n4 P.prog ρ) (hf : ρ.f 4 = f) (ht : ρ.t 25 = t) (h25 : (P.prog.info? t).map (fun i => (i.zero, i.size, i.bytes)) = some (some (.int .u8 0), 1, 1)) : Qgn t P f := by
  intro ob n z K h1 h2 hK
  subst hf; subst ht
  exact ACall.grow_nil L h25 h1 h2 hK
theorem Qkd {L : List (List UInt8)} {k : Nat} (h : k < L.length) : (L.take (k + 1)).flatten = (L.take k).flatten ++ L.getD k [] := by
  rw [List.take_succ_eq_append_getElem h, List.flatten_append, List.getD_eq_getElem?_getD, List.getElem?_eq_getElem h]
  simp
theorem QrC (L : List (List UInt8)) (k : Nat) : (L.take k).flatten.length ≤ L.flatten.length := by
  conv => rhs; rw [← List.take_append_drop k L, List.flatten_append, List.length_append]
  omega
theorem Qh1 {P : Prg} {f fG t0 : Nat} (bd : Ql P f 36 [.tmp 2] (Q9 fG t0)) (hG : Qgn t0 P fG) : Qi9 P f := by
  intro L hL h0 h1
  refine VC.of_walk 1 (by simp [isDL, isD, Qnp, Qig]) (Zy _) (ACall.of_body bd (by simp) ?_)
  have hat : ∀ k, k < L.length → (L.map bs).drop k = bs (L.getD k []) :: (L.map bs).drop (k + 1) := fun k hk => by
    rw [List.drop_eq_getElem_cons (by simpa using hk)]
    simp [List.getD_eq_getElem?_getD, List.getElem?_eq_getElem hk]
  have hml : (L.map bs).length = L.length := by simp
  simp only [bs] at hat
  simp (maxSteps := 4000000) (disch := omega) only [rr, aop, cV, cV1, AV.one, Qb, okW, Qd, app, Qa, Qc, Qe, Qf, Qg, simprocAttr, Q9, Qnp]
  refine QN.by (ι := Nat) (fun k => ⟨[(11, .int .i64 k), (10, .int .i64 L.length), (9, .list L.length (L.map bs)), (3, .int .i64 (L.take k).flatten.length), (0, .list L.length (L.map bs))], []⟩) (fun k => k ≤ L.length) (fun k => L.length - k) 0 (Le.slots (by simp [Am.look])) (by omega) ?_
  intro k hk
  by_cases hlt : k < L.length
  · have ha := hat k hlt
    have hf := Qkd hlt
    have hle := QrC L (k + 1)
    rw [hf, List.length_append] at hle
    have hl : ((L.take (k + 1)).flatten.length : Int) = (L.take k).flatten.length + (L.getD k []).length := by rw [hf]; simp
    generalize (L.take k).flatten.length = s at *
    generalize L.getD k [] = x at *
    simp (maxSteps := 4000000) (disch := omega) only [rr, aop, cV, cV1, AV.one, Qb, okW, Qd, app, Qa, Qc, Qe, Qf, Qg, simprocAttr, ha, hml]
    exact ⟨k + 1, by omega, by omega, by simp only [hl]; exact Le.slots (by simp [Am.look])⟩
  obtain rfl : k = L.length := by omega
  rw [List.take_length]
  have hG' := fun K hK => hG [] L.flatten.length true K h0 (by omega) hK
  simp (maxSteps := 4000000) (disch := omega) only [rr, aop, cV, cV1, AV.one, Qb, okW, Qd, app, Qa, Qc, Qe, Qf, Qg, simprocAttr]
  refine hG' _ ?_
  simp (maxSteps := 4000000) (disch := omega) only [rr, aop, cV, cV1, AV.one, Qb, okW, Qd, app, Qa, Qc, Qe, Qf, Qg, simprocAttr]
  refine QN.by (ι := Nat) (fun k => ⟨[(27, .int .i64 k), (26, .int .i64 L.length), (25, .list L.length (L.map bs)), (6, .own 0 (L.take k).flatten.length)], [⟨t0, 1, (L.take k).flatten.length, u8 (L.take k).flatten, 0⟩]⟩) (fun k => k ≤ L.length) (fun k => L.length - k) 0 (Le.slots (by simp [Am.look])) (by omega) ?_
  intro k hk
  by_cases hlt : k < L.length
  · have ha := hat k hlt
    have hf := Qkd hlt
    have hle := QrC L (k + 1)
    rw [hf, List.length_append] at hle
    have hl : (L.take (k + 1)).flatten.length = (L.take k).flatten.length + (L.getD k []).length := by rw [hf]; simp
    have hu : u8 (L.take (k + 1)).flatten = u8 (L.take k).flatten ++ u8 (L.getD k []) := by rw [hf, Qfz]
    have hc : (u8 (L.take k).flatten).length = (L.take k).flatten.length := Q4 _
    have hx : (u8 (L.getD k [])).length = (L.getD k []).length := Q4 _
    generalize u8 (L.take k).flatten = cs at *
    generalize (L.take k).flatten.length = s at *
    generalize u8 (L.getD k []) = us at *
    generalize (L.getD k []).length = xl at *
    simp (maxSteps := 4000000) (disch := omega) only [rr, aop, cV, cV1, AV.one, Qb, okW, Qd, app, Qa, Qc, Qe, Qf, Qg, simprocAttr, ha, hml, hc, hx]
    exact ⟨k + 1, by omega, by omega, by rw [hl, hu]; exact Le.slots (by simp [Am.look])⟩
  obtain rfl : k = L.length := by omega
  rw [List.take_length]
  simp (maxSteps := 4000000) (disch := omega) only [rr, aop, cV, cV1, AV.one, Qb, okW, Qd, app, Qa, Qc, Qe, Qf, Qg, simprocAttr]
  simp [Q7, QG, frzL, QF, frzL_T _ (Zx _), bs]

end Go.Am

namespace Go.Am
open Go.RowKit

/-! ### Frames are coded: Encode, Length -/

theorem QjI (c : Nat) (x : Int) (t l : List Int) : QcH (Qhi c (Zw c l) (JA x t) l.length) = .list l.length (ks .u32 ((QpJ c x t l).map fun n : Nat => (n : Int))) := by
  have := Qro c x t l
  unfold iL at this
  rw [this, QcH, Qe7]
theorem Qna {c i : Nat} {v : List Nat} (hc : 1 ≤ c) (hi : i < v.length) : Qor (fun j => if j < c then Qx c j (v.take i) else Qi) (i % c) (Q6 (Qx c (i % c) (v.take i)) (v.getD i 0)) = fun j => if j < c then Qx c j (v.take (i + 1)) else Qi := by
  have ht : v.take (i + 1) = v.take i ++ [v.getD i 0] := by
    rw [List.take_succ_eq_append_getElem hi]
    simp [List.getD_eq_getElem?_getD, List.getElem?_eq_getElem hi]
  have hl : (v.take i).length = i := by simp; omega
  have hr : i % c < c := Nat.mod_lt _ (by omega)
  funext j
  unfold Qor
  rw [ht]
  by_cases hj : j = i % c
  · subst hj
    rw [if_pos rfl, if_pos hr, QaO, if_pos (by rw [hl])]
  · rw [if_neg hj]
    by_cases hjc : j < c
    · simp only [hjc, if_true]
      rw [QaO, if_neg (by rw [hl]; exact fun e => hj e.symm)]
    · simp only [hjc, if_false]

def QuP (c x : Int) (t l : List Int) : AV := if QbA c x l ≠ 0 then .tup [.list 0 [], .int .i64 (QbA c x l)] else .tup [bs (QeB c.toNat x t l), .int .i64 0]
theorem QtW (c x : Int) (t l : List Int) : isD (QuP c x t l) = true := by unfold QuP; split <;> simp [isD, isDL, Zy]
def Quu (P : Prg) (f : Nat) : Prop := ∀ (c x : Int) (t l : List Int), t.length = 16 → I32 t → I32 l → VC P f [shA c x, .agg (ks .i32 t), il l] (QuP c x t l)
set_option maxHeartbeats 2000000 in
set_option maxRecDepth 20000 in
theorem QgO {P : Prg} {f fV fS fW fP fC fB fK t0 t1 t2 t3 t4 t5 tp tb : Nat} (bd : Ql P f 85 [.tmp 6, .tmp 7] (Z6 fV fS fW fP fC fB fK t0 t1 t2 t3 t4 t5)) (hV : Qi8 P fV) (hS : QaS P fS) (hW : QiZ P fW) (bP : Ql P fP 64 [] (Je tp tb)) (hC : QkY P fC) (hB : Qgh P fB) (hK : Qi9 P fK) : Quu P f := by
  intro c x t l ht hI hL
  refine VC.of_walk 1 (by simp [isDL, isD, QK, QS, shA]) (QtW _ _ _ _) (ACall.of_body bd (by simp) ?_)
  have hk : (ks .i32 t).length = 16 := by simp [Qk, ht]
  have tt : (ks .i32 t).take 16 = ks .i32 t := Qs (by omega)
  have ot := ZP .i32 t
  have hV' := hV c x t l ht hI hL
  unfold QuP
  by_cases h0 : QbA c x l = 0
  case neg =>
    rw [QpT, if_pos h0] at hV'
    rw [if_pos h0]
    rw [shA] at hV' ⊢
    simp (maxSteps := 4000000) (disch := omega) only [rr, aop, cV, cV1, AV.one, Qb, okW, Qd, app, Qa, Qc, Qe, Qf, Qg, simprocAttr, Z6, hk, ot, tt]
    refine Qh.vc hV' ?_
    simp (maxSteps := 4000000) (disch := omega) only [rr, aop, cV, cV1, AV.one, Qb, okW, Qd, app, Qa, Qc, Qe, Qf, Qg, simprocAttr, h0]
    simp [Q7, QG, frzL, QF]
  obtain ⟨k, m, rfl, hkM, hx, e1, e2, e3, e4, e5, e6⟩ := QiR hL h0
  obtain ⟨c1, c6, l0, l4, lm, _⟩ := hkM
  rw [QpT, if_neg (by omega), Int.toNat_natCast, QjI] at hV'
  rw [if_neg (by omega), Int.toNat_natCast, QeB, QeL]
  have hv := QhJ k x t l
  have hvl := QeZ k x t l
  rw [← hvl] at hV' l0 l4
  generalize QpJ k x t l = v at *
  rw [shA] at hV' ⊢
  have hfb := Z2 (c := k) hv
  have hkv : (ks .u32 (v.map fun n : Nat => (n : Int))).length = v.length := by simp [ks]
  have s24 := Xz fun _ => Qi
  have sone : (Jk fun _ => Qi).all AV.one = true := rfl
  have stk : (Jk fun _ => Qi).take 24 = Jk fun _ => Qi := rfl
  have z2 : (fun j => if j < k then Qx k j (v.take 0) else Qi) = fun _ => Qi := by
    funext j
    rw [List.take_zero]
    split <;> rfl
  simp only [QaS] at hS
  simp (maxSteps := 4000000) (disch := omega) only [rr, aop, cV, cV1, AV.one, Qb, okW, Qd, app, Qa, Qc, Qe, Qf, Qg, simprocAttr, Z6, hk, ot, tt]
  refine Qh.vc hV' ?_
  simp (maxSteps := 4000000) (disch := omega) only [rr, aop, cV, cV1, AV.one, Qb, okW, Qd, app, Qa, Qc, Qe, Qf, Qg, simprocAttr, hkv]
  refine Qh.vc hS ?_
  generalize hS0 : (Jk fun _ => Qi) = S0 at *
  simp (maxSteps := 4000000) (disch := omega) only [rr, aop, cV, cV1, AV.one, Qb, okW, Qd, app, Qa, Qc, Qe, Qf, Qg, simprocAttr, hkv, s24, sone, stk, List.append_nil, List.take_zero, List.nil_append]
  refine QN.by (ι := Nat) (fun i => ⟨[(32, .int .i64 i), (31, .int .i64 v.length), (30, .list v.length (ks .u32 (v.map fun n : Nat => (n : Int)))), (11, .ref 3 1 0), (10, .ref 2 1 0), (7, .int .i64 0), (6, .emp true), (3, .ref 0 1 0)],
      [⟨t0, 2, 1, [.int .i64 k, .int .i64 x], 0⟩, ⟨t1, 16, 1, ks .i32 t, 0⟩, ⟨t2, 24, 1, Jk (fun j => if j < k then Qx k j (v.take i) else Qi), 0⟩, bO t3 4 (Qcp k v i), bY tb (Qcp k v i) (QnN k v i)]⟩)
    (fun i => i ≤ v.length) (fun i => v.length - i) 0 ?_ (by omega) ?_
  · simp only [z2, hS0]
    rw [Qdz, Qkb]
    refine Le.trans (Le.virtF 3 tb 1 (by decide) rfl rfl) ?_
    exact Le.slots (by simp [Am.look])
  intro i hi
  by_cases hlt : i < v.length
  · obtain ⟨r, hr⟩ : ∃ r, r = i % k := ⟨_, rfl⟩
    have hrc : r < k := by rw [hr]; exact Nat.mod_lt _ (by omega)
    have q1 : (i : Int) % k = (r : Int) := by rw [hr]; simp [Int.natCast_emod]
    have q1' : ((i : Int)).tmod (k : Int) = (r : Int) := by rw [Int.tmod_eq_emod_of_nonneg (by omega), q1]
    have hc0 : (k : Int) ≠ 0 := by omega
    obtain ⟨b1, b2, b3⟩ := hfb i
    obtain ⟨_, b5, _⟩ := hfb (i + 1)
    have hd := QcV (c := k) (r := r) (hv.take i)
    have hvi := hv.getD i
    have hW' := hW 0 0 (v.getD i 0) (Qx k r (v.take i)) (by decide) hvi hd (by omega)
    rw [Nat.zero_add, Nat.pow_zero, Nat.one_mul, Nat.zero_add] at hW'
    have hcl := QnY (d := Qx k r (v.take i)) hvi
    have hcn := Qfe (v := v.getD i 0) hd
    obtain ⟨rest, hg⟩ := Qe3 (fun j => if j < k then Qx k j (v.take i) else Qi) (j := r) (by omega)
    simp only [hrc, if_true] at hg
    have hset := Qa1 (fun j => if j < k then Qx k j (v.take i) else Qi) (j := r) (by omega) (Q6 (Qx k r (v.take i)) (v.getD i 0))
    have hup := Qna c1 hlt
    rw [← hr] at hup
    rw [hup] at hset
    have hln := Xz (fun j => if j < k then Qx k j (v.take i) else Qi)
    have hkat := QbY (K := .u32) (l := v.map fun n : Nat => (n : Int)) (i := i) (by simpa using hlt)
    have hgd : (v.map fun n : Nat => (n : Int)).getD i 0 = ((v.getD i 0 : Nat) : Int) := by simp [List.getD_eq_getElem?_getD, List.getElem?_eq_getElem hlt]
    rw [hgd] at hkat
    have hsN := Jn k v i
    have hsV := Qdy k v i
    rw [← hr] at hsN hsV
    have hb6 : Qcp k v i + J2 (Qx k r (v.take i)) (v.getD i 0) ≤ 400000 := by omega
    have hD6 : isDL (Jk (fun j => if j < k then Qx k j (v.take (i + 1)) else Qi)) = true := Qrj (Qdx _)
    generalize hF1 : Jk (fun j => if j < k then Qx k j (v.take (i + 1)) else Qi) = F' at *
    generalize Jk (fun j => if j < k then Qx k j (v.take i) else Qi) = F at *
    generalize hN0 : Qcp k v i = N at *
    generalize hV0 : QnN k v i = V at *
    generalize hN1 : Qcp k v (i + 1) = N1 at *
    generalize hV1 : QnN k v (i + 1) = V1 at *
    generalize hn0 : J2 (Qx k r (v.take i)) (v.getD i 0) = n at *
    generalize hC0 : QgX (Qx k r (v.take i)) (v.getD i 0) = C at *
    generalize Q6 (Qx k r (v.take i)) (v.getD i 0) = d' at *
    generalize Qx k r (v.take i) = d at *
    generalize v.getD i 0 = vi at *
    obtain ⟨d0, d1, d2, d3⟩ := d
    obtain ⟨m0, m1, m2, m3⟩ := d'
    simp only [dlA, dlC, bA] at hW'
    simp only at hg hset
    have hfr : Q7 (fun o => ([] : List Nat).contains o) [⟨t0, 2, 1, [.int .i64 k, .int .i64 x], 0⟩, ⟨t1, 16, 1, ks .i32 t, 0⟩, ⟨t2, 24, 1, F, 0⟩, ⟨t3, 2, 1, [.own 4 (nB N), .int .i64 N], 0⟩, bY tb N V] (0 + 1) [.agg [.emp true, .int .i64 0], .agg [.int .i64 d0, .int .i64 d1, .int .u64 d2, .int .u64 d3], .int .u32 vi] =
      some [.agg [.list (nB 0) (u8 (leB 0 (nB 0))), .int .i64 ((0 : Nat) : Int)], .agg [.int .i64 d0, .int .i64 d1, .int .u64 d2, .int .u64 d3], .int .u32 vi] := by
      simp [Q7, QG, frzL, QF, nB, leB, u8]
    have pt : ∀ (Q : Exit → St → Prop) os fr dst, wpQ P os Q ⟨Zr fr dst (.tup []), [⟨t0, 2, 1, [.int .i64 k, .int .i64 x], 0⟩, ⟨t1, 16, 1, ks .i32 t, 0⟩, ⟨t2, 24, 1, F', 0⟩, bO t3 4 N1, bY tb N1 V1, ⟨t3, 2, 1, [.list (nB n) (u8 (leB C (nB n))), .int .i64 n], 0⟩, ⟨t4, 4, 1, [.int .i64 m0, .int .i64 m1, .int .u64 m2, .int .u64 m3], 0⟩]⟩ →
        Qh P fP [.ref 3 1 0, .agg [.list (nB n) (u8 (leB C (nB n))), .int .i64 n]] [⟨t0, 2, 1, [.int .i64 k, .int .i64 x], 0⟩, ⟨t1, 16, 1, ks .i32 t, 0⟩, ⟨t2, 24, 1, F', 0⟩, ⟨t3, 2, 1, [.own 4 (nB N), .int .i64 N], 0⟩, bY tb N V, ⟨t3, 2, 1, [.list (nB n) (u8 (leB C (nB n))), .int .i64 n], 0⟩, ⟨t4, 4, 1, [.int .i64 m0, .int .i64 m1, .int .u64 m2, .int .u64 m3], 0⟩] os Q fr dst := fun Q os fr dst h =>
      Ql3 bP (ob := [⟨t0, 2, 1, [.int .i64 k, .int .i64 x], 0⟩, ⟨t1, 16, 1, ks .i32 t, 0⟩, ⟨t2, 24, 1, F', 0⟩, ⟨t3, 2, 1, [.own 4 (nB N), .int .i64 N], 0⟩, bY tb N V, ⟨t3, 2, 1, [.list (nB n) (u8 (leB C (nB n))), .int .i64 n], 0⟩, ⟨t4, 4, 1, [.int .i64 m0, .int .i64 m1, .int .u64 m2, .int .u64 m3], 0⟩]) (t := t3) (p := 3) (o := 4) (N := N) (V := V) (C := C) (n := n) rfl rfl (by decide) b1 hcl (by omega) (by omega)
        (Low.cons (by simp [lowL, Ja]) (Low.cons (lowL_D _ (QK _ _)) (Low.cons (lowL_D _ hD6) (Low.cons (by simp [lowL, Ja]) (Low.cons (lowL_D _ (JF _ _)) (Low.cons (by simp [lowL, Ja, lowL_D _ (JF _ _)]) (Low.cons (by simp [lowL, Ja]) Low.nil)))))))
        (by rw [hsN, hsV] at h; exact h)
    simp (maxSteps := 4000000) (disch := omega) only [rr, aop, cV, cV1, AV.one, Qb, okW, Qd, app, Qa, Qc, Qe, Qf, Qg, simprocAttr, bO, hkat, hkv, q1, q1', hc0, hg, hln]
    refine Qh.still 0 [] hW' hfr ?_
    simp (maxSteps := 4000000) (disch := omega) only [rr, aop, cV, cV1, AV.one, Qb, okW, Qd, app, Qa, Qc, Qe, Qf, Qg, simprocAttr, Qy, hkat, hkv, q1, q1', hc0, hg, hln, hset]
    refine pt _ _ _ _ ?_
    simp (maxSteps := 4000000) (disch := omega) only [rr, aop, cV, cV1, AV.one, Qb, okW, Qd, app, Qa, Qc, Qe, Qf, Qg, simprocAttr]
    refine ⟨i + 1, by omega, by omega, ?_⟩
    simp only [hN1, hV1, hF1]
    refine Le.low (ob := [⟨t0, 2, 1, [.int .i64 k, .int .i64 x], 0⟩, ⟨t1, 16, 1, ks .i32 t, 0⟩, ⟨t2, 24, 1, F', 0⟩, bO t3 4 N1, bY tb N1 V1]) (J := [_, _]) (Nat.zero_le _) ?_ (by simp [Am.look, Ja, lowL_D _ (QK _ _)])
    exact Low.cons (by simp [lowL, Ja]) (Low.cons (lowL_D _ (QK _ _)) (Low.cons (lowL_D _ hD6) (Low.cons (by simp [bO, lowL, Ja]) (Low.cons (lowL_D _ (JF _ _)) Low.nil))))
  · obtain rfl : i = v.length := by omega
    obtain ⟨_, b5, b6⟩ := hfb v.length
    have hfl := QdA k v
    have hle : nB (Qcp k v v.length) ≤ 40500 := by unfold nB; omega
    have hC' := hC (Qd6 k v)
    rw [if_neg (by omega), ← Qc8] at hC'
    have hsm := QdT (Qd6 k v)
    have hB' := hB (Qc8 (Qd6 k v)) 4 (by omega) (by omega) hsm
    have hK' := hK [Qd6 k v, leB (Qc8 (Qd6 k v)) 4] (by simp) (by simp [Qu]) (by simp [Qu]; omega)
    have hfe : Qd6 k v = leB (QnN k v v.length) (nB (Qcp k v v.length)) := rfl
    simp only [Qnp, bs, List.map_cons, List.map_nil, List.length_cons, List.length_nil, List.flatten_cons, List.flatten_nil, List.append_nil, List.length_append, hfl, Qu] at hC' hB' hK' ⊢
    have tfl : isTL (u8 (Qd6 k v)) = true := Zx _
    have tfs : isTL (u8 (leB (Qc8 (Qd6 k v)) 4)) = true := Zx _
    have tfa : isTL (u8 (Qd6 k v ++ leB (Qc8 (Qd6 k v)) 4)) = true := Zx _
    have hul : (u8 (Qd6 k v)).length = nB (Qcp k v v.length) := by rw [Q4, hfl]
    generalize Jk (fun j => if j < k then Qx k j (v.take v.length) else Qi) = F at *
    simp only [bO, bY]
    rw [← hfe]
    generalize Qd6 k v ++ leB (Qc8 (Qd6 k v)) 4 = R at *
    generalize leB (Qc8 (Qd6 k v)) 4 = s4 at *
    generalize Qc8 (Qd6 k v) = sm at *
    generalize Qd6 k v = fb at *
    generalize nB (Qcp k v v.length) = nn at *
    simp (maxSteps := 4000000) (disch := omega) only [rr, aop, cV, cV1, AV.one, Qb, okW, Qd, app, Qa, Qc, Qe, Qf, Qg, simprocAttr]
    refine Qh.still 1 [4] hC' (by simp [Q7, QG, frzL, QF, frzL_T _ tfl]) ?_
    simp (maxSteps := 4000000) (disch := omega) only [rr, aop, cV, cV1, AV.one, Qb, okW, Qd, app, Qa, Qc, Qe, Qf, Qg, simprocAttr, Qy]
    refine Qh.vc hB' ?_
    simp (maxSteps := 4000000) (disch := omega) only [rr, aop, cV, cV1, AV.one, Qb, okW, Qd, app, Qa, Qc, Qe, Qf, Qg, simprocAttr]
    refine Qh.still 2 [5, 4] hK' (by simp [Q7, QG, frzL, QF, frzL_T _ tfl, frzL_T _ tfs]) ?_
    simp (maxSteps := 4000000) (disch := omega) only [rr, aop, cV, cV1, AV.one, Qb, okW, Qd, app, Qa, Qc, Qe, Qf, Qg, simprocAttr, Qy]
    simp [Q7, QG, frzL, QF, frzL_T _ tfa]

end Go.Am

namespace Go.Am
open Go.RowKit

/-! ### How long a frame is -/

def QvE (c x : Int) (t l : List Int) : AV := if QbA c x l ≠ 0 then .tup [.int .i64 0, .int .i64 (QbA c x l)] else .tup [.int .i64 (QeB c.toNat x t l).length, .int .i64 0]
theorem QtS (c x : Int) (t l : List Int) : isD (QvE c x t l) = true := by unfold QvE; split <;> rfl
def QsG (P : Prg) (f : Nat) : Prop := ∀ (c x : Int) (t l : List Int), t.length = 16 → I32 t → I32 l → VC P f [shA c x, .agg (ks .i32 t), il l] (QvE c x t l)
set_option maxHeartbeats 2000000 in
set_option maxRecDepth 20000 in
theorem QgN {P : Prg} {f fV fS fL fN t0 t1 t2 : Nat} (bd : Ql P f 69 [.tmp 6, .tmp 7] (Z5 fV fS fL fN t0 t1 t2)) (hV : Qi8 P fV) (hS : QaS P fS) (hL0 : QsA P fL) (hN : Qi1 P fN) : QsG P f := by
  intro c x t l ht hI hL
  refine VC.of_acall (by simp [isDL, isD, QK, QS, shA]) (QtS _ _ _ _) (ACall.of_body bd (by simp) ?_)
  have hk : (ks .i32 t).length = 16 := by simp [Qk, ht]
  have tt : (ks .i32 t).take 16 = ks .i32 t := Qs (by omega)
  have ot := ZP .i32 t
  have hV' := hV c x t l ht hI hL
  unfold QvE
  by_cases h0 : QbA c x l = 0
  case neg =>
    rw [QpT, if_pos h0] at hV'
    rw [if_pos h0]
    rw [shA] at hV' ⊢
    simp (maxSteps := 4000000) (disch := omega) only [rr, aop, cV, cV1, AV.one, Qb, okW, Qd, app, Qa, Qc, Qe, Qf, Qg, simprocAttr, Z5, hk, ot, tt]
    refine Qh.vc hV' ?_
    simp (maxSteps := 4000000) (disch := omega) only [rr, aop, cV, cV1, AV.one, Qb, okW, Qd, app, Qa, Qc, Qe, Qf, Qg, simprocAttr, h0]
  obtain ⟨k, m, rfl, hkM, hx, e1, e2, e3, e4, e5, e6⟩ := QiR hL h0
  obtain ⟨c1, c6, l0, l4, lm, _⟩ := hkM
  rw [QpT, if_neg (by omega), Int.toNat_natCast, QjI] at hV'
  rw [if_neg (by omega), Int.toNat_natCast, QeB, QbT, QdA]
  have hv := QhJ k x t l
  have hvl := QeZ k x t l
  rw [← hvl] at hV' l0 l4
  generalize QpJ k x t l = v at *
  rw [shA] at hV' ⊢
  have hfb := Z2 (c := k) hv
  have hkv : (ks .u32 (v.map fun n : Nat => (n : Int))).length = v.length := by simp [ks]
  have s24 := Xz fun _ => Qi
  have sone : (Jk fun _ => Qi).all AV.one = true := rfl
  have stk : (Jk fun _ => Qi).take 24 = Jk fun _ => Qi := rfl
  have z2 : (fun j => if j < k then Qx k j (v.take 0) else Qi) = fun _ => Qi := by
    funext j
    rw [List.take_zero]
    split <;> rfl
  simp only [QaS] at hS
  simp (maxSteps := 4000000) (disch := omega) only [rr, aop, cV, cV1, AV.one, Qb, okW, Qd, app, Qa, Qc, Qe, Qf, Qg, simprocAttr, Z5, hk, ot, tt]
  refine Qh.vc hV' ?_
  simp (maxSteps := 4000000) (disch := omega) only [rr, aop, cV, cV1, AV.one, Qb, okW, Qd, app, Qa, Qc, Qe, Qf, Qg, simprocAttr, hkv]
  refine Qh.vc hS ?_
  generalize hS0 : (Jk fun _ => Qi) = S0 at *
  simp (maxSteps := 4000000) (disch := omega) only [rr, aop, cV, cV1, AV.one, Qb, okW, Qd, app, Qa, Qc, Qe, Qf, Qg, simprocAttr, hkv, s24, sone, stk, List.append_nil, List.take_zero, List.nil_append]
  refine QN.by (ι := Nat) (fun i => ⟨[(30, .int .i64 i), (29, .int .i64 v.length), (28, .list v.length (ks .u32 (v.map fun n : Nat => (n : Int)))), (11, .int .i64 (Qcp k v i)), (10, .ref 2 1 0), (7, .int .i64 0), (6, .int .i64 0), (3, .ref 0 1 0)],
      [⟨t0, 2, 1, [.int .i64 k, .int .i64 x], 0⟩, ⟨t1, 16, 1, ks .i32 t, 0⟩, ⟨t2, 24, 1, Jk (fun j => if j < k then Qx k j (v.take i) else Qi), 0⟩]⟩)
    (fun i => i ≤ v.length) (fun i => v.length - i) 0 ?_ (by omega) ?_
  · simp only [z2, hS0]
    rw [Qdz]
    exact Le.slots (by simp [Am.look])
  intro i hi
  by_cases hlt : i < v.length
  · obtain ⟨r, hr⟩ : ∃ r, r = i % k := ⟨_, rfl⟩
    have hrc : r < k := by rw [hr]; exact Nat.mod_lt _ (by omega)
    have q1 : (i : Int) % k = (r : Int) := by rw [hr]; simp [Int.natCast_emod]
    have q1' : ((i : Int)).tmod (k : Int) = (r : Int) := by rw [Int.tmod_eq_emod_of_nonneg (by omega), q1]
    have hc0 : (k : Int) ≠ 0 := by omega
    obtain ⟨b1, b2, b3⟩ := hfb i
    obtain ⟨_, b5, _⟩ := hfb (i + 1)
    have hd := QcV (c := k) (r := r) (hv.take i)
    have hvi := hv.getD i
    have hL' := hL0 (v.getD i 0) (Qx k r (v.take i)) hvi hd
    have hN' := hN (v.getD i 0) (Qx k r (v.take i)) hvi hd
    have hcn := Qfe (v := v.getD i 0) hd
    obtain ⟨rest, hg⟩ := Qe3 (fun j => if j < k then Qx k j (v.take i) else Qi) (j := r) (by omega)
    simp only [hrc, if_true] at hg
    have hset := Qa1 (fun j => if j < k then Qx k j (v.take i) else Qi) (j := r) (by omega) (Q6 (Qx k r (v.take i)) (v.getD i 0))
    have hup := Qna c1 hlt
    rw [← hr] at hup
    rw [hup] at hset
    have hln := Xz (fun j => if j < k then Qx k j (v.take i) else Qi)
    have hkat := QbY (K := .u32) (l := v.map fun n : Nat => (n : Int)) (i := i) (by simpa using hlt)
    have hgd : (v.map fun n : Nat => (n : Int)).getD i 0 = ((v.getD i 0 : Nat) : Int) := by simp [List.getD_eq_getElem?_getD, List.getElem?_eq_getElem hlt]
    rw [hgd] at hkat
    have hsN := Jn k v i
    rw [← hr] at hsN
    generalize hF1 : Jk (fun j => if j < k then Qx k j (v.take (i + 1)) else Qi) = F' at *
    generalize Jk (fun j => if j < k then Qx k j (v.take i) else Qi) = F at *
    generalize hN0 : Qcp k v i = N at *
    generalize hN1 : Qcp k v (i + 1) = N1 at *
    generalize hn0 : J2 (Qx k r (v.take i)) (v.getD i 0) = n at *
    generalize Q6 (Qx k r (v.take i)) (v.getD i 0) = d' at *
    generalize Qx k r (v.take i) = d at *
    generalize v.getD i 0 = vi at *
    obtain ⟨d0, d1, d2, d3⟩ := d
    obtain ⟨m0, m1, m2, m3⟩ := d'
    simp only [dlA, dlC] at hL' hN'
    simp only at hg hset
    simp (maxSteps := 4000000) (disch := omega) only [rr, aop, cV, cV1, AV.one, Qb, okW, Qd, app, Qa, Qc, Qe, Qf, Qg, simprocAttr, hkat, hkv, q1, q1', hc0, hg, hln]
    refine Qh.vc hL' ?_
    simp (maxSteps := 4000000) (disch := omega) only [rr, aop, cV, cV1, AV.one, Qb, okW, Qd, app, Qa, Qc, Qe, Qf, Qg, simprocAttr, hg, hln]
    refine Qh.vc hN' ?_
    simp (maxSteps := 4000000) (disch := omega) only [rr, aop, cV, cV1, AV.one, Qb, okW, Qd, app, Qa, Qc, Qe, Qf, Qg, simprocAttr, hset, hln]
    refine ⟨i + 1, by omega, by omega, ?_⟩
    simp only [hN1, hF1]
    rw [hsN]
    exact Le.slots (by simp [Am.look])
  · obtain rfl : i = v.length := by omega
    obtain ⟨_, b5, b6⟩ := hfb v.length
    generalize Jk (fun j => if j < k then Qx k j (v.take v.length) else Qi) = F at *
    generalize Qcp k v v.length = N at *
    have q9 : ((N : Int) + 7) / 8 = (nB N : Nat) := by unfold nB; omega
    simp (maxSteps := 4000000) (disch := omega) only [rr, aop, cV, cV1, AV.one, Qb, okW, Qd, app, Qa, Qc, Qe, Qf, Qg, simprocAttr, q9]

end Go.Am

namespace Go.Am
open Go.RowKit

/-! ### The reference of Encode and Length; the law EnframeBytes -/

theorem QrI {c x : Int} {t l : List Int} (hL : I32 l) (h : QbA c x l = 0) : (QeB c.toNat x t l).length ≤ 40504 ∧ 5 ≤ (QeB c.toNat x t l).length := by
  obtain ⟨k, m, rfl, hkM, hx, e1, e2, e3, e4, e5, e6⟩ := QiR hL h
  obtain ⟨c1, c6, l0, l4, lm, _⟩ := hkM
  have hvl := QeZ k x t l
  have := QfS (c := k) (QhJ k x t l) (by omega) (by omega)
  rw [Int.toNat_natCast, QeB, QbT]
  omega
end Go.Am

namespace Go.Am
open Go.RowKit

/-! ### Bursts are found (plain) -/

theorem QsR (a b : Nat) : (a ^^^ b) / 2 = a / 2 ^^^ b / 2 := Nat.xor_div_two
theorem Qud (a b : Nat) : Qf2 (a ^^^ b) = Qf2 a ^^^ Qf2 b := by
  unfold Qf2
  rw [QsR]
  have h := Nat.xor_mod_two_eq_one (a := a) (b := b)
  by_cases ha : a % 2 = 1 <;> by_cases hb : b % 2 = 1
  · rw [if_pos ha, if_pos hb, if_neg (by rw [h]; simp [ha, hb])]
    rw [Nat.xor_zero, Nat.xor_assoc, ← Nat.xor_assoc 3988292384, Nat.xor_comm 3988292384, Nat.xor_assoc, Nat.xor_self, Nat.xor_zero]
  · rw [if_pos ha, if_neg hb, if_pos (by rw [h]; simp [ha, hb]), Nat.xor_zero, Nat.xor_assoc, Nat.xor_assoc, Nat.xor_comm (b / 2)]
  · rw [if_neg ha, if_pos hb, if_pos (by rw [h]; simp [ha, hb]), Nat.xor_zero, Nat.xor_assoc]
  · rw [if_neg ha, if_neg hb, if_neg (by rw [h]; simp [ha, hb]), Nat.xor_zero, Nat.xor_zero, Nat.xor_zero]
theorem Qiu : ∀ (k a b : Nat), JH k (a ^^^ b) = JH k a ^^^ JH k b
  | 0, _, _ => rfl
  | k + 1, a, b => by rw [JH, JH, JH, Qud, Qiu k]
theorem QrU {c : Nat} (h : c < 4294967296) (h0 : Qf2 c = 0) : c = 0 := by
  unfold Qf2 at h0
  split at h0
  · have h1 : c / 2 = 3988292384 := by
      have := congrArg (· ^^^ 3988292384) h0
      simpa [Nat.xor_assoc] using this
    omega
  · rw [Nat.xor_zero] at h0
    omega
theorem Qf3 : ∀ (k : Nat) {c : Nat}, c < 4294967296 → JH k c = 0 → c = 0
  | 0, _, _, h => h
  | k + 1, _, h, h0 => QrU h (Qf3 k (Qmd h) h0)
theorem QnW : ∀ k : Nat, JH k 0 = 0
  | 0 => rfl
  | k + 1 => by rw [JH, show Qf2 0 = 0 from rfl, QnW k]
theorem Qk7 {a b : Nat} (h : a ^^^ b = 0) : a = b := by
  have := congrArg (b ^^^ ·) h
  simp only [Nat.xor_zero] at this
  rw [Nat.xor_comm a, ← Nat.xor_assoc, Nat.xor_self, Nat.zero_xor] at this
  exact this
theorem Quf {k a b : Nat} (ha : a < 4294967296) (hb : b < 4294967296) (h : JH k a = JH k b) : a = b := by
  have h1 : JH k (a ^^^ b) = 0 := by rw [Qiu, h, Nat.xor_self]
  exact Qk7 (Qf3 k (Nat.xor_lt_two_pow (n := 32) (by omega) (by omega)) h1)
theorem Qiv : ∀ (j k c : Nat), JH (j + k) c = JH k (JH j c)
  | 0, k, c => by rw [Nat.zero_add]; rfl
  | j + 1, k, c => by rw [Nat.add_right_comm, JH, Qiv j, JH]
theorem Qu0 {b h : Nat} (hb : b < 256) : b + 256 * h = b ^^^ 2 ^ 8 * h := by
  have := Qda (b + 256 * h) 8
  rw [show (2 : Nat) ^ 8 = 256 from rfl] at this ⊢
  rwa [show (b + 256 * h) % 256 = b by omega, show (b + 256 * h) / 256 = h by omega] at this
theorem Qme : ∀ (l : List UInt8) (s : Nat), QcT s l = JH (8 * l.length) (s ^^^ leN l)
  | [], s => by simp [QcT, JH, leN]
  | b :: l, s => by
    have hb := UInt8.toNat_lt b
    have e : leN (b :: l) = b.toNat ^^^ 2 ^ 8 * leN l := by rw [← Qu0 hb]; rfl
    rw [show QcT s (b :: l) = QcT (Qug s b.toNat) l from rfl, Qme l, e, ← Nat.xor_assoc, List.length_cons, show 8 * (l.length + 1) = 8 + 8 * l.length by omega, Qiv, Qfd]
    rfl
theorem Qmf (s : Nat) (a b : List UInt8) : QcT s (a ++ b) = QcT (QcT s a) b := by simp [QcT, List.foldl_append]

def Qx1 : Nat := JH 32 4294967295
theorem QsQ {s : Nat} (h : s < 4294967296) : s ^^^ 4294967295 = 4294967295 - s := by
  have h1 : BitVec.allOnes 32 ^^^ BitVec.ofNat 32 s = ~~~ BitVec.ofNat 32 s := by
    apply BitVec.eq_of_getElem_eq
    intro i hi
    rw [BitVec.getElem_xor, BitVec.getElem_not, BitVec.getElem_allOnes, Bool.true_xor]
  have := congrArg BitVec.toNat h1
  rw [BitVec.toNat_xor, BitVec.toNat_not, BitVec.toNat_ofNat, BitVec.toNat_allOnes, Nat.mod_eq_of_lt (by omega)] at this
  rw [Nat.xor_comm]
  have e : (2 : Nat) ^ 32 - 1 = 4294967295 := rfl
  rw [e] at this
  rw [this]
theorem Qnr {b : List UInt8} (h : 5 ≤ b.length) (h2 : b.length ≤ 41254) : Zi b = 0 ↔ QcT 4294967295 b = Qx1 := by
  have hb : b = b.take (b.length - 4) ++ b.drop (b.length - 4) := (List.take_append_drop _ _).symm
  have hl : (b.drop (b.length - 4)).length = 4 := by simp; omega
  have hs : QcT 4294967295 (b.take (b.length - 4)) < 4294967296 := Qd9 (by decide)
  have ht : leN (b.drop (b.length - 4)) < 4294967296 := by
    have := QeA (b.drop (b.length - 4))
    rw [hl] at this
    exact this
  have e1 : QcT 4294967295 b = JH 32 (QcT 4294967295 (b.take (b.length - 4)) ^^^ leN (b.drop (b.length - 4))) := by
    conv => lhs; rw [hb]
    rw [Qmf, Qme (b.drop (b.length - 4)), hl]
  rw [e1]
  unfold Zi Qc8 Qx1
  rw [if_neg (by omega), if_neg (by omega)]
  generalize QcT 4294967295 (b.take (b.length - 4)) = s at *
  generalize leN (b.drop (b.length - 4)) = t at *
  have hx := QsQ hs
  constructor
  · intro h3
    split at h3
    · rename_i h4
      rw [h4, ← hx, ← Nat.xor_assoc, Nat.xor_self, Nat.zero_xor]
    · omega
  · intro h3
    have h4 := Quf (Nat.xor_lt_two_pow (n := 32) (by omega) (by omega)) (by decide) h3
    have h5 : t = 4294967295 - s := by
      rw [← hx, ← h4, ← Nat.xor_assoc, Nat.xor_self, Nat.zero_xor]
    rw [if_pos h5]
theorem QoR {b b' : List UInt8} {a B : Nat} (h : Zi b = 0) (hl : b'.length = b.length) (hx : leN b ^^^ leN b' = 2 ^ a * B) (h0 : B ≠ 0) (hB : B < 4294967296) (ha : a ≤ 8 * b.length) : Zi b' = 22 := by
  obtain ⟨_, h1, h2⟩ := Qts h
  have h3 := (Qnr h1 h2).1 h
  have h4 : Zi b' ≠ 0 := by
    intro h4
    have h5 := (Qnr (by omega) (by omega)).1 h4
    rw [Qme] at h3 h5
    rw [hl] at h5
    have h6 : JH (8 * b.length) (leN b ^^^ leN b') = 0 := by
      have e : leN b ^^^ leN b' = (4294967295 ^^^ leN b) ^^^ (4294967295 ^^^ leN b') := by
        rw [Nat.xor_comm 4294967295 (leN b), Nat.xor_assoc, ← Nat.xor_assoc 4294967295, Nat.xor_self, Nat.zero_xor]
      rw [e, Qiu, h3, h5, Nat.xor_self]
    rw [hx, show 8 * b.length = a + (8 * b.length - a) by omega, Qiv] at h6
    have h7 := Qfd a 0 B
    rw [Nat.zero_xor, QnW, Nat.zero_xor] at h7
    rw [h7] at h6
    exact h0 (Qf3 _ hB h6)
  unfold Zi at h4 ⊢
  rw [if_neg (by omega), if_neg (by omega)] at h4 ⊢
  split
  · rename_i h5; rw [if_pos h5] at h4; exact absurd rfl h4
  · rfl
end Go.Am

namespace Go.Am
open Go.RowKit

/-! ### Bits that are flipped (plain) -/

theorem Qsd {V q r j : Nat} (hr : r < 8) : (V ^^^ 2 ^ (8 * q + r)) / 256 ^ j % 256 = if j = q then V / 256 ^ q % 256 ^^^ 2 ^ r else V / 256 ^ j % 256 := by
  rw [QfI, QfI, show (256 : Nat) = 2 ^ 8 from rfl]
  by_cases h : j = q
  · subst h
    rw [if_pos rfl]
    apply Nat.eq_of_testBit_eq
    intro i
    simp only [Nat.testBit_mod_two_pow, Nat.testBit_div_two_pow, Nat.testBit_xor, Nat.testBit_two_pow]
    by_cases hi : i < 8
    · simp only [hi, decide_true, Bool.true_and]
      congr 1
      by_cases e : r = i
      · simp [e, Nat.add_comm]
      · have : 8 * j + r ≠ i + 8 * j := by omega
        simp [e, this]
    · have : r ≠ i := by omega
      simp [hi, this]
  · rw [if_neg h]
    apply Nat.eq_of_testBit_eq
    intro i
    simp only [Nat.testBit_mod_two_pow, Nat.testBit_div_two_pow, Nat.testBit_xor, Nat.testBit_two_pow]
    by_cases hi : i < 8
    · have : 8 * q + r ≠ i + 8 * j := by omega
      simp [this]
    · simp [hi]
theorem QtK {V q r n : Nat} (hq : q < n) (hr : r < 8) : (leB V n).set q (UInt8.ofNat (V / 256 ^ q % 256 ^^^ 2 ^ r)) = leB (V ^^^ 2 ^ (8 * q + r)) n := by
  apply List.ext_getElem?
  intro j
  rw [List.getElem?_set]
  by_cases hj : j < n
  · rw [QfN n (V ^^^ 2 ^ (8 * q + r)) j hj, Qsd hr]
    by_cases e : q = j
    · subst e
      simp [Qu, hj]
    · rw [if_neg e, QfN n V j hj, if_neg (by omega)]
  · rw [List.getElem?_eq_none (by rw [Qu]; omega), List.getElem?_eq_none (by rw [Qu]; omega)]
    split
    · split
      · rename_i h1 h2; rw [Qu] at h2; omega
      · rfl
    · rfl
theorem Qvb {V q r n : Nat} (hq : q < n) (hr : r < 8) : (u8 (leB V n)).take q ++ .int .u8 ((V / 256 ^ q % 256 ^^^ 2 ^ r : Nat) : Int) :: (u8 (leB V n)).drop (q + 1) = u8 (leB (V ^^^ 2 ^ (8 * q + r)) n) := by
  have h2 : V / 256 ^ q % 256 ^^^ 2 ^ r < 2 ^ 8 := Nat.xor_lt_two_pow (Nat.mod_lt _ (by decide)) (Nat.pow_lt_pow_right (by decide) hr)
  rw [← QtK hq hr, List.set_eq_take_append_cons_drop, if_pos (by rw [Qu]; exact hq), Qva, Qln]
  simp only [u8, List.map_append, List.map_cons]
  congr 2
  have : (UInt8.ofNat (V / 256 ^ q % 256 ^^^ 2 ^ r)).toNat = V / 256 ^ q % 256 ^^^ 2 ^ r := UInt8.toNat_ofNat_of_lt h2
  rw [this]

def flV (V a B i : Nat) : Nat := V ^^^ 2 ^ a * (B % 2 ^ i)
theorem Qt5 (V a B : Nat) : flV V a B 0 = V := by simp [flV, Nat.mod_one]
theorem Qv7 {B i : Nat} (h : B / 2 ^ i % 2 = 1) : B % 2 ^ (i + 1) = B % 2 ^ i ^^^ 2 ^ i := by
  apply Nat.eq_of_testBit_eq
  intro j
  simp only [Nat.testBit_mod_two_pow, Nat.testBit_xor, Nat.testBit_two_pow]
  have hb : B.testBit i = true := by
    rw [Nat.testBit_eq_decide_div_mod_eq]
    simp [h]
  by_cases e : i = j
  · subst e; simp [hb]
  · by_cases h1 : j < i
    · simp [h1, e, show j < i + 1 by omega]
    · simp [h1, e, show ¬ j < i + 1 by omega]
theorem Qlp (a x y : Nat) : 2 ^ a * (x ^^^ y) = 2 ^ a * x ^^^ 2 ^ a * y := by
  apply Nat.eq_of_testBit_eq
  intro j
  simp only [Nat.testBit_two_pow_mul, Nat.testBit_xor]
  cases decide (j ≥ a) <;> simp
theorem QvM {V a B i : Nat} (h : B / 2 ^ i % 2 = 1) : flV V a B (i + 1) = flV V a B i ^^^ 2 ^ (a + i) := by
  unfold flV
  rw [Qv7 h, Qlp, ← Nat.pow_add, Nat.xor_assoc]
theorem QwV {V a B i n : Nat} (hV : V < 2 ^ n) (hi : a + i ≤ n) : flV V a B i < 2 ^ n := by
  refine Nat.xor_lt_two_pow hV ?_
  have h1 : B % 2 ^ i < 2 ^ i := Nat.mod_lt _ (Nat.pow_pos (by decide))
  have h2 : 2 ^ a * (B % 2 ^ i) < 2 ^ a * 2 ^ i := Nat.mul_lt_mul_of_pos_left h1 (Nat.pow_pos (by decide))
  rw [← Nat.pow_add] at h2
  exact Nat.lt_of_lt_of_le h2 (Nat.pow_le_pow_right (by decide) hi)
theorem Qvx {b : List UInt8} {a B i : Nat} (h : Zi b = 0) (hi : i ≤ 32) (ha : a + i ≤ 8 * b.length) (h0 : B % 2 ^ i ≠ 0) : Zi (leB (flV (leN b) a B i) b.length) = 22 := by
  have hl : (leB (flV (leN b) a B i) b.length).length = b.length := Qu _ _
  have hlt := QwV (B := B) (QeA b) ha
  rw [Nat.pow_mul] at hlt
  have h2 : B % 2 ^ i < 4294967296 := by
    have h3 : B % 2 ^ i < 2 ^ i := Nat.mod_lt _ (Nat.pow_pos (by decide))
    have h4 : 2 ^ i ≤ 2 ^ 32 := Nat.pow_le_pow_right (by decide) hi
    omega
  refine QoR h hl ?_ h0 h2 (a := a) (by omega)
  rw [Qic _ _ hlt, flV, ← Nat.xor_assoc, Nat.xor_self, Nat.zero_xor]
theorem Qki {c x n : Int} {t : List Int} {b : List UInt8} (h : QO c x n = 0) (ho : Zi b ≠ 0) : QfW c x t n b = (Zi b : Nat) := by
  unfold QfW
  rw [if_neg (by omega), if_pos ho]
theorem Qrq {c x n : Int} {t : List Int} {b : List UInt8} (h : QO c x n = 0) (ho : Zi b = 22) : QuN c x t n b = .tup [il (QuD c n), .bool false, .int .i64 0] := by
  have he := Qki (t := t) h (b := b) (by omega)
  rw [QuN, if_neg (by omega), if_neg (by omega)]

end Go.Am

namespace Go.Am
open Go.RowKit

/-! ### Names: what is said of some frames -/

def emL : List AV → List AV
  | [] => []
  | .emp _ :: l => .list 0 [] :: emL l
  | a :: l => a :: emL l
theorem Qod {X : Cx} : ∀ (l : List AV) (vs : List Value), RepL X l vs → RepL X (emL l) vs
  | [], _, h => h
  | a :: l, vs, h => by
    simp only [RepL] at h
    obtain ⟨v, rest, e, g1, g2⟩ := h
    have h2 := Qod l rest g2
    cases a with
    | emp z =>
      simp only [emL, RepL]
      refine ⟨v, rest, e, ?_, h2⟩
      simp only [Rep] at g1 ⊢
      obtain ⟨a, e, _⟩ := g1
      exact ⟨a, 0, [], e, Nat.le_refl _, .inl rfl, by simp [RepL]⟩
    | _ => simp only [emL, RepL]; exact ⟨v, rest, e, g1, h2⟩
theorem VC.emp {P : Prg} {f : FuncId} (avs : List AV) {r : AV} (h : VC P f (emL avs) r) (hd : isDL avs = true) : VC P f avs r :=
  ⟨h.1, hd, h.2.2.1, fun w C vs hC hG hr => h.2.2.2 w C vs hC hG (Qod _ _ hr)⟩

end Go.Am

namespace Go.Am
open Go.RowKit

/-! ### Lists of numbers: slices.Concat, slices.Repeat, lengths.All -/

def nl (l : List Int) : AV := .list l.length (ks .i64 l)
theorem Qrk (l : List Int) : isD (nl l) = true := by simp [nl, isD, QK]
def nls (L : List (List Int)) : AV := .list L.length (L.map nl)
theorem QnJ : ∀ L : List (List Int), isDL (L.map nl) = true
  | [] => rfl
  | l :: L => by simp [isDL, Qrk, QnJ L]
def Qgo (t : Nat) (P : Prg) (f : Nat) : Prop := ∀ L : List (List Int), L.length ≤ 1000000 → 0 < L.flatten.length → L.flatten.length ≤ 1000000 → VO P f [nls L] (.own 0 L.flatten.length) ⟨t, 1, L.flatten.length, ks .i64 L.flatten, 0⟩
theorem grow_nilI {P : Prg} {f t : Nat} {ρ : Go.Shelf.Ren} (L : Go.Proofs.Lays8.n4 P.prog ρ) (hf : ρ.f 4 = f) (ht : ρ.t 25 = t) (h25 : (P.prog.info? t).map (fun i => (i.zero, i.size, i.bytes)) = some (some (.int .i64 0), 1, 8)) : ∀ (ob : List Ob) (n : Nat) (z : Bool) (K : AV → List Ob → Prop), 0 < n → n ≤ 1000000 → K (.own ob.length 0) (ob ++ [⟨t, 1, 0, [], 0⟩]) → ACall P f [.emp z, .int .i64 n] ob K := by
  intro ob n z K h1 h2 hK
  subst hf; subst ht
  exact ACall.grow_nilI (by omega) L h25 h1 (by omega) hK
def QhC (t : Nat) (P : Prg) (f : Nat) : Prop := ∀ (ob : List Ob) (n : Nat) (z : Bool) (K : AV → List Ob → Prop), 0 < n → n ≤ 1000000 → K (.own ob.length 0) (ob ++ [⟨t, 1, 0, [], 0⟩]) → ACall P f [.emp z, .int .i64 n] ob K
theorem Qhp {L : List (List Int)} {k : Nat} (h : k < L.length) : (L.take (k + 1)).flatten = (L.take k).flatten ++ L.getD k [] := by
  rw [List.take_succ_eq_append_getElem h, List.flatten_append, List.getD_eq_getElem?_getD, List.getElem?_eq_getElem h]
  simp
theorem QnP (L : List (List Int)) (k : Nat) : (L.take k).flatten.length ≤ L.flatten.length := by
  conv => rhs; rw [← List.take_append_drop k L, List.flatten_append, List.length_append]
  omega
theorem QgG {P : Prg} {f fG t0 : Nat} (bd : Ql P f 36 [.tmp 2] (Zl fG t0)) (hG : QhC t0 P fG) : Qgo t0 P f := by
  intro L hL h0 h1
  refine VO.of_walk (by simp [isDL, isD, nls, QnJ]) (QK _ _) (by simp [okr]) (ACall.of_body bd (by simp) ?_)
  have hat : ∀ k, k < L.length → (L.map nl).drop k = nl (L.getD k []) :: (L.map nl).drop (k + 1) := fun k hk => by
    rw [List.drop_eq_getElem_cons (by simpa using hk)]
    simp [List.getD_eq_getElem?_getD, List.getElem?_eq_getElem hk]
  have hml : (L.map nl).length = L.length := by simp
  simp only [nl] at hat
  simp (maxSteps := 4000000) (disch := omega) only [rr, aop, cV, cV1, AV.one, Qb, okW, Qd, app, Qa, Qc, Qe, Qf, Qg, simprocAttr, Zl, nls]
  refine QN.by (ι := Nat) (fun k => ⟨[(11, .int .i64 k), (10, .int .i64 L.length), (9, .list L.length (L.map nl)), (3, .int .i64 (L.take k).flatten.length), (0, .list L.length (L.map nl))], []⟩) (fun k => k ≤ L.length) (fun k => L.length - k) 0 (Le.slots (by simp [Am.look])) (by omega) ?_
  intro k hk
  by_cases hlt : k < L.length
  · have ha := hat k hlt
    have hf := Qhp hlt
    have hle := QnP L (k + 1)
    rw [hf, List.length_append] at hle
    have hl : ((L.take (k + 1)).flatten.length : Int) = (L.take k).flatten.length + (L.getD k []).length := by rw [hf]; simp
    generalize (L.take k).flatten.length = s at *
    generalize L.getD k [] = x at *
    simp (maxSteps := 4000000) (disch := omega) only [rr, aop, cV, cV1, AV.one, Qb, okW, Qd, app, Qa, Qc, Qe, Qf, Qg, simprocAttr, ha, hml]
    exact ⟨k + 1, by omega, by omega, by simp only [hl]; exact Le.slots (by simp [Am.look])⟩
  obtain rfl : k = L.length := by omega
  rw [List.take_length]
  have hG' := fun K hK => hG [] L.flatten.length true K h0 h1 hK
  simp (maxSteps := 4000000) (disch := omega) only [rr, aop, cV, cV1, AV.one, Qb, okW, Qd, app, Qa, Qc, Qe, Qf, Qg, simprocAttr]
  refine hG' _ ?_
  simp (maxSteps := 4000000) (disch := omega) only [rr, aop, cV, cV1, AV.one, Qb, okW, Qd, app, Qa, Qc, Qe, Qf, Qg, simprocAttr]
  refine QN.by (ι := Nat) (fun k => ⟨[(27, .int .i64 k), (26, .int .i64 L.length), (25, .list L.length (L.map nl)), (6, .own 0 (L.take k).flatten.length)], [⟨t0, 1, (L.take k).flatten.length, ks .i64 (L.take k).flatten, 0⟩]⟩) (fun k => k ≤ L.length) (fun k => L.length - k) 0 (Le.slots (by simp [Am.look, ks])) (by omega) ?_
  intro k hk
  by_cases hlt : k < L.length
  · have ha := hat k hlt
    have hf := Qhp hlt
    have hle := QnP L (k + 1)
    rw [hf, List.length_append] at hle
    have hl : (L.take (k + 1)).flatten.length = (L.take k).flatten.length + (L.getD k []).length := by rw [hf]; simp
    have hu : ks .i64 (L.take (k + 1)).flatten = ks .i64 (L.take k).flatten ++ ks .i64 (L.getD k []) := by rw [hf]; simp [ks]
    have hc : (ks .i64 (L.take k).flatten).length = (L.take k).flatten.length := Qk _ _
    have hx : (ks .i64 (L.getD k [])).length = (L.getD k []).length := Qk _ _
    generalize ks .i64 (L.take k).flatten = cs at *
    generalize (L.take k).flatten.length = s at *
    generalize ks .i64 (L.getD k []) = us at *
    generalize (L.getD k []).length = xl at *
    simp (maxSteps := 4000000) (disch := omega) only [rr, aop, cV, cV1, AV.one, Qb, okW, Qd, app, Qa, Qc, Qe, Qf, Qg, simprocAttr, ha, hml, hc, hx]
    exact ⟨k + 1, by omega, by omega, by rw [hl, hu]; exact Le.slots (by simp [Am.look])⟩
  obtain rfl : k = L.length := by omega
  rw [List.take_length]
  simp (maxSteps := 4000000) (disch := omega) only [rr, aop, cV, cV1, AV.one, Qb, okW, Qd, app, Qa, Qc, Qe, Qf, Qg, simprocAttr]
  exact ⟨0, rfl, rfl⟩

end Go.Am

namespace Go.Am
open Go.RowKit

def QpG (P : Prg) (f : Nat) : Prop := ∀ x y : Nat, x ≤ 65535 → y ≤ 65535 → VC P f [.int .u64 x, .int .u64 y] (.tup [.int .u64 0, .int .u64 ((x * y : Nat) : Int)])
theorem QoT {P : Prg} {f : Nat} (bd : Ql P f 51 [.tmp 4, .tmp 5] XF) : QpG P f := by
  intro x y hx hy
  refine VC.of_acall rfl rfl (ACall.of_body bd (by simp) ?_)
  have hxy : x * y ≤ 65535 * 65535 := Nat.mul_le_mul hx hy
  have hm : (x : Int) * (y : Int) = ((x * y : Nat) : Int) := by simp
  have an : ∀ a : Nat, a ≤ 4294967295 → IntKind.u64.wrap (BitVec.ofInt IntKind.u64.bits (a : Int) &&& BitVec.ofInt IntKind.u64.bits 4294967295).toNat = (a : Int) := by
    intro a ha
    have := QmH a 4294967295 (by omega) (by decide)
    rw [show (4294967295 : Nat) = 2 ^ 32 - 1 from rfl, Nat.and_two_pow_sub_one_eq_mod, Nat.mod_eq_of_lt (by omega)] at this
    exact this
  have sh : ∀ a : Nat, a ≤ 4294967295 → Qm false .u64 (a : Int) 32 = some (.int .u64 0) := by
    intro a ha
    have := Qgt (K := .u64) (n := a) (k := 32) (by decide)
    rw [Nat.div_eq_of_lt (by omega)] at this
    exact this
  have a1 := an x (by omega)
  have a2 := an y (by omega)
  have a3 : IntKind.u64.wrap (BitVec.ofInt IntKind.u64.bits 0 &&& BitVec.ofInt IntKind.u64.bits 4294967295).toNat = 0 := by decide
  have s1 := sh x (by omega)
  have s2 := sh y (by omega)
  have s3 := sh (x * y) (by omega)
  have s4 : Qm false .u64 0 32 = some (.int .u64 0) := sh 0 (by omega)
  generalize x * y = z at *
  simp (maxSteps := 4000000) (disch := omega) only [rr, aop, cV, cV1, AV.one, Qb, okW, Qd, app, Qa, Qc, Qe, Qf, Qg, simprocAttr, XF, a1, a2, a3, s1, s2, s3, s4, hm, Int.zero_mul, Int.mul_zero, Int.add_zero, Int.zero_add]
theorem Qtz {P : Prg} {f f32 f64 : Nat} (bd : Ql P f 30 [.tmp 4, .tmp 5] (Ju f32 f64)) (h64 : QpG P f64) : QpG P f := by
  intro x y hx hy
  refine VC.of_acall rfl rfl (ACall.of_body bd (by simp) ?_)
  have h := h64 x y hx hy
  generalize x * y = z at *
  simp (maxSteps := 4000000) (disch := omega) only [rr, aop, cV, cV1, AV.one, Qb, okW, Qd, app, Qa, Qc, Qe, Qf, Qg, simprocAttr, Ju]
  refine Qh.vc h ?_
  simp (maxSteps := 4000000) (disch := omega) only [rr, aop, cV, cV1, AV.one, Qb, okW, Qd, app, Qa, Qc, Qe, Qf, Qg, simprocAttr]

def rpL (v : Int) (m c : Nat) : List Int := List.replicate m v ++ List.replicate (c - m) 0
theorem QwH {v : Int} {m c : Nat} (h : m ≤ c) : (rpL v m c).length = c := by simp [rpL]; omega
def Qgk (t : Nat) (P : Prg) (f : Nat) : Prop := ∀ (v : Int) (c : Nat), c ≤ 1000 → VO P f [nl [v], .int .i64 c] (.own 0 c) ⟨t, 1, c, ks .i64 (List.replicate c v), 0⟩
theorem QgF {P : Prg} {f fM t0 : Nat} (bd : Ql P f 48 [.tmp 4] (Zk fM t0)) (hM : QpG P fM) : Qgk t0 P f := by
  intro v c hc
  refine VO.of_walk (by simp [isDL, Qrk, isD]) (QK _ _) (by simp [okr]) (ACall.of_body bd (by simp) ?_)
  have hM' := hM 1 c (by omega) (by omega)
  rw [Nat.one_mul] at hM'
  have hM2 : VC P fM [.int .u64 1, .int .u64 c] (.tup [.int .u64 0, .int .u64 c]) := hM'
  have e1 : nl [v] = .list 1 [.int .i64 v] := rfl
  have er : Qt [.int .i64 0] c = ks .i64 (List.replicate c 0) := QqJ .i64 c
  have hl : (ks .i64 (List.replicate c 0)).length = c := by simp [Qk]
  rw [e1]
  simp (maxSteps := 4000000) (disch := omega) only [rr, aop, cV, cV1, AV.one, Qb, okW, Qd, app, Qa, Qc, Qe, Qf, Qg, simprocAttr, Zk]
  refine Qh.vc hM2 ?_
  by_cases h0 : c = 0
  · subst h0
    simp (maxSteps := 4000000) (disch := omega) only [rr, aop, cV, cV1, AV.one, Qb, okW, Qd, app, Qa, Qc, Qe, Qf, Qg, simprocAttr, er]
    refine QN.by (ι := Nat) (fun _ => ⟨[(8, .int .i64 0), (7, .own 0 0)], [⟨t0, 1, 0, [], 0⟩]⟩) (fun _ => True) (fun _ => 0) 0 (Le.slots (by simp [Am.look, ks])) trivial ?_
    intro _ _
    simp (maxSteps := 4000000) (disch := omega) only [rr, aop, cV, cV1, AV.one, Qb, okW, Qd, app, Qa, Qc, Qe, Qf, Qg, simprocAttr]
    exact ⟨0, rfl, rfl⟩
  · have hmn : Nat.min 1 c = 1 := Nat.min_eq_left (by omega)
    have hst : (1 : Int) < (c : Int) ∨ c = 1 := by omega
    simp (maxSteps := 4000000) (disch := omega) only [rr, aop, cV, cV1, AV.one, Qb, okW, Qd, app, Qa, Qc, Qe, Qf, Qg, simprocAttr, er, hl, hmn]
    refine QN.by (ι := Nat) (fun m => ⟨[(8, .int .i64 m), (7, .own 0 c)], [⟨t0, 1, c, ks .i64 (rpL v m c), 0⟩]⟩) (fun m => 1 ≤ m ∧ m ≤ c) (fun m => c - m) 1 ?_ (by omega) ?_
    · have : [AV.int .i64 v] ++ (ks .i64 (List.replicate c 0)).drop 1 = ks .i64 (rpL v 1 c) := by simp [rpL, ks]
      rw [← this]
      exact Le.slots (by simp [Am.look])
    intro m hm
    obtain ⟨hm1, hm2⟩ := hm
    have hkl : (ks .i64 (rpL v m c)).length = c := by rw [Qk, QwH hm2]
    by_cases hlt : m < c
    · obtain ⟨q, hq⟩ : ∃ q, q = Nat.min m (c - m) := ⟨_, rfl⟩
      have hq1 : q ≤ m := by rw [hq]; exact Nat.min_le_left _ _
      have hq2 : q ≤ c - m := by rw [hq]; exact Nat.min_le_right _ _
      have hq3 : 1 ≤ q := by rw [hq]; exact Nat.le_min.2 ⟨hm1, by omega⟩
      have hmc : min m c = m := Nat.min_eq_left hm2
      have hal : ((ks .i64 (rpL v m c)).take m).all AV.one = true := by
        rw [List.all_eq_true]
        intro x hx
        exact List.all_eq_true.1 (ZP .i64 (rpL v m c)) x (List.mem_of_mem_take hx)
      have e1 : (rpL v m c).take m = List.replicate m v := by unfold rpL; rw [List.take_left' (by simp)]
      have e2 : (rpL v m c).drop (m + q) = List.replicate (c - (m + q)) 0 := by
        unfold rpL
        rw [List.drop_append, List.drop_of_length_le (by simp), List.nil_append, List.drop_replicate, List.length_replicate]
        congr 1
        omega
      have hcs : (ks .i64 (rpL v m c)).take m ++ (((ks .i64 (rpL v m c)).take m).take q ++ (ks .i64 (rpL v m c)).drop (m + q)) = ks .i64 (rpL v (m + q) c) := by
        have k1 : ∀ l n, (ks .i64 l).take n = ks .i64 (l.take n) := fun l n => by simp [ks, List.map_take]
        have k2 : ∀ l n, (ks .i64 l).drop n = ks .i64 (l.drop n) := fun l n => by simp [ks, List.map_drop]
        have k3 : ∀ a b, ks .i64 a ++ ks .i64 b = ks .i64 (a ++ b) := fun a b => by simp [ks]
        rw [k1, e1, k1, k2, e2, List.take_replicate, Nat.min_eq_left hq1, k3, k3, ← List.append_assoc, List.replicate_append_replicate]
        rfl
      have hcs2 : (ks .i64 (rpL v m c)).take m ++ ((ks .i64 (rpL v m c)).take m).take q ++ (ks .i64 (rpL v m c)).drop (m + q) = ks .i64 (rpL v (m + q) c) := by rw [List.append_assoc]; exact hcs
      simp (maxSteps := 4000000) (disch := omega) only [rr, aop, cV, cV1, AV.one, Qb, okW, Qd, app, Qa, Qc, Qe, Qf, Qg, simprocAttr, hkl, h0, Nat.sub_zero, hmc, hal, ← hq, Nat.mul_one, hcs2, hcs]
      refine ⟨m + q, ⟨by omega, by omega⟩, by omega, ?_⟩
      exact Le.slots (by simp [Am.look])
    · obtain rfl : m = c := by omega
      have : rpL v m m = List.replicate m v := by simp [rpL]
      rw [this]
      simp (maxSteps := 4000000) (disch := omega) only [rr, aop, cV, cV1, AV.one, Qb, okW, Qd, app, Qa, Qc, Qe, Qf, Qg, simprocAttr]
      exact ⟨0, rfl, rfl⟩

end Go.Am

namespace Go.Am
open Go.RowKit

def QsI (t : Nat) (P : Prg) (f : Nat) : Prop := ∀ a b : List Int, 0 < a.length + b.length → a.length + b.length ≤ 1000000 → VO P f [nl a, nl b] (.own 0 (a.length + b.length)) ⟨t, 1, a.length + b.length, ks .i64 (a ++ b), 0⟩
theorem QgJ {P : Prg} {f fC t0 t1 : Nat} (bd : Ql P f 9 [.tmp 4] (X5 fC t1)) (hC : Qgo t0 P fC) : QsI t0 P f := by
  intro a b h0 h1
  refine VO.of_walk (by simp [isDL, Qrk]) (QK _ _) (by simp [okr]) (ACall.of_body bd (by simp) ?_)
  have hC' := hC [a, b] (by simp) (by simpa using h0) (by simpa using h1)
  have e1 : nls [a, b] = .list 2 [nl a, nl b] := rfl
  have e2 : [a, b].flatten = a ++ b := by simp
  rw [e1, e2, List.length_append] at hC'
  have ta := Qq .i64 a
  have tb := Qq .i64 b
  simp only [nl] at hC' ⊢
  simp (maxSteps := 4000000) (disch := omega) only [rr, aop, cV, cV1, AV.one, Qb, okW, Qd, app, Qa, Qc, Qe, Qf, Qg, simprocAttr, X5]
  refine Qh.vo_still 1 [0] hC' (by simp [Q7, QG, frzL, QF, frzL_T _ ta, frzL_T _ tb]) ?_
  simp (maxSteps := 4000000) (disch := omega) only [rr, aop, cV, cV1, AV.one, Qb, okW, Qd, app, Qa, Qc, Qe, Qf, Qg, simprocAttr, Qy, shr]
  exact ⟨1, rfl, rfl⟩

def okA (r n : Int) : Prop := 1 ≤ r ∧ r ≤ 1048576 ∧ 1 ≤ n ∧ n ≤ 4000 ∧ (QJ (Qw r).toNat n.toNat).length ≤ 1000
def QkZ (t : Nat) (P : Prg) (f : Nat) : Prop := ∀ r n : Int, okA r n → VO P f [.int .i64 r, .int .i64 n] (.tup [.own 0 (QJ (Qw r).toNat n.toNat).length, .int .i64 0]) ⟨t, 1, (QJ (Qw r).toNat n.toNat).length, ks .i64 (QJ (Qw r).toNat n.toNat), 0⟩
theorem QlR {P : Prg} {f fC fL fR fB t0 : Nat} (bd : Ql P f 39 [.tmp 4, .tmp 5] (Qay fC fL fR fB t0)) (hC : Qab P fC) (hL : Qbu P fL) (hR : Qgk t0 P fR) (hB : QsI t0 P fB) : QkZ t0 P f := by
  intro r n ⟨a1, a2, a3, a4, a5⟩
  refine VO.of_walk rfl (QK _ _) (by simp [okr, flat]) (ACall.of_body bd (by simp) ?_)
  have hlong : 1 ≤ Qw r := by unfold Qw; split <;> omega
  obtain ⟨L, hLe⟩ : ∃ L : Nat, Qw r = L := ⟨(Qw r).toNat, by omega⟩
  obtain ⟨m, rfl⟩ : ∃ m : Nat, n = m := ⟨n.toNat, by omega⟩
  rw [hLe, Int.toNat_natCast, Int.toNat_natCast] at a5 ⊢
  rw [ZO] at a5
  obtain ⟨q, hq⟩ : ∃ q, q = (m - 1) / L := ⟨_, rfl⟩
  have hql : (QJ L m).length = q + 1 := by rw [ZO, hq]
  rw [← hq] at a5
  have hcd : ((m : Int) + (L : Int) - 1) / (L : Int) = ((q + 1 : Nat) : Int) := by
    have h1 : (m : Int) + (L : Int) - 1 = ((m - 1 + L : Nat) : Int) := by omega
    rw [h1, ← Int.natCast_ediv, Nat.add_div_right _ (by omega), ← hq]
  have hk : QgY r m = .tup [.int .i64 ((q + 1 : Nat) : Int), .int .i64 0] := by
    rw [QgY, if_neg (by omega), if_neg (by omega), hLe, hcd, if_neg (by omega)]
  have hC' := hC r m
  rw [hk] at hC'
  have hL' := hL r
  rw [QbE, if_neg (by omega), hLe] at hL'
  have hR' := hR L q (by omega)
  have hB' := hB (List.replicate q (L : Int)) [(m : Int) - ((q * L : Nat) : Int)] (by simp) (by simp; omega)
  have e1 : List.replicate q (L : Int) ++ [(m : Int) - ((q * L : Nat) : Int)] = QJ L m := by unfold QJ; rw [hq]
  rw [e1] at hB'
  have e2 : (List.replicate q (L : Int)).length + [(m : Int) - ((q * L : Nat) : Int)].length = q + 1 := by simp
  rw [e2] at hB'
  have e3 : nl [(L : Int)] = .list 1 [.int .i64 (L : Int)] := rfl
  have e4 : nl [(m : Int) - ((q * L : Nat) : Int)] = .list 1 [.int .i64 ((m : Int) - ((q * L : Nat) : Int))] := rfl
  rw [e3] at hR'
  rw [e4] at hB'
  have tr := Qq .i64 (List.replicate q (L : Int))
  have hqL : (q : Int) * (L : Int) = ((q * L : Nat) : Int) := by simp
  have hle : q * L ≤ m := by
    have := Nat.div_mul_le_self (m - 1) L
    rw [← hq] at this
    omega
  simp only [nl, List.length_replicate] at hB'
  rw [hql]
  generalize ks .i64 (QJ L m) = LL at *
  generalize ks .i64 (List.replicate q (L : Int)) = RR at *
  generalize q * L = w at *
  simp only [Int.natCast_add, Int.cast_ofNat_Int] at hC'
  have hq1 : (q : Int) + 1 - 1 = (q : Int) := by omega
  simp (maxSteps := 4000000) (disch := omega) only [rr, aop, cV, cV1, AV.one, Qb, okW, Qd, app, Qa, Qc, Qe, Qf, Qg, simprocAttr, Qay]
  refine Qh.vc hC' ?_
  simp (maxSteps := 4000000) (disch := omega) only [rr, aop, cV, cV1, AV.one, Qb, okW, Qd, app, Qa, Qc, Qe, Qf, Qg, simprocAttr]
  refine Qh.vc hL' ?_
  simp (maxSteps := 4000000) (disch := omega) only [rr, aop, cV, cV1, AV.one, Qb, okW, Qd, app, Qa, Qc, Qe, Qf, Qg, simprocAttr, hq1]
  refine Qh.vo_still 1 [0] hR' (by simp [Q7, QG, frzL, QF]) ?_
  simp (maxSteps := 4000000) (disch := omega) only [rr, aop, cV, cV1, AV.one, Qb, okW, Qd, app, Qa, Qc, Qe, Qf, Qg, simprocAttr, Qy, shr, hq1, hqL]
  refine Qh.vo_still 1 [1, 2] hB' (by simp [Q7, QG, frzL, QF, frzL_T _ tr]) ?_
  simp (maxSteps := 4000000) (disch := omega) only [rr, aop, cV, cV1, AV.one, Qb, okW, Qd, app, Qa, Qc, Qe, Qf, Qg, simprocAttr, Qy, shr]
  exact ⟨3, rfl, rfl⟩

end Go.Am

namespace Go.Am
open Go.RowKit

/-! ### clip.parts: the iterator -/

def Zm (Lc : Nat) (l : List Int) (j : Nat) : List Int := (l.drop (j * Lc)).take Lc

def QdL (t : Nat) (P : Prg) (f : Nat) : Prop := ∀ (k n : Nat) (x r : Int) (l : List Int), 1 ≤ k → k ≤ 1000 → l.length = n * k → okA r n →
  QsK P f [.int .i64 k, .int .i64 x, .int .i64 r, il l] [t] (cnt := (QJ (Qw r).toNat n).length) (fun j => il (Zm ((Qw r).toNat * k) l j.1))

theorem Qcj {X : Cx} {a : Act} : ∀ i, Rep X (look [] i) (a.tmps.getD i undef) := fun i => by simp only [look, Rep]
theorem QP {X : Cx} {a : Act} {fr : List (Nat × AV)} {j : Nat} {v : AV} (h : Rep X v (a.tmps.getD j undef)) (g : ∀ i, Rep X (look fr i) (a.tmps.getD i undef)) : ∀ i, Rep X (look ((j, v) :: fr) i) (a.tmps.getD i undef) := fun i => by
  simp only [look]
  split
  · rename_i e; subst e; exact h
  · exact g i

theorem QxE {N : Nat} {fr : List (Nat × AV)} {a : Act} {W : World} (hd : a.defers = []) (hz : a.tmps.size = N) (h : ∀ i, Rep ⟨W, [], [], fun _ _ => False⟩ (look fr i) (a.tmps.getD i undef)) : Sim ⟨W.heap.size, ⟨W, [], [], fun _ _ => False⟩, N, []⟩ ⟨fr, []⟩ a W :=
  ⟨hd, hz, Below.refl _ _, [], ⟨rfl, by simp, by simp, by simp, fun _ _ h => h.elim, Nat.le_refl _⟩, Moves.refl _, h⟩

theorem J3 {W W' : World} (h : Below W.heap.size W W') : W.grownBy W' none := ⟨h.os, h.tape, h.output, h.size, fun k hk _ => h.block k hk⟩

theorem QdY {k n L j : Nat} {l : List Int} (hl : l.length = n * k) (hn : 1 ≤ n) (hL : 1 ≤ L) (hj : j < (QJ L n).length) :
    ∃ m : Nat, (QJ L n).getD j 0 = m ∧ m ≤ n ∧ min (j * (L * k)) (n * k) = j * (L * k) ∧ j * (L * k) ≤ n * k ∧ min ((j + 1) * (L * k)) (n * k) = j * (L * k) + m * k ∧ Zm (L * k) l j = (l.drop (j * (L * k))).take (m * k) ∧ j * (L * k) + m * k ≤ n * k := by
  rw [ZO] at hj
  have g0 : (n - 1) / L * L ≤ n - 1 := Nat.div_mul_le_self _ _
  have g2 : n - 1 < (n - 1) / L * L + L := Nat.lt_div_mul_add (by omega)
  have g1 : j * L ≤ (n - 1) / L * L := Nat.mul_le_mul_right _ (by omega)
  have e0 : j * (L * k) = j * L * k := by rw [Nat.mul_assoc]
  have e1 : (j + 1) * (L * k) = (j * L + L) * k := by rw [← Nat.mul_assoc, Nat.add_mul, Nat.one_mul]
  have h3 : j * L * k ≤ n * k := Nat.mul_le_mul_right _ (by omega)
  by_cases hq : j < (n - 1) / L
  · have g3 : (j + 1) * L ≤ (n - 1) / L * L := Nat.mul_le_mul_right _ (by omega)
    rw [Nat.add_mul, Nat.one_mul] at g3
    have h7 : j * L + L ≤ n := Nat.le_trans g3 (Nat.le_trans g0 (Nat.sub_le _ _))
    have h4 : (j * L + L) * k ≤ n * k := Nat.mul_le_mul_right _ h7
    refine ⟨L, ?_, by omega, by rw [e0]; exact Nat.min_eq_left h3, by rw [e0]; exact h3, by rw [e1, e0, Nat.min_eq_left h4, Nat.add_mul], rfl, by rw [e0, ← Nat.add_mul]; exact h4⟩
    unfold QJ
    rw [List.getD_eq_getElem?_getD, List.getElem?_append_left (by simpa using hq), List.getElem?_replicate, if_pos hq]
    rfl
  · have hjq : j = (n - 1) / L := by omega
    have h7 : n ≤ j * L + L := by rw [hjq]; generalize (n - 1) / L * L = w at *; omega
    have h8 : n - j * L ≤ L := by omega
    have h4 : n * k ≤ (j * L + L) * k := Nat.mul_le_mul_right _ h7
    have h5 : j * L * k + (n - j * L) * k = n * k := by rw [← Nat.add_mul]; congr 1; omega
    refine ⟨n - j * L, ?_, Nat.sub_le _ _, by rw [e0]; exact Nat.min_eq_left h3, by rw [e0]; exact h3, by rw [e1, e0, Nat.min_eq_right h4, h5], ?_, by rw [e0, h5]; exact Nat.le_refl _⟩
    · unfold QJ
      rw [List.getD_eq_getElem?_getD, List.getElem?_append_right (by simp; omega)]
      simp only [List.length_replicate, ← hjq, Nat.sub_self, List.getElem?_cons_zero, Option.getD_some]
      omega
    · unfold Zm
      have h6 : (l.drop (j * (L * k))).length = (n - j * L) * k := by rw [List.length_drop, hl, e0]; omega
      rw [List.take_of_length_le (by rw [h6]; exact Nat.mul_le_mul_right _ h8), List.take_of_length_le (by rw [h6]; exact Nat.le_refl _)]
theorem QrF {m j : Nat} (h : j < m) : (List.finRange m).take (j + 1) = (List.finRange m).take j ++ [⟨j, h⟩] := by
  rw [List.take_succ_eq_append_getElem (by simpa using h)]
  simp

theorem QtB (L n : Nat) : 1 ≤ (QJ L n).length := by rw [ZO]; exact Nat.le_add_left 1 _

set_option maxHeartbeats 1000000 in
theorem Qmk {P : Prg} {f fA t0 : Nat} (bd : Ql P f 43 [] (ZU fA)) (hA : QkZ t0 P fA) : QdL t0 P f := by
  intro k n x r l hk1 hk2 hl hok
  obtain ⟨L, hL⟩ : ∃ L, (Qw r).toNat = L := ⟨_, rfl⟩
  have hL1 : 1 ≤ L := by have := Xf r; omega
  obtain ⟨a1, a2, a3, a4, a5⟩ := hok
  have hn1 : 1 ≤ n := by omega
  have hn2 : n ≤ 4000 := by omega
  have hA' := hA r n ⟨a1, a2, a3, a4, a5⟩
  rw [hL, Int.toNat_natCast] at hA' a5
  rw [hL]
  refine ⟨fun j => QS _, fun w C v1 hv1 hex hG => ?_⟩
  have hv1' := hv1
  simp only [Rep] at hv1
  obtain ⟨b, o, vs, hv1e, hat, hvs⟩ := hv1
  simp only [RepL] at hvs
  obtain ⟨u0, q0, rfl, hu0, u1, q1, rfl, hu1, u2, q2, rfl, hu2, u3, q3, rfl, hu3, rfl⟩ := hvs
  have hu0' := hu0
  have hu3' := hu3
  simp only [Rep] at hu0 hu1 hu2
  rw [il] at hu3
  simp only [Rep] at hu3
  obtain ⟨sa, cap, ws, e3, hcap, hws, hwr⟩ := hu3
  rw [hl] at hcap
  obtain ⟨atN, hatN⟩ : ∃ atN : Nat → Nat, ∀ j, atN j = min (j * (L * k)) (n * k) := ⟨_, fun _ => rfl⟩
  obtain ⟨cnt, hcnt⟩ : ∃ cnt, (QJ L n).length = cnt := ⟨_, rfl⟩
  have hnk : n * k ≤ 4000000 := Nat.mul_le_mul hn2 hk2
  rw [hcnt] at hA' a5 ⊢
  have hcnt1 : 1 ≤ cnt := by rw [← hcnt]; exact QtB _ _
  have pf : ∀ j, j < cnt → ∃ m : Nat, (QJ L n).getD j 0 = m ∧ m ≤ n ∧ atN j = j * (L * k) ∧ atN (j + 1) = atN j + m * k ∧ Zm (L * k) l j = (l.drop (atN j)).take (m * k) ∧ atN j + m * k ≤ n * k := fun j hj => by
    obtain ⟨m, h1, h2, h3, h4, h5, h6, h7⟩ := QdY (j := j) hl hn1 hL1 (by rw [hcnt]; exact hj)
    refine ⟨m, h1, h2, by rw [hatN]; exact h3, by rw [hatN, hatN, h3]; exact h5, by rw [hatN, h3]; exact h6, by rw [hatN, h3]; exact h7⟩
  have hun : ∀ {W' : World}, (∀ (b k : Nat) (v : Value), ¬ C b k → w.cell? ⟨b, k, none⟩ = some v → W'.cell? ⟨b, k, none⟩ = some v) → ∀ (c : AV) (v : Value), isD c = true → Rep ⟨w, [], [], C⟩ c v → Rep ⟨W', [], [], fun _ _ => False⟩ c v := fun h c v hd hr =>
    Rep.data (X := ⟨w, [], [], C⟩) (Y := ⟨_, [], [], fun _ _ => False⟩) (fun b k v hc ha => ⟨h b k v (fun h => ha (.inl h)) hc, fun h => by
      rcases h with h | ⟨o, x, c, h1, _⟩
      · exact h.elim
      · simp at h1⟩) c v hd hr
  have hlit : ∀ {W' : World}, (∀ (b k : Nat) (v : Value), ¬ C b k → w.cell? ⟨b, k, none⟩ = some v → W'.cell? ⟨b, k, none⟩ = some v) → Rep ⟨W', [], [], fun _ _ => False⟩ (.cell [.int .i64 k, .int .i64 x, .int .i64 r, .lit u3]) v1 := fun {W'} h => by
    have h1 : Rep ⟨w, [], [], C⟩ (.cell [.int .i64 k, .int .i64 x, .int .i64 r, .lit u3]) v1 := by
      simp only [Rep]
      exact ⟨b, o, _, hv1e, hat, by simp only [RepL, Rep]; exact ⟨u0, _, rfl, hu0, u1, _, rfl, hu1, u2, _, rfl, hu2, u3, _, rfl, rfl, rfl⟩⟩
    exact hun h _ _ rfl h1
  refine ⟨fun j => .slice (if cap = atN j.1 then sa else sa.map (·.add (atN j.1 * 1))) (atN (j.1 + 1) - atN j.1) (cap - atN j.1), fun j => ?rep, ?seq⟩
  case rep =>
    obtain ⟨m, h1, h2, h3, h4, h5, h6⟩ := pf j.1 j.2
    have g : Held 0 ⟨w, [], [], fun _ _ => False⟩ := ⟨rfl, by simp, by simp, by simp, fun _ _ h => h.elim, Nat.zero_le _⟩
    have e4 : ((atN (j.1 + 1) : Nat) - (atN j.1 : Nat) : Int).toNat = m * k := by omega
    have e5 : (Zm (L * k) l j.1).length = m * k := by rw [h5, List.length_take, List.length_drop, hl]; omega
    have hs : Qf [] 1 (il l) (atN j.1 : Nat) (atN (j.1 + 1) : Nat) = some (il (Zm (L * k) l j.1)) := by
      simp only [Qf, il]
      rw [if_pos (by omega), if_pos (by rw [hl]; simp [ks]; omega), e4, e5, h5]
      simp [ks, List.map_take, List.map_drop]
    have hr := QlB (X := ⟨w, [], [], fun b k => C b k ∧ b < w.heap.size⟩) (B := w.heap.size) ⟨rfl, by simp, by simp, by simp, fun _ _ h => h.2, Nat.le_refl _⟩ (η := fun _ => .any) (ρ := fun _ => undef) (fun _ => by simp only [Rep]) (sz := 1) (n := l.length) (cs := ks .i32 l) (a := sa) (cap := cap) (m := cap) (by
      rw [← e3]
      exact Rep.data (X := ⟨w, [], [], C⟩) (Y := ⟨w, [], [], fun b k => C b k ∧ b < w.heap.size⟩) (fun b k v hc ha => ⟨hc, fun h => ha (by
        rcases h with h | ⟨o, x, c, h1, _⟩
        · exact .inl h.1
        · simp at h1)⟩) _ _ (QS l) hu3') rfl hs (by omega) (.inl (Nat.le_refl _))
    have hr2 := hr.2.2.2
    simp only [Int.toNat_natCast] at hr2
    exact Rep.data (X := ⟨w, [], [], fun b k => C b k ∧ b < w.heap.size⟩) (Y := ⟨w, [], [], C⟩) (fun b k v hc ha => ⟨hc, fun h => ha (by
      rcases h with h | ⟨o, x, c, h1, _⟩
      · exact .inl ⟨h, World.block_lt_of_cell? w _ hc⟩
      · simp at h1)⟩) _ _ (QS _) hr2
  case seq =>
    intro ll J Jx W hW hJ hJx hY hJ0
    have hkw : ∀ (b k : Nat) (v : Value), ¬ C b k → w.cell? ⟨b, k, none⟩ = some v → W.cell? ⟨b, k, none⟩ = some v := fun b k v _ hc => (hW.cell (p := ⟨b, k, none⟩) (World.block_lt_of_cell? w _ hc)).trans hc
    obtain ⟨fn, hf, hnm, hN, hrl, hc'⟩ := bd
    obtain ⟨c, hb, hc⟩ := Option.bind_eq_some_iff.1 hc'
    refine callsIn_of_wp hf hb trivial ?_ rfl
    rw [hN]
    unfold ZU at hc
    obtain ⟨c1, r1, rfl, hc1, hr1⟩ := Xh hc
    obtain ⟨c2, r2, rfl, hc2, hr2⟩ := Xh hr1
    obtain ⟨c3, c4, rfl, hc3, hc4⟩ := Xh hr2
    obtain ⟨c5, rfl, hc5⟩ := Qf5 hc4
    obtain ⟨c6, rfl, hc6⟩ := Qpq hc5
    obtain ⟨d1, s1, rfl, hd1, hs1⟩ := Xh hc6
    obtain ⟨d2, s2, rfl, hd2, hs2⟩ := Xh hs1
    obtain ⟨y1, y2, rfl, hy1, hy2⟩ := Qhx hd2
    obtain rfl := Qhw hy1
    obtain rfl := Qpr hy2
    obtain ⟨d3, d9, rfl, hd3, hd9⟩ := Xh hs2
    obtain ⟨d4, rfl, hd4⟩ := Qf5 hd3
    obtain ⟨d5, s5, rfl, hd5, hs5⟩ := Xh hd4
    obtain ⟨d6, s6, rfl, hd6, hs6⟩ := Xh hs5
    obtain ⟨s7, d8, rfl, hs7, hd8⟩ := Xh hs6
    obtain ⟨d7, dc, rfl, hd7, hdc⟩ := Xh hs7
    obtain ⟨y3, y4, rfl, hy3, hy4⟩ := Qhx hdc
    obtain rfl := Qsc hy3
    obtain rfl := Qhw hy4
    obtain ⟨id7, ops, rfl, hm7⟩ := QkA hd7
    obtain ⟨l5, l3, hops, hm5, hm3⟩ := Qnz (q1 := [_, _, _, _, _]) hm7
    obtain ⟨oS, l2, rfl, hoS, hm2⟩ := Qny hm3
    obtain ⟨oY, l1, rfl, hoY, hm1⟩ := Qny hm2
    generalize hyv : (Value.func (.yield ll) #[] #[]) = yv at *
    let a0 : Act := { tmps := #[yv] ++ #[v1] ++ Array.replicate (43 - (#[yv] ++ #[v1]).size) undef, defers := [] }
    show Code.wpIn _ _ _ _ _ a0 _
    have z0 : a0.tmps.size = 43 := by simp [a0]
    have t00 : a0.tmps.getD 0 undef = yv := by simp [a0]
    have t01 : a0.tmps.getD 1 undef = v1 := by simp [a0]
    let C0 : Nat → Nat → Prop := fun b k => C b k ∧ b < W.heap.size
    have g0 : Held W.heap.size ⟨W, [ph2], [none], C0⟩ := by
      have g := (Held.empty (B := W.heap.size) (X := ⟨W, [], [], C0⟩) ⟨rfl, by simp, by simp, by simp, fun _ _ h => h.2, Nat.le_refl _⟩ 1 0).1
      exact g
    have hC0 : ∀ c v, isD c = true → Rep ⟨w, [], [], C⟩ c v → Rep ⟨W, [ph2], [none], C0⟩ c v := fun c v hd hr =>
      Rep.data (X := ⟨w, [], [], C⟩) (Y := ⟨W, [ph2], [none], C0⟩) (fun b k v hc ha => ⟨hkw b k v (fun h => ha (.inl h)) hc, fun h => by
        rcases h with h | ⟨o, x, c, h1, h2, _⟩
        · exact ha (.inl h.1)
        · rcases o with _ | o <;> simp at h2⟩) c v hd hr
    let Γ0 : Ctx := ⟨W.heap.size, ⟨W, [ph2], [none], C0⟩, 43, []⟩
    have hs0 : Sim Γ0 ⟨[(0, .lit yv), (1, .cell [.int .i64 k, .int .i64 x, .int .i64 r, il l])], [ph2]⟩ a0 W :=
      ⟨rfl, z0, Below.refl _ _, [none], g0, Moves.refl _, QP (by rw [t00]; simp only [Rep]) (QP (by rw [t01]; exact hC0 _ _ (by simp [isD, isDL, QS]) hv1') Qcj)⟩
    have hF0 : Fit P 43 Γ0 := ⟨rfl, fun q cs hq => hC0 _ _ (by simp only [isD]; exact P.gd q cs hq) (hG q cs hq)⟩
    refine wpIn_seq ?_
    have hk0 : ((n * k : Nat) : Int) / (k : Int) = n := by
      rw [Int.natCast_mul, Int.mul_ediv_cancel _ (by omega)]
    have hk3 : ((n * k : Nat) : Int).tdiv (k : Int) = n := by rw [Int.tdiv_eq_ediv_of_nonneg (by omega), hk0]
    refine QrQ (Q := fun _ st' => st'.ob = [⟨t0, 1, cnt, ks .i64 (QJ L n), 0⟩] ∧ look st'.fr 0 = .lit yv ∧ look st'.fr 3 = .own 0 cnt) hF0 hc1 1 (by rfl) t01 ?_ hs0 ?_
    · simp only [il]
      simp (maxSteps := 4000000) (disch := omega) only [rr, aop, cV, cV1, AV.one, Qb, okW, Qd, app, Qa, Qc, Qe, Qf, Qg, simprocAttr, hl, hk3, hk0]
      refine ⟨shr 0 (.tup [.own 0 cnt, .int .i64 0]), some (0, ⟨t0, 1, cnt, ks .i64 (QJ L n), 0⟩), ?_, ?_⟩
      · unfold Qbw
        rw [if_pos rfl]
        exact ⟨ACall.of_vo_at hA' rfl ⟨rfl, rfl⟩, fun o x' e => by cases e; exact ⟨ph2, rfl, by simp [ph2, ph]⟩⟩
      · simp (maxSteps := 4000000) (disch := omega) only [rr, aop, cV, cV1, AV.one, Qb, okW, Qd, app, Qa, Qc, Qe, Qf, Qg, simprocAttr, shr]
    · intro st1 a1 W1 ⟨hob1, h10, h13⟩ hs1 t11
      show (Code.seq c2 _).wpIn Fence.wide 4 _ _ a1 W1
      let row : Ob := ⟨t0, 1, cnt, ks .i64 (QJ L n), 0⟩
      have hs1' : Sim Γ0 ⟨[(0, .lit yv), (3, .own 0 cnt)], [row]⟩ a1 W1 := by
        have h : st1 = ⟨st1.fr, [row]⟩ := by rw [← hob1]
        rw [h] at hs1
        exact Le.slots (M := 1) (by simp [h10, h13]) Γ0 a1 W1 rfl hs1
      refine wpIn_seq ?_
      refine Qa6 (Q := fun _ st' => st' = ⟨[(5, .int .i64 0), (0, .lit yv), (3, .own 0 cnt)], [row]⟩) hF0 hc2 [(1, v1)] (by simp only [List.mem_singleton]; rintro _ rfl; exact ⟨rfl, t11⟩) (by simp (maxSteps := 4000000) (disch := omega) only [rr, aop, cV, cV1, AV.one, Qb, okW, Qd, app, Qa, Qc, Qe, Qf, Qg, simprocAttr]) hs1' ?_
      rintro _ a2 W2 rfl hs2 t2
      show (Code.seq c3 _).wpIn Fence.wide 4 _ _ a2 W2
      refine wpIn_seq ?_
      refine Qa6 (Q := fun _ st' => st' = ⟨[(23, .int .i64 0), (22, .int .i64 cnt), (21, .own 0 cnt), (5, .int .i64 0), (0, .lit yv), (3, .own 0 cnt)], [row]⟩) hF0 hc3 [(1, v1)] (by simp only [List.mem_singleton]; rintro _ rfl; exact ⟨rfl, t2 _ (by simp)⟩) (by simp (maxSteps := 4000000) (disch := omega) only [rr, aop, cV, cV1, AV.one, Qb, okW, Qd, app, Qa, Qc, Qe, Qf, Qg, simprocAttr, row]) hs2 ?_
      rintro _ a3 W3 rfl hs3 t3
      show (Code.block 0 (.loop _)).wpIn Fence.wide 4 _ _ a3 W3
      obtain ⟨f1, f2, f3, be, f4, f5, f6⟩ := hs3
      have f1' : a3.defers = [] := f1
      have f2' : a3.tmps.size = 43 := f2
      obtain ⟨e, he, hoke⟩ := f4.get (o := 0) (x := row) rfl
      have f21 := f6 21
      simp only [look, Nat.reduceEqDiff, if_false, if_true, Rep] at f21
      obtain ⟨⟨rw', hrw, _, _, hown⟩, _⟩ := f21
      have hrw' : row = rw' := by simpa using hrw
      subst hrw'
      have hown' := hown rfl
      have he' : be[0]? = some e := he
      simp only [he'] at hown'
      cases e with
      | none => exact absurd hoke.1 (by simp only [row]; omega)
      | some p =>
      obtain ⟨br, capr⟩ := p
      obtain ⟨cur, ⟨frz, hblk, _⟩, hcs, hnc, _, hcl, hcr, hone⟩ := hoke
      simp only [OwnV] at hown'
      have hblk' : W3.heap[br]? = some (.cells cur t0 frz) := hblk
      obtain ⟨sv, hsv⟩ : ∃ sv, sv = Value.slice (some ⟨br, 0, none⟩) cnt capr := ⟨_, rfl⟩
      have hcr' : ∀ {Y : Cx}, RepL Y (ks .i64 (QJ L n)) (cur.toList.take cnt) := fun {Y} => by
        have h := RepL.flat (Y := Y) (by simp [row, ks, flat]) hcr
        have e : row.cs.length = cnt := by simp [row, ks, hcnt]
        rw [e] at h
        exact h
      have hrowR : ∀ {W' : World}, W'.heap[br]? = some (.cells cur t0 frz) → Rep ⟨W', [], [], fun _ _ => False⟩ (.list cnt (ks .i64 (QJ L n))) sv := fun {W'} h => by
        simp only [Rep]
        refine ⟨_, _, cur.toList.take cnt, hsv, hnc, .inr ⟨br, 0, rfl, fun i v hv => ?_⟩, hcr'⟩
        rw [List.getElem?_take] at hv
        split at hv
        · have hv2 : cur[i]? = some v := by simpa using hv
          refine ⟨⟨by simp [World.cell?, h, hv2], fun h => ?_⟩, hone v (by
            obtain ⟨h1, h2⟩ := Array.getElem?_eq_some_iff.1 hv2
            rw [← h2]; simp)⟩
          rcases h with h | ⟨o, x, c, h1, _⟩
          · exact h.elim
          · simp at h1
        · cases hv
      have hJ3 : J [] W3 := hJ _ W W3 none hJ0 (J3 f3) (fun r h => by cases h)
      refine wpIn_block ?_
      refine wpIn_loop (fun a W' => ∃ j, j ≤ cnt ∧ a.defers = [] ∧ a.tmps.size = 43 ∧ a.tmps.getD 0 undef = yv ∧ a.tmps.getD 1 undef = v1 ∧ a.tmps.getD 5 undef = .int .i64 (atN j : Nat) ∧ a.tmps.getD 21 undef = sv ∧ a.tmps.getD 22 undef = .int .i64 cnt ∧ a.tmps.getD 23 undef = .int .i64 j ∧
          W'.heap[br]? = some (.cells cur t0 frz) ∧ (∀ (b k : Nat) (v : Value), ¬ C b k → w.cell? ⟨b, k, none⟩ = some v → W'.cell? ⟨b, k, none⟩ = some v) ∧ J ((List.finRange cnt).take j) W')
        (fun a _ => match a.tmps.getD 23 undef with | .int _ z => cnt - z.toNat | _ => 0) ?_ ?_
      · refine ⟨0, Nat.zero_le _, f1', f2', ?_, t3 (1, v1) (by simp), ?_, by rw [hsv]; exact hown', ?_, ?_, hblk', ?_, hJ3⟩
        · have h := f6 0
          simpa [look, Rep] using h
        · have h := f6 5
          have e0 : atN 0 = 0 := by rw [hatN]; simp
          simpa [look, Rep, e0] using h
        · have h := f6 22
          simpa [look, Rep] using h
        · have h := f6 23
          simpa [look, Rep] using h
        · intro b k v hc hv
          have h := hkw b k v hc hv
          exact (f3.cell (p := ⟨b, k, none⟩) (World.block_lt_of_cell? W _ h)).trans h
      intro a Wj ⟨j, hj, i1, i2, i3, i4, i5, i6, i7, i8, i9, i10, i11⟩
      let ΓW : World → Ctx := fun W' => ⟨W'.heap.size, ⟨W', [], [], fun _ _ => False⟩, 43, []⟩
      have hF : ∀ {W' : World}, (∀ (b k : Nat) (v : Value), ¬ C b k → w.cell? ⟨b, k, none⟩ = some v → W'.cell? ⟨b, k, none⟩ = some v) → Fit P 43 (ΓW W') := fun {W'} h => ⟨rfl, fun q cs hq => hun h _ _ (by simp only [isD]; exact P.gd q cs hq) (hG q cs hq)⟩
      have hsA : Sim (ΓW Wj) ⟨[(0, .lit yv), (1, .cell [.int .i64 k, .int .i64 x, .int .i64 r, .lit u3]), (5, .int .i64 (atN j : Nat)), (21, .list cnt (ks .i64 (QJ L n))), (22, .int .i64 cnt), (23, .int .i64 j)], []⟩ a Wj :=
        QxE i1 i2 (QP (by rw [i3]; simp only [Rep]) (QP (by rw [i4]; exact hlit i10) (QP (by rw [i5]; simp only [Rep]) (QP (by rw [i6]; exact hrowR i9) (QP (by rw [i7]; simp only [Rep]) (QP (by rw [i8]; simp only [Rep]) Qcj))))))
      have hI : ∀ {qs : List AO} {a : Act}, QfJ 1 qs = true → QfJ 21 qs = true → a.tmps.getD 1 undef = v1 → a.tmps.getD 21 undef = sv → ∀ p ∈ [(1, v1), (21, sv)], QfJ p.1 qs = true ∧ a.tmps.getD p.1 undef = p.2 := fun h1 h2 h3 h4 p hp => by
        simp only [List.mem_cons, List.not_mem_nil, or_false] at hp
        rcases hp with rfl | rfl
        · exact ⟨h1, h3⟩
        · exact ⟨h2, h4⟩
      refine wpIn_seq ?_
      refine Qa6 (Q := fun _ st' => st' = ⟨[(24, .bool (decide ((j : Int) < cnt))), (0, .lit yv), (1, .cell [.int .i64 k, .int .i64 x, .int .i64 r, .lit u3]), (5, .int .i64 (atN j : Nat)), (21, .list cnt (ks .i64 (QJ L n))), (22, .int .i64 cnt), (23, .int .i64 j)], []⟩) (hF i10) hd1 [(1, v1), (21, sv)] (hI rfl rfl i4 i6) (by simp (maxSteps := 4000000) (disch := omega) only [rr, aop, cV, cV1, AV.one, Qb, okW, Qd, app, Qa, Qc, Qe, Qf, Qg, simprocAttr]) hsA ?_
      rintro _ aB WB rfl hsB tB
      have bW : Below Wj.heap.size Wj WB := hsB.2.2.1
      show (Code.seq (.cond _ .skip (.exit 0)) _).wpIn Fence.wide 4 _ _ aB WB
      have h24 : aB.eval (.tmp 24) = .bool (decide ((j : Int) < cnt)) := by
        obtain ⟨_, _, _, _, _, _, h⟩ := hsB
        have h : Rep _ (.bool _) (aB.tmps.getD 24 undef) := h 24
        simp only [Rep] at h
        exact h
      refine wpIn_seq ?_
      by_cases hjc : j < cnt
      · have e24 : decide ((j : Int) < cnt) = true := by simp; omega
        rw [e24] at h24 hsB
        obtain ⟨m, p1, p2, p3, p4, p5, p6⟩ := pf j hjc
        have la : (ks .i64 (QJ L n)).drop j = .int .i64 m :: (ks .i64 (QJ L n)).drop (j + 1) := by
          have h := QbY (K := .i64) (l := QJ L n) (i := j) (by omega)
          rw [p1, ← J0] at h
          exact h
        refine wpIn_cond_true h24 (wpIn_skip ?_)
        show (Code.seq (.block 1 (.seq d5 _)) _).wpIn Fence.wide 4 _ _ aB WB
        obtain ⟨mk, hmk⟩ : ∃ mk, m * k = mk := ⟨_, rfl⟩
        rw [hmk] at p4 p5 p6
        have emk : (m : Int) * (k : Int) = mk := by rw [← hmk]; simp
        have e8 : ((atN j : Nat) : Int) + (mk : Int) = ((atN (j + 1) : Nat) : Int) := by omega
        obtain ⟨nk, hnk'⟩ : ∃ nk, n * k = nk := ⟨_, rfl⟩
        rw [hnk'] at p6 hnk hcap hl
        have hm4 : (m : Int) ≤ 4000 := by omega
        refine wpIn_seq (wpIn_block (wpIn_seq ?_))
        refine Qa6 (Q := fun _ st' => Le 0 st' ⟨[(7, .int .i64 m), (0, .lit yv), (1, .cell [.int .i64 k, .int .i64 x, .int .i64 r, .lit u3]), (5, .int .i64 (atN j : Nat)), (21, .list cnt (ks .i64 (QJ L n))), (22, .int .i64 cnt), (23, .int .i64 j)], []⟩) (hF i10) hd5 [(1, v1), (21, sv)] (hI rfl rfl (tB (1, v1) (by simp)) (tB (21, sv) (by simp)))
          (by simp (maxSteps := 4000000) (disch := omega) only [rr, aop, cV, cV1, AV.one, Qb, okW, Qd, app, Qa, Qc, Qe, Qf, Qg, simprocAttr, la, Qk]; exact Le.slots (by simp [Am.look])) hsB ?_
        intro st5 a5 W5 hle5 hs5' t5
        have hs5 := hle5 _ _ _ rfl hs5'
        show (Code.seq d6 _).wpIn Fence.wide 4 _ _ a5 W5
        refine wpIn_seq ?_
        refine Qa6 (Q := fun _ st' => Le 0 st' ⟨[(8, .int .i64 (atN (j + 1) : Nat)), (0, .lit yv), (1, .cell [.int .i64 k, .int .i64 x, .int .i64 r, .lit u3]), (5, .int .i64 (atN j : Nat)), (21, .list cnt (ks .i64 (QJ L n))), (22, .int .i64 cnt), (23, .int .i64 j)], []⟩) (hF i10) hd6 [(1, v1), (21, sv)] (hI rfl rfl (t5 (1, v1) (by simp)) (t5 (21, sv) (by simp)))
          (by simp (maxSteps := 4000000) (disch := omega) only [rr, aop, cV, cV1, AV.one, Qb, okW, Qd, app, Qa, Qc, Qe, Qf, Qg, simprocAttr, emk, e8]; exact Le.slots (by simp [Am.look])) hs5 ?_
        intro st6 a6 W6 hle6 hs6' t6
        have hs6 := hle6 _ _ _ rfl hs6'
        show (Code.seq (.seq (.region id7 ops false) _) d8).wpIn Fence.wide 4 _ _ a6 W6
        refine wpIn_seq (wpIn_seq (wpIn_region_list ?_))
        rw [hops]
        refine QbJ l5 _ a6 W6 (QD ?_ _ _ _ (Qdu (Q := fun _ st' => Le 0 st' ⟨[(33, .lit yv), (0, .lit yv), (35, .lit u3), (36, .int .i64 (atN j : Nat)), (37, .int .i64 (atN (j + 1) : Nat)), (8, .int .i64 (atN (j + 1) : Nat)), (22, .int .i64 cnt), (23, .int .i64 j)], []⟩) (hF i10) hm5 [(1, v1), (21, sv)] (hI rfl rfl (t6 (1, v1) (by simp)) (t6 (21, sv) (by simp)))
          (by simp (maxSteps := 4000000) (disch := omega) only [rr, aop, cV, cV1, AV.one, Qb, okW, Qd, app, Qa, Qc, Qe, Qf, Qg, simprocAttr]; exact Le.slots (by simp [Am.look])) hs6))
        rintro _ a7 W7 ⟨rfl, st7, hle7, hs7', t7⟩
        have hs7 := hle7 _ _ _ rfl hs7'
        show wpListIn Fence.wide 4 _ _ _ (oS :: oY :: l1) a7 W7
        have W7b : Below Wj.heap.size Wj W7 := hs7.2.2.1
        have hd7 : a7.defers = [] := hs7.1
        have hz7 : a7.tmps.size = 43 := hs7.2.1
        have f7 : ∀ {i : Nat} {v : Value}, Rep ⟨W7, [], [], fun _ _ => False⟩ (.lit v) (a7.tmps.getD i undef) → a7.tmps.getD i undef = v := fun h => by simpa only [Rep] using h
        have f33 : a7.tmps.getD 33 undef = yv := by obtain ⟨_, _, _, _, _, _, h⟩ := hs7; have h : Rep _ (.lit yv) (a7.tmps.getD 33 undef) := h 33; simpa only [Rep] using h
        have f35 : a7.tmps.getD 35 undef = u3 := by obtain ⟨_, _, _, _, _, _, h⟩ := hs7; have h : Rep _ (.lit u3) (a7.tmps.getD 35 undef) := h 35; simpa only [Rep] using h
        have f8 : a7.tmps.getD 8 undef = .int .i64 (atN (j + 1) : Nat) := by obtain ⟨_, _, _, _, _, _, h⟩ := hs7; have h : Rep _ (.int .i64 _) (a7.tmps.getD 8 undef) := h 8; simpa only [Rep] using h
        have f22 : a7.tmps.getD 22 undef = .int .i64 cnt := by obtain ⟨_, _, _, _, _, _, h⟩ := hs7; have h : Rep _ (.int .i64 _) (a7.tmps.getD 22 undef) := h 22; simpa only [Rep] using h
        have f23 : a7.tmps.getD 23 undef = .int .i64 j := by obtain ⟨_, _, _, _, _, _, h⟩ := hs7; have h : Rep _ (.int .i64 _) (a7.tmps.getD 23 undef) := h 23; simpa only [Rep] using h
        obtain ⟨be7, g7, _, hη, _⟩ := hs7.eta (hF i10).2
        -- the slice
        obtain ⟨cS, dS, _, gS⟩ := Z4 hoS
        obtain ⟨tS, eS, opS, uS, zS⟩ := Qr7 (Qhy cS (by intro h; cases h))
        have gS' : oS.guard = none := by
          rcases gS with ⟨h, _⟩ | ⟨_, _, _, _, _, h⟩
          · exact h
          · cases h
        have ex : a7.eval (.tmp 35) = .slice sa nk cap := by rw [← hl]; exact f35.trans e3
        have hrun := Qlv (X := ⟨W7, [], be7, fun _ _ => False⟩) g7 hη opS uS zS ex (l := (atN j : Nat)) (h := (atN (j + 1) : Nat)) (by simp [loA, opd, look]) (by simp [hiA, opd, look]) (by omega) (by omega) (by omega)
        simp only [Int.toNat_natCast] at hrun
        unfold wpListIn
        rw [if_pos (by simp [Region.wanted, gS'])]
        unfold Oper.wpIn
        refine ⟨fun _ _ => trivial, ?_⟩
        rw [Qxr, hrun]
        show wpListIn Fence.wide 4 _ _ _ (oY :: l1) (a7.put oS.dst _) W7
        rw [← dS]
        -- the call of yield
        obtain ⟨cY, dY, _, gY⟩ := Z4 hoY
        obtain ⟨cl, opY, calY, argY⟩ := Qb0 cY
        have gY' : oY.guard = none := by
          rcases gY with ⟨h, _⟩ | ⟨_, _, _, _, _, h⟩
          · exact h
          · cases h
        have argY' : cl.args = #[.tmp 38] := Array.ext' argY.symm
        unfold wpListIn
        rw [if_pos (by simp [Region.wanted, gY'])]
        have hJ7 : J ((List.finRange cnt).take j) W7 := hJ _ Wj W7 none i11 (J3 W7b) (fun r h => by cases h)
        have hlen : ((List.finRange cnt).take j).length < cnt := by simp; omega
        obtain ⟨vj, hvj⟩ : ∃ vj : Value, vj = .slice (if cap = atN j then sa else sa.map (·.add (atN j * 1))) (atN (j + 1) - atN j) (cap - atN j) := ⟨_, rfl⟩
        have hY' := hY ((List.finRange cnt).take j) ⟨j, hjc⟩ W7 hJ7 hlen
        simp only at hY'
        rw [← hvj] at hY' ⊢
        have p38 : (a7.put (some 38) vj).tmps.getD 38 undef = vj := by simp [Act.put, hz7]
        have p33 : (a7.put (some 38) vj).tmps.getD 33 undef = .func (.yield ll) #[] #[] := by rw [XA (by simp), f33]; exact hyv.symm
        refine Qoh opY calY argY' p33 p38 hY' ?_
        rw [← dY]
        have z8 : ∀ bb : Bool, ((a7.put (some 38) vj).put (some 39) (.bool bb)).tmps.size = 43 := fun bb => by rw [Qe6, Qe6]; exact hz7
        have p39 : ∀ bb : Bool, ((a7.put (some 38) vj).put (some 39) (.bool bb)).tmps.getD 39 undef = .bool bb := fun bb => by simp [Act.put, hz7]
        have pO : ∀ (bb : Bool) (i : Nat), i ≠ 38 → i ≠ 39 → ((a7.put (some 38) vj).put (some 39) (.bool bb)).tmps.getD i undef = a7.tmps.getD i undef := fun bb i h1 h2 => by
          rw [XA (by simpa using fun h => h2 h.symm), XA (by simpa using fun h => h1 h.symm)]
        have d8' : ∀ bb : Bool, ((a7.put (some 38) vj).put (some 39) (.bool bb)).defers = [] := fun bb => by rw [QdX, QdX]; exact hd7
        have hI3 : ∀ {qs : List AO} {a : Act}, QfJ 0 qs = true → QfJ 1 qs = true → QfJ 21 qs = true → a.tmps.getD 0 undef = yv → a.tmps.getD 1 undef = v1 → a.tmps.getD 21 undef = sv → ∀ p ∈ [(0, yv), (1, v1), (21, sv)], QfJ p.1 qs = true ∧ a.tmps.getD p.1 undef = p.2 := fun h1 h2 h3 h4 h5 h6 p hp => by
          simp only [List.mem_cons, List.not_mem_nil, or_false] at hp
          rcases hp with rfl | rfl | rfl
          · exact ⟨h1, h4⟩
          · exact ⟨h2, h5⟩
          · exact ⟨h3, h6⟩
        have f0 : a7.tmps.getD 0 undef = yv := by obtain ⟨_, _, _, _, _, _, h⟩ := hs7; have h : Rep _ (.lit yv) (a7.tmps.getD 0 undef) := h 0; simpa only [Rep] using h
        have q0 : ∀ bb : Bool, _ := fun bb => (pO bb 0 (by omega) (by omega)).trans f0
        have q1 : ∀ bb : Bool, _ := fun bb => (pO bb 1 (by omega) (by omega)).trans (t7 (1, v1) (by simp))
        have q21 : ∀ bb : Bool, _ := fun bb => (pO bb 21 (by omega) (by omega)).trans (t7 (21, sv) (by simp))
        rintro e W8 (⟨rfl, hJ8, hK8⟩ | ⟨rfl, hX8⟩)
        · refine ⟨true, rfl, ?_⟩
          have hbr7 : W7.heap[br]? = some (.cells cur t0 frz) := (W7b.block br (Array.getElem?_eq_some_iff.1 i9).1).trans i9
          have hbr8 : W8.heap[br]? = some (.cells cur t0 frz) := (hK8.1 br cur t0 frz hbr7 (by simp)).trans hbr7
          have hk8 : ∀ (b k : Nat) (v : Value), ¬ C b k → w.cell? ⟨b, k, none⟩ = some v → W8.cell? ⟨b, k, none⟩ = some v := fun b k v hc hv => by
            have h1 := i10 b k v hc hv
            exact hK8.2 b k v hc ((W7b.cell (p := ⟨b, k, none⟩) (World.block_lt_of_cell? Wj _ h1)).trans h1)
          have hs8 : Sim (ΓW W8) ⟨[(39, .bool true), (8, .int .i64 (atN (j + 1) : Nat)), (22, .int .i64 cnt), (23, .int .i64 j)], []⟩ ((a7.put (some 38) vj).put (some 39) (.bool true)) W8 :=
            QxE (d8' true) (z8 true) (QP (by rw [p39]; simp only [Rep]) (QP (by rw [pO true 8 (by omega) (by omega), f8]; simp only [Rep]) (QP (by rw [pO true 22 (by omega) (by omega), f22]; simp only [Rep]) (QP (by rw [pO true 23 (by omega) (by omega), f23]; simp only [Rep]) Qcj))))
          refine QD ?_ _ _ _ (Qdu (Q := fun _ st' => Le 0 st' ⟨[(40, .bool false), (8, .int .i64 (atN (j + 1) : Nat)), (22, .int .i64 cnt), (23, .int .i64 j)], []⟩) (hF hk8) hm1 [(0, yv), (1, v1), (21, sv)] (hI3 rfl rfl rfl (q0 true) (q1 true) (q21 true))
            (by simp (maxSteps := 4000000) (disch := omega) only [rr, aop, cV, cV1, AV.one, Qb, okW, Qd, app, Qa, Qc, Qe, Qf, Qg, simprocAttr, Bool.not_true]; exact Le.slots (by simp [Am.look])) hs8)
          rintro _ a9 W9 ⟨rfl, st9, hle9, hs9', t9⟩
          have hs9 := hle9 _ _ _ rfl hs9'
          show (Code.cond _ .ret .skip).wpIn Fence.wide 4 _ _ a9 W9
          have h40 : a9.eval (.tmp 40) = .bool false := by obtain ⟨_, _, _, _, _, _, h⟩ := hs9; have h : Rep _ (.bool _) (a9.tmps.getD 40 undef) := h 40; simp only [Rep] at h; exact h
          refine wpIn_cond_false h40 (wpIn_skip ?_)
          show d8.wpIn Fence.wide 4 _ _ a9 W9
          refine Qa6 (Q := fun _ st' => Le 0 st' ⟨[(5, .int .i64 (atN (j + 1) : Nat)), (22, .int .i64 cnt), (23, .int .i64 j)], []⟩) (hF hk8) hd8 [(0, yv), (1, v1), (21, sv)] (hI3 rfl rfl rfl (t9 (0, yv) (by simp)) (t9 (1, v1) (by simp)) (t9 (21, sv) (by simp)))
            (by simp (maxSteps := 4000000) (disch := omega) only [rr, aop, cV, cV1, AV.one, Qb, okW, Qd, app, Qa, Qc, Qe, Qf, Qg, simprocAttr]; exact Le.slots (by simp [Am.look])) hs9 ?_
          intro stA aA WA hleA hsA' tA
          have hsA2 := hleA _ _ _ rfl hsA'
          show d9.wpIn Fence.wide 4 _ _ aA WA
          refine Qa6 (Q := fun _ st' => Le 0 st' ⟨[(5, .int .i64 (atN (j + 1) : Nat)), (22, .int .i64 cnt), (23, .int .i64 ((j + 1 : Nat) : Int))], []⟩) (hF hk8) hd9 [(0, yv), (1, v1), (21, sv)] (hI3 rfl rfl rfl (tA (0, yv) (by simp)) (tA (1, v1) (by simp)) (tA (21, sv) (by simp)))
            (by simp (maxSteps := 4000000) (disch := omega) only [rr, aop, cV, cV1, AV.one, Qb, okW, Qd, app, Qa, Qc, Qe, Qf, Qg, simprocAttr]; exact Le.slots (by simp [Am.look])) hsA2 ?_
          intro stC aC WC hleC hsC' tC
          have hsC := hleC _ _ _ rfl hsC'
          have WCb : Below W8.heap.size W8 WC := hsC.2.2.1
          obtain ⟨h1, h2, _, _, _, _, hC⟩ := hsC
          have c5 : aC.tmps.getD 5 undef = .int .i64 (atN (j + 1) : Nat) := by have h : Rep _ (.int .i64 _) (aC.tmps.getD 5 undef) := hC 5; simpa only [Rep] using h
          have c22 : aC.tmps.getD 22 undef = .int .i64 cnt := by have h : Rep _ (.int .i64 _) (aC.tmps.getD 22 undef) := hC 22; simpa only [Rep] using h
          have c23 : aC.tmps.getD 23 undef = .int .i64 ((j + 1 : Nat) : Int) := by have h : Rep _ (.int .i64 _) (aC.tmps.getD 23 undef) := hC 23; simpa only [Rep] using h
          refine ⟨⟨j + 1, by omega, h1, h2, tC (0, yv) (by simp), tC (1, v1) (by simp), c5, tC (21, sv) (by simp), c22, c23, (WCb.block br (Array.getElem?_eq_some_iff.1 hbr8).1).trans hbr8, fun b k v hc hv => ?_, ?_⟩, ?_⟩
          · have h := hk8 b k v hc hv
            exact (WCb.cell (p := ⟨b, k, none⟩) (World.block_lt_of_cell? W8 _ h)).trans h
          · rw [QrF hjc]
            exact hJ _ W8 WC none hJ8 (J3 WCb) (fun r h => by cases h)
          · simp only [c23, i8, Int.toNat_natCast]
            omega
        · refine ⟨false, rfl, ?_⟩
          have hs8 : Sim (ΓW W8) ⟨[(39, .bool false)], []⟩ ((a7.put (some 38) vj).put (some 39) (.bool false)) W8 :=
            QxE (d8' false) (z8 false) (QP (by rw [p39]; simp only [Rep]) Qcj)
          let P0 : Prg := ⟨P.prog, [], fun _ _ h => by cases h⟩
          refine QD ?_ _ _ _ (Qdu (P := P0) (N := 43) (Γ := ΓW W8) (Q := fun _ st' => Le 0 st' ⟨[(40, .bool true)], []⟩) ⟨rfl, fun _ _ h => by cases h⟩ hm1 [] (fun p hp => by cases hp)
            (by simp (maxSteps := 4000000) (disch := omega) only [rr, aop, cV, cV1, AV.one, Qb, okW, Qd, app, Qa, Qc, Qe, Qf, Qg, simprocAttr, Bool.not_false]; exact Le.slots (by simp [Am.look])) hs8)
          rintro _ a9 W9 ⟨rfl, st9, hle9, hs9', t9⟩
          have hs9 := hle9 _ _ _ rfl hs9'
          show (Code.cond _ .ret .skip).wpIn Fence.wide 4 _ _ a9 W9
          have h40 : a9.eval (.tmp 40) = .bool true := by obtain ⟨_, _, _, _, _, _, h⟩ := hs9; have h : Rep _ (.bool _) (a9.tmps.getD 40 undef) := h 40; simp only [Rep] at h; exact h
          refine wpIn_cond_true h40 (wpIn_ret ?_)
          have hX9 := hJx _ W8 W9 none hX8 (J3 hs9.2.2.1) (fun r h => by cases h)
          exact ⟨hs9.1, .tuple #[], results_none (Array.ext' hrl) _ _ _, ⟨_, rfl⟩, .inr ⟨_, trivial, hX9⟩⟩
      · have e24 : decide ((j : Int) < cnt) = false := by simp; omega
        rw [e24] at h24
        refine wpIn_cond_false h24 (wpIn_exit ?_)
        have hjc' : j = cnt := by omega
        rw [hjc', List.take_of_length_le (by simp)] at i11
        have hJB : J (List.finRange cnt) WB := hJ _ Wj WB none i11 (J3 bW) (fun r h => by cases h)
        have hdB : aB.defers = [] := hsB.1
        exact ⟨hdB, .tuple #[], results_none (Array.ext' hrl) _ _ _, ⟨_, rfl⟩, .inl ⟨_, rfl, hJB⟩⟩
end Go.Am

namespace Go.Am
open Go.RowKit

def QdM (g : Nat) (P : Prg) (f : Nat) : Prop := ∀ (c x r : Int) (l : List Int), VC P f [clA c x r l] (.fn (.func g) [] [.cell [.int .i64 c, .int .i64 x, .int .i64 r, il l]])
theorem Qpk {P : Prg} {f g t0 : Nat} (b : Ql P f 4 [.tmp 2] (Qbq g t0)) : QdM g P f := by
  intro c x r l
  refine VC.of_walk 1 (by simp [isDL, isD, QS, clA]) (by simp [isD, isDL, QS]) (ACall.of_body b (by simp) ?_)
  simp (maxSteps := 4000000) (disch := omega) only [rr, aop, cV, cV1, AV.one, Qb, okW, Qd, app, Qa, Qc, Qe, Qf, Qg, simprocAttr, Qbq, clA, il]
  simp [Q7, QG, frzL, QF, isDL, isD, frzL_T _ (Qq .i32 _)]

def Qo (c r : Int) (l : List Int) : List (List Int) := (List.range (QJ (Qw r).toNat (l.length / c.toNat)).length).map (Zm ((Qw r).toNat * c.toNat) l)

theorem Jb {c x r : Int} {l : List Int} (h : ZC c x r l = 0) : ∃ k n : Nat, c = k ∧ 1 ≤ k ∧ k ≤ 1000 ∧ l.length = n * k ∧ okA r n ∧ l.length ≤ 4000 := by
  unfold ZC at h
  split at h
  · cases h
  rename_i h1
  split at h
  · cases h
  rename_i h2
  split at h
  · cases h
  rename_i h3
  have h3' : ZQ c x r (l.length / c) = 0 := by simpa using h3
  have h2' : (l.length : Int) % c = 0 := by simpa using h2
  obtain ⟨k, rfl⟩ : ∃ k : Nat, c = k := ⟨c.toNat, by omega⟩
  have e1 : (l.length : Int) / (k : Int) = ((l.length / k : Nat) : Int) := by simp
  have e2 : l.length % k = 0 := by exact_mod_cast h2'
  rw [e1] at h3'
  have e3 := Nat.div_add_mod l.length k
  rw [e2, Nat.add_zero, Nat.mul_comm] at e3
  unfold ZQ at h3'
  split at h3'
  · cases h3'
  rename_i a1
  split at h3'
  · cases h3'
  rename_i a2
  split at h3'
  · cases h3'
  rename_i a3
  split at h3'
  · cases h3'
  rename_i a4
  obtain ⟨n, hn⟩ : ∃ n, l.length / k = n := ⟨_, rfl⟩
  rw [hn] at e3 a2 a3 a4
  have a5 : QV k x = 0 := by simpa using a1
  have a6 : Qk4 r n = 0 := by simpa using a4
  rcases QM (k : Int) x with h4 | ⟨_, h5, h6, h7⟩
  · omega
  have hle : n * k ≤ 4000 := by
    have h8 : (n : Int) ≤ 4000 / (k : Int) := by omega
    have h9 := Int.mul_le_of_le_ediv (a := (n : Int)) (b := 4000) (c := (k : Int)) (by omega) h8
    have h10 : ((n * k : Nat) : Int) ≤ 4000 := by rw [Int.natCast_mul]; exact h9
    omega
  have hn4 : n ≤ 4000 := Nat.le_trans (Nat.le_mul_of_pos_right n (by omega)) hle
  refine ⟨k, n, rfl, by omega, by omega, e3.symm, ?_, by omega⟩
  unfold Qk4 at a6
  split at a6
  · cases a6
  split at a6
  · cases a6
  split at a6
  · cases a6
  rename_i b1 b2 b3
  refine ⟨by omega, by omega, by omega, by omega, ?_⟩
  have hlong : 1 ≤ Qw r := Xf r
  obtain ⟨L, hLe⟩ : ∃ L : Nat, Qw r = L := ⟨(Qw r).toNat, by omega⟩
  rw [hLe, Int.toNat_natCast, Int.toNat_natCast, ZO]
  rw [hLe] at b3
  have h1 : (n : Int) + (L : Int) - 1 = ((n - 1 + L : Nat) : Int) := by omega
  rw [h1, ← Int.natCast_ediv, Nat.add_div_right _ (by omega)] at b3
  omega

theorem Qa7 (c r : Int) (l : List Int) : (Qo c r l).length = (QJ (Qw r).toNat (l.length / c.toNat)).length := by simp [Qo]
theorem Xq : ∀ L : List (List Int), isTL (L.map il) = true
  | [] => rfl
  | l :: L => by simp [isTL, isT, il, Qq, Xq L]

def Qja (P : Prg) (f : Nat) : Prop := ∀ l : List Int, l.length ≤ 1000000 → VC P f [il l] (il l)
theorem Qv0 {P : Prg} {f t0 : Nat} (b : Ql P f 8 [.tmp 2] (Qz t0)) : Qja P f := by
  intro l h1
  refine VC.of_walk 1 (by simp [isDL, QS]) (QS _) (ACall.of_body b (by simp) ?_)
  have tl := Qq .i32 l
  by_cases h0 : l = []
  · subst h0
    simp (maxSteps := 4000000) (disch := omega) only [rr, aop, cV, cV1, AV.one, Qb, okW, Qd, app, Qa, Qc, Qe, Qf, Qg, simprocAttr, Qz, il, Qk2, QnE]
    simp [Q7, QG, frzL, QF, isDL, isD]
  · have n0 : l.length ≠ 0 := by simpa using h0
    simp (maxSteps := 4000000) (disch := omega) only [rr, aop, cV, cV1, AV.one, Qb, okW, Qd, app, Qa, Qc, Qe, Qf, Qg, simprocAttr, Qz, il, Qk2, n0, QnE]
    simp [Q7, QG, frzL, QF, isDL, isD, frzL_T _ tl]

def Qew (c x r : Int) (l : List Int) : AV := if ZC c x r l = 0 then .tup [iss (Qo c r l), .int .i64 0] else .tup [iss [], .int .i64 8]
theorem QoX (c x r : Int) (l : List Int) : isD (Qew c x r l) = true := by unfold Qew; split <;> simp [isD, isDL, QvI]
theorem QcU (c x r : Int) (l : List Int) : ZC c x r l = 0 ∨ ZC c x r l = 8 := by
  unfold ZC; repeat' split
  all_goals simp
def QmT (P : Prg) (f : Nat) : Prop := ∀ (c x r : Int) (l : List Int), I32 l → l.length ≤ 1000000 → VC P f [clA c x r l] (Qew c x r l)
theorem Qpl {P : Prg} {f fC fP fK fA g t0 t1 t2 ti : Nat} (b : Qm5 P f 21 [.tmp 2, .tmp 3] (JP fC fP fK t0 t1 t2)) (hC : Xr P fC) (hP : QdM g P fP) (hI : QdL ti P g) (bG : Ql P g 43 [] (ZU fA)) (hK : Qja P fK)
    (h0 : t0 ≠ ti) (h1 : t1 ≠ ti) (h2 : t2 ≠ ti) : QmT P f := by
  intro c x r l hI32 hl
  refine VC.of_walk 2 (by simp [isDL, isD, QS, clA]) (QoX _ _ _ _) (ACall.of_rangeC b (by simp) ?_)
  have hC' := hC c x r l hI32 hl
  rw [il] at hC'
  rcases QcU c x r l with h | h
  · rw [h] at hC'
    have e9 : Qew c x r l = .tup [iss (Qo c r l), .int .i64 0] := by rw [Qew, if_pos h]
    obtain ⟨k, n, rfl, k1, k2, hlen, hok, h4⟩ := Jb h
    have hP' := hP k x r l
    have hI' := hI k n x r l k1 k2 hlen hok
    rw [clA] at hP'
    rw [il] at hP' hI'
    simp (maxSteps := 4000000) (disch := omega) only [rr, aop, cV, cV1, AV.one, Qb, okW, Qd, app, Qa, Qc, Qe, Qf, Qg, simprocAttr, JP, clA, il, X9, Qap, Xg, Qdw, QaK, QnF]
    refine Qh.vc hC' ?_
    simp (maxSteps := 4000000) (disch := omega) only [rr, aop, cV, cV1, AV.one, Qb, okW, Qd, app, Qa, Qc, Qe, Qf, Qg, simprocAttr, Xg, X9, Qap]
    refine Qh.vc hP' ?_
    simp (maxSteps := 4000000) (disch := omega) only [rr, aop, cV, cV1, AV.one, Qb, okW, Qd, app, Qa, Qc, Qe, Qf, Qg, simprocAttr, QaK]
    obtain ⟨Lc, hLc⟩ : ∃ Lc, (Qw r).toNat * k = Lc := ⟨_, rfl⟩
    rw [hLc] at hI'
    have hcnt : (QJ (Qw r).toNat n).length ≤ 1000 := by have := hok.2.2.2.2; rwa [Int.toNat_natCast] at this
    obtain ⟨cnt, hcn⟩ : ∃ cnt, (QJ (Qw r).toNat n).length = cnt := ⟨_, rfl⟩
    have hpo : Qo k r l = (List.finRange cnt).map (fun j => Zm Lc l j.1) := by
      unfold Qo
      rw [Int.toNat_natCast, hlen, Nat.mul_div_cancel _ (by omega), hcn, hLc]
      apply List.ext_getElem <;> simp
    rw [hcn] at hI' hcnt
    refine ⟨cnt, g, _, [ti], _, [(13, .fn (.func g) [] [.cell [.int .i64 k, .int .i64 x, .int .i64 r, .list l.length (ks .i32 l)]]), (1, .ref 0 1 0), (5, .ref 1 1 0)],
      fun pre => [⟨t0, 4, 1, [.int .i64 k, .int .i64 x, .int .i64 r, .list l.length (ks .i32 l)], 0⟩, ⟨t1, 1, 1, [.own 2 pre.length], 0⟩, ⟨t2, 1, pre.length, pre.map (fun j => il (Zm Lc l j.1)), 0⟩], ?_, rfl, bG.ent, by simp [isDL, isD, QK], hI', by omega, by omega, rfl, ?_, ?_, ?_⟩
    · refine Le.trans (Le.virtF (p := 1) (ty := t2) (sz := 1) (by omega) rfl rfl) (Le.slots (by simp [Am.look]))
    · intro pre x hx
      simp only [List.mem_cons, List.not_mem_nil, or_false] at hx ⊢
      rcases hx with rfl | rfl | rfl
      · exact h0
      · exact h1
      · exact h2
    · intro pre x hpl
      have hK' := hK (Zm Lc l x.1) (by unfold Zm; simp; omega)
      have hyl : (Zm Lc l x.1).length ≤ 4000 := by unfold Zm; simp; omega
      have hpm : (pre.map (fun j => il (Zm Lc l j.1))).length = pre.length := by simp
      obtain ⟨y, hy⟩ : ∃ y, Zm Lc l x.1 = y := ⟨_, rfl⟩
      have ty := Qq .i32 y
      rw [hy] at hK' hyl ⊢
      rw [il] at hK' ⊢
      simp (maxSteps := 4000000) (disch := omega) only [rr, aop, cV, cV1, AV.one, Qb, okW, Qd, app, Qa, Qc, Qe, Qf, Qg, simprocAttr]
      refine QQ.vc hK' ?_
      simp (maxSteps := 4000000) (disch := omega) only [rr, aop, cV, cV1, AV.one, Qb, okW, Qd, app, Qa, Qc, Qe, Qf, Qg, simprocAttr, hpm]
      refine Le.drop 3 2 (by omega) rfl (by simp) ?_
      intro i z hz
      match i, hz with
      | 0, hz => cases hz; exact ⟨_, rfl, by simp [QG, frzL, QF, frzL_T _ (Qq .i32 _)]⟩
      | 1, hz => cases hz; exact ⟨_, rfl, by simp [QG, frzL, QF]⟩
      | 2, hz =>
        cases hz
        have e : (pre ++ [x]).map (fun j => il (Zm Lc l j.1)) = pre.map (fun j => il (Zm Lc l j.1)) ++ [.list y.length (ks .i32 y)] := by simp [hy, il]
        rw [e]
        refine ⟨_, rfl, frzL_T _ ?_⟩
        rw [← e]
        have := Xq ((pre ++ [x]).map (fun j => Zm Lc l j.1))
        rwa [List.map_map] at this
      | i + 3, hz => simp at hz
    · have hfl : (List.finRange cnt).length = cnt := by simp
      have hpi : (List.finRange cnt).map (fun j => il (Zm Lc l j.1)) = (Qo k r l).map il := by rw [hpo, List.map_map]; rfl
      dsimp only
      rw [hpi, hfl, e9]
      have hpl : (Qo k r l).length = cnt := by rw [hpo]; simp
      have tp := Xq (Qo k r l)
      generalize hPP : (Qo k r l).map il = PP at *
      simp (maxSteps := 4000000) (disch := omega) only [rr, aop, cV, cV1, AV.one, Qb, okW, Qd, app, Qa, Qc, Qe, Qf, Qg, simprocAttr]
      simp [Q7, QG, frzL, QF, isDL, isD, iss, hpl, hPP, frzL_T _ tp]
  · rw [h] at hC'
    have e9 : Qew c x r l = .tup [iss [], .int .i64 8] := by rw [Qew, if_neg (by omega)]
    simp (maxSteps := 4000000) (disch := omega) only [rr, aop, cV, cV1, AV.one, Qb, okW, Qd, app, Qa, Qc, Qe, Qf, Qg, simprocAttr, JP, clA, il, X9, Qap, Xg, Qdw, QaK, QnF]
    refine Qh.vc hC' ?_
    simp (maxSteps := 4000000) (disch := omega) only [rr, aop, cV, cV1, AV.one, Qb, okW, Qd, app, Qa, Qc, Qe, Qf, Qg, simprocAttr, Xg, Qdw, X9, Qap, e9]
    simp [Q7, QG, frzL, QF, isDL, isD, iss]
end Go.Am

namespace Go.Am
open Go.RowKit

/-! ### clip.Join -/

/-! The parts of a whole. -/

theorem Qhg (Lc : Nat) (l : List Int) : ∀ m : Nat, ((List.range m).map (Zm Lc l)).flatten = l.take (m * Lc)
  | 0 => by simp
  | m + 1 => by
    rw [List.range_succ, List.map_append, List.flatten_append, Qhg Lc l m, Nat.add_mul, Nat.one_mul, List.take_add]
    simp [Zm]
theorem QoQ {c x r : Int} {l : List Int} (h : ZC c x r l = 0) : (Qo c r l).flatten = l := by
  obtain ⟨k, n, rfl, h1, h2, h3, ⟨o1, o2, o3, o4, o5⟩, h4⟩ := Jb h
  unfold Qo
  rw [Qhg, Int.toNat_natCast, h3, Nat.mul_div_cancel _ (by omega), ZO, List.take_of_length_le]
  have hL : 1 ≤ (Qw r).toNat := by have := Xf r; omega
  have g2 : n - 1 < (n - 1) / (Qw r).toNat * (Qw r).toNat + (Qw r).toNat := Nat.lt_div_mul_add (by omega)
  rw [h3, ← Nat.mul_assoc, Nat.add_mul, Nat.one_mul]
  refine Nat.mul_le_mul_right _ ?_
  generalize (n - 1) / (Qw r).toNat * (Qw r).toNat = w at *
  omega
theorem Qhh {c x r : Int} {l : List Int} (h : ZC c x r l = 0) : (Qo c r l).length ≤ 1000 := by
  obtain ⟨k, n, rfl, h1, h2, h3, ⟨o1, o2, o3, o4, o5⟩, h4⟩ := Jb h
  rw [Qa7, Int.toNat_natCast, h3, Nat.mul_div_cancel _ (by omega)]
  rwa [Int.toNat_natCast] at o5
end Go.Am

namespace Go.Am
open Go.RowKit

/-! ### CRC-64 (plain) -/

def Qs9 (c : Nat) : Nat := (2 * c) % 18446744073709551616 ^^^ (if 9223372036854775808 ≤ c then 4823603603198064275 else 0)
def Qe2 : Nat → Nat → Nat
  | 0, c => c
  | k + 1, c => Qe2 k (Qs9 c)
theorem Qqp (c : Nat) : Qs9 c < 18446744073709551616 := by
  unfold Qs9
  have : (if 9223372036854775808 ≤ c then 4823603603198064275 else 0) < 2 ^ 64 := by split <;> decide
  exact Nat.xor_lt_two_pow (n := 64) (Nat.mod_lt _ (by decide)) this
theorem Qh3 : ∀ (k : Nat) {c : Nat}, c < 18446744073709551616 → Qe2 k c < 18446744073709551616
  | 0, _, h => h
  | k + 1, c, _ => Qh3 k (Qqp c)
theorem QjO : ∀ (k c : Nat), Qe2 (k + 1) c = Qs9 (Qe2 k c)
  | 0, _ => rfl
  | k + 1, c => by rw [Qe2, QjO k, Qe2]

theorem QuO (c : Nat) (h : c < 18446744073709551616) : (9223372036854775808 ≤ c) ↔ c.testBit 63 = true := by
  constructor
  · intro h2
    rw [Nat.testBit_eq_decide_div_mod_eq]
    have : c / 2 ^ 63 = 1 := by omega
    rw [this]; rfl
  · intro h2
    exact Nat.ge_two_pow_of_testBit h2

theorem Qs8 {x l : Nat} (hx : x < 18446744073709551616) (hl : l < 9223372036854775808) : Qs9 (x ^^^ l) = Qs9 x ^^^ 2 * l := by
  have hxl : x ^^^ l < 18446744073709551616 := Nat.xor_lt_two_pow (n := 64) hx (by omega)
  have e1 : (9223372036854775808 ≤ x ^^^ l) ↔ (9223372036854775808 ≤ x) := by
    rw [QuO _ hxl, QuO _ hx, Nat.testBit_xor, Nat.testBit_lt_two_pow (show l < 2 ^ 63 from hl), Bool.xor_false]
  have e2 : (2 * (x ^^^ l)) % 18446744073709551616 = (2 * x) % 18446744073709551616 ^^^ 2 * l := by
    apply Nat.eq_of_testBit_eq
    intro i
    rw [show (18446744073709551616 : Nat) = 2 ^ 64 from rfl, Nat.testBit_mod_two_pow, Nat.testBit_xor, Nat.testBit_mod_two_pow]
    rw [show 2 * (x ^^^ l) = 2 ^ 1 * (x ^^^ l) from rfl, show 2 * x = 2 ^ 1 * x from rfl, show 2 * l = 2 ^ 1 * l from rfl, Nat.testBit_two_pow_mul, Nat.testBit_two_pow_mul, Nat.testBit_two_pow_mul, Nat.testBit_xor]
    by_cases h : i < 64
    · by_cases h1 : 1 ≤ i <;> simp [h, h1]
    · have h2 : l.testBit (i - 1) = false := Nat.testBit_lt_two_pow (Nat.lt_of_lt_of_le (show l < 2 ^ 63 from hl) (Nat.pow_le_pow_right (by decide) (by omega)))
      simp [h, h2]
  unfold Qs9
  rw [e2]
  by_cases h : 9223372036854775808 ≤ x
  · rw [if_pos h, if_pos (e1.2 h), Nat.xor_assoc, Nat.xor_assoc, Nat.xor_comm (2 * l)]
  · rw [if_neg h, if_neg (fun h2 => h (e1.1 h2)), Nat.xor_assoc, Nat.xor_assoc, Nat.xor_comm (2 * l)]

theorem Qng : ∀ (k : Nat) {x l : Nat}, k ≤ 64 → x < 18446744073709551616 → l < 2 ^ (64 - k) → Qe2 k (x ^^^ l) = Qe2 k x ^^^ 2 ^ k * l
  | 0, x, l, _, _, _ => by simp [Qe2]
  | k + 1, x, l, hk, hx, hl => by
    have h1 : l < 9223372036854775808 := Nat.lt_of_lt_of_le hl (Nat.pow_le_pow_right (by omega) (by omega : 64 - (k + 1) ≤ 63))
    have h2 : 2 * l < 2 ^ (64 - k) := by
      rw [show 64 - k = (64 - (k + 1)) + 1 by omega, Nat.pow_succ]; omega
    rw [Qe2, Qs8 hx h1, Qng k (by omega) (Qqp x) h2, Qe2, Nat.pow_succ, Nat.mul_assoc]

def Qwy (s b : Nat) : Nat := Qe2 8 (s ^^^ b * 72057594037927936)
theorem QuY {s b : Nat} (hs : s < 18446744073709551616) : s ^^^ b * 72057594037927936 = (s / 72057594037927936 ^^^ b) * 72057594037927936 ^^^ s % 72057594037927936 := by
  have h := Qda s 56
  rw [show (2 : Nat) ^ 56 = 72057594037927936 from rfl] at h
  have e : (s / 72057594037927936 ^^^ b) * 72057594037927936 = s / 72057594037927936 * 72057594037927936 ^^^ b * 72057594037927936 := by
    apply Nat.eq_of_testBit_eq
    intro i
    rw [Nat.testBit_xor, show (72057594037927936 : Nat) = 2 ^ 56 from rfl, Nat.mul_comm _ (2 ^ 56), Nat.mul_comm _ (2 ^ 56), Nat.mul_comm b, Nat.testBit_two_pow_mul, Nat.testBit_two_pow_mul, Nat.testBit_two_pow_mul, Nat.testBit_xor]
    by_cases h : 56 ≤ i <;> simp [h]
  rw [e, Nat.xor_comm (s / 72057594037927936 * 72057594037927936), Nat.xor_assoc, Nat.mul_comm (s / 72057594037927936), Nat.xor_comm (72057594037927936 * _), ← h, Nat.xor_comm]
theorem QoA {s b : Nat} (hs : s < 18446744073709551616) (hb : b < 256) : Qwy s b = s * 256 % 18446744073709551616 ^^^ Qe2 8 ((s / 72057594037927936 ^^^ b) * 72057594037927936) := by
  have h0 : (s / 72057594037927936 ^^^ b) < 2 ^ 8 := Nat.xor_lt_two_pow (by omega) hb
  rw [Qwy, QuY hs, Qng 8 (by omega) (by omega) (by show s % 72057594037927936 < 2 ^ 56; exact Nat.mod_lt _ (by decide)), Nat.xor_comm]
  congr 1
  omega
theorem Qvi {s b : Nat} (hs : s < 18446744073709551616) (hb : b < 256) : Qwy s b < 18446744073709551616 := Qh3 8 (Nat.xor_lt_two_pow (n := 64) hs (by omega))
def QbR (s : Nat) (l : List UInt8) : Nat := l.foldl (fun s b => Qwy s b.toNat) s
theorem Qqq {s : Nat} {l : List UInt8} {k : Nat} (h : k < l.length) : QbR s (l.take (k + 1)) = Qwy (QbR s (l.take k)) (l[k]).toNat := by
  rw [List.take_succ_eq_append_getElem h, QbR, List.foldl_append]; rfl
theorem Qlw : ∀ {l : List UInt8} {s : Nat}, s < 18446744073709551616 → QbR s l < 18446744073709551616
  | [], _, h => h
  | b :: l, s, h => Qlw (l := l) (Qvi h (UInt8.toNat_lt b))

end Go.Am

namespace Go.Am
open Go.RowKit

/-! ### CRC-64 -/

def Qjd (i : Nat) : List Int := (List.range 256).map fun j => if j < i then ((Qe2 8 (j * 72057594037927936) : Nat) : Int) else 0
theorem Xp (i : Nat) : (Qjd i).length = 256 := by simp [Qjd]
theorem Qe1 {i j : Nat} (h : j < 256) : (Qjd i)[j]'(by rw [Xp]; exact h) = if j < i then ((Qe2 8 (j * 72057594037927936) : Nat) : Int) else 0 := by simp [Qjd]
theorem Qs0 {i : Nat} (h : i < 256) : (Qjd i).set i ((Qe2 8 (i * 72057594037927936) : Nat) : Int) = Qjd (i + 1) := by
  refine List.ext_getElem (by simp [Xp]) fun j h1 h2 => ?_
  have hj : j < 256 := by simpa [Xp] using h2
  rw [List.getElem_set, Qe1 hj]
  split
  · rename_i e; subst e; rw [Qe1 hj, if_pos (by omega)]
  · rename_i e; rw [Qe1 hj]
    by_cases h3 : j < i
    · rw [if_pos h3, if_pos (by omega)]
    · rw [if_neg h3, if_neg (by omega)]

theorem Qvm (c : Nat) : Qm true .u64 (c : Int) 1 = some (.int .u64 (((2 * c) % 18446744073709551616 : Nat) : Int)) := by
  have h3 : ¬ ((1 : Int) < 0) := by omega
  simp only [Qm, if_neg h3, if_true]
  have h5 : (min (1 : Int).toNat IntKind.u64.bits) = 1 := rfl
  rw [h5, Zn]
  congr 2
  omega
theorem Qqs (c : Nat) : Qm true .u64 (c : Int) 8 = some (.int .u64 ((c * 256 % 18446744073709551616 : Nat) : Int)) := by
  have h3 : ¬ ((8 : Int) < 0) := by omega
  simp only [Qm, if_neg h3, if_true]
  have h5 : (min (8 : Int).toNat IntKind.u64.bits) = 8 := rfl
  rw [h5, Zn]
  congr 2

def QiW (P : Prg) (f : Nat) : Prop := VC P f [] (.cell (ks .u64 (Qjd 256)))
set_option maxRecDepth 40000 in
theorem Qmg {P : Prg} {f t0 : Nat} (bd : Ql P f 25 [.tmp 0] (QaA t0)) : QiW P f := by
  refine VC.of_walk 1 rfl (by simp [isD, Qrj (Qq _ _)]) (ACall.of_body bd (by simp) ?_)
  unfold QaA
  simp (maxSteps := 4000000) (disch := omega) only [rr, aop, cV, cV1, AV.one, Qb, okW, Qd, app, Qa, Qc, Qe, Qf, Qg, simprocAttr]
  refine QN.by (ι := Nat) (fun i => ⟨[(5, .int .i64 i), (1, .ref 0 1 0)], [⟨t0, 256, 1, ks .u64 (Qjd i), 0⟩]⟩) (fun i => i ≤ 256) (fun i => 256 - i) 0 (Le.slots (by simp [Am.look])) (by omega) ?_
  intro i hi
  by_cases hlt : i < 256
  · have s0 : Qm true .u64 (i : Int) 56 = some (.int .u64 ((i * 72057594037927936 : Nat) : Int)) := by
      have := QoB (K := .u64) rfl (c := i) (s := 56) (by decide) (by show i * 2 ^ 56 < 2 ^ 64; omega)
      exact this
    have w0 : IntKind.u64.wrap (i : Int) = i := Qce (by omega) (by omega)
    simp (maxSteps := 4000000) (disch := omega) only [rr, aop, cV, cV1, AV.one, Qb, okW, Qd, app, Qa, Qc, Qe, Qf, Qg, simprocAttr, s0, w0]
    refine QN.by (ι := Nat) (fun j => ⟨[(11, .int .i64 j), (3, .int .u64 (Qe2 j (i * 72057594037927936))), (5, .int .i64 i), (2, .int .i64 i), (1, .ref 0 1 0)], [⟨t0, 256, 1, ks .u64 (Qjd i), 0⟩]⟩) (fun j => j ≤ 8) (fun j => 8 - j) 0 (Le.slots (by simp [Am.look, Qe2])) (by omega) ?_
    intro j hj
    by_cases hjl : j < 8
    · have hc := Qh3 j (c := i * 72057594037927936) (by omega)
      have hn := QjO j (i * 72057594037927936)
      generalize Qe2 j (i * 72057594037927936) = c at *
      have a1 := Qvm c
      have a2 : Qm false .u64 (c : Int) 63 = some (.int .u64 ((c / 9223372036854775808 : Nat) : Int)) := Qgt (K := .u64) (n := c) (k := 63) (by decide)
      have hm := Nat.mod_lt (2 * c) (show 0 < 18446744073709551616 by decide)
      by_cases h2 : 9223372036854775808 ≤ c
      · have a3 : IntKind.u64.wrap (BitVec.ofInt IntKind.u64.bits ((2 * c % 18446744073709551616 : Nat) : Int) ^^^ BitVec.ofInt IntKind.u64.bits 4823603603198064275).toNat = ((Qe2 (j + 1) (i * 72057594037927936) : Nat) : Int) := by
          rw [hn, Qs9, if_pos h2]
          exact QpI (K := .u64) rfl (a := 2 * c % 18446744073709551616) (b := 4823603603198064275) hm (by decide)
        have a4 : c / 9223372036854775808 = 1 := by omega
        rw [a4] at a2
        generalize 2 * c % 18446744073709551616 = d at *
        simp (maxSteps := 4000000) (disch := omega) only [rr, aop, cV, cV1, AV.one, Qb, okW, Qd, app, Qa, Qc, Qe, Qf, Qg, simprocAttr, a1, a2, a3]
        exact ⟨j + 1, by omega, by omega, Le.slots (by simp [Am.look])⟩
      · have a3 : IntKind.u64.wrap (BitVec.ofInt IntKind.u64.bits ((2 * c % 18446744073709551616 : Nat) : Int) ^^^ BitVec.ofInt IntKind.u64.bits 0).toNat = ((Qe2 (j + 1) (i * 72057594037927936) : Nat) : Int) := by
          rw [hn, Qs9, if_neg h2]
          exact QpI (K := .u64) rfl (a := 2 * c % 18446744073709551616) (b := 0) hm (by decide)
        have a4 : c / 9223372036854775808 = 0 := by omega
        rw [a4] at a2
        generalize 2 * c % 18446744073709551616 = d at *
        simp (maxSteps := 4000000) (disch := omega) only [rr, aop, cV, cV1, AV.one, Qb, okW, Qd, app, Qa, Qc, Qe, Qf, Qg, simprocAttr, a1, a2, a3]
        exact ⟨j + 1, by omega, by omega, Le.slots (by simp [Am.look])⟩
    · obtain rfl : j = 8 := by omega
      have e1 := Xp i
      have e2 := Qk .u64 (Qjd i)
      have e3 : (ks .u64 (Qjd i)).take i ++ [.int .u64 (Qe2 8 (i * 72057594037927936))] ++ (ks .u64 (Qjd i)).drop (i + 1) = ks .u64 (Qjd (i + 1)) := by
        rw [← Qs0 hlt, List.set_eq_take_append_cons_drop, if_pos (by rw [Xp]; exact hlt)]; simp [ks, List.map_take, List.map_drop]
      simp (maxSteps := 4000000) (disch := omega) only [rr, aop, cV, cV1, AV.one, Qb, okW, Qd, app, Qa, Qc, Qe, Qf, Qg, simprocAttr, e1, e2, e3]
      exact ⟨i + 1, by omega, by omega, Le.slots (by simp [Am.look])⟩
  · obtain rfl : i = 256 := by omega
    simp (maxSteps := 4000000) (disch := omega) only [rr, aop, cV, cV1, AV.one, Qb, okW, Qd, app, Qa, Qc, Qe, Qf, Qg, simprocAttr]
    simp [Q7, QG, frzL, QF, frzL_T _ (Qq _ _)]

def Qgp (P : Prg) (f : Nat) : Prop := ∀ (s : Nat) (l : List UInt8), s < 18446744073709551616 → l.length ≤ 1000000 → VC P f [.cell (ks .u64 (Qjd 256)), .int .u64 s, bs l] (.int .u64 (QbR s l : Nat))
set_option maxRecDepth 40000 in
theorem Qks {P : Prg} {f : Nat} (bd : Ql P f 29 [.tmp 6] J8) : Qgp P f := by
  intro s l hs hl
  refine VC.of_acall (by simp [isDL, isD, Zy, QK]) rfl (ACall.of_body bd (by simp) ?_)
  have t0 := Qk .u64 (Qjd 256)
  rw [Xp] at t0
  simp (maxSteps := 4000000) (disch := omega) only [rr, aop, cV, cV1, AV.one, Qb, okW, Qd, app, Qa, Qc, Qe, Qf, Qg, simprocAttr, J8, bs]
  refine QN.by (ι := Nat) (fun k => ⟨[(11, .int .i64 k), (10, .int .i64 l.length), (9, .list l.length (u8 l)), (0, .cell (ks .u64 (Qjd 256))), (1, .int .u64 (QbR s (l.take k)))], []⟩) (fun k => k ≤ l.length) (fun k => l.length - k) 0 (Le.slots (by simp [Am.look, QbR])) (by omega) ?_
  intro k hk
  have hc := Qlw (l := l.take k) hs
  by_cases hlt : k < l.length
  · have e1 := QbP hlt
    have hn := Qqq (s := s) hlt
    generalize QbR s (l.take k) = c at *
    have hb := (l[k]).toNat_lt
    rw [QoA hc hb] at hn
    have h0 : (c / 72057594037927936 ^^^ (l[k]).toNat) < 256 := Nat.xor_lt_two_pow (n := 8) (by omega) hb
    have h1 := Qh3 8 (c := (c / 72057594037927936 ^^^ (l[k]).toNat) * 72057594037927936) (by omega)
    have a1 : Qm false .u64 (c : Int) 56 = some (.int .u64 ((c / 72057594037927936 : Nat) : Int)) := Qgt (K := .u64) (n := c) (k := 56) (by decide)
    have a0 := Qqs c
    have a2 : IntKind.u8.wrap ((c / 72057594037927936 : Nat) : Int) = ((c / 72057594037927936 : Nat) : Int) := by rw [Xm]; omega
    have a3 : IntKind.u8.wrap (BitVec.ofInt IntKind.u8.bits ((c / 72057594037927936 : Nat) : Int) ^^^ BitVec.ofInt IntKind.u8.bits ((l[k]).toNat : Int)).toNat = ((c / 72057594037927936 ^^^ (l[k]).toNat : Nat) : Int) :=
      QpI (K := .u8) rfl (a := c / 72057594037927936) (b := (l[k]).toNat) (by show c / 72057594037927936 < 256; omega) hb
    have hm := Nat.mod_lt (c * 256) (show 0 < 18446744073709551616 by decide)
    have a4 : IntKind.u64.wrap (BitVec.ofInt IntKind.u64.bits ((c * 256 % 18446744073709551616 : Nat) : Int) ^^^ BitVec.ofInt IntKind.u64.bits ((Qe2 8 ((c / 72057594037927936 ^^^ (l[k]).toNat) * 72057594037927936) : Nat) : Int)).toNat = ((QbR s (l.take (k + 1)) : Nat) : Int) := by
      rw [hn]; exact QpI (K := .u64) rfl hm h1
    generalize c * 256 % 18446744073709551616 = d at *
    generalize c / 72057594037927936 ^^^ (l[k]).toNat = x at *
    have e2 : (ks .u64 (Qjd 256)).drop x = .int .u64 ((Qe2 8 (x * 72057594037927936) : Nat) : Int) :: ks .u64 ((Qjd 256).drop (x + 1)) := by
      rw [J0, List.drop_eq_getElem_cons (by rw [Xp]; exact h0), QcR, Qe1 h0, if_pos h0]
    generalize c / 72057594037927936 = q at *
    simp (maxSteps := 4000000) (disch := omega) only [rr, aop, cV, cV1, AV.one, Qb, okW, Qd, app, Qa, Qc, Qe, Qf, Qg, simprocAttr, e1, a0, a1, a2, a3, a4, e2, t0]
    exact ⟨k + 1, by omega, by omega, Le.slots (by simp [Am.look])⟩
  · have ek : k = l.length := by omega
    subst ek
    rw [List.take_length]
    simp (maxSteps := 4000000) (disch := omega) only [rr, aop, cV, cV1, AV.one, Qb, okW, Qd, app, Qa, Qc, Qe, Qf, Qg, simprocAttr]

def QmV (P : Prg) (f : Nat) : Prop := ∀ (s : Nat) (l : List UInt8), s < 18446744073709551616 → VC P f [.int .u64 s, bs l] (if 100000 < l.length then .tup [.int .u64 0, .int .i64 4] else .tup [.int .u64 (QbR s l), .int .i64 0])
theorem Qpf {P : Prg} {f fT fB : Nat} (bd : Ql P f 13 [.tmp 4, .tmp 5] (JN fT fB)) (hT : QiW P fT) (hB : Qgp P fB) : QmV P f := by
  intro s l hs
  refine VC.of_acall (by simp [isDL, isD, Zy]) (by split <;> rfl) (ACall.of_body bd (by simp) ?_)
  by_cases hl : 100000 < l.length
  · rw [if_pos hl]
    simp (maxSteps := 4000000) (disch := omega) only [rr, aop, cV, cV1, AV.one, Qb, okW, Qd, app, Qa, Qc, Qe, Qf, Qg, simprocAttr, JN, bs]
  · rw [if_neg hl]
    have hB' := hB s l hs (by omega)
    rw [bs] at hB'
    have hT' : VC P fT [] _ := hT
    simp (maxSteps := 4000000) (disch := omega) only [rr, aop, cV, cV1, AV.one, Qb, okW, Qd, app, Qa, Qc, Qe, Qf, Qg, simprocAttr, JN, bs]
    refine Qh.vc hT' ?_
    simp (maxSteps := 4000000) (disch := omega) only [rr, aop, cV, cV1, AV.one, Qb, okW, Qd, app, Qa, Qc, Qe, Qf, Qg, simprocAttr]
    refine Qh.vc hB' ?_
    simp (maxSteps := 4000000) (disch := omega) only [rr, aop, cV, cV1, AV.one, Qb, okW, Qd, app, Qa, Qc, Qe, Qf, Qg, simprocAttr]

def QsB (P : Prg) (f : Nat) : Prop := ∀ (l : List UInt8), VC P f [bs l] (if 100000 < l.length then .tup [.int .u64 0, .int .i64 4] else .tup [.int .u64 (QbR 0 l), .int .i64 0])
theorem QrV {P : Prg} {f fN : Nat} (bd : Ql P f 8 [.tmp 2, .tmp 3] (Qal fN)) (hN : QmV P fN) : QsB P f := by
  intro l
  refine VC.of_acall (by simp [isDL, isD, Zy]) (by split <;> rfl) (ACall.of_body bd (by simp) ?_)
  have hN' := hN 0 l (by decide)
  rw [bs] at hN'
  by_cases hl : 100000 < l.length
  · rw [if_pos hl] at hN' ⊢
    simp (maxSteps := 4000000) (disch := omega) only [rr, aop, cV, cV1, AV.one, Qb, okW, Qd, app, Qa, Qc, Qe, Qf, Qg, simprocAttr, Qal, bs]
    refine Qh.vc hN' ?_
    simp (maxSteps := 4000000) (disch := omega) only [rr, aop, cV, cV1, AV.one, Qb, okW, Qd, app, Qa, Qc, Qe, Qf, Qg, simprocAttr]
  · rw [if_neg hl] at hN' ⊢
    simp (maxSteps := 4000000) (disch := omega) only [rr, aop, cV, cV1, AV.one, Qb, okW, Qd, app, Qa, Qc, Qe, Qf, Qg, simprocAttr, Qal, bs]
    refine Qh.vc hN' ?_
    simp (maxSteps := 4000000) (disch := omega) only [rr, aop, cV, cV1, AV.one, Qb, okW, Qd, app, Qa, Qc, Qe, Qf, Qg, simprocAttr]
end Go.Am

namespace Go.Am
open Go.RowKit

/-! ### Taps of passwords -/

def sb8 (x : Nat) : Int := if 127 < x % 256 then ((x % 256 : Nat) : Int) - 256 else ((x % 256 : Nat) : Int)
theorem QwG (x : Nat) : -128 ≤ sb8 x ∧ sb8 x ≤ 127 := by unfold sb8; split <;> omega
def ofK (d k : Nat) : List Int := (List.range 16).map fun i => if i < k then sb8 (d / 2 ^ (8 * i)) else 0
theorem QcP (d k : Nat) : (ofK d k).length = 16 := by simp [ofK]
theorem Qvz {d k : Nat} (h : k < 16) : (ofK d k).set k (sb8 (d / 2 ^ (8 * k))) = ofK d (k + 1) := by
  refine List.ext_getElem (by simp [QcP]) fun j h1 h2 => ?_
  have hj : j < 16 := by simpa [QcP] using h2
  rw [List.getElem_set]
  simp only [ofK, List.getElem_map, List.getElem_range]
  split
  · rename_i e; subst e; rw [if_pos (by omega)]
  · by_cases h3 : j < k
    · rw [if_pos h3, if_pos (by omega)]
    · rw [if_neg h3, if_neg (by omega)]
theorem Qu2 (x : Nat) : IntKind.i8.wrap (x : Int) = sb8 x := by
  unfold sb8
  simp only [IntKind.wrap, IntKind.bits, IntKind.signed]
  simp
  split <;> split <;> omega
def QsD (P : Prg) (f : Nat) : Prop := ∀ d : Nat, d < 18446744073709551616 → VC P f [.int .u64 d] (.agg (ks .i32 (ofK d 8)))
theorem Qvu {P : Prg} {f t0 : Nat} (bd : Ql P f 18 [.cell 2 t0] (Qeh t0)) (ht : ZD P t0 = some (some 16)) : QsD P f := by
  intro d hd
  refine VC.of_acall rfl (by simp [isD, QK]) (ACall.of_body bd (by simp) ?_)
  unfold Qeh
  have z : ([.int .i32 0, .int .i32 0, .int .i32 0, .int .i32 0, .int .i32 0, .int .i32 0, .int .i32 0, .int .i32 0, .int .i32 0, .int .i32 0, .int .i32 0, .int .i32 0, .int .i32 0, .int .i32 0, .int .i32 0, .int .i32 0] : List AV) = ks .i32 (ofK 0 0) := rfl
  have z0 : ks .i32 (ofK 0 0) = ks .i32 (ofK d 0) := rfl
  rw [z]
  have ol := ZP .i32 (ofK 0 0)
  have kl0 : (ks .i32 (ofK 0 0)).length = 16 := rfl
  simp (maxSteps := 4000000) (disch := omega) only [rr, aop, cV, cV1, AV.one, Qb, okW, Qd, app, Qa, Qc, Qe, Qf, Qg, simprocAttr, ol, kl0]
  refine QN.by (ι := Nat) (fun i => ⟨[(5, .int .i64 i), (0, .int .u64 d), (3, .ref 1 1 0), (2, .ref 0 1 0)], [⟨t0, 16, 1, ks .i32 (ofK 0 0), 0⟩, ⟨t0, 16, 1, ks .i32 (ofK d i), 0⟩]⟩) (fun i => i ≤ 8) (fun i => 8 - i) 0 (Le.slots (by simp [Am.look])) (by omega) ?_
  intro i hi
  have kl : (ks .i32 (ofK d i)).length = 16 := by rw [Qk, QcP]
  by_cases hlt : i < 8
  · have a1 : Qm false .u64 (d : Int) (8 * (i : Int)) = some (.int .u64 ((d / 2 ^ (8 * i) : Nat) : Int)) := by
      have := Qgt (K := .u64) (n := d) (k := 8 * i) (by show 8 * i ≤ 64; omega)
      simpa using this
    have a2 := Qu2 (d / 2 ^ (8 * i))
    have a3 := QwG (d / 2 ^ (8 * i))
    have e3 : (ks .i32 (ofK d i)).take i ++ [.int .i32 (sb8 (d / 2 ^ (8 * i)))] ++ (ks .i32 (ofK d i)).drop (i + 1) = ks .i32 (ofK d (i + 1)) := by
      rw [← Qvz (by omega), List.set_eq_take_append_cons_drop, if_pos (by rw [QcP]; omega)]; simp [ks, List.map_take, List.map_drop]
    generalize d / 2 ^ (8 * i) = q at *
    generalize sb8 q = y at *
    simp (maxSteps := 4000000) (disch := omega) only [rr, aop, cV, cV1, AV.one, Qb, okW, Qd, app, Qa, Qc, Qe, Qf, Qg, simprocAttr, a1, a2, kl, e3]
    exact ⟨i + 1, by omega, by omega, Le.slots (by simp [Am.look])⟩
  · obtain rfl : i = 8 := by omega
    have o8 := ZP .i32 (ofK d 8)
    have t8 : (ks .i32 (ofK d 8)).take 16 = ks .i32 (ofK d 8) := List.take_of_length_le (by omega)
    simp (maxSteps := 4000000) (disch := omega) only [rr, aop, cV, cV1, AV.one, Qb, okW, Qd, app, Qa, Qc, Qe, Qf, Qg, simprocAttr, kl, kl0, t8, o8, ZG, ht]
    try simp [kl]

theorem QuK : ∀ p : List UInt8, isTL (u8 p) = true
  | [] => rfl
  | b :: p => by have := QuK p; simp only [u8, List.map_cons, isTL, isT, Bool.true_and] at this ⊢; exact this
def Xy : List Int := List.replicate 16 0
def Qcw (p : List UInt8) : AV := if 64 < p.length then .tup [.agg (ks .i32 Xy), .int .i64 2] else .tup [.agg (ks .i32 (ofK (QbR 0 p) 8)), .int .i64 0]
theorem QtQ (p : List UInt8) : isD (Qcw p) = true := by unfold Qcw; split <;> simp [isD, isDL, QK]
def QkX (P : Prg) (f : Nat) : Prop := ∀ p : List UInt8, VC P f [.str p] (Qcw p)
theorem Qqy {P : Prg} {f fS fO t0 : Nat} (bd : Ql P f 22 [.cell 2 t0, .tmp 3] (Qb7 fS fO t0)) (hS : QsB P fS) (hO : QsD P fO) (ht : ZD P t0 = some (some 16)) : QkX P f := by
  intro p
  refine VC.of_acall rfl (QtQ p) (ACall.of_body bd (by simp) ?_)
  unfold Qb7
  have z : ([.int .i32 0, .int .i32 0, .int .i32 0, .int .i32 0, .int .i32 0, .int .i32 0, .int .i32 0, .int .i32 0, .int .i32 0, .int .i32 0, .int .i32 0, .int .i32 0, .int .i32 0, .int .i32 0, .int .i32 0, .int .i32 0] : List AV) = ks .i32 Xy := rfl
  rw [z]
  have ol := ZP .i32 Xy
  have kl0 : (ks .i32 Xy).length = 16 := rfl
  have t0' : (ks .i32 Xy).take 16 = ks .i32 Xy := rfl
  by_cases hp : 64 < p.length
  · have e9 : Qcw p = .tup [.agg (ks .i32 Xy), .int .i64 2] := by rw [Qcw, if_pos hp]
    simp (maxSteps := 4000000) (disch := omega) only [rr, aop, cV, cV1, AV.one, Qb, okW, Qd, app, Qa, Qc, Qe, Qf, Qg, simprocAttr, ol, kl0, ZG, ht, t0', e9]
    rfl
  · have e9 : Qcw p = .tup [.agg (ks .i32 (ofK (QbR 0 p) 8)), .int .i64 0] := by rw [Qcw, if_neg hp]
    have hS' := hS p
    rw [if_neg (by omega)] at hS'
    have hO' := hO (QbR 0 p) (Qlw (by decide))
    have o8 := ZP .i32 (ofK (QbR 0 p) 8)
    have kl : (ks .i32 (ofK (QbR 0 p) 8)).length = 16 := by rw [Qk, QcP]
    have t8 : (ks .i32 (ofK (QbR 0 p) 8)).take 16 = ks .i32 (ofK (QbR 0 p) 8) := List.take_of_length_le (by omega)
    have tp := QuK p
    rw [bs] at hS'
    simp (maxSteps := 4000000) (disch := omega) only [rr, aop, cV, cV1, AV.one, Qb, okW, Qd, app, Qa, Qc, Qe, Qf, Qg, simprocAttr, ol, kl0]
    refine Qh.flat 1 hS' rfl (by simp [Q7, QG, frzL, QF, frzL_T _ tp]) ?_
    simp (maxSteps := 4000000) (disch := omega) only [rr, aop, cV, cV1, AV.one, Qb, okW, Qd, app, Qa, Qc, Qe, Qf, Qg, simprocAttr]
    refine Qh.vc hO' ?_
    have zl : Xy.length = 16 := rfl
    have zd : (ks .i32 Xy).drop 16 = [] := rfl
    simp (maxSteps := 4000000) (disch := omega) only [rr, aop, cV, cV1, AV.one, Qb, okW, Qd, app, Qa, Qc, Qe, Qf, Qg, simprocAttr, o8, kl, t8, ZG, ht, e9, zl, zd, List.append_nil]
    try simp [kl]
end Go.Am

namespace Go.Am
open Go.RowKit

/-! ### clip.Frames -/

theorem Qrb {L n j : Nat} (hn : 1 ≤ n) (hL : 1 ≤ L) (hj : j < (QJ L n).length) : 1 ≤ (QJ L n).getD j 0 := by
  rw [List.getD_eq_getElem?_getD, List.getElem?_eq_getElem hj, Option.getD_some]
  have hm := List.getElem_mem hj
  unfold QJ at hm
  simp only [List.mem_append, List.mem_replicate, List.mem_singleton] at hm
  unfold QJ
  rcases hm with hm | hm
  · rw [hm.2]; omega
  · rw [hm]
    have g0 : (n - 1) / L * L ≤ n - 1 := Nat.div_mul_le_self _ _
    clear hm
    generalize (n - 1) / L * L = w at *
    omega
theorem Qwa {c x : Int} {l p : List Int} (h : QbA c x l = 0) (hs : ∀ v ∈ p, v ∈ l) (hp : 1 ≤ p.length) (hl : p.length ≤ l.length) (hc : (p.length : Int) % c = 0) : QbA c x p = 0 := by
  unfold QbA at h ⊢
  split at h
  · cases h
  rename_i h1
  split at h
  · rename_i h2; exact absurd h h2
  rename_i h2
  have h2' : QE x l = 0 := by simpa using h2
  have h3 : QE x p = 0 := by
    unfold QE at h2' ⊢
    split at h2'
    · cases h2'
    rename_i a1
    split at h2'
    · cases h2'
    rename_i a2
    split at h2'
    · rename_i a3
      rw [if_neg a1, if_neg (by omega), if_pos (List.all_eq_true.2 fun v hv => List.all_eq_true.1 a3 v (hs v hv))]
    · cases h2'
  rw [if_neg h1, if_neg (by rw [h3]; simp), if_neg (by omega)]
theorem QbU {c x r : Int} {l : List Int} (h : ZC c x r l = 0) : ∀ p ∈ Qo c r l, QbA c x p = 0 ∧ p.length ≤ 4000 ∧ 1 ≤ p.length := by
  have ha : QbA c x l = 0 := by
    have h2 := Qbe (c := c) (x := x) (r := r) (l := l)
    rw [h] at h2
    by_cases h3 : QbA c x l = 0 ∧ ZQ c x r (l.length / c) = 0
    · exact h3.1
    · rw [if_neg h3] at h2; cases h2
  obtain ⟨k, n, rfl, k1, k2, hlen, ⟨o1, o2, o3, o4, o5⟩, h4⟩ := Jb h
  intro p hp
  unfold Qo at hp
  rw [Int.toNat_natCast, hlen, Nat.mul_div_cancel _ (by omega)] at hp
  obtain ⟨j, hj, rfl⟩ := List.mem_map.1 hp
  rw [List.mem_range] at hj
  have hL1 : 1 ≤ (Qw r).toNat := by have := Xf r; omega
  obtain ⟨m, p1, p2, p3, p4, p5, p6, p7⟩ := QdY (j := j) hlen (by omega) hL1 hj
  have hm1 := Qrb (n := n) (by omega) hL1 hj
  rw [p1] at hm1
  have hlen2 : (Zm ((Qw r).toNat * k) l j).length = m * k := by
    rw [p6, List.length_take, List.length_drop, hlen]
    omega
  have hmk : 1 ≤ m * k := Nat.mul_pos (by omega) k1
  have hmn : m * k ≤ n * k := Nat.mul_le_mul_right _ p2
  refine ⟨Qwa ha (fun v hv => ?_) (by rw [hlen2]; exact hmk) (by rw [hlen2, hlen]; exact hmn) ?_, by rw [hlen2]; omega, by rw [hlen2]; exact hmk⟩
  · rw [p6] at hv
    exact List.mem_of_mem_drop (List.mem_of_mem_take hv)
  · rw [hlen2, Int.natCast_mul, Int.mul_emod_left]

def QI (c x r : Int) (l : List Int) (t : List Int) : List (List UInt8) := (Qo c r l).map (QeB c.toNat x t)
def XZ (c x r : Int) (l : List Int) (p : List UInt8) : AV :=
  if ZC c x r l ≠ 0 then .tup [bss [], .int .i64 8] else if 64 < p.length then .tup [bss [], .int .i64 2] else .tup [bss (QI c x r l (ofK (QbR 0 p) 8)), .int .i64 0]
theorem QlT (c x r : Int) (l : List Int) (p : List UInt8) : isD (XZ c x r l p) = true := by unfold XZ; split <;> (try split) <;> simp [isD, isDL, Qrn]
theorem Qm4 (d k : Nat) : I32 (ofK d k) := fun x hx => by
  unfold ofK at hx
  obtain ⟨i, _, rfl⟩ := List.mem_map.1 hx
  split
  · have := QwG (d / 2 ^ (8 * i)); omega
  · omega
def Qfi (P : Prg) (f : Nat) : Prop := ∀ (c x r : Int) (l : List Int) (p : List UInt8), I32 l → l.length ≤ 1000000 → VC P f [clA c x r l, .str p] (XZ c x r l p)

set_option maxHeartbeats 1000000 in
theorem Qml {P : Prg} {f fC fT fP fS fE fA g t0 t1 t2 t3 t4 ti : Nat} (b : Qm5 P f 45 [.cell 4 t1, .cell 5 t2] (QaC fC fT fP fS fE t0 t1 t2 t3 t4)) (hC : Xr P fC) (hT : QkX P fT) (hP : QdM g P fP) (hI : QdL ti P g) (bG : Ql P g 43 [] (ZU fA)) (hS : XM P fS) (hE : Quu P fE)
    (ht1 : ZD P t1 = some none) (ht2 : ZD P t2 = some none) (h0 : t0 ≠ ti) (h1 : t1 ≠ ti) (h2 : t2 ≠ ti) (h3 : t3 ≠ ti) (h4 : t4 ≠ ti) : Qfi P f := by
  intro c x r l p hI32 hl
  refine VC.of_walk 2 (by simp [isDL, isD, QS, clA]) (QlT _ _ _ _ _) (ACall.of_rangeC b (by simp) ?_)
  have hC' := hC c x r l hI32 hl
  rw [il] at hC'
  have tl := Qq .i32 l
  have z : ([.int .i32 0, .int .i32 0, .int .i32 0, .int .i32 0, .int .i32 0, .int .i32 0, .int .i32 0, .int .i32 0, .int .i32 0, .int .i32 0, .int .i32 0, .int .i32 0, .int .i32 0, .int .i32 0, .int .i32 0, .int .i32 0] : List AV) = ks .i32 Xy := rfl
  unfold QaC
  rw [z]
  have ol := ZP .i32 Xy
  have kl0 : (ks .i32 Xy).length = 16 := rfl
  rcases QcU c x r l with h | h
  · rw [h] at hC'
    have hT' := hT p
    simp (maxSteps := 4000000) (disch := omega) only [rr, aop, cV, cV1, AV.one, Qb, okW, Qd, app, Qa, Qc, Qe, Qf, Qg, simprocAttr, clA, il, X9, Qap, Xg, Qdw, QaK, QnF]
    refine Qh.vc hC' ?_
    simp (maxSteps := 4000000) (disch := omega) only [rr, aop, cV, cV1, AV.one, Qb, okW, Qd, app, Qa, Qc, Qe, Qf, Qg, simprocAttr, Xg, Qdw, X9, Qap]
    refine Qh.vc hT' ?_
    by_cases hp : 64 < p.length
    · have e9 : XZ c x r l p = .tup [bss [], .int .i64 2] := by rw [XZ, if_neg (by omega), if_pos hp]
      have e8 : Qcw p = .tup [.agg (ks .i32 Xy), .int .i64 2] := by rw [Qcw, if_pos hp]
      have t0' : (ks .i32 Xy).take 16 = ks .i32 Xy := rfl
      have zl : Xy.length = 16 := rfl
      have zd : (ks .i32 Xy).drop 16 = [] := rfl
      rw [e8]
      simp (maxSteps := 4000000) (disch := omega) only [rr, aop, cV, cV1, AV.one, Qb, okW, Qd, app, Qa, Qc, Qe, Qf, Qg, simprocAttr, Xg, Qdw, X9, Qap, ol, kl0, t0', zl, zd, List.append_nil, e9, ZG, ht1, ht2]
      simp [Q7, QG, frzL, QF, isDL, isD, bss]
    · have e9 : XZ c x r l p = .tup [bss (QI c x r l (ofK (QbR 0 p) 8)), .int .i64 0] := by rw [XZ, if_neg (by omega), if_neg hp]
      have e8 : Qcw p = .tup [.agg (ks .i32 (ofK (QbR 0 p) 8)), .int .i64 0] := by rw [Qcw, if_neg hp]
      obtain ⟨T, hTe⟩ : ∃ T, ofK (QbR 0 p) 8 = T := ⟨_, rfl⟩
      have hTl : T.length = 16 := by rw [← hTe, QcP]
      have hTI : I32 T := by rw [← hTe]; exact Qm4 _ _
      have oT := ZP .i32 T
      have kT : (ks .i32 T).length = 16 := by rw [Qk, hTl]
      have tT : (ks .i32 T).take 16 = ks .i32 T := List.take_of_length_le (by omega)
      have zl : Xy.length = 16 := rfl
      have zd : (ks .i32 Xy).drop 16 = [] := rfl
      rw [hTe] at e8 e9
      have hparts := QbU h
      obtain ⟨k, n, rfl, k1, k2, hlen, hok, h4'⟩ := Jb h
      have hP' := hP k x r l
      have hI' := hI k n x r l k1 k2 hlen hok
      rw [clA] at hP'
      rw [il] at hP' hI'
      have hS' := hS k x r l
      rw [shA, il] at hS'
      rw [e8]
      simp (maxSteps := 4000000) (disch := omega) only [rr, aop, cV, cV1, AV.one, Qb, okW, Qd, app, Qa, Qc, Qe, Qf, Qg, simprocAttr, Xg, Qdw, X9, Qap, ol, kl0, oT, kT, zl, zd, List.append_nil]
      refine Qh.vc hP' ?_
      simp (maxSteps := 4000000) (disch := omega) only [rr, aop, cV, cV1, AV.one, Qb, okW, Qd, app, Qa, Qc, Qe, Qf, Qg, simprocAttr, QaK]
      obtain ⟨Lc, hLc⟩ : ∃ Lc, (Qw r).toNat * k = Lc := ⟨_, rfl⟩
      rw [hLc] at hI'
      have hcnt : (QJ (Qw r).toNat n).length ≤ 1000 := by have := hok.2.2.2.2; rwa [Int.toNat_natCast] at this
      obtain ⟨cnt, hcn⟩ : ∃ cnt, (QJ (Qw r).toNat n).length = cnt := ⟨_, rfl⟩
      have hpo : Qo k r l = (List.finRange cnt).map (fun j => Zm Lc l j.1) := by
        unfold Qo
        rw [Int.toNat_natCast, hlen, Nat.mul_div_cancel _ (by omega), hcn, hLc]
        apply List.ext_getElem <;> simp
      rw [hcn] at hI' hcnt
      refine ⟨cnt, g, _, [ti], _, [(27, .fn (.func g) [] [.cell [.int .i64 k, .int .i64 x, .int .i64 r, .list l.length (ks .i32 l)]]), (2, .ref 0 1 0), (4, .ref 1 1 0), (5, .ref 2 1 0), (7, .ref 3 1 0), (9, .ref 4 1 0)],
        fun pre => [⟨t0, 4, 1, [.int .i64 k, .int .i64 x, .int .i64 r, .list l.length (ks .i32 l)], 0⟩, ⟨t1, 1, 1, [.list 0 []], 0⟩, ⟨t2, 1, 1, [.int .i64 0], 0⟩, ⟨t3, 16, 1, ks .i32 T, 0⟩, ⟨t1, 1, 1, [.own 5 pre.length], 0⟩, ⟨t4, 1, pre.length, pre.map (fun j => bs (QeB k x T (Zm Lc l j.1))), 0⟩], ?_, rfl, bG.ent, by simp [isDL, isD, QK], hI', by omega, by omega, rfl, ?_, ?_, ?_⟩
      · refine Le.trans (Le.virtF (p := 4) (ty := t4) (sz := 1) (by omega) rfl rfl) (Le.drop 6 2 (by omega) rfl (by simp [Am.look, QG, frzL, QF, frzL_T _ tl]) ?_)
        intro i z hz
        match i, hz with
        | 0, hz => cases hz; exact ⟨_, rfl, by simp [QG, frzL, QF, frzL_T _ tl]⟩
        | 1, hz => cases hz; exact ⟨_, rfl, by simp [QG, frzL, QF]⟩
        | 2, hz => cases hz; exact ⟨_, rfl, by simp [QG, frzL, QF]⟩
        | 3, hz => cases hz; exact ⟨_, rfl, by simp [QG, frzL_T _ (Qq .i32 T)]⟩
        | 4, hz => cases hz; exact ⟨_, rfl, by simp [QG, frzL, QF]⟩
        | 5, hz => cases hz; exact ⟨_, rfl, by simp [QG, frzL, QF]⟩
        | i + 6, hz => simp at hz
      · intro pre x hx
        simp only [List.mem_cons, List.not_mem_nil, or_false] at hx ⊢
        rcases hx with rfl | rfl | rfl | rfl | rfl | rfl
        · exact h0
        · exact h1
        · exact h2
        · exact h3
        · exact h1
        · exact h4
      · intro pre y hpl
        have hmem : Zm Lc l y.1 ∈ Qo k r l := by rw [hpo]; exact List.mem_map.2 ⟨y, List.mem_finRange _, rfl⟩
        obtain ⟨q1, q2, q3⟩ := hparts _ hmem
        have hqI : I32 (Zm Lc l y.1) := fun v hv => hI32 v (by
          unfold Zm at hv
          exact List.mem_of_mem_drop (List.mem_of_mem_take hv))
        have hE' := hE k x T (Zm Lc l y.1) hTl hTI hqI
        rw [QuP, if_neg (by omega), Int.toNat_natCast] at hE'
        obtain ⟨w1, w2⟩ := QrI (t := T) hqI q1
        rw [Int.toNat_natCast] at w1 w2
        have hpm : (pre.map (fun j => bs (QeB k x T (Zm Lc l j.1)))).length = pre.length := by simp
        obtain ⟨Y, hYe⟩ : ∃ Y, QeB k x T (Zm Lc l y.1) = Y := ⟨_, rfl⟩
        rw [hYe] at hE' w1 w2
        obtain ⟨Z, hZ⟩ : ∃ Z, Zm Lc l y.1 = Z := ⟨_, rfl⟩
        rw [hZ] at hE' hqI q1 q2 q3 hYe ⊢
        rw [shA, il, bs] at hE'
        have tZ := Qq .i32 Z
        have tT2 := Qq .i32 T
        rw [il]
        simp (maxSteps := 4000000) (disch := omega) only [rr, aop, cV, cV1, AV.one, Qb, okW, Qd, app, Qa, Qc, Qe, Qf, Qg, simprocAttr, tT, kT]
        refine QQ.vc hS' ?_
        simp (maxSteps := 4000000) (disch := omega) only [rr, aop, cV, cV1, AV.one, Qb, okW, Qd, app, Qa, Qc, Qe, Qf, Qg, simprocAttr, tT, kT]
        refine QQ.vc hE' ?_
        simp (maxSteps := 4000000) (disch := omega) only [rr, aop, cV, cV1, AV.one, Qb, okW, Qd, app, Qa, Qc, Qe, Qf, Qg, simprocAttr, hpm]
        refine Le.drop 6 2 (by omega) rfl (by simp) ?_
        intro i z hz
        match i, hz with
        | 0, hz => cases hz; exact ⟨_, rfl, by simp [QG, frzL, QF, frzL_T _ tl]⟩
        | 1, hz => cases hz; exact ⟨_, rfl, by simp [QG, frzL, QF]⟩
        | 2, hz => cases hz; exact ⟨_, rfl, by simp [QG, frzL, QF]⟩
        | 3, hz => cases hz; exact ⟨_, rfl, by simp [QG, frzL_T _ tT2]⟩
        | 4, hz => cases hz; exact ⟨_, rfl, by simp [QG, frzL, QF]⟩
        | 5, hz =>
          cases hz
          have e : (pre ++ [y]).map (fun j => bs (QeB k x T (Zm Lc l j.1))) = pre.map (fun j => bs (QeB k x T (Zm Lc l j.1))) ++ [.list Y.length (u8 Y)] := by
            simp only [List.map_append, List.map_cons, List.map_nil, hZ, hYe]
            rfl
          rw [e]
          refine ⟨_, rfl, frzL_T _ ?_⟩
          rw [← e]
          have := Qah ((pre ++ [y]).map (fun j => QeB k x T (Zm Lc l j.1)))
          rwa [List.map_map] at this
        | i + 6, hz => simp at hz
      · have hfl : (List.finRange cnt).length = cnt := by simp
        have hpi : (List.finRange cnt).map (fun j => bs (QeB k x T (Zm Lc l j.1))) = (QI k x r l T).map bs := by
          unfold QI
          rw [hpo, List.map_map, List.map_map, Int.toNat_natCast]
          rfl
        dsimp only
        rw [hpi, hfl, e9]
        have hpl : (QI k x r l T).length = cnt := by unfold QI; rw [hpo]; simp
        have tp := Qah (QI k x r l T)
        generalize hPP : (QI k x r l T).map bs = PP at *
        simp (maxSteps := 4000000) (disch := omega) only [rr, aop, cV, cV1, AV.one, Qb, okW, Qd, app, Qa, Qc, Qe, Qf, Qg, simprocAttr, ZG, ht1, ht2]
        simp [Q7, QG, frzL, QF, isDL, isD, bss, hpl, hPP, frzL_T _ tp]
  · rw [h] at hC'
    have e9 : XZ c x r l p = .tup [bss [], .int .i64 8] := by rw [XZ, if_pos (by omega)]
    simp (maxSteps := 4000000) (disch := omega) only [rr, aop, cV, cV1, AV.one, Qb, okW, Qd, app, Qa, Qc, Qe, Qf, Qg, simprocAttr, clA, il, X9, Qap, Xg, Qdw, QaK, QnF]
    refine Qh.vc hC' ?_
    simp (maxSteps := 4000000) (disch := omega) only [rr, aop, cV, cV1, AV.one, Qb, okW, Qd, app, Qa, Qc, Qe, Qf, Qg, simprocAttr, Xg, Qdw, X9, Qap, e9, ZG, ht1, ht2]
    simp [Q7, QG, frzL, QF, isDL, isD, bss]
end Go.Am

namespace Go.Am
open Go.RowKit

/-! ### The reference's Frames; the law ClipFrames -/

theorem Qn4 {L : List (List UInt8)} {k : Nat} (h : k < L.length) : (L.map bs).drop k = bs (L.getD k []) :: (L.map bs).drop (k + 1) := by
  rw [List.drop_eq_getElem_cons (by simpa using h)]
  simp [List.getD_eq_getElem?_getD, List.getElem?_eq_getElem h]

end Go.Am

namespace Go.Am
open Go.RowKit

/-! ### clip.Of -/

def Qn6 : List AV → List Int
  | .int _ n :: r => n :: Qn6 r
  | _ => []
def avP : AV → List Int
  | .tup (.list _ cs :: _) => Qn6 cs
  | _ => []
def avE : AV → Int
  | .tup [_, .int _ e] => e
  | _ => 0
theorem QkU (l : List Int) : Qn6 (ks .i32 l) = l := by
  induction l with
  | nil => rfl
  | cons x l ih => simp only [QcR, Qn6, ih]
def Quc (c x : Int) (t : List Int) (n : Int) (b : List UInt8) : List Int := avP (QnU c x t n b)
def QvW (c x : Int) (t : List Int) (n : Int) (b : List UInt8) : Int := avE (QnU c x t n b)
def okQ (x : Int) (l : List Int) : Prop := l.length ≤ 4000 ∧ ∀ v ∈ l, inR x v = true
theorem Qth (x : Int) (l : List Int) : ∃ (p : List Int) (e : Int), Qhf x l = .tup [il p, .int .i64 e] ∧ okQ x p := by
  unfold Qhf
  by_cases h : QE x l = 0
  · rw [if_neg (by omega)]
    refine ⟨l, 0, rfl, ?_⟩
    unfold QE at h
    split at h
    · cases h
    split at h
    · cases h
    split at h
    · rename_i h1 h2 h3
      exact ⟨by omega, List.all_eq_true.1 h3⟩
    · cases h
  · rw [if_pos h]
    exact ⟨[], _, rfl, by simp [okQ]⟩
theorem Qij (x e : Int) : ∃ (p : List Int) (e' : Int), erA e = .tup [il p, .int .i64 e'] ∧ okQ x p := ⟨[], e, rfl, by simp [okQ]⟩
theorem Qw5 (c x : Int) (t : List Int) (n : Int) (b : List UInt8) : ∃ (p : List Int) (e : Int), QnU c x t n b = .tup [il p, .int .i64 e] ∧ okQ x p := by
  unfold QnU
  split
  · exact Qij _ _
  split
  · exact Qij _ _
  unfold QuT
  split
  · exact Qij _ _
  split
  · exact Qij _ _
  · exact Qth _ _
theorem QvV (c x : Int) (t : List Int) (n : Int) (b : List UInt8) : QnU c x t n b = .tup [il (Quc c x t n b), .int .i64 (QvW c x t n b)] ∧ okQ x (Quc c x t n b) := by
  obtain ⟨p, e, h1, h2⟩ := Qw5 c x t n b
  have hp : Quc c x t n b = p := by rw [Quc, h1]; simp only [avP, il, QkU]
  have he : QvW c x t n b = e := by rw [QvW, h1]; rfl
  rw [hp, he]
  exact ⟨h1, h2⟩
def Z8 (E : Nat → Int) : Nat → Int
  | 0 => 0
  | n + 1 => if Z8 E n ≠ 0 then Z8 E n else E n
theorem QfV {E : Nat → Int} {k : Nat} (h : Z8 E k ≠ 0) : ∀ m, Z8 E (k + m) = Z8 E k
  | 0 => rfl
  | m + 1 => by
    show (if Z8 E (k + m) ≠ 0 then Z8 E (k + m) else E (k + m)) = _
    rw [QfV h m, if_pos h]
theorem Qkf {E : Nat → Int} {k m : Nat} (h : Z8 E k = 0) (h2 : E k ≠ 0) (hm : k < m) : Z8 E m = E k := by
  have h3 : Z8 E (k + 1) = E k := by simp [Z8, h]
  have h4 := QfV (E := E) (k := k + 1) (by rw [h3]; exact h2) (m - (k + 1))
  rw [show k + 1 + (m - (k + 1)) = m by omega, h3] at h4
  exact h4

def ZN (r n : Int) : List Int := QJ (Qw r).toNat n.toNat
def Ql2 (c x r n : Int) (t : List Int) (L : List (List UInt8)) (j : Nat) : Int := QvW c x t ((ZN r n).getD j 0) (L.getD j [])
def Qtr (c x r n : Int) (t : List Int) (L : List (List UInt8)) (j : Nat) : List Int := Quc c x t ((ZN r n).getD j 0) (L.getD j [])
def Qnc (c x r n : Int) (t : List Int) (L : List (List UInt8)) (k : Nat) : List Int := ((List.range k).map (Qtr c x r n t L)).flatten
def Qf4 (c x r n : Int) (p : List UInt8) (L : List (List UInt8)) : AV :=
  if ZQ c x r n ≠ 0 then .tup [clA 0 0 0 [], .int .i64 8] else if 64 < p.length then .tup [clA 0 0 0 [], .int .i64 2] else if (ZN r n).length ≠ L.length then .tup [clA 0 0 0 [], .int .i64 12] else
  if Z8 (Ql2 c x r n (ofK (QbR 0 p) 8) L) L.length ≠ 0 then .tup [clA 0 0 0 [], .int .i64 (Z8 (Ql2 c x r n (ofK (QbR 0 p) 8) L) L.length)] else .tup [clA c x r (Qnc c x r n (ofK (QbR 0 p) 8) L L.length), .int .i64 0]
theorem Qrm (c x r n : Int) (p : List UInt8) (L : List (List UInt8)) : isD (Qf4 c x r n p L) = true := by
  unfold Qf4
  repeat' split
  all_goals simp [isD, isDL, QS, clA]
theorem QjL (c x r n : Int) (t : List Int) (L : List (List UInt8)) (k : Nat) : Qnc c x r n t L (k + 1) = Qnc c x r n t L k ++ Qtr c x r n t L k := by
  simp [Qnc, List.range_succ]
theorem Qqc (c x r n : Int) (t : List Int) (L : List (List UInt8)) : ∀ k, (Qnc c x r n t L k).length ≤ k * 4000
  | 0 => by simp [Qnc]
  | k + 1 => by
    have h1 := Qqc c x r n t L k
    have h2 : (Qtr c x r n t L k).length ≤ 4000 := (QvV _ _ _ _ _).2.1
    rw [QjL, List.length_append]
    omega
theorem Qrp {c x r n : Int} (h : ZQ c x r n = 0) : okA r n ∧ QV c x = 0 ∧ 1 ≤ n ∧ n ≤ 4000 / c := by
  unfold ZQ at h
  split at h
  · cases h
  rename_i a1
  split at h
  · cases h
  rename_i a2
  split at h
  · cases h
  rename_i a3
  split at h
  · cases h
  rename_i a4
  have a5 : QV c x = 0 := by simpa using a1
  have a6 : Qk4 r n = 0 := by simpa using a4
  refine ⟨?_, a5, by omega, by omega⟩
  unfold Qk4 at a6
  split at a6
  · cases a6
  split at a6
  · cases a6
  split at a6
  · cases a6
  rename_i b1 b2 b3
  refine ⟨by omega, by omega, by omega, by omega, ?_⟩
  have hlong : 1 ≤ Qw r := Xf r
  obtain ⟨L, hLe⟩ : ∃ L : Nat, Qw r = L := ⟨(Qw r).toNat, by omega⟩
  obtain ⟨m, rfl⟩ : ∃ m : Nat, n = m := ⟨n.toNat, by omega⟩
  rw [hLe, Int.toNat_natCast, Int.toNat_natCast, ZO]
  rw [hLe] at b3
  have h1 : (m : Int) + (L : Int) - 1 = ((m - 1 + L : Nat) : Int) := by omega
  rw [h1, ← Int.natCast_ediv, Nat.add_div_right _ (by omega)] at b3
  omega

theorem RepL.split {X : Cx} : ∀ {cs bs : List AV} {vs : List Value}, RepL X (cs ++ bs) vs → ∃ us ws, vs = us ++ ws ∧ RepL X cs us ∧ RepL X bs ws
  | [], bs, vs, h => ⟨[], vs, rfl, by simp [RepL], h⟩
  | a :: cs, bs, vs, h => by
    simp only [List.cons_append, RepL] at h
    obtain ⟨v, rest, rfl, h1, h2⟩ := h
    obtain ⟨us, ws, rfl, h3, h4⟩ := RepL.split h2
    exact ⟨v :: us, ws, rfl, by simp only [RepL]; exact ⟨v, us, rfl, h1, h3⟩, h4⟩
theorem Le.virtI {M : Nat} {fr : List (Nat × AV)} {ob : List Ob} (p ty sz : Nat) {x : Ob} {z : Bool} {pre rest : List AV} (h0 : sz ≠ 0) (hp : ob[p]? = some x) (hx : x.cs = pre ++ .emp z :: rest) :
    Le M ⟨fr, ob⟩ ⟨fr, ob.set p { x with cs := pre ++ .own ob.length 0 :: rest } ++ [⟨ty, sz, 0, [], 0⟩]⟩ := by
  intro Γ a w hX ⟨q1, q2, q3, be, g, hm, hfr0⟩
  obtain ⟨g1, m1⟩ := g.empty ty sz
  have hpl : p < ob.length := (List.getElem?_eq_some_iff.1 hp).1
  have hp1 : (ob ++ [(⟨ty, sz, 0, [], 0⟩ : Ob)])[p]? = some x := by rw [List.getElem?_append_left hpl]; exact hp
  have hl : be.length = ob.length := g.len
  obtain ⟨g2, m2, _⟩ := g1.retell hp1 (pre ++ .own ob.length 0 :: rest) (by rw [hx]; simp) (fun vs hv => by
    rw [hx] at hv
    obtain ⟨us, ws, rfl, h1, h2⟩ := RepL.split hv
    refine h1.append ?_
    simp only [RepL] at h2 ⊢
    obtain ⟨v, r, rfl, hv, h2⟩ := h2
    refine ⟨v, r, rfl, ?_, h2⟩
    simp only [Rep] at hv ⊢
    obtain ⟨a', e, _⟩ := hv
    refine ⟨⟨⟨ty, sz, 0, [], 0⟩, by simp, h0, Nat.le_refl _, fun _ => ?_⟩, by rw [e]; rfl⟩
    simp only [OwnV]
    rw [show ob.length = be.length from hl.symm]
    simp [e])
  have e1 : (ob ++ [(⟨ty, sz, 0, [], 0⟩ : Ob)]).set p { x with cs := pre ++ .own ob.length 0 :: rest } = ob.set p { x with cs := pre ++ .own ob.length 0 :: rest } ++ [⟨ty, sz, 0, [], 0⟩] := List.set_append_left _ _ hpl
  rw [← e1]
  exact ⟨q1, q2, q3, _, g2, hm.trans (m1.trans m2), fun i => Rep.move m2 _ _ (Rep.move m1 _ _ (hfr0 i))⟩
end Go.Am

namespace Go.Am
open Go.RowKit

/-! ### A call with a row of one's own among its arguments, in a region of open order -/

def ph3 : Ob := ⟨1, 1, 0, [], 0⟩
theorem Held.fill {B : Nat} {w : World} {ob : List Ob} {be : List (Option (Nat × Nat))} {C : Nat → Nat → Prop} {o : Nat} (g : Held B ⟨w, ob, be, C⟩) (ho : ob[o]? = some ph2) :
    Held B ⟨w, ob.set o ph3, be.set o none, C⟩ ∧ Moves ⟨w, ob, be, C⟩ ⟨w, ob.set o ph3, be.set o none, C⟩ := by
  have hol : o < ob.length := (List.getElem?_eq_some_iff.1 ho).1
  have hlen : be.length = ob.length := g.len
  have hav : ∀ b k, (Cx.mk w (ob.set o ph3) (be.set o none) C).av b k → (Cx.mk w ob be C).av b k := by
    rintro b k (h | ⟨o', x, c, h1, h2, h3⟩)
    · exact .inl h
    · simp only [List.getElem?_set] at h1 h2
      by_cases e : o = o'
      · subst e; simp [hlen, hol] at h2
      · simp [e] at h1 h2
        exact .inr ⟨o', x, c, h1, h2, h3⟩
  have m : Moves ⟨w, ob, be, C⟩ ⟨w, ob.set o ph3, be.set o none, C⟩ := by
    refine ⟨fun b k v hc ha => ⟨hc, fun h => ha (hav b k h)⟩, fun o' x hx => ?_, fun b hb hf => ⟨rfl, fun o' c h => ?_⟩⟩
    · by_cases e : o = o'
      · subst e
        have hx' : ob[o]? = some x := hx
        rw [ho] at hx'; cases hx'
        exact ⟨ph3, by simp [hol], Nat.le_refl _, fun h => absurd rfl h⟩
      · exact ⟨x, by simp only [List.getElem?_set, e, if_false]; exact hx, Nat.le_refl _, fun h => ⟨h, fun _ => by simp only [List.getElem?_set, e, if_false]⟩⟩
    · simp only [List.getElem?_set] at h
      by_cases e : o = o'
      · subst e; simp [hlen, hol] at h
      · simp [e] at h; exact hf o' c h
  refine ⟨⟨by simp [hlen], fun o' x e' hx he => ?_, fun o1 o2 b c c' q1 q2 => ?_, fun o1 b c q => ?_, g.bnd, g.size⟩, m⟩
  · simp only [List.getElem?_set] at hx he
    by_cases e : o = o'
    · subst e
      simp [hlen, hol] at hx he
      subst hx; subst he
      exact ⟨rfl, rfl⟩
    · simp [e] at hx he
      exact (g.ok o' x e' hx he).move m fun _ _ _ => rfl
  · simp only [List.getElem?_set] at q1 q2
    by_cases e : o = o1
    · subst e; simp [hlen, hol] at q1
    · by_cases e2 : o = o2
      · subst e2; simp [hlen, hol] at q2
      · simp [e] at q1; simp [e2] at q2
        exact g.inj o1 o2 b c c' q1 q2
  · simp only [List.getElem?_set] at q
    by_cases e : o = o1
    · subst e; simp [hlen, hol] at q
    · simp [e] at q; exact g.base o1 b c q
theorem ACall.fill {P : Prg} {f : FuncId} {avs : List AV} {r : AV} {ob : List Ob} {o : Nat} (ho : ob[o]? = some ph2) (h : ACall P f avs ob (fun r' ob' => r' = r ∧ ob' = ob)) : ACall P f avs ob (fun r' ob' => r' = r ∧ ob' = ob.set o ph3) := by
  obtain ⟨hE, h⟩ := h
  refine ⟨hE, fun B w be C vs g hG hr => (h B w be C vs g hG hr).mono ?_⟩
  rintro e w' ⟨v, r', ob', be', rfl, hb, hh, hm, hv, rfl, rfl⟩
  obtain ⟨g1, m1⟩ := hh.fill ho
  exact ⟨v, r', _, _, rfl, hb, g1, hm.trans m1, Rep.move m1 _ _ hv, rfl, rfl⟩
theorem QQ.own {P : Prg} {B : Nat} {Q : Exit → St → Prop} {f : FuncId} {avs : List AV} {r : AV} {ob : List Ob} (o : Nat) (he : QbB P f) (h : ∀ ob', ob'[o]? = some ph2 → ACall P f avs ob' (fun r' ob'' => r' = r ∧ ob'' = ob')) (ho : ob[o]? = some ph2)
    {xs : List It} {fr : List (Nat × AV)} {dst : Option Nat} (hK : QaH P B xs Q ⟨Zr fr dst r, ob.set o ph3⟩) : QQ P B false f avs xs Q fr ob dst := by
  refine QQ.at (r := r) o ph3 he (fun ob' h' => ACall.fill h' (h ob' h')) ho (by decide) ?_
  simp only [app, if_pos (List.getElem?_eq_some_iff.1 ho).1]
  exact hK
theorem Le.padE {M : Nat} {fr : List (Nat × AV)} {ob : List Ob} : Le M ⟨fr, ob⟩ ⟨fr, ob ++ [ph2]⟩ := by
  intro Γ a w hX ⟨q1, q2, q3, be, g, hm, hfr0⟩
  obtain ⟨g1, m1⟩ := g.empty 1 0
  exact ⟨q1, q2, q3, _, g1, hm.trans m1, fun i => Rep.move m1 _ _ (hfr0 i)⟩

theorem Qqt {P : Prg} {f t0 t1 : Nat} (bd : Ql P f 8 [.cell 2 t1] (Z7 t0 t1)) (ht : ZD P t1 = some (some 2)) (c x r : Int) (i k : Nat) (ob : List Ob) : ACall P f [.agg [.int .i64 c, .int .i64 x, .int .i64 r, .own i k]] ob (fun r' ob' => r' = shA c x ∧ ob' = ob) := by
  refine ACall.withLow bd.ent fun hl => ACall.low (ACall.of_body bd (by simp) ?_)
  simp (maxSteps := 4000000) (disch := omega) only [rr, aop, cV, cV1, AV.one, Qb, okW, Qd, app, Qa, Qc, Qe, Qf, Qg, simprocAttr, Z7, List.append_assoc, List.cons_append, List.nil_append, Qxw, Qrr, Qxq, Qvs, ZG, ht, shA, Q8]
  exact ⟨ob, [_, _], rfl, Nat.le_refl _, hl, by simp [Ja, lowL], rfl⟩

def Qxs (L : List (List UInt8)) : Prop := L.length ≤ 1000000 ∧ ∀ j, (L.getD j []).length ≤ 1000000
def Qjb (P : Prg) (f : Nat) : Prop := ∀ (c x r : Int) (l : List Int) (p : List UInt8) (n : Int) (L : List (List UInt8)), Qxs L → VC P f [clA c x r l, .str p, .int .i64 n, bss L] (Qf4 c x r n p L)

set_option maxHeartbeats 2000000 in
theorem Qv2 {P : Prg} {f fH fT fA fS fD t0 t1 t2 t3 t4 ti : Nat} (bd : Ql P f 79 [.cell 8 t0, .tmp 9] (Qek fH fT fA fS fD t0 t1 t2)) (hH : Qjc P fH) (hT : QkX P fT) (hA : QkZ ti P fA) (bS : Ql P fS 8 [.cell 2 t3] (Z7 t4 t3)) (ht3 : ZD P t3 = some (some 2)) (hD : Qcu P fD) (ht : ZD P t0 = some (some 4)) : Qjb P f := by
  intro c x r l p n L ⟨hL1, hL2⟩
  refine VC.of_walk 2 (by simp [isDL, isD, QS, clA, Qrn]) (Qrm _ _ _ _ _ _) (ACall.of_body bd (by simp) ?_)
  have hH' := hH c x r n l
  rw [il] at hH'
  have tl := Qq .i32 l
  have z : ([.int .i32 0, .int .i32 0, .int .i32 0, .int .i32 0, .int .i32 0, .int .i32 0, .int .i32 0, .int .i32 0, .int .i32 0, .int .i32 0, .int .i32 0, .int .i32 0, .int .i32 0, .int .i32 0, .int .i32 0, .int .i32 0] : List AV) = ks .i32 Xy := rfl
  unfold Qek
  rw [z]
  have ol := ZP .i32 Xy
  have kl0 : (ks .i32 Xy).length = 16 := rfl
  have t0' : (ks .i32 Xy).take 16 = ks .i32 Xy := rfl
  have zl : Xy.length = 16 := rfl
  have zd : (ks .i32 Xy).drop 16 = [] := rfl
  rcases Qho c x r n with h | h
  · have e9 : Qf4 c x r n p L = .tup [clA 0 0 0 [], .int .i64 8] := by rw [Qf4, if_pos (by omega)]
    rw [h] at hH'
    simp (maxSteps := 4000000) (disch := omega) only [rr, aop, cV, cV1, AV.one, Qb, okW, Qd, app, Qa, Qc, Qe, Qf, Qg, simprocAttr, clA, il, bss]
    refine Qh.vc hH' ?_
    simp (maxSteps := 4000000) (disch := omega) only [rr, aop, cV, cV1, AV.one, Qb, okW, Qd, app, Qa, Qc, Qe, Qf, Qg, simprocAttr, ZG, ht, e9]
    simp [Q7, QG, frzL, QF, isDL, isD, clA, il, ks]
  rw [h] at hH'
  have hT' := hT p
  obtain ⟨hok, hec, hn1, hn4⟩ := Qrp h
  simp (maxSteps := 4000000) (disch := omega) only [rr, aop, cV, cV1, AV.one, Qb, okW, Qd, app, Qa, Qc, Qe, Qf, Qg, simprocAttr, clA, il, bss]
  refine Qh.vc hH' ?_
  simp (maxSteps := 4000000) (disch := omega) only [rr, aop, cV, cV1, AV.one, Qb, okW, Qd, app, Qa, Qc, Qe, Qf, Qg, simprocAttr]
  refine Qh.vc hT' ?_
  by_cases hp : 64 < p.length
  · have e9 : Qf4 c x r n p L = .tup [clA 0 0 0 [], .int .i64 2] := by rw [Qf4, if_neg (by omega), if_pos hp]
    have e8 : Qcw p = .tup [.agg (ks .i32 Xy), .int .i64 2] := by rw [Qcw, if_pos hp]
    rw [e8]
    simp (maxSteps := 4000000) (disch := omega) only [rr, aop, cV, cV1, AV.one, Qb, okW, Qd, app, Qa, Qc, Qe, Qf, Qg, simprocAttr, ol, kl0, t0', zl, zd, List.append_nil, ZG, ht, e9]
    simp [Q7, QG, frzL, QF, isDL, isD, clA, il, ks]
  have e8 : Qcw p = .tup [.agg (ks .i32 (ofK (QbR 0 p) 8)), .int .i64 0] := by rw [Qcw, if_neg hp]
  have e9 : Qf4 c x r n p L = if (ZN r n).length ≠ L.length then .tup [clA 0 0 0 [], .int .i64 12] else
      if Z8 (Ql2 c x r n (ofK (QbR 0 p) 8) L) L.length ≠ 0 then .tup [clA 0 0 0 [], .int .i64 (Z8 (Ql2 c x r n (ofK (QbR 0 p) 8) L) L.length)] else .tup [clA c x r (Qnc c x r n (ofK (QbR 0 p) 8) L L.length), .int .i64 0] := by
    rw [Qf4, if_neg (by omega), if_neg hp]
  obtain ⟨T, hTe⟩ : ∃ T, ofK (QbR 0 p) 8 = T := ⟨_, rfl⟩
  have hTl : T.length = 16 := by rw [← hTe, QcP]
  have hTI : I32 T := by rw [← hTe]; exact Qm4 _ _
  have oT := ZP .i32 T
  have kT : (ks .i32 T).length = 16 := by rw [Qk, hTl]
  have tT : (ks .i32 T).take 16 = ks .i32 T := List.take_of_length_le (by omega)
  have tT2 := Qq .i32 T
  rw [hTe] at e8 e9
  have hA' := hA r n hok
  have hln : QJ (Qw r).toNat n.toNat = ZN r n := rfl
  have hl1000 : (ZN r n).length ≤ 1000 := hok.2.2.2.2
  rw [hln] at hA'
  rw [e8]
  simp (maxSteps := 4000000) (disch := omega) only [rr, aop, cV, cV1, AV.one, Qb, okW, Qd, app, Qa, Qc, Qe, Qf, Qg, simprocAttr, ol, kl0, oT, kT, zl, zd, List.append_nil]
  refine Qh.vo hA' ?_
  simp (maxSteps := 4000000) (disch := omega) only [rr, aop, cV, cV1, AV.one, Qb, okW, Qd, app, Qa, Qc, Qe, Qf, Qg, simprocAttr, shr]
  by_cases hlen : (ZN r n).length = L.length
  case neg =>
    rw [if_pos hlen] at e9
    simp (maxSteps := 4000000) (disch := omega) only [rr, aop, cV, cV1, AV.one, Qb, okW, Qd, app, Qa, Qc, Qe, Qf, Qg, simprocAttr, hlen, ZG, ht, e9]
    simp [Q7, QG, frzL, QF, isDL, isD, clA, il, ks]
  rw [if_neg (by simpa using hlen)] at e9
  have kn : (ks .i64 (ZN r n)).length = L.length := by rw [Qk, hlen]
  have hml : (L.map bs).length = L.length := by simp
  rw [hlen] at hl1000 ⊢
  simp (maxSteps := 4000000) (disch := omega) only [rr, aop, cV, cV1, AV.one, Qb, okW, Qd, app, Qa, Qc, Qe, Qf, Qg, simprocAttr]
  refine QN.by (ι := Nat) (fun k => ⟨[(51, .int .i64 k), (50, .int .i64 L.length), (49, .list L.length (L.map bs)), (13, .own 3 L.length), (11, .ref 2 1 0), (8, .ref 1 1 0), (4, .ref 0 1 0)],
      [⟨t0, 4, 1, [.int .i64 c, .int .i64 x, .int .i64 r, .own 4 (Qnc c x r n T L k).length], 0⟩, ⟨t0, 4, 1, [.int .i64 0, .int .i64 0, .int .i64 0, .list 0 []], 0⟩, ⟨t1, 16, 1, ks .i32 T, 0⟩, ⟨ti, 1, L.length, ks .i64 (ZN r n), 0⟩, ⟨t2, 1, (Qnc c x r n T L k).length, ks .i32 (Qnc c x r n T L k), 0⟩, ph2]⟩)
    (fun k => k ≤ L.length ∧ Z8 (Ql2 c x r n T L) k = 0) (fun k => L.length - k) 0 ?_ ⟨by omega, rfl⟩ ?_
  · refine Le.trans (Le.virtI (p := 0) (ty := t2) (sz := 1) (pre := [.int .i64 c, .int .i64 x, .int .i64 r]) (by omega) rfl rfl) (Le.trans (Le.drop 5 2 (ob' := [⟨t0, 4, 1, [.int .i64 c, .int .i64 x, .int .i64 r, .own 4 0], 0⟩, ⟨t0, 4, 1, [.int .i64 0, .int .i64 0, .int .i64 0, .list 0 []], 0⟩, ⟨t1, 16, 1, ks .i32 T, 0⟩, ⟨ti, 1, L.length, ks .i64 (ZN r n), 0⟩, ⟨t2, 1, 0, [], 0⟩])
      (fr' := [(51, .int .i64 0), (50, .int .i64 L.length), (49, .list L.length (L.map bs)), (13, .own 3 L.length), (11, .ref 2 1 0), (8, .ref 1 1 0), (4, .ref 0 1 0)]) (by omega) rfl (by simp [Am.look, QG, frzL, QF, frzL_T _ (Qah L)]) ?_) Le.padE)
    intro i z hz
    match i, hz with
    | 0, hz => cases hz; exact ⟨_, rfl, by simp [QG, frzL, QF]⟩
    | 1, hz => cases hz; exact ⟨_, rfl, by simp [QG, frzL, QF]⟩
    | 2, hz => cases hz; exact ⟨_, rfl, by simp [QG, frzL_T _ tT2]⟩
    | 3, hz => cases hz; exact ⟨_, rfl, by simp [QG, frzL_T _ (Qq .i64 _)]⟩
    | 4, hz => cases hz; exact ⟨_, rfl, by simp [QG, frzL]⟩
    | i + 5, hz => simp at hz
  intro k ⟨hk, hfe⟩
  have hsl := Qqc c x r n T L k
  have ksl := Qk .i32 (Qnc c x r n T L k)
  by_cases hlt : k < L.length
  · have e1 := Qn4 (L := L) (k := k) hlt
    have hk2 : (k : Int) < L.length := by omega
    have la : (ks .i64 (ZN r n)).drop k = .int .i64 ((ZN r n).getD k 0) :: (ks .i64 (ZN r n)).drop (k + 1) := by
      have h := QbY (K := .i64) (l := ZN r n) (i := k) (by omega)
      rw [← J0] at h
      exact h
    have hD' := hD c x ((ZN r n).getD k 0) T (L.getD k []) hTl hTI (hL2 k)
    obtain ⟨d1, d2⟩ := QvV c x T ((ZN r n).getD k 0) (L.getD k [])
    rw [d1, shA] at hD'
    have hsu := QjL c x r n T L k
    have hpo : Qtr c x r n T L k = Quc c x T ((ZN r n).getD k 0) (L.getD k []) := rfl
    have heo : Ql2 c x r n T L k = QvW c x T ((ZN r n).getD k 0) (L.getD k []) := rfl
    rw [hpo] at hsu
    rw [← heo] at hD'
    obtain ⟨d3, d4⟩ := d2
    generalize Quc c x T ((ZN r n).getD k 0) (L.getD k []) = pt at *
    generalize Qnc c x r n T L k = su at *
    have kp := Qk .i32 pt
    simp (maxSteps := 4000000) (disch := omega) only [rr, aop, cV, cV1, AV.one, Qb, okW, Qd, app, Qa, Qc, Qe, Qf, Qg, simprocAttr, e1, hml, tT, kT]
    refine QQ.own 5 bS.ent (fun ob' h' => Qqt bS ht3 c x r 4 _ ob') rfl ?_
    simp (maxSteps := 4000000) (disch := omega) only [rr, aop, cV, cV1, AV.one, Qb, okW, Qd, app, Qa, Qc, Qe, Qf, Qg, simprocAttr, tT, kT, la, kn, shA, e1]
    refine QQ.vc hD' ?_
    by_cases he : Ql2 c x r n T L k = 0
    · rw [he]
      have hfe1 : Z8 (Ql2 c x r n T L) (k + 1) = 0 := by
        show (if Z8 (Ql2 c x r n T L) k ≠ 0 then _ else _) = _
        rw [hfe, if_neg (by simp), he]
      have kss : ks .i32 su ++ ks .i32 pt = ks .i32 (su ++ pt) := QfO _ _ _
      simp (maxSteps := 4000000) (disch := omega) only [rr, aop, cV, cV1, AV.one, Qb, okW, Qd, app, Qa, Qc, Qe, Qf, Qg, simprocAttr, il, ksl, kp, kss]
      refine ⟨k + 1, ⟨by omega, hfe1⟩, by omega, ?_⟩
      rw [hsu]
      refine Le.trans (Le.drop 5 2 (ob' := [⟨t0, 4, 1, [.int .i64 c, .int .i64 x, .int .i64 r, .own 4 (su ++ pt).length], 0⟩, ⟨t0, 4, 1, [.int .i64 0, .int .i64 0, .int .i64 0, .list 0 []], 0⟩, ⟨t1, 16, 1, ks .i32 T, 0⟩, ⟨ti, 1, L.length, ks .i64 (ZN r n), 0⟩, ⟨t2, 1, (su ++ pt).length, ks .i32 (su ++ pt), 0⟩])
        (fr' := [(51, .int .i64 (k + 1 : Nat)), (50, .int .i64 L.length), (49, .list L.length (L.map bs)), (13, .own 3 L.length), (11, .ref 2 1 0), (8, .ref 1 1 0), (4, .ref 0 1 0)]) (by omega) rfl (by simp [Am.look, QG, frzL, QF, frzL_T _ (Qah L)]) ?_) Le.padE
      intro i z hz
      match i, hz with
      | 0, hz => cases hz; exact ⟨_, rfl, by simp [QG, frzL, QF]⟩
      | 1, hz => cases hz; exact ⟨_, rfl, by simp [QG, frzL, QF]⟩
      | 2, hz => cases hz; exact ⟨_, rfl, by simp [QG, frzL_T _ tT2]⟩
      | 3, hz => cases hz; exact ⟨_, rfl, by simp [QG, frzL_T _ (Qq .i64 _)]⟩
      | 4, hz => cases hz; exact ⟨ks .i32 (su ++ pt), by simp, by simp [QG, frzL_T _ (Qq .i32 _)]⟩
      | i + 5, hz => simp at hz
    · have hfE : Z8 (Ql2 c x r n T L) L.length = Ql2 c x r n T L k := Qkf hfe he hlt
      rw [hfE, if_pos he] at e9
      simp (maxSteps := 4000000) (disch := omega) only [rr, aop, cV, cV1, AV.one, Qb, okW, Qd, app, Qa, Qc, Qe, Qf, Qg, simprocAttr, ZG, ht, e9]
      simp [Q7, QG, frzL, QF, isDL, isD, clA, il, ks]
  · obtain rfl : k = L.length := by omega
    rw [if_neg (by simpa using hfe)] at e9
    have ts := Qq .i32 (Qnc c x r n T L L.length)
    generalize Qnc c x r n T L L.length = su at *
    simp (maxSteps := 4000000) (disch := omega) only [rr, aop, cV, cV1, AV.one, Qb, okW, Qd, app, Qa, Qc, Qe, Qf, Qg, simprocAttr, ZG, ht, e9]
    simp [Q7, QG, frzL, QF, isDL, isD, clA, il, frzL_T _ ts]
end Go.Am

namespace Go.Am
open Go.RowKit

/-! ### law24: example, alive -/

theorem QsX : ofK (QbR 0 []) 8 = Xy := by decide +kernel
end Go.Am

namespace Go.Am
open Go.RowKit

/-! ### Each part is a clip of its own -/

theorem QvZ {r : Int} {n : Nat} (h1 : 1 ≤ r) (h2 : r ≤ 1048576) (h3 : 1 ≤ n) (h4 : n ≤ 4000) (h5 : (QJ (Qw r).toNat n).length ≤ 1000) : Qk4 r n = 0 := by
  unfold Qk4
  rw [if_neg (by omega), if_neg (by omega), if_neg]
  have hlong : 1 ≤ Qw r := Xf r
  obtain ⟨L, hLe⟩ : ∃ L : Nat, Qw r = L := ⟨(Qw r).toNat, by omega⟩
  rw [hLe, Int.toNat_natCast, ZO] at h5
  have h6 : (n : Int) + (L : Int) - 1 = ((n - 1 + L : Nat) : Int) := by omega
  rw [hLe, h6, ← Int.natCast_ediv, Nat.add_div_right _ (by omega)]
  omega
theorem QjY {c x r : Int} {l : List Int} (h : ZC c x r l = 0) : ∀ j, j < (Qo c r l).length → ZC c x r ((Qo c r l).getD j []) = 0 ∧ Qo c r ((Qo c r l).getD j []) = [(Qo c r l).getD j []] ∧
    (((Qo c r l).getD j []).length : Int) = (QJ (Qw r).toNat (l.length / c.toNat)).getD j 0 * c := by
  intro j hj
  have hall := QbU h
  have hmem : (Qo c r l).getD j [] ∈ Qo c r l := by rw [List.getD_eq_getElem?_getD, List.getElem?_eq_getElem hj]; exact List.getElem_mem _
  obtain ⟨q1, q2, q3⟩ := hall _ hmem
  obtain ⟨k, n, rfl, k1, k2, hlen, ⟨o1, o2, o3, o4, o5⟩, h4⟩ := Jb h
  have hpl := Qa7 k r l
  rw [Int.toNat_natCast] at hpl ⊢
  rw [hlen, Nat.mul_div_cancel _ (by omega)] at hpl ⊢
  rw [hpl] at hj
  have hL1 : 1 ≤ (Qw r).toNat := by have := Xf r; omega
  obtain ⟨m, p1, p2, p3, p4, p5, p6, p7⟩ := QdY (j := j) hlen (by omega) hL1 hj
  have hm1 := Qrb (n := n) (by omega) hL1 hj
  rw [p1] at hm1
  have hg : (Qo k r l).getD j [] = Zm ((Qw r).toNat * k) l j := by
    unfold Qo
    rw [Int.toNat_natCast, hlen, Nat.mul_div_cancel _ (by omega), List.getD_eq_getElem?_getD, List.getElem?_map, List.getElem?_range hj]
    rfl
  rw [hg] at q1 q2 q3 ⊢
  have hpl2 : (Zm ((Qw r).toNat * k) l j).length = m * k := by rw [p6, List.length_take, List.length_drop, hlen]; omega
  have hmL : m * k ≤ (Qw r).toNat * k := by
    have : (Zm ((Qw r).toNat * k) l j).length ≤ (Qw r).toNat * k := by unfold Zm; rw [List.length_take]; omega
    omega
  have hmL2 : m ≤ (Qw r).toNat := Nat.le_of_mul_le_mul_right hmL (by omega)
  have hone : QJ (Qw r).toNat m = [(m : Int)] := by
    have e : (m - 1) / (Qw r).toNat = 0 := Nat.div_eq_of_lt (by omega)
    unfold QJ
    rw [e]
    simp
  refine ⟨?_, ?_, ?_⟩
  · rw [Qbe, q1, hpl2]
    have e1 : ((m * k : Nat) : Int) / (k : Int) = (m : Int) := by rw [Int.natCast_mul, Int.mul_ediv_cancel _ (by omega)]
    rw [e1, Qd4]
    have a1 : QO k x m = 0 := by
      have h' := Qbe (c := (k : Int)) (x := x) (r := r) (l := l)
      rw [h] at h'
      have hh : ZQ k x r (l.length / (k : Int)) = 0 := by
        by_cases h9 : QbA k x l = 0 ∧ ZQ k x r (l.length / (k : Int)) = 0
        · exact h9.2
        · rw [if_neg h9] at h'; cases h'
      rw [hlen, Int.natCast_mul, Int.mul_ediv_cancel _ (by omega)] at hh
      obtain ⟨_, a2, a3, a4⟩ := Qrp hh
      unfold QO
      rw [if_neg (by omega), if_neg (by omega), if_neg (by omega)]
    have a2 : Qk4 r m = 0 := QvZ o1 o2 (by omega) (by omega) (by rw [hone]; simp)
    rw [a1, a2]
    simp
  · unfold Qo
    rw [Int.toNat_natCast, hpl2, Nat.mul_div_cancel _ (by omega), hone]
    simp only [List.length_cons, List.length_nil, Nat.zero_add, List.range_one, List.map_cons, List.map_nil, List.cons.injEq, and_true]
    show ((Zm ((Qw r).toNat * k) l j).drop (0 * _)).take _ = _
    rw [Nat.zero_mul, List.drop_zero, List.take_of_length_le (by rw [hpl2]; exact hmL)]
  · rw [hpl2, p1, Int.natCast_mul]
theorem Qru {c x r : Int} {l : List Int} {p : List UInt8} (h : ZC c x r l = 0) (hp : ¬ 64 < p.length) : XZ c x r l p = .tup [bss (QI c x r l (ofK (QbR 0 p) 8)), .int .i64 0] := by rw [XZ, if_neg (by omega), if_neg hp]
theorem QbZ (c x r : Int) (l T : List Int) : (QI c x r l T).length = (Qo c r l).length := by unfold QI; simp
end Go.Am

namespace Go.Am
open Go.RowKit

/-! ### The laws ClipAnew, ClipPasswords -/

theorem callE.vo {P : Prg} {B : Nat} {Q : Exit → St → Prop} {f : FuncId} {ds : List AV} {r : AV} {x : Ob} (h : VO P f ds r x) {ob : List Ob} (o : Nat) (ho : ob[o]? = some ph2) {xs : List It} {fr : List (Nat × AV)} {dst : Option Nat} (hK : QaH P B xs Q ⟨Zr fr dst (shr o r), ob.set o x⟩) : QQ P B true f ds xs Q fr ob dst := by
  have hl : o < ob.length := (List.getElem?_eq_some_iff.1 ho).1
  have ha : app ob (some (o, x)) = ob.set o x := by simp [app, hl]
  refine ⟨shr o r, some (o, x), ?_, by rw [ha]; exact hK⟩
  unfold Qbw
  rw [if_pos rfl]
  refine ⟨ACall.of_vo_at h ho ⟨rfl, by rw [ha]⟩, fun o' y e => ?_⟩
  cases e
  exact ⟨ph2, ho, by simp [ph2, ph]⟩

end Go.Am

namespace Go.Am
open Go.RowKit

/-! ### What was framed is read back; what is read was framed so -/

theorem QrS (c x : Int) (t : List Int) (n : Int) (b : List UInt8) : Quc c x t n b = QrT c x t n b ∧ QvW c x t n b = QfW c x t n b := by
  have h := (QnT c x n t b).1
  have h2 := (QvV c x t n b).1
  rw [h2] at h
  unfold Quc QvW
  rw [(QnT c x n t b).1]
  refine ⟨?_, rfl⟩
  simp only [avP, il, QkU]
theorem QfU {E : Nat → Int} : ∀ k, (∀ j, j < k → E j = 0) → Z8 E k = 0
  | 0, _ => rfl
  | k + 1, h => by
    show (if Z8 E k ≠ 0 then Z8 E k else E k) = 0
    rw [if_neg (by rw [QfU k fun j hj => h j (by omega)]; simp), h k (by omega)]
theorem Qhv {c x r : Int} {l : List Int} (h : ZC c x r l = 0) : QbA c x l = 0 ∧ ZQ c x r (l.length / c) = 0 := by
  have h' := Qbe (c := c) (x := x) (r := r) (l := l)
  rw [h] at h'
  by_cases h9 : QbA c x l = 0 ∧ ZQ c x r (l.length / c) = 0
  · exact h9
  · rw [if_neg h9] at h'; cases h'
theorem Qfa {c x r : Int} {l : List Int} (h : ZC c x r l = 0) : ZN r (l.length / c) = QJ (Qw r).toNat (l.length / c.toNat) := by
  obtain ⟨k, n, rfl, k1, k2, hlen, hok, h4⟩ := Jb h
  unfold ZN
  rw [Int.toNat_natCast, hlen, ← Int.natCast_ediv, Int.toNat_natCast]
theorem Qh7 {c x r : Int} {l : List Int} (h : ZC c x r l = 0) (hI : I32 l) (j : Nat) : I32 ((Qo c r l).getD j []) := fun v hv => by
  rcases Nat.lt_or_ge j (Qo c r l).length with hj | hj
  · refine hI v ?_
    rw [← QoQ h]
    refine List.mem_flatten.2 ⟨_, ?_, hv⟩
    rw [List.getD_eq_getElem?_getD, List.getElem?_eq_getElem hj]
    exact List.getElem_mem _
  · rw [List.getD_eq_getElem?_getD, List.getElem?_eq_none hj] at hv
    simp at hv
theorem QfT {c x r : Int} {l T : List Int} {j : Nat} (hj : j < (Qo c r l).length) : (QI c x r l T).getD j [] = QeB c.toNat x T ((Qo c r l).getD j []) := by
  unfold QI
  rw [List.getD_eq_getElem?_getD, List.getD_eq_getElem?_getD, List.getElem?_map, List.getElem?_eq_getElem hj]
  rfl
theorem Qkc {c x r : Int} {l T : List Int} (h : ZC c x r l = 0) (hI : I32 l) {j : Nat} (hj : j < (Qo c r l).length) :
    QfW c x T ((ZN r (l.length / c)).getD j 0) ((QI c x r l T).getD j []) = 0 ∧ QrT c x T ((ZN r (l.length / c)).getD j 0) ((QI c x r l T).getD j []) = (Qo c r l).getD j [] := by
  obtain ⟨p1, p2, p3⟩ := QjY h j hj
  have hmem : (Qo c r l).getD j [] ∈ Qo c r l := by rw [List.getD_eq_getElem?_getD, List.getElem?_eq_getElem hj]; exact List.getElem_mem _
  obtain ⟨q1, q2, q3⟩ := QbU h _ hmem
  obtain ⟨k, n, hk, k1, k2, _⟩ := Jb h
  have e : (((Qo c r l).getD j []).length : Int) / c = (ZN r (l.length / c)).getD j 0 := by
    rw [p3, Qfa h, Int.mul_ediv_cancel _ (by omega)]
  have hd := QvU (t := T) (Qh7 h hI j) q1
  rw [QfT hj, ← e]
  exact hd
end Go.Am

namespace Go.Am
open Go.RowKit

/-! ### The law ClipBack -/

theorem Qrv {c x r : Int} {l T : List Int} (h : ZC c x r l = 0) (hI : I32 l) : Qxs (QI c x r l T) := by
  have h1 := QbZ c x r l T
  have h2 := Qhh h
  refine ⟨by omega, fun j => ?_⟩
  rcases Nat.lt_or_ge j (Qo c r l).length with hj | hj
  · rw [QfT hj]
    have hmem : (Qo c r l).getD j [] ∈ Qo c r l := by rw [List.getD_eq_getElem?_getD, List.getElem?_eq_getElem hj]; exact List.getElem_mem _
    have := (QrI (t := T) (Qh7 h hI j) (QbU h _ hmem).1).1
    omega
  · rw [List.getD_eq_getElem?_getD, List.getElem?_eq_none (by omega)]; exact Nat.zero_le _
end Go.Am

namespace Go.Am
open Go.RowKit

/-! ### Frames agree: what is said of each frame of a clip, and of one with a bit turned -/

theorem Qt8 {c x : Int} {t l : List Int} (h : QbA c x l = 0) : QuP c x t l = .tup [bs (QeB c.toNat x t l), .int .i64 0] := by rw [QuP, if_neg (by omega)]
theorem QtC {c x : Int} {t l : List Int} (h : QbA c x l = 0) : QvE c x t l = .tup [.int .i64 (QeB c.toNat x t l).length, .int .i64 0] := by rw [QvE, if_neg (by omega)]

structure QxV (c x r : Int) (l T : List Int) (S : List Int) (F : List UInt8) (n : Int) : Prop where
  ask : QbA c x S = 0
  ask2 : QO c x n = 0
  enc : QuP c x T S = .tup [bs F, .int .i64 0]
  len : QvE c x T S = .tup [.int .i64 F.length, .int .i64 0]
  dec : QnU c x T n F = .tup [il S, .int .i64 0]
  jud : Qwl c x T n F = .tup [.agg [.int .i64 0, .int .i64 S.length], .int .i64 0]
  hea : QuN c x T n F = .tup [il S, .bool true, .int .i64 0]
  opn : Zi F = 0
  lo : 5 ≤ F.length
  hi : F.length ≤ 40504
  err : QfW c x T n F = 0
  sil : QuD c n = List.replicate S.length 0
  slen : S.length ≤ 4000
  i32 : I32 S
theorem QwU {c x r : Int} {l T : List Int} (h : ZC c x r l = 0) (hI : I32 l) {j : Nat} (hj : j < (Qo c r l).length) :
    QxV c x r l T ((Qo c r l).getD j []) ((QI c x r l T).getD j []) ((ZN r (l.length / c)).getD j 0) := by
  obtain ⟨p1, p2, p3⟩ := QjY h j hj
  have hmem : (Qo c r l).getD j [] ∈ Qo c r l := by rw [List.getD_eq_getElem?_getD, List.getElem?_eq_getElem hj]; exact List.getElem_mem _
  obtain ⟨q1, q2, q3⟩ := QbU h _ hmem
  obtain ⟨d1, d2⟩ := Qkc (T := T) h hI hj
  have hS := Qh7 h hI j
  obtain ⟨e1, e2⟩ := QrI (t := T) hS q1
  have hF := QfT (c := c) (x := x) (r := r) (l := l) (T := T) hj
  have hln : (QJ (Qw r).toNat (l.length / c.toNat)).getD j 0 = (ZN r (l.length / c)).getD j 0 := by rw [Qfa h]
  rw [hln] at p3
  obtain ⟨k, n, hk, k1, k2, _⟩ := Jb h
  have hk0 : (((Qo c r l).getD j []).length : Int) / c = (ZN r (l.length / c)).getD j 0 := by rw [p3, Int.mul_ediv_cancel _ (by omega)]
  have ha : QO c x ((ZN r (l.length / c)).getD j 0) = 0 := by
    have h9 := (Qhv p1).2
    rw [hk0, Qd4] at h9
    by_cases h8 : QO c x ((ZN r (l.length / c)).getD j 0) = 0 ∧ Qk4 r ((ZN r (l.length / c)).getD j 0) = 0
    · exact h8.1
    · rw [if_neg h8] at h9; cases h9
  rw [hF] at d1 d2 ⊢
  generalize (Qo c r l).getD j [] = S at *
  generalize (ZN r (l.length / c)).getD j 0 = m at *
  have hopen := QnQ ha d1
  refine ⟨q1, ha, Qt8 q1, QtC q1, ?_, ?_, ?_, hopen, e2, e1, d1, ?_, q2, hS⟩
  · rw [(QnT _ _ _ _ _).1, d1, d2]
  · rw [Qwl, if_neg (by omega), QxO, if_pos d1, d1, p3]
  · rw [QuN, if_neg (by omega), if_pos d1, d2]
  · unfold QuD
    congr 1
    have hm1 : 0 ≤ m := by
      obtain ⟨_, _, n', _, hn, _⟩ := X2 ha
      omega
    have : (S.length : Int) = ((m.toNat * c.toNat : Nat) : Int) := by rw [p3, Int.natCast_mul, Int.toNat_of_nonneg hm1, Int.toNat_of_nonneg (by omega)]
    omega

def QrB (b : List UInt8) (A : Nat) : List UInt8 := leB (flV (leN b) A 1 1) b.length
theorem QrA (b : List UInt8) (A : Nat) : (QrB b A).length = b.length := Qu _ _
theorem Qo1 {b : List UInt8} {A : Nat} (h : Zi b = 0) (hA : A < 8 * b.length) : Zi (QrB b A) = 22 := Qvx (B := 1) (i := 1) h (by omega) (by omega) (by decide)
theorem Qt4 {b : List UInt8} {q r : Nat} (hq : q < b.length) (hr : r < 8) : ∃ y : Nat, y < 256 ∧ (u8 b).drop q = .int .u8 (y : Int) :: u8 (b.drop (q + 1)) ∧
    (u8 b).take q ++ .int .u8 ((y ^^^ 2 ^ r : Nat) : Int) :: (u8 b).drop (q + 1) = u8 (QrB b (8 * q + r)) := by
  have hV : leB (leN b) b.length = b := Qid b
  have h1 := QnC (V := leN b) (k := b.length) (i := q) hq
  have h2 := Qvb (V := leN b) (q := q) (r := r) (n := b.length) hq hr
  have h3 : flV (leN b) (8 * q + r) 1 1 = leN b ^^^ 2 ^ (8 * q + r) := by
    have := QvM (V := leN b) (a := 8 * q + r) (B := 1) (i := 0) (by decide)
    rw [Qt5] at this
    exact this
  rw [hV] at h1 h2
  exact ⟨_, Nat.mod_lt _ (by decide), h1, by rw [h2, QrB, h3]⟩

theorem QfQ {L : List (List UInt8)} {w j : Nat} (W : List UInt8) (h : j ≠ w) : (L.set w W).getD j [] = L.getD j [] := by
  rw [List.getD_eq_getElem?_getD, List.getD_eq_getElem?_getD, List.getElem?_set_ne (Ne.symm h)]
theorem QfR {L : List (List UInt8)} {w : Nat} (W : List UInt8) (h : w < L.length) : (L.set w W).getD w [] = W := by
  rw [List.getD_eq_getElem?_getD, List.getElem?_set_self h]; rfl
theorem Qq5 {c x r : Int} {l : List Int} {p : List UInt8} {w : Nat} {W : List UInt8} (h : ZC c x r l = 0) (hI : I32 l) (hp : ¬ 64 < p.length) (hw : w < (Qo c r l).length) (hW : Zi W = 22) :
    Qf4 c x r (l.length / c) p ((QI c x r l (ofK (QbR 0 p) 8)).set w W) = .tup [clA 0 0 0 [], .int .i64 22] := by
  generalize hT : ofK (QbR 0 p) 8 = T
  have hl1 := QbZ c x r l T
  have hl2 : (ZN r (l.length / c)).length = (QI c x r l T).length := by rw [hl1, Qfa h, Qa7]
  have hE1 : ∀ j, j < w → Ql2 c x r (l.length / c) T ((QI c x r l T).set w W) j = 0 := fun j hj => by
    unfold Ql2
    rw [(QrS _ _ _ _ _).2, QfQ W (by omega)]
    exact (Qkc h hI (by omega)).1
  have hE2 : Ql2 c x r (l.length / c) T ((QI c x r l T).set w W) w = 22 := by
    unfold Ql2
    rw [(QrS _ _ _ _ _).2, QfR W (by omega), Qki (QwU (T := T) h hI hw).ask2 (by omega), hW]
    rfl
  have hE3 := QfU w hE1
  have hE4 := Qkf (m := (QI c x r l T).length) hE3 (by rw [hE2]; decide) (by omega)
  rw [hE2] at hE4
  unfold Qf4
  rw [hT, if_neg (by rw [(Qhv h).2]; simp), if_neg hp, List.length_set, if_neg (by omega), if_pos (by rw [hE4]; decide), hE4]
theorem QwA {L : List (List UInt8)} {w : Nat} {W : List UInt8} (h : Qxs L) (hW : W.length ≤ 1000000) : Qxs (L.set w W) := by
  refine ⟨by rw [List.length_set]; exact h.1, fun j => ?_⟩
  by_cases e : j = w
  · subst e
    rcases Nat.lt_or_ge j L.length with hj | hj
    · rw [QfR W hj]; exact hW
    · rw [List.getD_eq_getElem?_getD, List.getElem?_eq_none (by rw [List.length_set]; omega)]; exact Nat.zero_le _
  · rw [QfQ W e]; exact h.2 j

/-! ### alive24 -/

def Qgr (P : Prg) (f : Nat) : Prop := VC P f [] (.bool true)
theorem Quh : ZC 1 8 1 [0] = 0 := by decide +kernel
theorem QqU : Qo 1 1 [0] = [[0]] := by decide +kernel
theorem QvN : QeB 1 8 Xy [0] = [0, 0] ++ leB (Qc8 [0, 0]) 4 := by decide +kernel
theorem QoZ : XZ 1 8 1 [0] [] = .tup [bss [[0, 0] ++ leB (Qc8 [0, 0]) 4], .int .i64 0] := by
  rw [XZ, if_neg (by rw [Quh]; simp), if_neg (by simp), QI, QqU, QsX, ← QvN]
  rfl
theorem Qlq {P : Prg} {f fF fS t0 t1 t2 : Nat} (bd : Ql P f 28 [.tmp 0] (ZV fF fS t0 t1 t2)) (hF : Qfi P fF) (hS : Qi3 P fS) : Qgr P f := by
  refine VC.of_acall rfl rfl (ACall.of_body bd (by simp) ?_)
  have hF' := hF 1 8 1 [0] [] (by intro v hv; simp at hv; omega) (by simp)
  rw [QoZ] at hF'
  have hS' := hS [0, 0] (by simp)
  have hd := JG ([0, 0] ++ leB (Qc8 [0, 0]) 4)
  have hs1 : Quz .eql ([0, 0] ++ leB (Qc8 [0, 0]) 4) ([0, 0] ++ leB (Qc8 [0, 0]) 4) = some (.bool true) := by simp [Quz]
  generalize [0, 0] ++ leB (Qc8 [0, 0]) 4 = F at *
  have hF2 : VC P fF [.agg [.int .i64 1, .int .i64 8, .int .i64 1, .list 1 [.int .i32 0]], .str []] (.tup [.list 1 [.list F.length (u8 F)], .int .i64 0]) := hF'
  have hS2 : VC P fS [.list 2 [.int .u8 0, .int .u8 0]] (.list F.length (u8 F)) := hS'
  clear hF hF' hS hS'
  simp (maxSteps := 4000000) (disch := omega) only [rr, aop, cV, cV1, AV.one, Qb, okW, Qd, app, Qa, Qc, Qe, Qf, Qg, simprocAttr, ZV]
  refine Qh.still 1 [0] hF2 (by simp [Q7, QG, frzL, QF]) ?_
  simp (maxSteps := 4000000) (disch := omega) only [rr, aop, cV, cV1, AV.one, Qb, okW, Qd, app, Qa, Qc, Qe, Qf, Qg, simprocAttr, QoC, isDL, isD, hd]
  refine QQ.vc hS2 ?_
  simp (maxSteps := 4000000) (disch := omega) only [rr, aop, cV, cV1, AV.one, Qb, okW, Qd, app, Qa, Qc, Qe, Qf, Qg, simprocAttr, hd, hs1]
end Go.Am

namespace Go.Am
open Go.RowKit

/-! ### The statement TopFrames -/

def Qgi (P : Prg) (f : Nat) : Prop := ∀ (c x r : Int) (l : List Int) (p : List UInt8) (w b : Int), I32 l → VC P f [clA c x r l, .str p, .int .i64 w, .int .i64 b] (.bool true)
set_option maxHeartbeats 4000000 in
set_option maxRecDepth 20000 in
theorem QhZ {P : Prg} {f fA fC fH fF fS fL fT fE fN fD fJ fI fO fR t0 t1 t2 t3 t4 t5 t6 ti : Nat} (bd : Ql P f 328 [.tmp 8] (Qv fA fC fH fF fS fL fT fE fN fD fJ fI fO fR t0 t1 t2 t3 t4 t5 t6)) (hA : Qgr P fA) (hC : Xr P fC) (hH : XM P fH) (hF : Qfi P fF) (hS : QmT P fS) (hL : QkZ ti P fL) (hT : QkX P fT) (hE : Quu P fE) (hN : QsG P fN) (hD : Qcu P fD) (hJ : QmX P fJ) (hI0 : QmY P fI) (hO : Qjb P fO) (hR : QsE P fR) : Qgi P f := by
  intro c x r l p w b hI
  refine VC.of_acall (by simp [isDL, isD, QS, clA]) rfl (ACall.of_cut 16 bd (by simp) ?_)
  have hA' : VC P fA [] (.bool true) := hA
  have tl := Qq .i32 l
  by_cases h6 : 300 < l.length
  · simp (maxSteps := 4000000) (disch := omega) only [rr, aop, cV, cV1, AV.one, Qb, okW, Qd, app, Qa, Qc, Qe, Qf, Qg, simprocAttr, Qv, XS, clA, il]
    refine Qh.vc hA' ?_
    simp (maxSteps := 4000000) (disch := omega) only [rr, aop, cV, cV1, AV.one, Qb, okW, Qd, app, Qa, Qc, Qe, Qf, Qg, simprocAttr, XS]
  by_cases hp : 64 < p.length
  · simp (maxSteps := 4000000) (disch := omega) only [rr, aop, cV, cV1, AV.one, Qb, okW, Qd, app, Qa, Qc, Qe, Qf, Qg, simprocAttr, Qv, XS, clA, il]
    refine Qh.vc hA' ?_
    simp (maxSteps := 4000000) (disch := omega) only [rr, aop, cV, cV1, AV.one, Qb, okW, Qd, app, Qa, Qc, Qe, Qf, Qg, simprocAttr, XS]
  have hC' := hC c x r l hI (by omega)
  rw [il] at hC'
  rcases QcU c x r l with h | h
  case inr =>
    rw [h] at hC'
    simp (maxSteps := 4000000) (disch := omega) only [rr, aop, cV, cV1, AV.one, Qb, okW, Qd, app, Qa, Qc, Qe, Qf, Qg, simprocAttr, Qv, XS, clA, il]
    refine Qh.vc hA' ?_
    simp (maxSteps := 4000000) (disch := omega) only [rr, aop, cV, cV1, AV.one, Qb, okW, Qd, app, Qa, Qc, Qe, Qf, Qg, simprocAttr, XS]
    refine Qh.vc hC' ?_
    simp (maxSteps := 4000000) (disch := omega) only [rr, aop, cV, cV1, AV.one, Qb, okW, Qd, app, Qa, Qc, Qe, Qf, Qg, simprocAttr, XS]
  rw [h] at hC'
  by_cases hw0 : w < 0
  · simp (maxSteps := 4000000) (disch := omega) only [rr, aop, cV, cV1, AV.one, Qb, okW, Qd, app, Qa, Qc, Qe, Qf, Qg, simprocAttr, Qv, XS, clA, il]
    refine Qh.vc hA' ?_
    simp (maxSteps := 4000000) (disch := omega) only [rr, aop, cV, cV1, AV.one, Qb, okW, Qd, app, Qa, Qc, Qe, Qf, Qg, simprocAttr, XS]
    refine Qh.vc hC' ?_
    simp (maxSteps := 4000000) (disch := omega) only [rr, aop, cV, cV1, AV.one, Qb, okW, Qd, app, Qa, Qc, Qe, Qf, Qg, simprocAttr, XS]
  by_cases hb0 : b < 0
  · simp (maxSteps := 4000000) (disch := omega) only [rr, aop, cV, cV1, AV.one, Qb, okW, Qd, app, Qa, Qc, Qe, Qf, Qg, simprocAttr, Qv, XS, clA, il]
    refine Qh.vc hA' ?_
    simp (maxSteps := 4000000) (disch := omega) only [rr, aop, cV, cV1, AV.one, Qb, okW, Qd, app, Qa, Qc, Qe, Qf, Qg, simprocAttr, XS]
    refine Qh.vc hC' ?_
    simp (maxSteps := 4000000) (disch := omega) only [rr, aop, cV, cV1, AV.one, Qb, okW, Qd, app, Qa, Qc, Qe, Qf, Qg, simprocAttr, XS]
  have hF' := hF c x r l p hI (by omega)
  have hS' := hS c x r l hI (by omega)
  have hH' := hH c x r l
  have hT' := hT p
  rw [Qcw, if_neg hp] at hT'
  rw [clA, il] at hF' hS'
  rw [Qru h hp] at hF'
  rw [Qew, if_pos h] at hS'
  generalize hTT : ofK (QbR 0 p) 8 = T at *
  have hTl : T.length = 16 := by rw [← hTT]; simp [ofK]
  have hTI : I32 T := by rw [← hTT]; exact Qm4 _ _
  have hk : (ks .i32 T).length = 16 := by simp [Qk, hTl]
  have tt : (ks .i32 T).take 16 = ks .i32 T := Qs (by omega)
  have ot := ZP .i32 T
  have hfr := fun j (hj : j < (Qo c r l).length) => QwU (T := T) h hI hj
  have hsp := fun w W (hw : w < (Qo c r l).length) (hW : Zi W = 22) => Qq5 (p := p) (W := W) h hI hp hw hW
  rw [hTT] at hsp
  have hfok := Qrv (T := T) h hI
  have hpl := Qa7 c r l
  have hple := Qhh h
  have hfl := QbZ c x r l T
  have hlO := Qfa h
  obtain ⟨k, n, rfl, k1, k2, hlen, hok, h4⟩ := Jb h
  have hL' := hL r n hok
  have hk0 : (l.length : Int) / (k : Int) = n := by rw [hlen, Int.natCast_mul, Int.mul_ediv_cancel _ (by omega)]
  have hk3 : ((l.length : Int)).tdiv (k : Int) = n := by rw [Int.tdiv_eq_ediv_of_nonneg (by omega), hk0]
  have hq0 : (k : Int) ≠ 0 := by omega
  have hn4 : n ≤ 4000 := by have := hok.2.2.2.1; omega
  have hw : IntKind.i64.wrap ((l.length : Int) / (k : Int)) = n := by
    rw [hk0]
    exact QaW (by omega) (by omega)
  rw [Int.toNat_natCast] at hL'
  rw [Int.toNat_natCast, hlen, Nat.mul_div_cancel _ (by omega)] at hpl
  have hlL : ZN r (n : Int) = QJ (Qw r).toNat n := by unfold ZN; rw [Int.toNat_natCast]
  rw [hk0] at hfr hsp
  rw [hlL] at hfr
  rw [← hpl] at hL'
  have hp1 : 1 ≤ (Qo k r l).length := by rw [hpl, ZO]; exact Nat.le_add_left 1 _
  generalize QI k x r l T = FF at *
  generalize Qo k r l = S at *
  generalize QJ (Qw r).toNat n = LL at *
  have kn : (ks .i64 LL).length = S.length := by rw [Qk, hpl]
  have hmf : (FF.map bs).length = S.length := by rw [List.length_map, hfl]
  have hms : (S.map il).length = S.length := by simp
  rw [bss, hfl] at hF'
  rw [iss] at hS'
  rw [shA, il] at hH'
  simp (maxSteps := 4000000) (disch := omega) only [rr, aop, cV, cV1, AV.one, Qb, okW, Qd, app, Qa, Qc, Qe, Qf, Qg, simprocAttr, Qv, XS, clA, il]
  refine Qh.vc hA' ?_
  simp (maxSteps := 4000000) (disch := omega) only [rr, aop, cV, cV1, AV.one, Qb, okW, Qd, app, Qa, Qc, Qe, Qf, Qg, simprocAttr, XS]
  refine Qh.vc hC' ?_
  simp (maxSteps := 4000000) (disch := omega) only [rr, aop, cV, cV1, AV.one, Qb, okW, Qd, app, Qa, Qc, Qe, Qf, Qg, simprocAttr, XS]
  refine Qh.vc hH' ?_
  simp (maxSteps := 4000000) (disch := omega) only [rr, aop, cV, cV1, AV.one, Qb, okW, Qd, app, Qa, Qc, Qe, Qf, Qg, simprocAttr, XS]
  rw [hk0]
  refine Qh.vc hF' ?_
  simp (maxSteps := 4000000) (disch := omega) only [rr, aop, cV, cV1, AV.one, Qb, okW, Qd, app, Qa, Qc, Qe, Qf, Qg, simprocAttr, XS]
  refine Qh.vc hS' ?_
  simp (maxSteps := 4000000) (disch := omega) only [rr, aop, cV, cV1, AV.one, Qb, okW, Qd, app, Qa, Qc, Qe, Qf, Qg, simprocAttr, XS]
  refine Qh.vo hL' ?_
  simp (maxSteps := 4000000) (disch := omega) only [rr, aop, cV, cV1, AV.one, Qb, okW, Qd, app, Qa, Qc, Qe, Qf, Qg, simprocAttr, XS, shr]
  refine Qh.vc hT' ?_
  simp (maxSteps := 4000000) (disch := omega) only [rr, aop, cV, cV1, AV.one, Qb, okW, Qd, app, Qa, Qc, Qe, Qf, Qg, simprocAttr, XS, hk, ot, tt, hms, hmf, kn]
  refine QN.by (ι := Nat) (fun j => ⟨[(20, .int .i64 j), (18, .ref 3 1 0), (16, .own 2 S.length), (14, .list S.length (S.map il)), (12, .list S.length (FF.map bs)), (11, .int .i64 n), (10, .ref 1 1 0), (9, .bool true), (4, .ref 0 1 0), (1, .str p), (2, .int .i64 w), (3, .int .i64 b)],
    [⟨t0, 4, 1, [.int .i64 k, .int .i64 x, .int .i64 r, .list l.length (ks .i32 l)], 0⟩, ⟨t1, 2, 1, [.int .i64 k, .int .i64 x], 0⟩, ⟨ti, 1, S.length, ks .i64 LL, 0⟩, ⟨t2, 16, 1, ks .i32 T, 0⟩]⟩) (fun j => j ≤ S.length) (fun j => S.length - j) 0 (Le.slots (by simp [Am.look])) (by omega) ?_
  intro j hj
  by_cases hlt : j < S.length
  · have fo := hfr j hlt
    have e1 := QuM (L := S) hlt
    have e2 := Qn4 (L := FF) (k := j) (by omega)
    have e3 : (ks .i64 LL).drop j = .int .i64 (LL.getD j 0) :: (ks .i64 LL).drop (j + 1) := by
      have h := QbY (K := .i64) (l := LL) (i := j) (by omega)
      rw [← J0] at h
      exact h
    have hd := JG (FF.getD j [])
    have hs1 : Quz .neq (FF.getD j []) (FF.getD j []) = some (.bool false) := by simp [Quz]
    generalize FF.getD j [] = Fj at *
    generalize S.getD j [] = Sj at *
    generalize LL.getD j 0 = Lj at *
    obtain ⟨f1, f2, f3, f4, f5, f6, f7, f8, f9, f10, f11, f12, f13, f14⟩ := fo
    have hE' := hE k x T Sj hTl hTI f14
    have hN' := hN k x T Sj hTl hTI f14
    have hD' := hD k x Lj T Fj hTl hTI (by omega)
    have hJ' := hJ k x Lj T Fj hTl hTI (by omega)
    have hI' := hI0 Sj (by omega)
    rw [f3] at hE'
    rw [f4] at hN'
    rw [f5] at hD'
    rw [f6] at hJ'
    simp only [shA, il, bs] at hE' hN' hD' hJ' hI'
    rw [il] at e1
    rw [bs] at e2
    simp (maxSteps := 4000000) (disch := omega) only [rr, aop, cV, cV1, AV.one, Qb, okW, Qd, app, Qa, Qc, Qe, Qf, Qg, simprocAttr, XS, e1, hk, ot, tt, hms, hmf]
    refine QQ.vc hE' ?_
    simp (maxSteps := 4000000) (disch := omega) only [rr, aop, cV, cV1, AV.one, Qb, okW, Qd, app, Qa, Qc, Qe, Qf, Qg, simprocAttr, XS, e1, hk, ot, tt, hms, hmf]
    refine QQ.vc hN' ?_
    simp (maxSteps := 4000000) (disch := omega) only [rr, aop, cV, cV1, AV.one, Qb, okW, Qd, app, Qa, Qc, Qe, Qf, Qg, simprocAttr, XS, e1, e2, e3, hk, ot, tt, hms, hmf, kn]
    refine QQ.vc hD' ?_
    simp (maxSteps := 4000000) (disch := omega) only [rr, aop, cV, cV1, AV.one, Qb, okW, Qd, app, Qa, Qc, Qe, Qf, Qg, simprocAttr, XS, e1, e2, e3, hk, ot, tt, hms, hmf, kn]
    refine QQ.vc hJ' ?_
    simp (maxSteps := 4000000) (disch := omega) only [rr, aop, cV, cV1, AV.one, Qb, okW, Qd, app, Qa, Qc, Qe, Qf, Qg, simprocAttr, XS, e1, e2, e3, hk, ot, tt, hms, hmf, kn, hd, hs1]
    refine QQ.vc hI' ?_
    simp (maxSteps := 4000000) (disch := omega) only [rr, aop, cV, cV1, AV.one, Qb, okW, Qd, app, Qa, Qc, Qe, Qf, Qg, simprocAttr, XS, e1, e2, e3, hk, ot, tt, hms, hmf, kn, hd, hs1]
    exact ⟨j + 1, by omega, by omega, Le.dropT [_, _, _, _] (by simp [Qq, isTL, isT, tl]) (by simp [Am.look, QG, frzL, QF, frzL_T _ (Qah FF), frzL_T _ (Xq S)])⟩
  · have ej : j = S.length := by omega
    subst ej
    obtain ⟨w', rfl⟩ : ∃ m : Nat, w = m := ⟨w.toNat, by omega⟩
    obtain ⟨b', rfl⟩ : ∃ m : Nat, b = m := ⟨b.toNat, by omega⟩
    obtain ⟨v, hv⟩ : ∃ v, v = w' % S.length := ⟨_, rfl⟩
    have hvl : v < S.length := by rw [hv]; exact Nat.mod_lt _ (by omega)
    have r1 : (w' : Int) % (S.length : Int) = (v : Int) := by rw [hv]; simp
    have r1' : ((w' : Int)).tmod (S.length : Int) = (v : Int) := by rw [Int.tmod_eq_emod_of_nonneg (by omega)]; exact r1
    have r0 : (S.length : Int) ≠ 0 := by omega
    have fv := hfr v hvl
    obtain ⟨B, hB⟩ : ∃ B, B = FF.getD v [] := ⟨_, rfl⟩
    have e2 := Qn4 (L := FF) (k := v) (by omega)
    rw [← hB] at fv e2
    have hBo := fv.opn
    have hBlo := fv.lo
    have hBhi := fv.hi
    obtain ⟨A, hA0⟩ : ∃ A, A = b' % (8 * B.length) := ⟨_, rfl⟩
    have hA1 : A < 8 * B.length := by rw [hA0]; exact Nat.mod_lt _ (by omega)
    have r2 : (b' : Int) % (8 * (B.length : Int)) = (A : Int) := by rw [hA0]; simp
    have r2' : ((b' : Int)).tmod (8 * (B.length : Int)) = (A : Int) := by rw [Int.tmod_eq_emod_of_nonneg (by omega)]; exact r2
    have r3 : 8 * (B.length : Int) ≠ 0 := by omega
    obtain ⟨q, hq⟩ : ∃ q, q = A / 8 := ⟨_, rfl⟩
    obtain ⟨s, hs⟩ : ∃ s, s = A % 8 := ⟨_, rfl⟩
    have hqb : q < B.length := by omega
    have hs8 : s < 8 := by omega
    have hqs : 8 * q + s = A := by omega
    obtain ⟨y, y1, y2, y3⟩ := Qt4 (b := B) hqb hs8
    rw [hqs] at y3
    have hWo := Qo1 (b := B) hBo hA1
    have hWl := QrA B A
    generalize QrB B A = W at *
    have hp2 : 2 ^ s < 2 ^ 8 := Nat.pow_lt_pow_right (by decide) hs8
    have s3 : Qm true .u8 1 (s : Int) = some (.int .u8 ((2 ^ s : Nat) : Int)) := by
      have := QoB (K := .u8) rfl (c := 1) (s := s) (by show s ≤ 8; omega) (by rw [Nat.one_mul]; exact hp2)
      rw [Nat.one_mul] at this
      exact this
    have s4 := QpI (K := .u8) rfl (a := y) (b := 2 ^ s) y1 hp2
    generalize hz : y ^^^ 2 ^ s = z at *
    have s5 : (u8 B).take q ++ [.int .u8 (z : Int)] ++ (u8 B).drop (q + 1) = u8 W := by rw [← y3]; simp
    generalize 2 ^ s = pw at *
    have j1 : (A : Int) / 8 = (q : Int) := by omega
    have j2 : ((A : Int)).tdiv 8 = (q : Int) := by rw [Int.tdiv_eq_ediv_of_nonneg (by omega)]; exact j1
    have j3 : (A : Int) % 8 = (s : Int) := by omega
    have j4 : ((A : Int)).tmod 8 = (s : Int) := by rw [Int.tmod_eq_emod_of_nonneg (by omega)]; exact j3
    have hbl : (u8 B).length = B.length := Q4 B
    rw [bs] at e2
    simp (maxSteps := 4000000) (disch := omega) only [rr, aop, cV, cV1, AV.one, Qb, okW, Qd, app, Qa, Qc, Qe, Qf, Qg, simprocAttr, XS, hmf, hms, r1, r1', r0, e2, hbl, r2, r2', r3, j1, j2, j3, j4, y2, s3, s4, s5, y3]
    refine ⟨⟨[(30, .list B.length (u8 W)), (29, .own 4 S.length), (18, .ref 3 1 0), (16, .own 2 S.length), (14, .list S.length (S.map il)), (11, .int .i64 n), (10, .ref 1 1 0), (9, .bool true), (4, .ref 0 1 0), (2, .int .i64 v), (1, .str p)],
      [⟨t0, 4, 1, [.int .i64 k, .int .i64 x, .int .i64 r, .list l.length (ks .i32 l)], 0⟩, ⟨t1, 2, 1, [.int .i64 k, .int .i64 x], 0⟩, ⟨ti, 1, S.length, ks .i64 LL, 0⟩, ⟨t2, 16, 1, ks .i32 T, 0⟩, ⟨t4, 1, S.length, FF.map bs, 0⟩]⟩,
      Le.dropT [_, _, _, _, _] (by simp [Qq, isTL, isT, tl, Qah FF]) (by simp [Am.look, QG, frzL, QF, frzL_T _ (Zx W), frzL_T _ (Xq S)]), ?_⟩
    have hSPl : (FF.set v W).length = S.length := by rw [List.length_set, hfl]
    have s6 : (FF.map bs).take v ++ .list B.length (u8 W) :: (FF.map bs).drop (v + 1) = (FF.set v W).map bs := by
      rw [List.map_set, List.set_eq_take_append_cons_drop, if_pos (by rw [hmf]; exact hvl), bs, hWl]
    have s7 : (FF.map bs).take v ++ [.list B.length (u8 W)] ++ (FF.map bs).drop (v + 1) = (FF.set v W).map bs := by rw [← s6]; simp
    have hO' := hO k x r l p n (FF.set v W) (QwA hfok (by omega))
    rw [hsp v W hvl hWo] at hO'
    rw [bss, hSPl] at hO'
    simp only [clA, il, List.length_nil, QnE] at hO'
    have hset1 := QfR (L := FF) (w := v) W (by omega)
    have hset2 := fun j (hj : j ≠ v) => QfQ (L := FF) (w := v) (j := j) W hj
    generalize FF.set v W = SP at *
    have hmp : (SP.map bs).length = S.length := by rw [List.length_map, hSPl]
    have tSP := Qah SP
    simp (maxSteps := 4000000) (disch := omega) only [rr, aop, cV, cV1, AV.one, Qb, okW, Qd, app, Qa, Qc, Qe, Qf, Qg, simprocAttr, XS, hmf, s6, s7]
    refine Qh.still 1 [4] hO' (by simp [Q7, QG, frzL, QF, frzL_T _ tSP, frzL_T _ tl]) ?_
    simp (maxSteps := 4000000) (disch := omega) only [rr, aop, cV, cV1, AV.one, Qb, okW, Qd, app, Qa, Qc, Qe, Qf, Qg, simprocAttr, XS, hmp, Qy]
    refine QN.by (ι := Nat) (fun j => ⟨[(33, .int .i64 j), (29, .own 4 S.length), (18, .ref 3 1 0), (16, .own 2 S.length), (14, .list S.length (S.map il)), (10, .ref 1 1 0), (9, .bool true), (2, .int .i64 v)],
      [⟨t0, 4, 1, [.int .i64 k, .int .i64 x, .int .i64 r, .list l.length (ks .i32 l)], 0⟩, ⟨t1, 2, 1, [.int .i64 k, .int .i64 x], 0⟩, ⟨ti, 1, S.length, ks .i64 LL, 0⟩, ⟨t2, 16, 1, ks .i32 T, 0⟩, ⟨t4, 1, S.length, SP.map bs, S.length⟩]⟩) (fun j => j ≤ S.length) (fun j => S.length - j) 0 ?_ (by omega) ?_
    · exact Le.dropT [_, _, _, _, _] (by simp [Qq, isTL, isT, tl, tSP]) (by simp [Am.look, QG, frzL, QF, frzL_T _ (Xq S)])
    intro j hj
    by_cases hlt : j < S.length
    case neg =>
      have ej : j = S.length := by omega
      subst ej
      simp (maxSteps := 4000000) (disch := omega) only [rr, aop, cV, cV1, AV.one, Qb, okW, Qd, app, Qa, Qc, Qe, Qf, Qg, simprocAttr, XS, hmp]
    have fo := hfr j hlt
    have e1 := QuM (L := S) hlt
    have e4 := Qn4 (L := SP) (k := j) (by omega)
    have e3 : (ks .i64 LL).drop j = .int .i64 (LL.getD j 0) :: (ks .i64 LL).drop (j + 1) := by
      have h := QbY (K := .i64) (l := LL) (i := j) (by omega)
      rw [← J0] at h
      exact h
    have er := QuC (S.getD j []).length
    have hSj := fo.i32
    have hSj2 := fo.slen
    have ha2 := fo.ask2
    by_cases hjv : j = v
    · have hR' := hR k x (LL.getD j 0) T (SP.getD j []) hTl hTI (by rw [hjv, hset1]; omega)
      rw [hjv, hset1, ← hjv, Qrq ha2 hWo, fo.sil] at hR'
      have hI' := hI0 (List.replicate (S.getD j []).length 0) (by rw [List.length_replicate]; omega)
      have hwb : bs W = .list B.length (u8 W) := by rw [bs, hWl]
      have e4' : SP.getD j [] = W := by rw [hjv, hset1]
      rw [e4', hwb] at e4
      rw [hwb] at hR'
      have tz : isTL (ks .i32 (List.replicate (S.getD j []).length 0)) = true := Qq _ _
      have hzl : (ks .i32 (List.replicate (S.getD j []).length 0)).length = (S.getD j []).length := by rw [Qk]; simp
      simp only [shA, il, List.length_replicate] at hR' hI'
      rw [il] at e1
      generalize ks .i32 (List.replicate (S.getD j []).length 0) = Z at *
      generalize S.getD j [] = Sj at *
      generalize LL.getD j 0 = Lj at *
      subst hjv
      simp (maxSteps := 4000000) (disch := omega) only [rr, aop, cV, cV1, AV.one, Qb, okW, Qd, app, Qa, Qc, Qe, Qf, Qg, simprocAttr, XS, hk, ot, tt, hmp, kn, e3, e4, hms]
      refine QQ.vc hR' ?_
      simp (maxSteps := 4000000) (disch := omega) only [rr, aop, cV, cV1, AV.one, Qb, okW, Qd, app, Qa, Qc, Qe, Qf, Qg, simprocAttr, XS, e1, hms, er, hzl]
      refine Qh.still 1 [5] hI' (by simp [Q7, QG, frzL, QF, frzL_T _ tz]) ?_
      simp (maxSteps := 4000000) (disch := omega) only [rr, aop, cV, cV1, AV.one, Qb, okW, Qd, app, Qa, Qc, Qe, Qf, Qg, simprocAttr, XS, Qy]
      exact ⟨j + 1, by omega, by omega, Le.dropT [_, _, _, _, _] (by simp [Qq, isTL, isT, tl, tSP]) (by simp [Am.look, QG, frzL, QF, frzL_T _ (Xq S)])⟩
    · have hR' := hR k x (LL.getD j 0) T (SP.getD j []) hTl hTI (by rw [hset2 j hjv]; have := fo.hi; omega)
      rw [hset2 j hjv, fo.hea] at hR'
      rw [hset2 j hjv] at e4
      have hI' := hI0 (S.getD j []) (by omega)
      simp only [shA, il, bs] at hR' hI'
      rw [il] at e1
      rw [bs] at e4
      generalize S.getD j [] = Sj at *
      generalize LL.getD j 0 = Lj at *
      generalize FF.getD j [] = Fj at *
      simp (maxSteps := 4000000) (disch := omega) only [rr, aop, cV, cV1, AV.one, Qb, okW, Qd, app, Qa, Qc, Qe, Qf, Qg, simprocAttr, XS, hk, ot, tt, hmp, kn, e3, e4, hms]
      refine QQ.vc hR' ?_
      simp (maxSteps := 4000000) (disch := omega) only [rr, aop, cV, cV1, AV.one, Qb, okW, Qd, app, Qa, Qc, Qe, Qf, Qg, simprocAttr, XS, e1, hms]
      refine Qh.vc hI' ?_
      simp (maxSteps := 4000000) (disch := omega) only [rr, aop, cV, cV1, AV.one, Qb, okW, Qd, app, Qa, Qc, Qe, Qf, Qg, simprocAttr, XS]
      exact ⟨j + 1, by omega, by omega, Le.slots (by simp [Am.look])⟩
end Go.Am

namespace Go.Am
open Go.RowKit

/-! ### A clip cs0 an argument -/

def QxS : Sh := .tuple [.int .i64, .int .i64, .int .i64, .slice (.int .i32)]
theorem QrE {cs0 : List AV} (h : Qbv QxS cs0) : ∃ (c x r : Int) (l : List Int), cs0 = [.int .i64 c, .int .i64 x, .int .i64 r, il l] ∧ I32 l := by
  simp only [QxS, Qbv, FitsL] at h
  obtain ⟨_, _, rfl, ⟨c, rfl, _⟩, _, _, rfl, ⟨x, rfl, _⟩, _, _, rfl, ⟨r, rfl, _⟩, _, _, rfl, ⟨L, rfl, _, h2⟩, rfl⟩ := h
  obtain ⟨l, _, e2, hi⟩ := Qke (L := L) (fun c hc => by simp only [Qbv]; exact h2 c hc)
  exact ⟨c, x, r, l, by simp [e2], hi⟩
end Go.Am
