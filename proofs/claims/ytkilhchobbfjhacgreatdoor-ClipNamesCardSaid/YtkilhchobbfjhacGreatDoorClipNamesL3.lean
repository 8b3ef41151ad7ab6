/- What the functions that the law reaches return, for every program that has their code; the conditions stand in each statement. -/
import Derived.Test.YtkilhchobbfjhacGreatDoorClipNamesL2
set_option linter.unusedSectionVars false
set_option linter.unusedSimpArgs false
set_option linter.unusedVariables false
namespace Go.Am
open Go.RowKit

/-! ### CRC-64 -/

def QgN (i : Nat) : List Int := (List.range 256).map fun j => if j < i then ((Qdx 8 (j * 72057594037927936) : Nat) : Int) else 0
theorem ZX (i : Nat) : (QgN i).length = 256 := by simp [QgN]
theorem Qdw {i j : Nat} (h : j < 256) : (QgN i)[j]'(by rw [ZX]; exact h) = if j < i then ((Qdx 8 (j * 72057594037927936) : Nat) : Int) else 0 := by simp [QgN]
theorem QpJ {i : Nat} (h : i < 256) : (QgN i).set i ((Qdx 8 (i * 72057594037927936) : Nat) : Int) = QgN (i + 1) := by
  refine List.ext_getElem (by simp [ZX]) fun j h1 h2 => ?_
  have hj : j < 256 := by simpa [ZX] using h2
  rw [List.getElem_set, Qdw hj]
  split
  · rename_i e; subst e; rw [Qdw hj, if_pos (by omega)]
  · rename_i e; rw [Qdw hj]
    by_cases h3 : j < i
    · rw [if_pos h3, if_pos (by omega)]
    · rw [if_neg h3, if_neg (by omega)]

theorem QrA (c : Nat) : Qp true .u64 (c : Int) 1 = some (.int .u64 (((2 * c) % 18446744073709551616 : Nat) : Int)) := by
  have h3 : ¬ ((1 : Int) < 0) := by omega
  simp only [Qp, if_neg h3, if_true]
  have h5 : (min (1 : Int).toNat IntKind.u64.bits) = 1 := rfl
  rw [h5, Zg]
  congr 2
  omega
theorem Qnr (c : Nat) : Qp true .u64 (c : Int) 8 = some (.int .u64 ((c * 256 % 18446744073709551616 : Nat) : Int)) := by
  have h3 : ¬ ((8 : Int) < 0) := by omega
  simp only [Qp, if_neg h3, if_true]
  have h5 : (min (8 : Int).toNat IntKind.u64.bits) = 8 := rfl
  rw [h5, Zg]
  congr 2

def Qgx (P : Prg) (f : Nat) : Prop := VC P f [] (.cell (ks .u64 (QgN 256)))
set_option maxRecDepth 40000 in
theorem Qjt {P : Prg} {f t0 : Nat} (bd : Qo P f 25 [.tmp 0] (JM t0)) : Qgx P f := by
  refine VC.of_walk 1 rfl (by simp [isD, Qoc (Qv _ _)]) (ACall.of_body bd (by simp) ?_)
  unfold JM
  simp (maxSteps := 4000000) (disch := omega) only [rr, aop, cV, cV1, AV.one, Qb, okW, Qd, app, Qa, Qc, Qe, Qf, Qg, simprocAttr]
  refine QQ.by (ι := Nat) (fun i => ⟨[(5, .int .i64 i), (1, .ref 0 1 0)], [⟨t0, 256, 1, ks .u64 (QgN i), 0⟩]⟩) (fun i => i ≤ 256) (fun i => 256 - i) 0 (Le.slots (by simp [Am.look])) (by omega) ?_
  intro i hi
  by_cases hlt : i < 256
  · have s0 : Qp true .u64 (i : Int) 56 = some (.int .u64 ((i * 72057594037927936 : Nat) : Int)) := by
      have := QmG (K := .u64) rfl (c := i) (s := 56) (by decide) (by show i * 2 ^ 56 < 2 ^ 64; omega)
      exact this
    have w0 : IntKind.u64.wrap (i : Int) = i := Qa1 (by omega) (by omega)
    simp (maxSteps := 4000000) (disch := omega) only [rr, aop, cV, cV1, AV.one, Qb, okW, Qd, app, Qa, Qc, Qe, Qf, Qg, simprocAttr, s0, w0]
    refine QQ.by (ι := Nat) (fun j => ⟨[(11, .int .i64 j), (3, .int .u64 (Qdx j (i * 72057594037927936))), (5, .int .i64 i), (2, .int .i64 i), (1, .ref 0 1 0)], [⟨t0, 256, 1, ks .u64 (QgN i), 0⟩]⟩) (fun j => j ≤ 8) (fun j => 8 - j) 0 (Le.slots (by simp [Am.look, Qdx])) (by omega) ?_
    intro j hj
    by_cases hjl : j < 8
    · have hc := QfL j (c := i * 72057594037927936) (by omega)
      have hn := Qhh j (i * 72057594037927936)
      generalize Qdx j (i * 72057594037927936) = c at *
      have a1 := QrA c
      have a2 : Qp false .u64 (c : Int) 63 = some (.int .u64 ((c / 9223372036854775808 : Nat) : Int)) := QgO (K := .u64) (n := c) (k := 63) (by decide)
      have hm := Nat.mod_lt (2 * c) (show 0 < 18446744073709551616 by decide)
      by_cases h2 : 9223372036854775808 ≤ c
      · have a3 : IntKind.u64.wrap (BitVec.ofInt IntKind.u64.bits ((2 * c % 18446744073709551616 : Nat) : Int) ^^^ BitVec.ofInt IntKind.u64.bits 4823603603198064275).toNat = ((Qdx (j + 1) (i * 72057594037927936) : Nat) : Int) := by
          rw [hn, QpT, if_pos h2]
          exact Qpw (K := .u64) rfl (a := 2 * c % 18446744073709551616) (b := 4823603603198064275) hm (by decide)
        have a4 : c / 9223372036854775808 = 1 := by omega
        rw [a4] at a2
        generalize 2 * c % 18446744073709551616 = d at *
        simp (maxSteps := 4000000) (disch := omega) only [rr, aop, cV, cV1, AV.one, Qb, okW, Qd, app, Qa, Qc, Qe, Qf, Qg, simprocAttr, a1, a2, a3]
        exact ⟨j + 1, by omega, by omega, Le.slots (by simp [Am.look])⟩
      · have a3 : IntKind.u64.wrap (BitVec.ofInt IntKind.u64.bits ((2 * c % 18446744073709551616 : Nat) : Int) ^^^ BitVec.ofInt IntKind.u64.bits 0).toNat = ((Qdx (j + 1) (i * 72057594037927936) : Nat) : Int) := by
          rw [hn, QpT, if_neg h2]
          exact Qpw (K := .u64) rfl (a := 2 * c % 18446744073709551616) (b := 0) hm (by decide)
        have a4 : c / 9223372036854775808 = 0 := by omega
        rw [a4] at a2
        generalize 2 * c % 18446744073709551616 = d at *
        simp (maxSteps := 4000000) (disch := omega) only [rr, aop, cV, cV1, AV.one, Qb, okW, Qd, app, Qa, Qc, Qe, Qf, Qg, simprocAttr, a1, a2, a3]
        exact ⟨j + 1, by omega, by omega, Le.slots (by simp [Am.look])⟩
    · obtain rfl : j = 8 := by omega
      have e1 := ZX i
      have e2 := Ql .u64 (QgN i)
      have e3 : (ks .u64 (QgN i)).take i ++ [.int .u64 (Qdx 8 (i * 72057594037927936))] ++ (ks .u64 (QgN i)).drop (i + 1) = ks .u64 (QgN (i + 1)) := by
        rw [← QpJ hlt, List.set_eq_take_append_cons_drop, if_pos (by rw [ZX]; exact hlt)]; simp [ks, List.map_take, List.map_drop]
      simp (maxSteps := 4000000) (disch := omega) only [rr, aop, cV, cV1, AV.one, Qb, okW, Qd, app, Qa, Qc, Qe, Qf, Qg, simprocAttr, e1, e2, e3]
      exact ⟨i + 1, by omega, by omega, Le.slots (by simp [Am.look])⟩
  · obtain rfl : i = 256 := by omega
    simp (maxSteps := 4000000) (disch := omega) only [rr, aop, cV, cV1, AV.one, Qb, okW, Qd, app, Qa, Qc, Qe, Qf, Qg, simprocAttr]
    simp [QH, Qy, frzL, Qx, frzL_T _ (Qv _ _)]

def QeC (P : Prg) (f : Nat) : Prop := ∀ (s : Nat) (l : List UInt8), s < 18446744073709551616 → l.length ≤ 1000000 → VC P f [.cell (ks .u64 (QgN 256)), .int .u64 s, bs l] (.int .u64 (Qbh s l : Nat))
set_option maxRecDepth 40000 in
theorem QhW {P : Prg} {f : Nat} (bd : Qo P f 29 [.tmp 6] Jl) : QeC P f := by
  intro s l hs hl
  refine VC.of_acall (by simp [isDL, isD, Z5, QZ]) rfl (ACall.of_body bd (by simp) ?_)
  have t0 := Ql .u64 (QgN 256)
  rw [ZX] at t0
  simp (maxSteps := 4000000) (disch := omega) only [rr, aop, cV, cV1, AV.one, Qb, okW, Qd, app, Qa, Qc, Qe, Qf, Qg, simprocAttr, Jl, bs]
  refine QQ.by (ι := Nat) (fun k => ⟨[(11, .int .i64 k), (10, .int .i64 l.length), (9, .list l.length (u8 l)), (0, .cell (ks .u64 (QgN 256))), (1, .int .u64 (Qbh s (l.take k)))], []⟩) (fun k => k ≤ l.length) (fun k => l.length - k) 0 (Le.slots (by simp [Am.look, Qbh])) (by omega) ?_
  intro k hk
  have hc := QiR (l := l.take k) hs
  by_cases hlt : k < l.length
  · have e1 := Qc2 hlt
    have hn := Qno (s := s) hlt
    generalize Qbh s (l.take k) = c at *
    have hb := (l[k]).toNat_lt
    rw [QlI hc hb] at hn
    have h0 : (c / 72057594037927936 ^^^ (l[k]).toNat) < 256 := Nat.xor_lt_two_pow (n := 8) (by omega) hb
    have h1 := QfL 8 (c := (c / 72057594037927936 ^^^ (l[k]).toNat) * 72057594037927936) (by omega)
    have a1 : Qp false .u64 (c : Int) 56 = some (.int .u64 ((c / 72057594037927936 : Nat) : Int)) := QgO (K := .u64) (n := c) (k := 56) (by decide)
    have a0 := Qnr c
    have a2 : IntKind.u8.wrap ((c / 72057594037927936 : Nat) : Int) = ((c / 72057594037927936 : Nat) : Int) := by rw [Qbt]; omega
    have a3 : IntKind.u8.wrap (BitVec.ofInt IntKind.u8.bits ((c / 72057594037927936 : Nat) : Int) ^^^ BitVec.ofInt IntKind.u8.bits ((l[k]).toNat : Int)).toNat = ((c / 72057594037927936 ^^^ (l[k]).toNat : Nat) : Int) :=
      Qpw (K := .u8) rfl (a := c / 72057594037927936) (b := (l[k]).toNat) (by show c / 72057594037927936 < 256; omega) hb
    have hm := Nat.mod_lt (c * 256) (show 0 < 18446744073709551616 by decide)
    have a4 : IntKind.u64.wrap (BitVec.ofInt IntKind.u64.bits ((c * 256 % 18446744073709551616 : Nat) : Int) ^^^ BitVec.ofInt IntKind.u64.bits ((Qdx 8 ((c / 72057594037927936 ^^^ (l[k]).toNat) * 72057594037927936) : Nat) : Int)).toNat = ((Qbh s (l.take (k + 1)) : Nat) : Int) := by
      rw [hn]; exact Qpw (K := .u64) rfl hm h1
    generalize c * 256 % 18446744073709551616 = d at *
    generalize c / 72057594037927936 ^^^ (l[k]).toNat = x at *
    have e2 : (ks .u64 (QgN 256)).drop x = .int .u64 ((Qdx 8 (x * 72057594037927936) : Nat) : Int) :: ks .u64 ((QgN 256).drop (x + 1)) := by
      rw [Qag, List.drop_eq_getElem_cons (by rw [ZX]; exact h0), Qby, Qdw h0, if_pos h0]
    generalize c / 72057594037927936 = q at *
    simp (maxSteps := 4000000) (disch := omega) only [rr, aop, cV, cV1, AV.one, Qb, okW, Qd, app, Qa, Qc, Qe, Qf, Qg, simprocAttr, e1, a0, a1, a2, a3, a4, e2, t0]
    exact ⟨k + 1, by omega, by omega, Le.slots (by simp [Am.look])⟩
  · have ek : k = l.length := by omega
    subst ek
    rw [List.take_length]
    simp (maxSteps := 4000000) (disch := omega) only [rr, aop, cV, cV1, AV.one, Qb, okW, Qd, app, Qa, Qc, Qe, Qf, Qg, simprocAttr]

def Qkc (P : Prg) (f : Nat) : Prop := ∀ (s : Nat) (l : List UInt8), s < 18446744073709551616 → VC P f [.int .u64 s, bs l] (if 100000 < l.length then .tup [.int .u64 0, .int .i64 4] else .tup [.int .u64 (Qbh s l), .int .i64 0])
theorem Qmc {P : Prg} {f fT fB : Nat} (bd : Qo P f 13 [.tmp 4, .tmp 5] (X2 fT fB)) (hT : Qgx P fT) (hB : QeC P fB) : Qkc P f := by
  intro s l hs
  refine VC.of_acall (by simp [isDL, isD, Z5]) (by split <;> rfl) (ACall.of_body bd (by simp) ?_)
  by_cases hl : 100000 < l.length
  · rw [if_pos hl]
    simp (maxSteps := 4000000) (disch := omega) only [rr, aop, cV, cV1, AV.one, Qb, okW, Qd, app, Qa, Qc, Qe, Qf, Qg, simprocAttr, X2, bs]
  · rw [if_neg hl]
    have hB' := hB s l hs (by omega)
    rw [bs] at hB'
    have hT' : VC P fT [] _ := hT
    simp (maxSteps := 4000000) (disch := omega) only [rr, aop, cV, cV1, AV.one, Qb, okW, Qd, app, Qa, Qc, Qe, Qf, Qg, simprocAttr, X2, bs]
    refine Qh.vc hT' ?_
    simp (maxSteps := 4000000) (disch := omega) only [rr, aop, cV, cV1, AV.one, Qb, okW, Qd, app, Qa, Qc, Qe, Qf, Qg, simprocAttr]
    refine Qh.vc hB' ?_
    simp (maxSteps := 4000000) (disch := omega) only [rr, aop, cV, cV1, AV.one, Qb, okW, Qd, app, Qa, Qc, Qe, Qf, Qg, simprocAttr]

def Qpl (P : Prg) (f : Nat) : Prop := ∀ (l : List UInt8), VC P f [bs l] (if 100000 < l.length then .tup [.int .u64 0, .int .i64 4] else .tup [.int .u64 (Qbh 0 l), .int .i64 0])
theorem QoI {P : Prg} {f fN : Nat} (bd : Qo P f 8 [.tmp 2, .tmp 3] (Jz fN)) (hN : Qkc P fN) : Qpl P f := by
  intro l
  refine VC.of_acall (by simp [isDL, isD, Z5]) (by split <;> rfl) (ACall.of_body bd (by simp) ?_)
  have hN' := hN 0 l (by decide)
  rw [bs] at hN'
  by_cases hl : 100000 < l.length
  · rw [if_pos hl] at hN' ⊢
    simp (maxSteps := 4000000) (disch := omega) only [rr, aop, cV, cV1, AV.one, Qb, okW, Qd, app, Qa, Qc, Qe, Qf, Qg, simprocAttr, Jz, bs]
    refine Qh.vc hN' ?_
    simp (maxSteps := 4000000) (disch := omega) only [rr, aop, cV, cV1, AV.one, Qb, okW, Qd, app, Qa, Qc, Qe, Qf, Qg, simprocAttr]
  · rw [if_neg hl] at hN' ⊢
    simp (maxSteps := 4000000) (disch := omega) only [rr, aop, cV, cV1, AV.one, Qb, okW, Qd, app, Qa, Qc, Qe, Qf, Qg, simprocAttr, Jz, bs]
    refine Qh.vc hN' ?_
    simp (maxSteps := 4000000) (disch := omega) only [rr, aop, cV, cV1, AV.one, Qb, okW, Qd, app, Qa, Qc, Qe, Qf, Qg, simprocAttr]
end Go.Am

namespace Go.Am
open Go.RowKit

/-! ### Taps of passwords -/

def sb8 (x : Nat) : Int := if 127 < x % 256 then ((x % 256 : Nat) : Int) - 256 else ((x % 256 : Nat) : Int)
theorem QsP (x : Nat) : -128 ≤ sb8 x ∧ sb8 x ≤ 127 := by unfold sb8; split <;> omega
def ofK (d k : Nat) : List Int := (List.range 16).map fun i => if i < k then sb8 (d / 2 ^ (8 * i)) else 0
theorem Qbw (d k : Nat) : (ofK d k).length = 16 := by simp [ofK]
theorem QrO {d k : Nat} (h : k < 16) : (ofK d k).set k (sb8 (d / 2 ^ (8 * k))) = ofK d (k + 1) := by
  refine List.ext_getElem (by simp [Qbw]) fun j h1 h2 => ?_
  have hj : j < 16 := by simpa [Qbw] using h2
  rw [List.getElem_set]
  simp only [ofK, List.getElem_map, List.getElem_range]
  split
  · rename_i e; subst e; rw [if_pos (by omega)]
  · by_cases h3 : j < k
    · rw [if_pos h3, if_pos (by omega)]
    · rw [if_neg h3, if_neg (by omega)]
theorem Qrk (x : Nat) : IntKind.i8.wrap (x : Int) = sb8 x := by
  unfold sb8
  simp only [IntKind.wrap, IntKind.bits, IntKind.signed]
  simp
  split <;> split <;> omega
def Qpm (P : Prg) (f : Nat) : Prop := ∀ d : Nat, d < 18446744073709551616 → VC P f [.int .u64 d] (.agg (ks .i32 (ofK d 8)))
theorem QrI {P : Prg} {f t0 : Nat} (bd : Qo P f 18 [.cell 2 t0] (QcK t0)) (ht : Zs P t0 = some (some 16)) : Qpm P f := by
  intro d hd
  refine VC.of_acall rfl (by simp [isD, QZ]) (ACall.of_body bd (by simp) ?_)
  unfold QcK
  have z : ([.int .i32 0, .int .i32 0, .int .i32 0, .int .i32 0, .int .i32 0, .int .i32 0, .int .i32 0, .int .i32 0, .int .i32 0, .int .i32 0, .int .i32 0, .int .i32 0, .int .i32 0, .int .i32 0, .int .i32 0, .int .i32 0] : List AV) = ks .i32 (ofK 0 0) := rfl
  have z0 : ks .i32 (ofK 0 0) = ks .i32 (ofK d 0) := rfl
  rw [z]
  have ol := XE .i32 (ofK 0 0)
  have kl0 : (ks .i32 (ofK 0 0)).length = 16 := rfl
  simp (maxSteps := 4000000) (disch := omega) only [rr, aop, cV, cV1, AV.one, Qb, okW, Qd, app, Qa, Qc, Qe, Qf, Qg, simprocAttr, ol, kl0]
  refine QQ.by (ι := Nat) (fun i => ⟨[(5, .int .i64 i), (0, .int .u64 d), (3, .ref 1 1 0), (2, .ref 0 1 0)], [⟨t0, 16, 1, ks .i32 (ofK 0 0), 0⟩, ⟨t0, 16, 1, ks .i32 (ofK d i), 0⟩]⟩) (fun i => i ≤ 8) (fun i => 8 - i) 0 (Le.slots (by simp [Am.look])) (by omega) ?_
  intro i hi
  have kl : (ks .i32 (ofK d i)).length = 16 := by rw [Ql, Qbw]
  by_cases hlt : i < 8
  · have a1 : Qp false .u64 (d : Int) (8 * (i : Int)) = some (.int .u64 ((d / 2 ^ (8 * i) : Nat) : Int)) := by
      have := QgO (K := .u64) (n := d) (k := 8 * i) (by show 8 * i ≤ 64; omega)
      simpa using this
    have a2 := Qrk (d / 2 ^ (8 * i))
    have a3 := QsP (d / 2 ^ (8 * i))
    have e3 : (ks .i32 (ofK d i)).take i ++ [.int .i32 (sb8 (d / 2 ^ (8 * i)))] ++ (ks .i32 (ofK d i)).drop (i + 1) = ks .i32 (ofK d (i + 1)) := by
      rw [← QrO (by omega), List.set_eq_take_append_cons_drop, if_pos (by rw [Qbw]; omega)]; simp [ks, List.map_take, List.map_drop]
    generalize d / 2 ^ (8 * i) = q at *
    generalize sb8 q = y at *
    simp (maxSteps := 4000000) (disch := omega) only [rr, aop, cV, cV1, AV.one, Qb, okW, Qd, app, Qa, Qc, Qe, Qf, Qg, simprocAttr, a1, a2, kl, e3]
    exact ⟨i + 1, by omega, by omega, Le.slots (by simp [Am.look])⟩
  · obtain rfl : i = 8 := by omega
    have o8 := XE .i32 (ofK d 8)
    have t8 : (ks .i32 (ofK d 8)).take 16 = ks .i32 (ofK d 8) := List.take_of_length_le (by omega)
    simp (maxSteps := 4000000) (disch := omega) only [rr, aop, cV, cV1, AV.one, Qb, okW, Qd, app, Qa, Qc, Qe, Qf, Qg, simprocAttr, kl, kl0, t8, o8, Zf, ht]
    try simp [kl]

theorem Qq9 : ∀ p : List UInt8, isTL (u8 p) = true
  | [] => rfl
  | b :: p => by have := Qq9 p; simp only [u8, List.map_cons, isTL, isT, Bool.true_and] at this ⊢; exact this
def Zw : List Int := List.replicate 16 0
def Qbu (p : List UInt8) : AV := if 64 < p.length then .tup [.agg (ks .i32 Zw), .int .i64 2] else .tup [.agg (ks .i32 (ofK (Qbh 0 p) 8)), .int .i64 0]
theorem Qqq (p : List UInt8) : isD (Qbu p) = true := by unfold Qbu; split <;> simp [isD, isDL, QZ]
def Qlg (P : Prg) (f : Nat) : Prop := ∀ p : List UInt8, VC P f [.str p] (Qbu p)
theorem Qnv {P : Prg} {f fS fO t0 : Nat} (bd : Qo P f 22 [.cell 2 t0, .tmp 3] (QaW fS fO t0)) (hS : Qpl P fS) (hO : Qpm P fO) (ht : Zs P t0 = some (some 16)) : Qlg P f := by
  intro p
  refine VC.of_acall rfl (Qqq p) (ACall.of_body bd (by simp) ?_)
  unfold QaW
  have z : ([.int .i32 0, .int .i32 0, .int .i32 0, .int .i32 0, .int .i32 0, .int .i32 0, .int .i32 0, .int .i32 0, .int .i32 0, .int .i32 0, .int .i32 0, .int .i32 0, .int .i32 0, .int .i32 0, .int .i32 0, .int .i32 0] : List AV) = ks .i32 Zw := rfl
  rw [z]
  have ol := XE .i32 Zw
  have kl0 : (ks .i32 Zw).length = 16 := rfl
  have t0' : (ks .i32 Zw).take 16 = ks .i32 Zw := rfl
  by_cases hp : 64 < p.length
  · have e9 : Qbu p = .tup [.agg (ks .i32 Zw), .int .i64 2] := by rw [Qbu, if_pos hp]
    simp (maxSteps := 4000000) (disch := omega) only [rr, aop, cV, cV1, AV.one, Qb, okW, Qd, app, Qa, Qc, Qe, Qf, Qg, simprocAttr, ol, kl0, Zf, ht, t0', e9]
    rfl
  · have e9 : Qbu p = .tup [.agg (ks .i32 (ofK (Qbh 0 p) 8)), .int .i64 0] := by rw [Qbu, if_neg hp]
    have hS' := hS p
    rw [if_neg (by omega)] at hS'
    have hO' := hO (Qbh 0 p) (QiR (by decide))
    have o8 := XE .i32 (ofK (Qbh 0 p) 8)
    have kl : (ks .i32 (ofK (Qbh 0 p) 8)).length = 16 := by rw [Ql, Qbw]
    have t8 : (ks .i32 (ofK (Qbh 0 p) 8)).take 16 = ks .i32 (ofK (Qbh 0 p) 8) := List.take_of_length_le (by omega)
    have tp := Qq9 p
    rw [bs] at hS'
    simp (maxSteps := 4000000) (disch := omega) only [rr, aop, cV, cV1, AV.one, Qb, okW, Qd, app, Qa, Qc, Qe, Qf, Qg, simprocAttr, ol, kl0]
    refine Qh.flat 1 hS' rfl (by simp [QH, Qy, frzL, Qx, frzL_T _ tp]) ?_
    simp (maxSteps := 4000000) (disch := omega) only [rr, aop, cV, cV1, AV.one, Qb, okW, Qd, app, Qa, Qc, Qe, Qf, Qg, simprocAttr]
    refine Qh.vc hO' ?_
    have zl : Zw.length = 16 := rfl
    have zd : (ks .i32 Zw).drop 16 = [] := rfl
    simp (maxSteps := 4000000) (disch := omega) only [rr, aop, cV, cV1, AV.one, Qb, okW, Qd, app, Qa, Qc, Qe, Qf, Qg, simprocAttr, o8, kl, t8, Zf, ht, e9, zl, zd, List.append_nil]
    try simp [kl]
end Go.Am

namespace Go.Am
open Go.RowKit

/-! ### clip.Frames -/

theorem QrT {L n j : Nat} (hn : 1 ≤ n) (hL : 1 ≤ L) (hj : j < (Q9 L n).length) : 1 ≤ (Q9 L n).getD j 0 := by
  rw [List.getD_eq_getElem?_getD, List.getElem?_eq_getElem hj, Option.getD_some]
  have hm := List.getElem_mem hj
  unfold Q9 at hm
  simp only [List.mem_append, List.mem_replicate, List.mem_singleton] at hm
  unfold Q9
  rcases hm with hm | hm
  · rw [hm.2]; omega
  · rw [hm]
    have g0 : (n - 1) / L * L ≤ n - 1 := Nat.div_mul_le_self _ _
    clear hm
    generalize (n - 1) / L * L = w at *
    omega
theorem Qsn {c x : Int} {l p : List Int} (h : Qcq c x l = 0) (hs : ∀ v ∈ p, v ∈ l) (hp : 1 ≤ p.length) (hl : p.length ≤ l.length) (hc : (p.length : Int) % c = 0) : Qcq c x p = 0 := by
  unfold Qcq at h ⊢
  split at h
  · cases h
  rename_i h1
  split at h
  · rename_i h2; exact absurd h h2
  rename_i h2
  have h2' : QM x l = 0 := by simpa using h2
  have h3 : QM x p = 0 := by
    unfold QM at h2' ⊢
    split at h2'
    · cases h2'
    rename_i a1
    split at h2'
    · cases h2'
    rename_i a2
    split at h2'
    · rename_i a3
      rw [if_neg a1, if_neg (by omega), if_pos (List.all_eq_true.2 fun v hv => List.all_eq_true.1 a3 v (hs v hv))]
    · cases h2'
  rw [if_neg h1, if_neg (by rw [h3]; simp), if_neg (by omega)]
theorem QnP {c x r : Int} {l : List Int} (h : Zc c x r l = 0) : ∀ p ∈ QF c r l, Qcq c x p = 0 ∧ p.length ≤ 4000 ∧ 1 ≤ p.length := by
  have ha : Qcq c x l = 0 := by
    have h2 := QqI (c := c) (x := x) (r := r) (l := l)
    rw [h] at h2
    by_cases h3 : Qcq c x l = 0 ∧ Z6 c x r (l.length / c) = 0
    · exact h3.1
    · rw [if_neg h3] at h2; cases h2
  obtain ⟨k, n, rfl, k1, k2, hlen, ⟨o1, o2, o3, o4, o5⟩, h4⟩ := Qca h
  intro p hp
  unfold QF at hp
  rw [Int.toNat_natCast, hlen, Nat.mul_div_cancel _ (by omega)] at hp
  obtain ⟨j, hj, rfl⟩ := List.mem_map.1 hp
  rw [List.mem_range] at hj
  have hL1 : 1 ≤ (QJ r).toNat := by have := JV r; omega
  obtain ⟨m, p1, p2, p3, p4, p5, p6, p7⟩ := Qfh (j := j) hlen (by omega) hL1 hj
  have hm1 := QrT (n := n) (by omega) hL1 hj
  rw [p1] at hm1
  have hlen2 : (Zx ((QJ r).toNat * k) l j).length = m * k := by
    rw [p6, List.length_take, List.length_drop, hlen]
    omega
  have hmk : 1 ≤ m * k := Nat.mul_pos (by omega) k1
  have hmn : m * k ≤ n * k := Nat.mul_le_mul_right _ p2
  refine ⟨Qsn ha (fun v hv => ?_) (by rw [hlen2]; exact hmk) (by rw [hlen2, hlen]; exact hmn) ?_, by rw [hlen2]; omega, by rw [hlen2]; exact hmk⟩
  · rw [p6] at hv
    exact List.mem_of_mem_drop (List.mem_of_mem_take hv)
  · rw [hlen2, Int.natCast_mul, Int.mul_emod_left]

def Xw (c x r : Int) (l : List Int) (t : List Int) : List (List UInt8) := (QF c r l).map (QhO c.toNat x t)
def ZN (c x r : Int) (l : List Int) (p : List UInt8) : AV :=
  if Zc c x r l ≠ 0 then .tup [bss [], .int .i64 8] else if 64 < p.length then .tup [bss [], .int .i64 2] else .tup [bss (Xw c x r l (ofK (Qbh 0 p) 8)), .int .i64 0]
theorem Qja (c x r : Int) (l : List Int) (p : List UInt8) : isD (ZN c x r l p) = true := by unfold ZN; split <;> (try split) <;> simp [isD, isDL, Qoh]
theorem Qpu (d k : Nat) : I32 (ofK d k) := fun x hx => by
  unfold ofK at hx
  obtain ⟨i, _, rfl⟩ := List.mem_map.1 hx
  split
  · have := QsP (d / 2 ^ (8 * i)); omega
  · omega
def QdL (P : Prg) (f : Nat) : Prop := ∀ (c x r : Int) (l : List Int) (p : List UInt8), I32 l → l.length ≤ 1000000 → VC P f [clA c x r l, .str p] (ZN c x r l p)

set_option maxHeartbeats 1000000 in
theorem QjA {P : Prg} {f fC fT fP fS fE fA g t0 t1 t2 t3 t4 ti : Nat} (b : Qkm P f 45 [.cell 4 t1, .cell 5 t2] (JO fC fT fP fS fE t0 t1 t2 t3 t4)) (hC : Jo P fC) (hT : Qlg P fT) (hP : Qcm g P fP) (hI : Qcl ti P g) (bG : Qo P g 43 [] (ZD fA)) (hS : Qck P fS) (hE : QqU P fE)
    (ht1 : Zs P t1 = some none) (ht2 : Zs P t2 = some none) (h0 : t0 ≠ ti) (h1 : t1 ≠ ti) (h2 : t2 ≠ ti) (h3 : t3 ≠ ti) (h4 : t4 ≠ ti) : QdL P f := by
  intro c x r l p hI32 hl
  refine VC.of_walk 2 (by simp [isDL, isD, QW, clA]) (Qja _ _ _ _ _) (ACall.of_rangeC b (by simp) ?_)
  have hC' := hC c x r l hI32 hl
  rw [il] at hC'
  have tl := Qv .i32 l
  have z : ([.int .i32 0, .int .i32 0, .int .i32 0, .int .i32 0, .int .i32 0, .int .i32 0, .int .i32 0, .int .i32 0, .int .i32 0, .int .i32 0, .int .i32 0, .int .i32 0, .int .i32 0, .int .i32 0, .int .i32 0, .int .i32 0] : List AV) = ks .i32 Zw := rfl
  unfold JO
  rw [z]
  have ol := XE .i32 Zw
  have kl0 : (ks .i32 Zw).length = 16 := rfl
  rcases QbB c x r l with h | h
  · rw [h] at hC'
    have hT' := hT p
    simp (maxSteps := 4000000) (disch := omega) only [rr, aop, cV, cV1, AV.one, Qb, okW, Qd, app, Qa, Qc, Qe, Qf, Qg, simprocAttr, clA, il, Xu, JC, ZQ, Qb6, JW, QkT]
    refine Qh.vc hC' ?_
    simp (maxSteps := 4000000) (disch := omega) only [rr, aop, cV, cV1, AV.one, Qb, okW, Qd, app, Qa, Qc, Qe, Qf, Qg, simprocAttr, ZQ, Qb6, Xu, JC]
    refine Qh.vc hT' ?_
    by_cases hp : 64 < p.length
    · have e9 : ZN c x r l p = .tup [bss [], .int .i64 2] := by rw [ZN, if_neg (by omega), if_pos hp]
      have e8 : Qbu p = .tup [.agg (ks .i32 Zw), .int .i64 2] := by rw [Qbu, if_pos hp]
      have t0' : (ks .i32 Zw).take 16 = ks .i32 Zw := rfl
      have zl : Zw.length = 16 := rfl
      have zd : (ks .i32 Zw).drop 16 = [] := rfl
      rw [e8]
      simp (maxSteps := 4000000) (disch := omega) only [rr, aop, cV, cV1, AV.one, Qb, okW, Qd, app, Qa, Qc, Qe, Qf, Qg, simprocAttr, ZQ, Qb6, Xu, JC, ol, kl0, t0', zl, zd, List.append_nil, e9, Zf, ht1, ht2]
      simp [QH, Qy, frzL, Qx, isDL, isD, bss]
    · have e9 : ZN c x r l p = .tup [bss (Xw c x r l (ofK (Qbh 0 p) 8)), .int .i64 0] := by rw [ZN, if_neg (by omega), if_neg hp]
      have e8 : Qbu p = .tup [.agg (ks .i32 (ofK (Qbh 0 p) 8)), .int .i64 0] := by rw [Qbu, if_neg hp]
      obtain ⟨T, hTe⟩ : ∃ T, ofK (Qbh 0 p) 8 = T := ⟨_, rfl⟩
      have hTl : T.length = 16 := by rw [← hTe, Qbw]
      have hTI : I32 T := by rw [← hTe]; exact Qpu _ _
      have oT := XE .i32 T
      have kT : (ks .i32 T).length = 16 := by rw [Ql, hTl]
      have tT : (ks .i32 T).take 16 = ks .i32 T := List.take_of_length_le (by omega)
      have zl : Zw.length = 16 := rfl
      have zd : (ks .i32 Zw).drop 16 = [] := rfl
      rw [hTe] at e8 e9
      have hparts := QnP h
      obtain ⟨k, n, rfl, k1, k2, hlen, hok, h4'⟩ := Qca h
      have hP' := hP k x r l
      have hI' := hI k n x r l k1 k2 hlen hok
      rw [clA] at hP'
      rw [il] at hP' hI'
      have hS' := hS k x r l
      rw [shA, il] at hS'
      rw [e8]
      simp (maxSteps := 4000000) (disch := omega) only [rr, aop, cV, cV1, AV.one, Qb, okW, Qd, app, Qa, Qc, Qe, Qf, Qg, simprocAttr, ZQ, Qb6, Xu, JC, ol, kl0, oT, kT, zl, zd, List.append_nil]
      refine Qh.vc hP' ?_
      simp (maxSteps := 4000000) (disch := omega) only [rr, aop, cV, cV1, AV.one, Qb, okW, Qd, app, Qa, Qc, Qe, Qf, Qg, simprocAttr, JW]
      obtain ⟨Lc, hLc⟩ : ∃ Lc, (QJ r).toNat * k = Lc := ⟨_, rfl⟩
      rw [hLc] at hI'
      have hcnt : (Q9 (QJ r).toNat n).length ≤ 1000 := by have := hok.2.2.2.2; rwa [Int.toNat_natCast] at this
      obtain ⟨cnt, hcn⟩ : ∃ cnt, (Q9 (QJ r).toNat n).length = cnt := ⟨_, rfl⟩
      have hpo : QF k r l = (List.finRange cnt).map (fun j => Zx Lc l j.1) := by
        unfold QF
        rw [Int.toNat_natCast, hlen, Nat.mul_div_cancel _ (by omega), hcn, hLc]
        apply List.ext_getElem <;> simp
      rw [hcn] at hI' hcnt
      refine ⟨cnt, g, _, [ti], _, [(27, .fn (.func g) [] [.cell [.int .i64 k, .int .i64 x, .int .i64 r, .list l.length (ks .i32 l)]]), (2, .ref 0 1 0), (4, .ref 1 1 0), (5, .ref 2 1 0), (7, .ref 3 1 0), (9, .ref 4 1 0)],
        fun pre => [⟨t0, 4, 1, [.int .i64 k, .int .i64 x, .int .i64 r, .list l.length (ks .i32 l)], 0⟩, ⟨t1, 1, 1, [.list 0 []], 0⟩, ⟨t2, 1, 1, [.int .i64 0], 0⟩, ⟨t3, 16, 1, ks .i32 T, 0⟩, ⟨t1, 1, 1, [.own 5 pre.length], 0⟩, ⟨t4, 1, pre.length, pre.map (fun j => bs (QhO k x T (Zx Lc l j.1))), 0⟩], ?_, rfl, bG.ent, by simp [isDL, isD, QZ], hI', by omega, by omega, rfl, ?_, ?_, ?_⟩
      · refine Le.trans (Le.virtF (p := 4) (ty := t4) (sz := 1) (by omega) rfl rfl) (Le.drop 6 2 (by omega) rfl (by simp [Am.look, Qy, frzL, Qx, frzL_T _ tl]) ?_)
        intro i z hz
        match i, hz with
        | 0, hz => cases hz; exact ⟨_, rfl, by simp [Qy, frzL, Qx, frzL_T _ tl]⟩
        | 1, hz => cases hz; exact ⟨_, rfl, by simp [Qy, frzL, Qx]⟩
        | 2, hz => cases hz; exact ⟨_, rfl, by simp [Qy, frzL, Qx]⟩
        | 3, hz => cases hz; exact ⟨_, rfl, by simp [Qy, frzL_T _ (Qv .i32 T)]⟩
        | 4, hz => cases hz; exact ⟨_, rfl, by simp [Qy, frzL, Qx]⟩
        | 5, hz => cases hz; exact ⟨_, rfl, by simp [Qy, frzL, Qx]⟩
        | i + 6, hz => simp at hz
      · intro pre x hx
        simp only [List.mem_cons, List.not_mem_nil, or_false] at hx ⊢
        rcases hx with rfl | rfl | rfl | rfl | rfl | rfl
        · exact h0
        · exact h1
        · exact h2
        · exact h3
        · exact h1
        · exact h4
      · intro pre y hpl
        have hmem : Zx Lc l y.1 ∈ QF k r l := by rw [hpo]; exact List.mem_map.2 ⟨y, List.mem_finRange _, rfl⟩
        obtain ⟨q1, q2, q3⟩ := hparts _ hmem
        have hqI : I32 (Zx Lc l y.1) := fun v hv => hI32 v (by
          unfold Zx at hv
          exact List.mem_of_mem_drop (List.mem_of_mem_take hv))
        have hE' := hE k x T (Zx Lc l y.1) hTl hTI hqI
        rw [Qr8, if_neg (by omega), Int.toNat_natCast] at hE'
        obtain ⟨w1, w2⟩ := Qrc (t := T) hqI q1
        rw [Int.toNat_natCast] at w1 w2
        have hpm : (pre.map (fun j => bs (QhO k x T (Zx Lc l j.1)))).length = pre.length := by simp
        obtain ⟨Y, hYe⟩ : ∃ Y, QhO k x T (Zx Lc l y.1) = Y := ⟨_, rfl⟩
        rw [hYe] at hE' w1 w2
        obtain ⟨Z, hZ⟩ : ∃ Z, Zx Lc l y.1 = Z := ⟨_, rfl⟩
        rw [hZ] at hE' hqI q1 q2 q3 hYe ⊢
        rw [shA, il, bs] at hE'
        have tZ := Qv .i32 Z
        have tT2 := Qv .i32 T
        rw [il]
        simp (maxSteps := 4000000) (disch := omega) only [rr, aop, cV, cV1, AV.one, Qb, okW, Qd, app, Qa, Qc, Qe, Qf, Qg, simprocAttr, tT, kT]
        refine QC.vc hS' ?_
        simp (maxSteps := 4000000) (disch := omega) only [rr, aop, cV, cV1, AV.one, Qb, okW, Qd, app, Qa, Qc, Qe, Qf, Qg, simprocAttr, tT, kT]
        refine QC.vc hE' ?_
        simp (maxSteps := 4000000) (disch := omega) only [rr, aop, cV, cV1, AV.one, Qb, okW, Qd, app, Qa, Qc, Qe, Qf, Qg, simprocAttr, hpm]
        refine Le.drop 6 2 (by omega) rfl (by simp) ?_
        intro i z hz
        match i, hz with
        | 0, hz => cases hz; exact ⟨_, rfl, by simp [Qy, frzL, Qx, frzL_T _ tl]⟩
        | 1, hz => cases hz; exact ⟨_, rfl, by simp [Qy, frzL, Qx]⟩
        | 2, hz => cases hz; exact ⟨_, rfl, by simp [Qy, frzL, Qx]⟩
        | 3, hz => cases hz; exact ⟨_, rfl, by simp [Qy, frzL_T _ tT2]⟩
        | 4, hz => cases hz; exact ⟨_, rfl, by simp [Qy, frzL, Qx]⟩
        | 5, hz =>
          cases hz
          have e : (pre ++ [y]).map (fun j => bs (QhO k x T (Zx Lc l j.1))) = pre.map (fun j => bs (QhO k x T (Zx Lc l j.1))) ++ [.list Y.length (u8 Y)] := by
            simp only [List.map_append, List.map_cons, List.map_nil, hZ, hYe]
            rfl
          rw [e]
          refine ⟨_, rfl, frzL_T _ ?_⟩
          rw [← e]
          have := Qb7 ((pre ++ [y]).map (fun j => QhO k x T (Zx Lc l j.1)))
          rwa [List.map_map] at this
        | i + 6, hz => simp at hz
      · have hfl : (List.finRange cnt).length = cnt := by simp
        have hpi : (List.finRange cnt).map (fun j => bs (QhO k x T (Zx Lc l j.1))) = (Xw k x r l T).map bs := by
          unfold Xw
          rw [hpo, List.map_map, List.map_map, Int.toNat_natCast]
          rfl
        dsimp only
        rw [hpi, hfl, e9]
        have hpl : (Xw k x r l T).length = cnt := by unfold Xw; rw [hpo]; simp
        have tp := Qb7 (Xw k x r l T)
        generalize hPP : (Xw k x r l T).map bs = PP at *
        simp (maxSteps := 4000000) (disch := omega) only [rr, aop, cV, cV1, AV.one, Qb, okW, Qd, app, Qa, Qc, Qe, Qf, Qg, simprocAttr, Zf, ht1, ht2]
        simp [QH, Qy, frzL, Qx, isDL, isD, bss, hpl, hPP, frzL_T _ tp]
  · rw [h] at hC'
    have e9 : ZN c x r l p = .tup [bss [], .int .i64 8] := by rw [ZN, if_pos (by omega)]
    simp (maxSteps := 4000000) (disch := omega) only [rr, aop, cV, cV1, AV.one, Qb, okW, Qd, app, Qa, Qc, Qe, Qf, Qg, simprocAttr, clA, il, Xu, JC, ZQ, Qb6, JW, QkT]
    refine Qh.vc hC' ?_
    simp (maxSteps := 4000000) (disch := omega) only [rr, aop, cV, cV1, AV.one, Qb, okW, Qd, app, Qa, Qc, Qe, Qf, Qg, simprocAttr, ZQ, Qb6, Xu, JC, e9, Zf, ht1, ht2]
    simp [QH, Qy, frzL, Qx, isDL, isD, bss]
end Go.Am

namespace Go.Am
open Go.RowKit

/-! ### The reference's Frames; the law ClipFrames -/

theorem Qtf {L : List (List UInt8)} {k : Nat} (h : k < L.length) : (L.map bs).drop k = bs (L.getD k []) :: (L.map bs).drop (k + 1) := by
  rw [List.drop_eq_getElem_cons (by simpa using h)]
  simp [List.getD_eq_getElem?_getD, List.getElem?_eq_getElem h]

end Go.Am

namespace Go.Am
open Go.RowKit

/-! ### clip.Of -/

def Qld : List AV → List Int
  | .int _ n :: r => n :: Qld r
  | _ => []
def avP : AV → List Int
  | .tup (.list _ cs :: _) => Qld cs
  | _ => []
def avE : AV → Int
  | .tup [_, .int _ e] => e
  | _ => 0
theorem Qpb (l : List Int) : Qld (ks .i32 l) = l := by
  induction l with
  | nil => rfl
  | cons x l ih => simp only [Qby, Qld, ih]
def Qse (c x : Int) (t : List Int) (n : Int) (b : List UInt8) : List Int := avP (QqE c x t n b)
def Qs6 (c x : Int) (t : List Int) (n : Int) (b : List UInt8) : Int := avE (QqE c x t n b)
def okQ (x : Int) (l : List Int) : Prop := l.length ≤ 4000 ∧ ∀ v ∈ l, inR x v = true
theorem Qp2 (x : Int) (l : List Int) : ∃ (p : List Int) (e : Int), QnA x l = .tup [il p, .int .i64 e] ∧ okQ x p := by
  unfold QnA
  by_cases h : QM x l = 0
  · rw [if_neg (by omega)]
    refine ⟨l, 0, rfl, ?_⟩
    unfold QM at h
    split at h
    · cases h
    split at h
    · cases h
    split at h
    · rename_i h1 h2 h3
      exact ⟨by omega, List.all_eq_true.1 h3⟩
    · cases h
  · rw [if_pos h]
    exact ⟨[], _, rfl, by simp [okQ]⟩
theorem QfY (x e : Int) : ∃ (p : List Int) (e' : Int), erA e = .tup [il p, .int .i64 e'] ∧ okQ x p := ⟨[], e, rfl, by simp [okQ]⟩
theorem Qs4 (c x : Int) (t : List Int) (n : Int) (b : List UInt8) : ∃ (p : List Int) (e : Int), QqE c x t n b = .tup [il p, .int .i64 e] ∧ okQ x p := by
  unfold QqE
  split
  · exact QfY _ _
  split
  · exact QfY _ _
  unfold QsA
  split
  · exact QfY _ _
  split
  · exact QfY _ _
  · exact Qp2 _ _
theorem Qs5 (c x : Int) (t : List Int) (n : Int) (b : List UInt8) : QqE c x t n b = .tup [il (Qse c x t n b), .int .i64 (Qs6 c x t n b)] ∧ okQ x (Qse c x t n b) := by
  obtain ⟨p, e, h1, h2⟩ := Qs4 c x t n b
  have hp : Qse c x t n b = p := by rw [Qse, h1]; simp only [avP, il, Qpb]
  have he : Qs6 c x t n b = e := by rw [Qs6, h1]; rfl
  rw [hp, he]
  exact ⟨h1, h2⟩
def ZA (E : Nat → Int) : Nat → Int
  | 0 => 0
  | n + 1 => if ZA E n ≠ 0 then ZA E n else E n
theorem Qei {E : Nat → Int} {k : Nat} (h : ZA E k ≠ 0) : ∀ m, ZA E (k + m) = ZA E k
  | 0 => rfl
  | m + 1 => by
    show (if ZA E (k + m) ≠ 0 then ZA E (k + m) else E (k + m)) = _
    rw [Qei h m, if_pos h]
theorem Qou {E : Nat → Int} {k m : Nat} (h : ZA E k = 0) (h2 : E k ≠ 0) (hm : k < m) : ZA E m = E k := by
  have h3 : ZA E (k + 1) = E k := by simp [ZA, h]
  have h4 := Qei (E := E) (k := k + 1) (by rw [h3]; exact h2) (m - (k + 1))
  rw [show k + 1 + (m - (k + 1)) = m by omega, h3] at h4
  exact h4

def Jp (r n : Int) : List Int := Q9 (QJ r).toNat n.toNat
def Qji (c x r n : Int) (t : List Int) (L : List (List UInt8)) (j : Nat) : Int := Qs6 c x t ((Jp r n).getD j 0) (L.getD j [])
def Qqa (c x r n : Int) (t : List Int) (L : List (List UInt8)) (j : Nat) : List Int := Qse c x t ((Jp r n).getD j 0) (L.getD j [])
def Qkt (c x r n : Int) (t : List Int) (L : List (List UInt8)) (k : Nat) : List Int := ((List.range k).map (Qqa c x r n t L)).flatten
def QaR (c x r n : Int) (p : List UInt8) (L : List (List UInt8)) : AV :=
  if Z6 c x r n ≠ 0 then .tup [clA 0 0 0 [], .int .i64 8] else if 64 < p.length then .tup [clA 0 0 0 [], .int .i64 2] else if (Jp r n).length ≠ L.length then .tup [clA 0 0 0 [], .int .i64 12] else
  if ZA (Qji c x r n (ofK (Qbh 0 p) 8) L) L.length ≠ 0 then .tup [clA 0 0 0 [], .int .i64 (ZA (Qji c x r n (ofK (Qbh 0 p) 8) L) L.length)] else .tup [clA c x r (Qkt c x r n (ofK (Qbh 0 p) 8) L L.length), .int .i64 0]
theorem Qog (c x r n : Int) (p : List UInt8) (L : List (List UInt8)) : isD (QaR c x r n p L) = true := by
  unfold QaR
  repeat' split
  all_goals simp [isD, isDL, QW, clA]
theorem Qhe (c x r n : Int) (t : List Int) (L : List (List UInt8)) (k : Nat) : Qkt c x r n t L (k + 1) = Qkt c x r n t L k ++ Qqa c x r n t L k := by
  simp [Qkt, List.range_succ]
theorem Qna (c x r n : Int) (t : List Int) (L : List (List UInt8)) : ∀ k, (Qkt c x r n t L k).length ≤ k * 4000
  | 0 => by simp [Qkt]
  | k + 1 => by
    have h1 := Qna c x r n t L k
    have h2 : (Qqa c x r n t L k).length ≤ 4000 := (Qs5 _ _ _ _ _).2.1
    rw [Qhe, List.length_append]
    omega
theorem Qr2 {c x r n : Int} (h : Z6 c x r n = 0) : okA r n ∧ Zu c x = 0 ∧ 1 ≤ n ∧ n ≤ 4000 / c := by
  unfold Z6 at h
  split at h
  · cases h
  rename_i a1
  split at h
  · cases h
  rename_i a2
  split at h
  · cases h
  rename_i a3
  split at h
  · cases h
  rename_i a4
  have a5 : Zu c x = 0 := by simpa using a1
  have a6 : QoL r n = 0 := by simpa using a4
  refine ⟨?_, a5, by omega, by omega⟩
  unfold QoL at a6
  split at a6
  · cases a6
  split at a6
  · cases a6
  split at a6
  · cases a6
  rename_i b1 b2 b3
  refine ⟨by omega, by omega, by omega, by omega, ?_⟩
  have hlong : 1 ≤ QJ r := JV r
  obtain ⟨L, hLe⟩ : ∃ L : Nat, QJ r = L := ⟨(QJ r).toNat, by omega⟩
  obtain ⟨m, rfl⟩ : ∃ m : Nat, n = m := ⟨n.toNat, by omega⟩
  rw [hLe, Int.toNat_natCast, Int.toNat_natCast, Je]
  rw [hLe] at b3
  have h1 : (m : Int) + (L : Int) - 1 = ((m - 1 + L : Nat) : Int) := by omega
  rw [h1, ← Int.natCast_ediv, Nat.add_div_right _ (by omega)] at b3
  omega

theorem RepL.split {X : Cx} : ∀ {cs bs : List AV} {vs : List Value}, RepL X (cs ++ bs) vs → ∃ us ws, vs = us ++ ws ∧ RepL X cs us ∧ RepL X bs ws
  | [], bs, vs, h => ⟨[], vs, rfl, by simp [RepL], h⟩
  | a :: cs, bs, vs, h => by
    simp only [List.cons_append, RepL] at h
    obtain ⟨v, rest, rfl, h1, h2⟩ := h
    obtain ⟨us, ws, rfl, h3, h4⟩ := RepL.split h2
    exact ⟨v :: us, ws, rfl, by simp only [RepL]; exact ⟨v, us, rfl, h1, h3⟩, h4⟩
theorem Le.virtI {M : Nat} {fr : List (Nat × AV)} {ob : List Ob} (p ty sz : Nat) {x : Ob} {z : Bool} {pre rest : List AV} (h0 : sz ≠ 0) (hp : ob[p]? = some x) (hx : x.cs = pre ++ .emp z :: rest) :
    Le M ⟨fr, ob⟩ ⟨fr, ob.set p { x with cs := pre ++ .own ob.length 0 :: rest } ++ [⟨ty, sz, 0, [], 0⟩]⟩ := by
  intro Γ a w hX ⟨q1, q2, q3, be, g, hm, hfr0⟩
  obtain ⟨g1, m1⟩ := g.empty ty sz
  have hpl : p < ob.length := (List.getElem?_eq_some_iff.1 hp).1
  have hp1 : (ob ++ [(⟨ty, sz, 0, [], 0⟩ : Ob)])[p]? = some x := by rw [List.getElem?_append_left hpl]; exact hp
  have hl : be.length = ob.length := g.len
  obtain ⟨g2, m2, _⟩ := g1.retell hp1 (pre ++ .own ob.length 0 :: rest) (by rw [hx]; simp) (fun vs hv => by
    rw [hx] at hv
    obtain ⟨us, ws, rfl, h1, h2⟩ := RepL.split hv
    refine h1.append ?_
    simp only [RepL] at h2 ⊢
    obtain ⟨v, r, rfl, hv, h2⟩ := h2
    refine ⟨v, r, rfl, ?_, h2⟩
    simp only [Rep] at hv ⊢
    obtain ⟨a', e, _⟩ := hv
    refine ⟨⟨⟨ty, sz, 0, [], 0⟩, by simp, h0, Nat.le_refl _, fun _ => ?_⟩, by rw [e]; rfl⟩
    simp only [OwnV]
    rw [show ob.length = be.length from hl.symm]
    simp [e])
  have e1 : (ob ++ [(⟨ty, sz, 0, [], 0⟩ : Ob)]).set p { x with cs := pre ++ .own ob.length 0 :: rest } = ob.set p { x with cs := pre ++ .own ob.length 0 :: rest } ++ [⟨ty, sz, 0, [], 0⟩] := List.set_append_left _ _ hpl
  rw [← e1]
  exact ⟨q1, q2, q3, _, g2, hm.trans (m1.trans m2), fun i => Rep.move m2 _ _ (Rep.move m1 _ _ (hfr0 i))⟩
end Go.Am

namespace Go.Am
open Go.RowKit

/-! ### A call with a row of one's own among its arguments, in a region of open order -/

def ph3 : Ob := ⟨1, 1, 0, [], 0⟩
theorem Held.fill {B : Nat} {w : World} {ob : List Ob} {be : List (Option (Nat × Nat))} {C : Nat → Nat → Prop} {o : Nat} (g : Held B ⟨w, ob, be, C⟩) (ho : ob[o]? = some ph2) :
    Held B ⟨w, ob.set o ph3, be.set o none, C⟩ ∧ Moves ⟨w, ob, be, C⟩ ⟨w, ob.set o ph3, be.set o none, C⟩ := by
  have hol : o < ob.length := (List.getElem?_eq_some_iff.1 ho).1
  have hlen : be.length = ob.length := g.len
  have hav : ∀ b k, (Cx.mk w (ob.set o ph3) (be.set o none) C).av b k → (Cx.mk w ob be C).av b k := by
    rintro b k (h | ⟨o', x, c, h1, h2, h3⟩)
    · exact .inl h
    · simp only [List.getElem?_set] at h1 h2
      by_cases e : o = o'
      · subst e; simp [hlen, hol] at h2
      · simp [e] at h1 h2
        exact .inr ⟨o', x, c, h1, h2, h3⟩
  have m : Moves ⟨w, ob, be, C⟩ ⟨w, ob.set o ph3, be.set o none, C⟩ := by
    refine ⟨fun b k v hc ha => ⟨hc, fun h => ha (hav b k h)⟩, fun o' x hx => ?_, fun b hb hf => ⟨rfl, fun o' c h => ?_⟩⟩
    · by_cases e : o = o'
      · subst e
        have hx' : ob[o]? = some x := hx
        rw [ho] at hx'; cases hx'
        exact ⟨ph3, by simp [hol], Nat.le_refl _, fun h => absurd rfl h⟩
      · exact ⟨x, by simp only [List.getElem?_set, e, if_false]; exact hx, Nat.le_refl _, fun h => ⟨h, fun _ => by simp only [List.getElem?_set, e, if_false]⟩⟩
    · simp only [List.getElem?_set] at h
      by_cases e : o = o'
      · subst e; simp [hlen, hol] at h
      · simp [e] at h; exact hf o' c h
  refine ⟨⟨by simp [hlen], fun o' x e' hx he => ?_, fun o1 o2 b c c' q1 q2 => ?_, fun o1 b c q => ?_, g.bnd, g.size⟩, m⟩
  · simp only [List.getElem?_set] at hx he
    by_cases e : o = o'
    · subst e
      simp [hlen, hol] at hx he
      subst hx; subst he
      exact ⟨rfl, rfl⟩
    · simp [e] at hx he
      exact (g.ok o' x e' hx he).move m fun _ _ _ => rfl
  · simp only [List.getElem?_set] at q1 q2
    by_cases e : o = o1
    · subst e; simp [hlen, hol] at q1
    · by_cases e2 : o = o2
      · subst e2; simp [hlen, hol] at q2
      · simp [e] at q1; simp [e2] at q2
        exact g.inj o1 o2 b c c' q1 q2
  · simp only [List.getElem?_set] at q
    by_cases e : o = o1
    · subst e; simp [hlen, hol] at q
    · simp [e] at q; exact g.base o1 b c q
theorem ACall.fill {P : Prg} {f : FuncId} {avs : List AV} {r : AV} {ob : List Ob} {o : Nat} (ho : ob[o]? = some ph2) (h : ACall P f avs ob (fun r' ob' => r' = r ∧ ob' = ob)) : ACall P f avs ob (fun r' ob' => r' = r ∧ ob' = ob.set o ph3) := by
  obtain ⟨hE, h⟩ := h
  refine ⟨hE, fun B w be C vs g hG hr => (h B w be C vs g hG hr).mono ?_⟩
  rintro e w' ⟨v, r', ob', be', rfl, hb, hh, hm, hv, rfl, rfl⟩
  obtain ⟨g1, m1⟩ := hh.fill ho
  exact ⟨v, r', _, _, rfl, hb, g1, hm.trans m1, Rep.move m1 _ _ hv, rfl, rfl⟩
theorem QC.own {P : Prg} {B : Nat} {Q : Exit → St → Prop} {f : FuncId} {avs : List AV} {r : AV} {ob : List Ob} (o : Nat) (he : Qax P f) (h : ∀ ob', ob'[o]? = some ph2 → ACall P f avs ob' (fun r' ob'' => r' = r ∧ ob'' = ob')) (ho : ob[o]? = some ph2)
    {xs : List It} {fr : List (Nat × AV)} {dst : Option Nat} (hK : J6 P B xs Q ⟨Zo fr dst r, ob.set o ph3⟩) : QC P B false f avs xs Q fr ob dst := by
  refine QC.at (r := r) o ph3 he (fun ob' h' => ACall.fill h' (h ob' h')) ho (by decide) ?_
  simp only [app, if_pos (List.getElem?_eq_some_iff.1 ho).1]
  exact hK
theorem Le.padE {M : Nat} {fr : List (Nat × AV)} {ob : List Ob} : Le M ⟨fr, ob⟩ ⟨fr, ob ++ [ph2]⟩ := by
  intro Γ a w hX ⟨q1, q2, q3, be, g, hm, hfr0⟩
  obtain ⟨g1, m1⟩ := g.empty 1 0
  exact ⟨q1, q2, q3, _, g1, hm.trans m1, fun i => Rep.move m1 _ _ (hfr0 i)⟩

theorem Qns {P : Prg} {f t0 t1 : Nat} (bd : Qo P f 8 [.cell 2 t1] (ZK t0 t1)) (ht : Zs P t1 = some (some 2)) (c x r : Int) (i k : Nat) (ob : List Ob) : ACall P f [.agg [.int .i64 c, .int .i64 x, .int .i64 r, .own i k]] ob (fun r' ob' => r' = shA c x ∧ ob' = ob) := by
  refine ACall.withLow bd.ent fun hl => ACall.low (ACall.of_body bd (by simp) ?_)
  simp (maxSteps := 4000000) (disch := omega) only [rr, aop, cV, cV1, AV.one, Qb, okW, Qd, app, Qa, Qc, Qe, Qf, Qg, simprocAttr, ZK, List.append_assoc, List.cons_append, List.nil_append, Qtv, Qok, Qtq, QrG, Zf, ht, shA, QR]
  exact ⟨ob, [_, _], rfl, Nat.le_refl _, hl, by simp [Xv, lowL], rfl⟩

def Qts (L : List (List UInt8)) : Prop := L.length ≤ 1000000 ∧ ∀ j, (L.getD j []).length ≤ 1000000
def QgK (P : Prg) (f : Nat) : Prop := ∀ (c x r : Int) (l : List Int) (p : List UInt8) (n : Int) (L : List (List UInt8)), Qts L → VC P f [clA c x r l, .str p, .int .i64 n, bss L] (QaR c x r n p L)

set_option maxHeartbeats 2000000 in
theorem Qsj {P : Prg} {f fH fT fA fS fD t0 t1 t2 t3 t4 ti : Nat} (bd : Qo P f 79 [.cell 8 t0, .tmp 9] (QcN fH fT fA fS fD t0 t1 t2)) (hH : QgL P fH) (hT : Qlg P fT) (hA : Qll ti P fA) (bS : Qo P fS 8 [.cell 2 t3] (ZK t4 t3)) (ht3 : Zs P t3 = some (some 2)) (hD : QgH P fD) (ht : Zs P t0 = some (some 4)) : QgK P f := by
  intro c x r l p n L ⟨hL1, hL2⟩
  refine VC.of_walk 2 (by simp [isDL, isD, QW, clA, Qoh]) (Qog _ _ _ _ _ _) (ACall.of_body bd (by simp) ?_)
  have hH' := hH c x r n l
  rw [il] at hH'
  have tl := Qv .i32 l
  have z : ([.int .i32 0, .int .i32 0, .int .i32 0, .int .i32 0, .int .i32 0, .int .i32 0, .int .i32 0, .int .i32 0, .int .i32 0, .int .i32 0, .int .i32 0, .int .i32 0, .int .i32 0, .int .i32 0, .int .i32 0, .int .i32 0] : List AV) = ks .i32 Zw := rfl
  unfold QcN
  rw [z]
  have ol := XE .i32 Zw
  have kl0 : (ks .i32 Zw).length = 16 := rfl
  have t0' : (ks .i32 Zw).take 16 = ks .i32 Zw := rfl
  have zl : Zw.length = 16 := rfl
  have zd : (ks .i32 Zw).drop 16 = [] := rfl
  rcases Qfo c x r n with h | h
  · have e9 : QaR c x r n p L = .tup [clA 0 0 0 [], .int .i64 8] := by rw [QaR, if_pos (by omega)]
    rw [h] at hH'
    simp (maxSteps := 4000000) (disch := omega) only [rr, aop, cV, cV1, AV.one, Qb, okW, Qd, app, Qa, Qc, Qe, Qf, Qg, simprocAttr, clA, il, bss]
    refine Qh.vc hH' ?_
    simp (maxSteps := 4000000) (disch := omega) only [rr, aop, cV, cV1, AV.one, Qb, okW, Qd, app, Qa, Qc, Qe, Qf, Qg, simprocAttr, Zf, ht, e9]
    simp [QH, Qy, frzL, Qx, isDL, isD, clA, il, ks]
  rw [h] at hH'
  have hT' := hT p
  obtain ⟨hok, hec, hn1, hn4⟩ := Qr2 h
  simp (maxSteps := 4000000) (disch := omega) only [rr, aop, cV, cV1, AV.one, Qb, okW, Qd, app, Qa, Qc, Qe, Qf, Qg, simprocAttr, clA, il, bss]
  refine Qh.vc hH' ?_
  simp (maxSteps := 4000000) (disch := omega) only [rr, aop, cV, cV1, AV.one, Qb, okW, Qd, app, Qa, Qc, Qe, Qf, Qg, simprocAttr]
  refine Qh.vc hT' ?_
  by_cases hp : 64 < p.length
  · have e9 : QaR c x r n p L = .tup [clA 0 0 0 [], .int .i64 2] := by rw [QaR, if_neg (by omega), if_pos hp]
    have e8 : Qbu p = .tup [.agg (ks .i32 Zw), .int .i64 2] := by rw [Qbu, if_pos hp]
    rw [e8]
    simp (maxSteps := 4000000) (disch := omega) only [rr, aop, cV, cV1, AV.one, Qb, okW, Qd, app, Qa, Qc, Qe, Qf, Qg, simprocAttr, ol, kl0, t0', zl, zd, List.append_nil, Zf, ht, e9]
    simp [QH, Qy, frzL, Qx, isDL, isD, clA, il, ks]
  have e8 : Qbu p = .tup [.agg (ks .i32 (ofK (Qbh 0 p) 8)), .int .i64 0] := by rw [Qbu, if_neg hp]
  have e9 : QaR c x r n p L = if (Jp r n).length ≠ L.length then .tup [clA 0 0 0 [], .int .i64 12] else
      if ZA (Qji c x r n (ofK (Qbh 0 p) 8) L) L.length ≠ 0 then .tup [clA 0 0 0 [], .int .i64 (ZA (Qji c x r n (ofK (Qbh 0 p) 8) L) L.length)] else .tup [clA c x r (Qkt c x r n (ofK (Qbh 0 p) 8) L L.length), .int .i64 0] := by
    rw [QaR, if_neg (by omega), if_neg hp]
  obtain ⟨T, hTe⟩ : ∃ T, ofK (Qbh 0 p) 8 = T := ⟨_, rfl⟩
  have hTl : T.length = 16 := by rw [← hTe, Qbw]
  have hTI : I32 T := by rw [← hTe]; exact Qpu _ _
  have oT := XE .i32 T
  have kT : (ks .i32 T).length = 16 := by rw [Ql, hTl]
  have tT : (ks .i32 T).take 16 = ks .i32 T := List.take_of_length_le (by omega)
  have tT2 := Qv .i32 T
  rw [hTe] at e8 e9
  have hA' := hA r n hok
  have hln : Q9 (QJ r).toNat n.toNat = Jp r n := rfl
  have hl1000 : (Jp r n).length ≤ 1000 := hok.2.2.2.2
  rw [hln] at hA'
  rw [e8]
  simp (maxSteps := 4000000) (disch := omega) only [rr, aop, cV, cV1, AV.one, Qb, okW, Qd, app, Qa, Qc, Qe, Qf, Qg, simprocAttr, ol, kl0, oT, kT, zl, zd, List.append_nil]
  refine Qh.vo hA' ?_
  simp (maxSteps := 4000000) (disch := omega) only [rr, aop, cV, cV1, AV.one, Qb, okW, Qd, app, Qa, Qc, Qe, Qf, Qg, simprocAttr, shr]
  by_cases hlen : (Jp r n).length = L.length
  case neg =>
    rw [if_pos hlen] at e9
    simp (maxSteps := 4000000) (disch := omega) only [rr, aop, cV, cV1, AV.one, Qb, okW, Qd, app, Qa, Qc, Qe, Qf, Qg, simprocAttr, hlen, Zf, ht, e9]
    simp [QH, Qy, frzL, Qx, isDL, isD, clA, il, ks]
  rw [if_neg (by simpa using hlen)] at e9
  have kn : (ks .i64 (Jp r n)).length = L.length := by rw [Ql, hlen]
  have hml : (L.map bs).length = L.length := by simp
  rw [hlen] at hl1000 ⊢
  simp (maxSteps := 4000000) (disch := omega) only [rr, aop, cV, cV1, AV.one, Qb, okW, Qd, app, Qa, Qc, Qe, Qf, Qg, simprocAttr]
  refine QQ.by (ι := Nat) (fun k => ⟨[(51, .int .i64 k), (50, .int .i64 L.length), (49, .list L.length (L.map bs)), (13, .own 3 L.length), (11, .ref 2 1 0), (8, .ref 1 1 0), (4, .ref 0 1 0)],
      [⟨t0, 4, 1, [.int .i64 c, .int .i64 x, .int .i64 r, .own 4 (Qkt c x r n T L k).length], 0⟩, ⟨t0, 4, 1, [.int .i64 0, .int .i64 0, .int .i64 0, .list 0 []], 0⟩, ⟨t1, 16, 1, ks .i32 T, 0⟩, ⟨ti, 1, L.length, ks .i64 (Jp r n), 0⟩, ⟨t2, 1, (Qkt c x r n T L k).length, ks .i32 (Qkt c x r n T L k), 0⟩, ph2]⟩)
    (fun k => k ≤ L.length ∧ ZA (Qji c x r n T L) k = 0) (fun k => L.length - k) 0 ?_ ⟨by omega, rfl⟩ ?_
  · refine Le.trans (Le.virtI (p := 0) (ty := t2) (sz := 1) (pre := [.int .i64 c, .int .i64 x, .int .i64 r]) (by omega) rfl rfl) (Le.trans (Le.drop 5 2 (ob' := [⟨t0, 4, 1, [.int .i64 c, .int .i64 x, .int .i64 r, .own 4 0], 0⟩, ⟨t0, 4, 1, [.int .i64 0, .int .i64 0, .int .i64 0, .list 0 []], 0⟩, ⟨t1, 16, 1, ks .i32 T, 0⟩, ⟨ti, 1, L.length, ks .i64 (Jp r n), 0⟩, ⟨t2, 1, 0, [], 0⟩])
      (fr' := [(51, .int .i64 0), (50, .int .i64 L.length), (49, .list L.length (L.map bs)), (13, .own 3 L.length), (11, .ref 2 1 0), (8, .ref 1 1 0), (4, .ref 0 1 0)]) (by omega) rfl (by simp [Am.look, Qy, frzL, Qx, frzL_T _ (Qb7 L)]) ?_) Le.padE)
    intro i z hz
    match i, hz with
    | 0, hz => cases hz; exact ⟨_, rfl, by simp [Qy, frzL, Qx]⟩
    | 1, hz => cases hz; exact ⟨_, rfl, by simp [Qy, frzL, Qx]⟩
    | 2, hz => cases hz; exact ⟨_, rfl, by simp [Qy, frzL_T _ tT2]⟩
    | 3, hz => cases hz; exact ⟨_, rfl, by simp [Qy, frzL_T _ (Qv .i64 _)]⟩
    | 4, hz => cases hz; exact ⟨_, rfl, by simp [Qy, frzL]⟩
    | i + 5, hz => simp at hz
  intro k ⟨hk, hfe⟩
  have hsl := Qna c x r n T L k
  have ksl := Ql .i32 (Qkt c x r n T L k)
  by_cases hlt : k < L.length
  · have e1 := Qtf (L := L) (k := k) hlt
    have hk2 : (k : Int) < L.length := by omega
    have la : (ks .i64 (Jp r n)).drop k = .int .i64 ((Jp r n).getD k 0) :: (ks .i64 (Jp r n)).drop (k + 1) := by
      have h := Qbz (K := .i64) (l := Jp r n) (i := k) (by omega)
      rw [← Qag] at h
      exact h
    have hD' := hD c x ((Jp r n).getD k 0) T (L.getD k []) hTl hTI (hL2 k)
    obtain ⟨d1, d2⟩ := Qs5 c x T ((Jp r n).getD k 0) (L.getD k [])
    rw [d1, shA] at hD'
    have hsu := Qhe c x r n T L k
    have hpo : Qqa c x r n T L k = Qse c x T ((Jp r n).getD k 0) (L.getD k []) := rfl
    have heo : Qji c x r n T L k = Qs6 c x T ((Jp r n).getD k 0) (L.getD k []) := rfl
    rw [hpo] at hsu
    rw [← heo] at hD'
    obtain ⟨d3, d4⟩ := d2
    generalize Qse c x T ((Jp r n).getD k 0) (L.getD k []) = pt at *
    generalize Qkt c x r n T L k = su at *
    have kp := Ql .i32 pt
    simp (maxSteps := 4000000) (disch := omega) only [rr, aop, cV, cV1, AV.one, Qb, okW, Qd, app, Qa, Qc, Qe, Qf, Qg, simprocAttr, e1, hml, tT, kT]
    refine QC.own 5 bS.ent (fun ob' h' => Qns bS ht3 c x r 4 _ ob') rfl ?_
    simp (maxSteps := 4000000) (disch := omega) only [rr, aop, cV, cV1, AV.one, Qb, okW, Qd, app, Qa, Qc, Qe, Qf, Qg, simprocAttr, tT, kT, la, kn, shA, e1]
    refine QC.vc hD' ?_
    by_cases he : Qji c x r n T L k = 0
    · rw [he]
      have hfe1 : ZA (Qji c x r n T L) (k + 1) = 0 := by
        show (if ZA (Qji c x r n T L) k ≠ 0 then _ else _) = _
        rw [hfe, if_neg (by simp), he]
      have kss : ks .i32 su ++ ks .i32 pt = ks .i32 (su ++ pt) := Qef _ _ _
      simp (maxSteps := 4000000) (disch := omega) only [rr, aop, cV, cV1, AV.one, Qb, okW, Qd, app, Qa, Qc, Qe, Qf, Qg, simprocAttr, il, ksl, kp, kss]
      refine ⟨k + 1, ⟨by omega, hfe1⟩, by omega, ?_⟩
      rw [hsu]
      refine Le.trans (Le.drop 5 2 (ob' := [⟨t0, 4, 1, [.int .i64 c, .int .i64 x, .int .i64 r, .own 4 (su ++ pt).length], 0⟩, ⟨t0, 4, 1, [.int .i64 0, .int .i64 0, .int .i64 0, .list 0 []], 0⟩, ⟨t1, 16, 1, ks .i32 T, 0⟩, ⟨ti, 1, L.length, ks .i64 (Jp r n), 0⟩, ⟨t2, 1, (su ++ pt).length, ks .i32 (su ++ pt), 0⟩])
        (fr' := [(51, .int .i64 (k + 1 : Nat)), (50, .int .i64 L.length), (49, .list L.length (L.map bs)), (13, .own 3 L.length), (11, .ref 2 1 0), (8, .ref 1 1 0), (4, .ref 0 1 0)]) (by omega) rfl (by simp [Am.look, Qy, frzL, Qx, frzL_T _ (Qb7 L)]) ?_) Le.padE
      intro i z hz
      match i, hz with
      | 0, hz => cases hz; exact ⟨_, rfl, by simp [Qy, frzL, Qx]⟩
      | 1, hz => cases hz; exact ⟨_, rfl, by simp [Qy, frzL, Qx]⟩
      | 2, hz => cases hz; exact ⟨_, rfl, by simp [Qy, frzL_T _ tT2]⟩
      | 3, hz => cases hz; exact ⟨_, rfl, by simp [Qy, frzL_T _ (Qv .i64 _)]⟩
      | 4, hz => cases hz; exact ⟨ks .i32 (su ++ pt), by simp, by simp [Qy, frzL_T _ (Qv .i32 _)]⟩
      | i + 5, hz => simp at hz
    · have hfE : ZA (Qji c x r n T L) L.length = Qji c x r n T L k := Qou hfe he hlt
      rw [hfE, if_pos he] at e9
      simp (maxSteps := 4000000) (disch := omega) only [rr, aop, cV, cV1, AV.one, Qb, okW, Qd, app, Qa, Qc, Qe, Qf, Qg, simprocAttr, Zf, ht, e9]
      simp [QH, Qy, frzL, Qx, isDL, isD, clA, il, ks]
  · obtain rfl : k = L.length := by omega
    rw [if_neg (by simpa using hfe)] at e9
    have ts := Qv .i32 (Qkt c x r n T L L.length)
    generalize Qkt c x r n T L L.length = su at *
    simp (maxSteps := 4000000) (disch := omega) only [rr, aop, cV, cV1, AV.one, Qb, okW, Qd, app, Qa, Qc, Qe, Qf, Qg, simprocAttr, Zf, ht, e9]
    simp [QH, Qy, frzL, Qx, isDL, isD, clA, il, frzL_T _ ts]
end Go.Am

namespace Go.Am
open Go.RowKit

/-! ### law24: example, alive -/

def Qli (P : Prg) (f : Nat) : Prop := VC P f [] (clA 1 8 2 [1, 2, 3])
theorem QfV {P : Prg} {f t0 t1 : Nat} (bd : Qo P f 3 [.cell 0 t0] (Qi t0 t1)) (ht : Zs P t0 = some (some 4)) : Qli P f := by
  refine VC.of_walk 1 rfl (by simp [clA, isD, isDL, QW]) (ACall.of_body bd (by simp) ?_)
  simp (maxSteps := 4000000) (disch := omega) only [rr, aop, cV, cV1, AV.one, Qb, okW, Qd, app, Qa, Qc, Qe, Qf, Qg, simprocAttr, Qi, Zf, ht, QR]
  simp [QH, Qy, frzL, Qx, isDL, isD, clA, il, ks]

def Qkj (P : Prg) (f : Nat) : Prop := VC P f [] (.bool true)
theorem Qga : Zc 1 8 2 [1, 2, 3] = 0 := by decide +kernel
theorem QfO : QF 1 2 [1, 2, 3] = [[1, 2], [3]] := by decide +kernel
theorem QpG : ofK (Qbh 0 []) 8 = Zw := by decide +kernel
def frE : List UInt8 := QhO 1 8 Zw [1, 2]
def Qt9 : List UInt8 := QhO 1 8 Zw [3]
theorem QpO : Jb 1 8 2 [1, 2, 3] = .tup [iss [[1, 2], [3]], .int .i64 0] := by rw [Jb, if_pos Qga, QfO]
theorem Qon : ZN 1 8 2 [1, 2, 3] [] = .tup [bss [frE, Qt9], .int .i64 0] := by
  rw [ZN, if_neg (by rw [Qga]; simp), if_neg (by simp), Xw, QfO, QpG]
  rfl
theorem Qsx : I32 Zw := fun v hv => by simp [Zw] at hv; omega
theorem Qs1 : Qr8 1 8 Zw [1, 2] = .tup [bs frE, .int .i64 0] := by
  have h1 : Qcq 1 8 [1, 2] = 0 := by decide +kernel
  rw [Qr8, if_neg (by omega)]
  rfl
theorem Qr7 : 5 ≤ frE.length ∧ frE.length ≤ 40504 := by
  have h := Qrc (c := 1) (x := 8) (t := Zw) (l := [1, 2]) (by intro v hv; simp at hv; omega) (by decide +kernel)
  exact ⟨h.2, h.1⟩

set_option maxHeartbeats 1000000 in
theorem Qi9 {P : Prg} {f fX fS fF fE fP t0 t1 : Nat} (bd : Qo P f 60 [.tmp 0] (ZE fX fS fF fE fP t0 t1)) (hX : Qli P fX) (hS : Qev P fS) (hF : QdL P fF) (hE : QqU P fE) (hP : Qst P fP) : Qkj P f := by
  refine VC.of_acall rfl rfl (ACall.of_body bd (by simp) ?_)
  have i3 : I32 [1, 2, 3] := by intro v hv; simp at hv; omega
  have i2 : I32 [1, 2] := by intro v hv; simp at hv; omega
  have hX' : VC P fX [] (.agg [.int .i64 1, .int .i64 8, .int .i64 2, .list 3 [.int .i32 1, .int .i32 2, .int .i32 3]]) := hX
  have hS' := hS 1 8 2 [1, 2, 3] i3 (by simp)
  have hF' := hF 1 8 2 [1, 2, 3] [] i3 (by simp)
  have hE' := hE 1 8 Zw [1, 2] rfl Qsx i2
  have hP' := hP [[1, 2], [3]] [[1, 2], [3]] (QkK (by simp) (by simp)) (QkK (by simp) (by simp))
  rw [QpO] at hS'
  rw [Qon] at hF'
  rw [Qs1] at hE'
  simp only [eq_self, decide_true] at hP'
  obtain ⟨l1, l2⟩ := Qr7
  have hd := XU frE
  have hs1 : Qsy .eql frE frE = some (.bool true) := by simp [Qsy]
  generalize frE = F at *
  generalize Qt9 = G at *
  have hS2 : VC P fS [.agg [.int .i64 1, .int .i64 8, .int .i64 2, .list 3 [.int .i32 1, .int .i32 2, .int .i32 3]]] (.tup [.list 2 [.list 2 [.int .i32 1, .int .i32 2], .list 1 [.int .i32 3]], .int .i64 0]) := hS'
  have hF2 : VC P fF [.agg [.int .i64 1, .int .i64 8, .int .i64 2, .list 3 [.int .i32 1, .int .i32 2, .int .i32 3]], .str []] (.tup [.list 2 [.list F.length (u8 F), .list G.length (u8 G)], .int .i64 0]) := hF'
  have hE2 : VC P fE [.agg [.int .i64 1, .int .i64 8], .agg [.int .i32 0, .int .i32 0, .int .i32 0, .int .i32 0, .int .i32 0, .int .i32 0, .int .i32 0, .int .i32 0, .int .i32 0, .int .i32 0, .int .i32 0, .int .i32 0, .int .i32 0, .int .i32 0, .int .i32 0, .int .i32 0], .list 2 [.int .i32 1, .int .i32 2]] (.tup [.list F.length (u8 F), .int .i64 0]) := hE'
  have hP2 : VC P fP [.list 2 [.list 2 [.int .i32 1, .int .i32 2], .list 1 [.int .i32 3]], .list 2 [.list 2 [.int .i32 1, .int .i32 2], .list 1 [.int .i32 3]]] (.bool true) := hP'
  clear hX hS hF hE hP hS' hF' hE' hP'
  simp (maxSteps := 4000000) (disch := omega) only [rr, aop, cV, cV1, AV.one, Qb, okW, Qd, app, Qa, Qc, Qe, Qf, Qg, simprocAttr, ZE]
  refine Qh.vc hX' ?_
  simp (maxSteps := 4000000) (disch := omega) only [rr, aop, cV, cV1, AV.one, Qb, okW, Qd, app, Qa, Qc, Qe, Qf, Qg, simprocAttr]
  refine Qh.vc hS2 ?_
  simp (maxSteps := 4000000) (disch := omega) only [rr, aop, cV, cV1, AV.one, Qb, okW, Qd, app, Qa, Qc, Qe, Qf, Qg, simprocAttr]
  refine Qh.vc hX' ?_
  simp (maxSteps := 4000000) (disch := omega) only [rr, aop, cV, cV1, AV.one, Qb, okW, Qd, app, Qa, Qc, Qe, Qf, Qg, simprocAttr]
  refine Qh.vc hF2 ?_
  simp (maxSteps := 4000000) (disch := omega) only [rr, aop, cV, cV1, AV.one, Qb, okW, Qd, app, Qa, Qc, Qe, Qf, Qg, simprocAttr]
  refine Qh.still 1 [0] hE2 (by simp [QH, Qy, frzL, Qx]) ?_
  simp (maxSteps := 4000000) (disch := omega) only [rr, aop, cV, cV1, AV.one, Qb, okW, Qd, app, Qa, Qc, Qe, Qf, Qg, simprocAttr, QiT, isDL, isD, Qk]
  refine QC.vc hP2 ?_
  simp (maxSteps := 4000000) (disch := omega) only [rr, aop, cV, cV1, AV.one, Qb, okW, Qd, app, Qa, Qc, Qe, Qf, Qg, simprocAttr, hd, hs1]
end Go.Am

namespace Go.Am
open Go.RowKit

/-! ### The laws ClipAnew, ClipPasswords -/

theorem callE.vo {P : Prg} {B : Nat} {Q : Exit → St → Prop} {f : FuncId} {ds : List AV} {r : AV} {x : Ob} (h : VO P f ds r x) {ob : List Ob} (o : Nat) (ho : ob[o]? = some ph2) {xs : List It} {fr : List (Nat × AV)} {dst : Option Nat} (hK : J6 P B xs Q ⟨Zo fr dst (shr o r), ob.set o x⟩) : QC P B true f ds xs Q fr ob dst := by
  have hl : o < ob.length := (List.getElem?_eq_some_iff.1 ho).1
  have ha : app ob (some (o, x)) = ob.set o x := by simp [app, hl]
  refine ⟨shr o r, some (o, x), ?_, by rw [ha]; exact hK⟩
  unfold Qav
  rw [if_pos rfl]
  refine ⟨ACall.of_vo_at h ho ⟨rfl, by rw [ha]⟩, fun o' y e => ?_⟩
  cases e
  exact ⟨ph2, ho, by simp [ph2, ph]⟩

end Go.Am

namespace Go.Am
open Go.RowKit

/-! ### The law ClipNames: what is said of some clips -/

def tP : List Int := ofK (Qbh 0 [112]) 8
def cn0 : List UInt8 := QhO 1 8 tP [1, 2]
def cn1 : List UInt8 := QhO 1 8 tP [3]
theorem cnF : ZN 1 8 2 [1, 2, 3] [112] = .tup [bss [cn0, cn1], .int .i64 0] := by
  rw [ZN, if_neg (by rw [Qga]; simp), if_neg (by simp), Xw, QfO]
  rfl
theorem Qul : ZA (Qji 1 8 2 4 tP [cn0, cn1]) 2 = 24 := by decide +kernel
theorem Qum : ZA (Qji 1 8 2 3 tP [cn0, []]) 2 = 24 := by decide +kernel
theorem Quk : ZA (Qji 1 8 2 3 tP [[1, 2, 3, 4, 5, 6], []]) 2 = 22 := by decide +kernel
end Go.Am

namespace Go.Am
open Go.RowKit

def Qkd (P : Prg) (f : Nat) : Prop := ∀ n : Nat, n ≤ 1000 → VC P f [.int .i64 n] (.str (List.replicate n 120))
theorem QlW {P : Prg} {f t0 : Nat} (bd : Qo P f 17 [.tmp 2] (ZO t0)) : Qkd P f := by
  intro n hn
  refine VC.of_acall rfl rfl (ACall.of_body bd (by simp) ?_)
  have hz : Qm [.int .u8 0] n = u8 (List.replicate 0 120 ++ List.replicate (n - 0) 0) := by rw [QnF]; simp
  simp (maxSteps := 4000000) (disch := omega) only [rr, aop, cV, cV1, AV.one, Qb, okW, Qd, app, Qa, Qc, Qe, Qf, Qg, simprocAttr, ZO, hz]
  refine QQ.by (ι := Nat) (fun k => ⟨[(4, .int .i64 k), (3, .own 0 n), (0, .int .i64 n)], [⟨t0, 1, n, u8 (List.replicate k 120 ++ List.replicate (n - k) 0), 0⟩]⟩) (fun k => k ≤ n) (fun k => n - k) 0 (Le.slots (by simp [Am.look])) (by omega) ?_
  intro k hk
  have hlen : (u8 (List.replicate k (120 : UInt8) ++ List.replicate (n - k) 0)).length = n := by rw [Q6]; simp; omega
  by_cases hlt : k < n
  · have hst : (u8 (List.replicate k (120 : UInt8) ++ List.replicate (n - k) 0)).take k ++ .int .u8 120 :: (u8 (List.replicate k (120 : UInt8) ++ List.replicate (n - k) 0)).drop (k + 1) = u8 (List.replicate (k + 1) 120 ++ List.replicate (n - (k + 1)) 0) := by
      rw [Qrq, QiK, List.take_append_of_le_length (by simp), List.take_of_length_le (by simp), List.drop_append, List.drop_eq_nil_of_le (by simp), List.replicate_succ', List.nil_append, List.length_replicate, List.drop_replicate]
      simp only [u8, List.map_append, List.map_cons, List.map_nil, List.append_assoc, List.cons_append, List.nil_append]
      rw [show n - k - (k + 1 - k) = n - (k + 1) by omega]
      rfl
    have hst2 : (u8 (List.replicate k (120 : UInt8) ++ List.replicate (n - k) 0)).take k ++ [.int .u8 120] ++ (u8 (List.replicate k (120 : UInt8) ++ List.replicate (n - k) 0)).drop (k + 1) = u8 (List.replicate (k + 1) 120 ++ List.replicate (n - (k + 1)) 0) := by rw [← hst]; simp
    simp (maxSteps := 4000000) (disch := omega) only [rr, aop, cV, cV1, AV.one, Qb, okW, Qd, app, Qa, Qc, Qe, Qf, Qg, simprocAttr, hlen, hst, hst2]
    exact ⟨k + 1, by omega, by omega, Le.slots (by simp [Am.look])⟩
  · have ek : k = n := by omega
    subst ek
    have e0 : u8 (List.replicate k (120 : UInt8) ++ List.replicate (k - k) 0) = u8 (List.replicate k 120) := by simp
    have hd := XU (List.replicate k 120)
    have hu : (u8 (List.replicate k (120 : UInt8))).length = k := by rw [Q6]; simp
    rw [e0]
    simp (maxSteps := 4000000) (disch := omega) only [rr, aop, cV, cV1, AV.one, Qb, okW, Qd, app, Qa, Qc, Qe, Qf, Qg, simprocAttr, hd, hu]
end Go.Am

namespace Go.Am
open Go.RowKit

/-! ### The law ClipNames -/

theorem sp8 {c x r : Int} {l : List Int} (h : Zc c x r l = 8) : Jb c x r l = .tup [.list 0 [], .int .i64 8] := by rw [Jb, if_neg (by omega)]; rfl
theorem fr8 {c x r : Int} {l : List Int} (p : List UInt8) (h : Zc c x r l = 8) : ZN c x r l p = .tup [.list 0 [], .int .i64 8] := by rw [ZN, if_pos (by omega)]; rfl
theorem jo8 {c x r : Int} {l : List Int} (h : Zc c x r l = 8) : QcC c x r [l] = .tup [clA 0 0 0 [], .int .i64 8] := by
  have e : [l].flatten = l := by simp
  rw [QcC, e, if_neg (by omega)]

theorem Qs9 : cn0.length ≤ 1000000 ∧ cn1.length ≤ 1000000 := by decide +kernel
theorem QhJ {a b : List UInt8} (ha : a.length ≤ 1000000) (hb : b.length ≤ 1000000) : Qts [a, b] := ⟨by simp, fun j => by match j with | 0 => exact ha | 1 => exact hb | j + 2 => simp⟩
theorem Qr6 {a : List UInt8} (ha : a.length ≤ 1000000) : Qts [a] := ⟨by simp, fun j => by match j with | 0 => exact ha | j + 1 => simp⟩
theorem Qoo : Qts [] := ⟨by simp, fun j => by simp⟩
theorem Qq2 {c x r n : Int} {p : List UInt8} {L : List (List UInt8)} (h : Z6 c x r n = 8) : QaR c x r n p L = .tup [clA 0 0 0 [], .int .i64 8] := by rw [QaR, if_pos (by omega)]
theorem QtI {c x r n : Int} {p : List UInt8} {L : List (List UInt8)} (h : Z6 c x r n = 0) (hp : 64 < p.length) : QaR c x r n p L = .tup [clA 0 0 0 [], .int .i64 2] := by rw [QaR, if_neg (by omega), if_pos hp]
theorem QkM {c x r n : Int} {p : List UInt8} {L : List (List UInt8)} (h : Z6 c x r n = 0) (hp : ¬ 64 < p.length) (hl : (Jp r n).length ≠ L.length) : QaR c x r n p L = .tup [clA 0 0 0 [], .int .i64 12] := by rw [QaR, if_neg (by omega), if_neg hp, if_pos hl]
theorem QnY {c x r n e : Int} {p : List UInt8} {L : List (List UInt8)} (h : Z6 c x r n = 0) (hp : ¬ 64 < p.length) (hl : (Jp r n).length = L.length) (he : ZA (Qji c x r n (ofK (Qbh 0 p) 8) L) L.length = e) (h0 : e ≠ 0) : QaR c x r n p L = .tup [clA 0 0 0 [], .int .i64 e] := by rw [QaR, if_neg (by omega), if_neg hp, if_neg (by omega), he, if_pos h0]
theorem Qt8 {L : List (List Int)} (h : Zc 1 8 2 L.flatten = 0) (h2 : L ≠ QF 1 2 L.flatten) : QcC 1 8 2 L = .tup [clA 0 0 0 [], .int .i64 12] := by rw [QcC, if_pos h, if_neg h2]
theorem VC.empL {P : Prg} {f : FuncId} {r : AV} {a b d : AV} {n : Nat} (cs : List AV) (h : VC P f [a, b, d, .list n (emL cs)] r) (hd : isDL [a, b, d, .list n cs] = true) : VC P f [a, b, d, .list n cs] r :=
  ⟨h.1, hd, h.2.2.1, fun w C vs hC hG hr => h.2.2.2 w C vs hC hG (by
    simp only [RepL] at hr ⊢
    obtain ⟨v1, r1, e1, g1, v2, r2, e2, g2, v3, r3, e3, g3, v4, r4, e4, g4, g5⟩ := hr
    refine ⟨v1, r1, e1, g1, v2, r2, e2, g2, v3, r3, e3, g3, v4, r4, e4, ?_, g5⟩
    simp only [Rep] at g4 ⊢
    obtain ⟨q1, q2, q3, q4, q5, q6, q7⟩ := g4
    exact ⟨q1, q2, q3, q4, q5, q6, QgM _ _ q7⟩)⟩
theorem QtX : Zc 0 8 2 [1, 2, 3] = 8 := by decide +kernel
theorem QtW : Zc 2 8 2 [1, 2, 3] = 8 := by decide +kernel
theorem QtV : Zc 7 8 2 [1, 2, 3] = 8 := by decide +kernel
theorem QtU : Zc 1 12 2 [1, 2, 3] = 8 := by decide +kernel
theorem QtT : Zc 1 8 0 [1, 2, 3] = 8 := by decide +kernel
theorem QtS : Zc 1 8 2 [] = 8 := by decide +kernel
theorem QtR : Zc 1 8 2 [1, 128, 3] = 8 := by decide +kernel
theorem QtQ : Zc 1 8 44100 (List.replicate 4001 0) = 8 := by decide +kernel
theorem QtP : Zc 1 8 1 (List.replicate 1001 0) = 8 := by decide +kernel

def Qey (P : Prg) (f : Nat) : Prop := VC P f [] (.bool true)
set_option maxHeartbeats 4000000 in
set_option maxRecDepth 20000 in
theorem Qee {P : Prg} {f fX fS fL fF fJ fC fO fA t0 t1 t2 t3 t4 u0 u1 : Nat} (bd : Qo P f 247 [.tmp 0] (Q8 fX fS fL fF fJ fC fO fA t0 t1 t2 t3 t4)) (bX : Qo P fX 3 [.cell 0 u0] (Qi u0 u1)) (hu : Zs P u0 = some (some 4)) (hX : Qli P fX) (hS : Qev P fS) (hL : Qkd P fL) (hF : QdL P fF) (hJ : QgE P fJ) (hC : Jo P fC) (hO : QgK P fO) (hA : Qkj P fA) : Qey P f := by
  refine VC.of_acall rfl rfl (ACall.of_body bd (by simp) ?_)
  have hA' : VC P fA [] (.bool true) := hA
  have hL' : VC P fL [.int .i64 65] (.str (List.replicate 65 120)) := hL 65 (by omega)
  generalize hlg : List.replicate 65 (120 : UInt8) = lg at *
  have key : ∀ (c x r : Int) (l : List Int), Zc c x r l = 8 → I32 l → l.length ≤ 5000 → VC P fS [.agg [.int .i64 c, .int .i64 x, .int .i64 r, .list l.length (ks .i32 l)]] (.tup [.list 0 [], .int .i64 8]) ∧
      VC P fF [.agg [.int .i64 c, .int .i64 x, .int .i64 r, .list l.length (ks .i32 l)], .str lg] (.tup [.list 0 [], .int .i64 8]) ∧
      VC P fJ [.agg [.int .i64 c, .int .i64 x, .int .i64 r, .list l.length (ks .i32 l)], .list 1 [.list l.length (ks .i32 l)]] (.tup [.agg [.int .i64 0, .int .i64 0, .int .i64 0, .list 0 []], .int .i64 8]) ∧
      VC P fC [.agg [.int .i64 c, .int .i64 x, .int .i64 r, .list l.length (ks .i32 l)]] (.int .i64 8) := by
    intro c x r l h hI hl
    have a1 := hS c x r l hI (by omega)
    have a2 := hF c x r l lg hI (by omega)
    have a3 := hJ c x r l [l] (by simpa using hI) (by simp) (by simp; omega)
    have a4 := hC c x r l hI (by omega)
    rw [sp8 h] at a1
    rw [fr8 _ h] at a2
    rw [jo8 h] at a3
    rw [h] at a4
    exact ⟨a1, a2, a3, a4⟩
  simp (maxSteps := 4000000) (disch := omega) only [rr, aop, cV, cV1, AV.one, Qb, okW, Qd, app, Qa, Qc, Qe, Qf, Qg, simprocAttr, Q8]
  refine QQ.by (ι := Nat) (fun j => ⟨[(1, .int .i64 j)], []⟩) (fun j => j ≤ 9) (fun j => 9 - j) 0 (Le.slots (by simp [Am.look])) (by omega) ?_
  intro j hj
  have hj9 : j = 0 ∨ j = 1 ∨ j = 2 ∨ j = 3 ∨ j = 4 ∨ j = 5 ∨ j = 6 ∨ j = 7 ∨ j = 8 ∨ j = 9 := by omega
  rcases hj9 with rfl | rfl | rfl | rfl | rfl | rfl | rfl | rfl | rfl | rfl
  · obtain ⟨k1, k2, k3, k4⟩ := key 0 8 2 [1, 2, 3] QtX (by intro v hv; simp at hv; omega) (by simp)
    have k1 : VC P fS [.agg [.int .i64 0, .int .i64 8, .int .i64 2, .list 3 [.int .i32 1, .int .i32 2, .int .i32 3]]] (.tup [.list 0 [], .int .i64 8]) := k1
    have k2 : VC P fF [.agg [.int .i64 0, .int .i64 8, .int .i64 2, .list 3 [.int .i32 1, .int .i32 2, .int .i32 3]], .str lg] (.tup [.list 0 [], .int .i64 8]) := k2
    have k3 : VC P fJ [.agg [.int .i64 0, .int .i64 8, .int .i64 2, .list 3 [.int .i32 1, .int .i32 2, .int .i32 3]], .list 1 [.list 3 [.int .i32 1, .int .i32 2, .int .i32 3]]] (.tup [.agg [.int .i64 0, .int .i64 0, .int .i64 0, .list 0 []], .int .i64 8]) := k3
    have k4 : VC P fC [.agg [.int .i64 0, .int .i64 8, .int .i64 2, .list 3 [.int .i32 1, .int .i32 2, .int .i32 3]]] (.int .i64 8) := k4
    simp (maxSteps := 4000000) (disch := omega) only [rr, aop, cV, cV1, AV.one, Qb, okW, Qd, app, Qa, Qc, Qe, Qf, Qg, simprocAttr]
    refine ACall.of_body bX (by simp) ?_
    simp (maxSteps := 4000000) (disch := omega) only [rr, aop, cV, cV1, AV.one, Qb, okW, Qd, app, Qa, Qc, Qe, Qf, Qg, simprocAttr, Qi, Zf, hu, QR]
    refine Qh.still 1 [1] k1 (by simp [QH, Qy, frzL, Qx]) ?_
    simp (maxSteps := 4000000) (disch := omega) only [rr, aop, cV, cV1, AV.one, Qb, okW, Qd, app, Qa, Qc, Qe, Qf, Qg, simprocAttr, Qk]
    refine QC.vc hL' ?_
    simp (maxSteps := 4000000) (disch := omega) only [rr, aop, cV, cV1, AV.one, Qb, okW, Qd, app, Qa, Qc, Qe, Qf, Qg, simprocAttr]
    refine QC.still 1 1 rfl (by simp [ph]) k2 (by simp [QH, Qy, frzL, Qx]) ?_
    simp (maxSteps := 4000000) (disch := omega) only [rr, aop, cV, cV1, AV.one, Qb, okW, Qd, app, Qa, Qc, Qe, Qf, Qg, simprocAttr]
    refine Qh.still 2 [1, 3] k3 (by simp [QH, Qy, frzL, Qx]) ?_
    simp (maxSteps := 4000000) (disch := omega) only [rr, aop, cV, cV1, AV.one, Qb, okW, Qd, app, Qa, Qc, Qe, Qf, Qg, simprocAttr, Qk]
    refine Qh.still 1 [1] k4 (by simp [QH, Qy, frzL, Qx]) ?_
    simp (maxSteps := 4000000) (disch := omega) only [rr, aop, cV, cV1, AV.one, Qb, okW, Qd, app, Qa, Qc, Qe, Qf, Qg, simprocAttr]
    exact ⟨1, by omega, by omega, Le.dropT [] (by simp) (by simp [Am.look, Qy, frzL, Qx])⟩
  · obtain ⟨k1, k2, k3, k4⟩ := key 2 8 2 [1, 2, 3] QtW (by intro v hv; simp at hv; omega) (by simp)
    have k1 : VC P fS [.agg [.int .i64 2, .int .i64 8, .int .i64 2, .list 3 [.int .i32 1, .int .i32 2, .int .i32 3]]] (.tup [.list 0 [], .int .i64 8]) := k1
    have k2 : VC P fF [.agg [.int .i64 2, .int .i64 8, .int .i64 2, .list 3 [.int .i32 1, .int .i32 2, .int .i32 3]], .str lg] (.tup [.list 0 [], .int .i64 8]) := k2
    have k3 : VC P fJ [.agg [.int .i64 2, .int .i64 8, .int .i64 2, .list 3 [.int .i32 1, .int .i32 2, .int .i32 3]], .list 1 [.list 3 [.int .i32 1, .int .i32 2, .int .i32 3]]] (.tup [.agg [.int .i64 0, .int .i64 0, .int .i64 0, .list 0 []], .int .i64 8]) := k3
    have k4 : VC P fC [.agg [.int .i64 2, .int .i64 8, .int .i64 2, .list 3 [.int .i32 1, .int .i32 2, .int .i32 3]]] (.int .i64 8) := k4
    simp (maxSteps := 4000000) (disch := omega) only [rr, aop, cV, cV1, AV.one, Qb, okW, Qd, app, Qa, Qc, Qe, Qf, Qg, simprocAttr]
    refine ACall.of_body bX (by simp) ?_
    simp (maxSteps := 4000000) (disch := omega) only [rr, aop, cV, cV1, AV.one, Qb, okW, Qd, app, Qa, Qc, Qe, Qf, Qg, simprocAttr, Qi, Zf, hu, QR]
    refine Qh.still 1 [1] k1 (by simp [QH, Qy, frzL, Qx]) ?_
    simp (maxSteps := 4000000) (disch := omega) only [rr, aop, cV, cV1, AV.one, Qb, okW, Qd, app, Qa, Qc, Qe, Qf, Qg, simprocAttr, Qk]
    refine QC.vc hL' ?_
    simp (maxSteps := 4000000) (disch := omega) only [rr, aop, cV, cV1, AV.one, Qb, okW, Qd, app, Qa, Qc, Qe, Qf, Qg, simprocAttr]
    refine QC.still 1 1 rfl (by simp [ph]) k2 (by simp [QH, Qy, frzL, Qx]) ?_
    simp (maxSteps := 4000000) (disch := omega) only [rr, aop, cV, cV1, AV.one, Qb, okW, Qd, app, Qa, Qc, Qe, Qf, Qg, simprocAttr]
    refine Qh.still 2 [1, 3] k3 (by simp [QH, Qy, frzL, Qx]) ?_
    simp (maxSteps := 4000000) (disch := omega) only [rr, aop, cV, cV1, AV.one, Qb, okW, Qd, app, Qa, Qc, Qe, Qf, Qg, simprocAttr, Qk]
    refine Qh.still 1 [1] k4 (by simp [QH, Qy, frzL, Qx]) ?_
    simp (maxSteps := 4000000) (disch := omega) only [rr, aop, cV, cV1, AV.one, Qb, okW, Qd, app, Qa, Qc, Qe, Qf, Qg, simprocAttr]
    exact ⟨2, by omega, by omega, Le.dropT [] (by simp) (by simp [Am.look, Qy, frzL, Qx])⟩
  · obtain ⟨k1, k2, k3, k4⟩ := key 7 8 2 [1, 2, 3] QtV (by intro v hv; simp at hv; omega) (by simp)
    have k1 : VC P fS [.agg [.int .i64 7, .int .i64 8, .int .i64 2, .list 3 [.int .i32 1, .int .i32 2, .int .i32 3]]] (.tup [.list 0 [], .int .i64 8]) := k1
    have k2 : VC P fF [.agg [.int .i64 7, .int .i64 8, .int .i64 2, .list 3 [.int .i32 1, .int .i32 2, .int .i32 3]], .str lg] (.tup [.list 0 [], .int .i64 8]) := k2
    have k3 : VC P fJ [.agg [.int .i64 7, .int .i64 8, .int .i64 2, .list 3 [.int .i32 1, .int .i32 2, .int .i32 3]], .list 1 [.list 3 [.int .i32 1, .int .i32 2, .int .i32 3]]] (.tup [.agg [.int .i64 0, .int .i64 0, .int .i64 0, .list 0 []], .int .i64 8]) := k3
    have k4 : VC P fC [.agg [.int .i64 7, .int .i64 8, .int .i64 2, .list 3 [.int .i32 1, .int .i32 2, .int .i32 3]]] (.int .i64 8) := k4
    simp (maxSteps := 4000000) (disch := omega) only [rr, aop, cV, cV1, AV.one, Qb, okW, Qd, app, Qa, Qc, Qe, Qf, Qg, simprocAttr]
    refine ACall.of_body bX (by simp) ?_
    simp (maxSteps := 4000000) (disch := omega) only [rr, aop, cV, cV1, AV.one, Qb, okW, Qd, app, Qa, Qc, Qe, Qf, Qg, simprocAttr, Qi, Zf, hu, QR]
    refine Qh.still 1 [1] k1 (by simp [QH, Qy, frzL, Qx]) ?_
    simp (maxSteps := 4000000) (disch := omega) only [rr, aop, cV, cV1, AV.one, Qb, okW, Qd, app, Qa, Qc, Qe, Qf, Qg, simprocAttr, Qk]
    refine QC.vc hL' ?_
    simp (maxSteps := 4000000) (disch := omega) only [rr, aop, cV, cV1, AV.one, Qb, okW, Qd, app, Qa, Qc, Qe, Qf, Qg, simprocAttr]
    refine QC.still 1 1 rfl (by simp [ph]) k2 (by simp [QH, Qy, frzL, Qx]) ?_
    simp (maxSteps := 4000000) (disch := omega) only [rr, aop, cV, cV1, AV.one, Qb, okW, Qd, app, Qa, Qc, Qe, Qf, Qg, simprocAttr]
    refine Qh.still 2 [1, 3] k3 (by simp [QH, Qy, frzL, Qx]) ?_
    simp (maxSteps := 4000000) (disch := omega) only [rr, aop, cV, cV1, AV.one, Qb, okW, Qd, app, Qa, Qc, Qe, Qf, Qg, simprocAttr, Qk]
    refine Qh.still 1 [1] k4 (by simp [QH, Qy, frzL, Qx]) ?_
    simp (maxSteps := 4000000) (disch := omega) only [rr, aop, cV, cV1, AV.one, Qb, okW, Qd, app, Qa, Qc, Qe, Qf, Qg, simprocAttr]
    exact ⟨3, by omega, by omega, Le.dropT [] (by simp) (by simp [Am.look, Qy, frzL, Qx])⟩
  · obtain ⟨k1, k2, k3, k4⟩ := key 1 12 2 [1, 2, 3] QtU (by intro v hv; simp at hv; omega) (by simp)
    have k1 : VC P fS [.agg [.int .i64 1, .int .i64 12, .int .i64 2, .list 3 [.int .i32 1, .int .i32 2, .int .i32 3]]] (.tup [.list 0 [], .int .i64 8]) := k1
    have k2 : VC P fF [.agg [.int .i64 1, .int .i64 12, .int .i64 2, .list 3 [.int .i32 1, .int .i32 2, .int .i32 3]], .str lg] (.tup [.list 0 [], .int .i64 8]) := k2
    have k3 : VC P fJ [.agg [.int .i64 1, .int .i64 12, .int .i64 2, .list 3 [.int .i32 1, .int .i32 2, .int .i32 3]], .list 1 [.list 3 [.int .i32 1, .int .i32 2, .int .i32 3]]] (.tup [.agg [.int .i64 0, .int .i64 0, .int .i64 0, .list 0 []], .int .i64 8]) := k3
    have k4 : VC P fC [.agg [.int .i64 1, .int .i64 12, .int .i64 2, .list 3 [.int .i32 1, .int .i32 2, .int .i32 3]]] (.int .i64 8) := k4
    simp (maxSteps := 4000000) (disch := omega) only [rr, aop, cV, cV1, AV.one, Qb, okW, Qd, app, Qa, Qc, Qe, Qf, Qg, simprocAttr]
    refine ACall.of_body bX (by simp) ?_
    simp (maxSteps := 4000000) (disch := omega) only [rr, aop, cV, cV1, AV.one, Qb, okW, Qd, app, Qa, Qc, Qe, Qf, Qg, simprocAttr, Qi, Zf, hu, QR]
    refine Qh.still 1 [1] k1 (by simp [QH, Qy, frzL, Qx]) ?_
    simp (maxSteps := 4000000) (disch := omega) only [rr, aop, cV, cV1, AV.one, Qb, okW, Qd, app, Qa, Qc, Qe, Qf, Qg, simprocAttr, Qk]
    refine QC.vc hL' ?_
    simp (maxSteps := 4000000) (disch := omega) only [rr, aop, cV, cV1, AV.one, Qb, okW, Qd, app, Qa, Qc, Qe, Qf, Qg, simprocAttr]
    refine QC.still 1 1 rfl (by simp [ph]) k2 (by simp [QH, Qy, frzL, Qx]) ?_
    simp (maxSteps := 4000000) (disch := omega) only [rr, aop, cV, cV1, AV.one, Qb, okW, Qd, app, Qa, Qc, Qe, Qf, Qg, simprocAttr]
    refine Qh.still 2 [1, 3] k3 (by simp [QH, Qy, frzL, Qx]) ?_
    simp (maxSteps := 4000000) (disch := omega) only [rr, aop, cV, cV1, AV.one, Qb, okW, Qd, app, Qa, Qc, Qe, Qf, Qg, simprocAttr, Qk]
    refine Qh.still 1 [1] k4 (by simp [QH, Qy, frzL, Qx]) ?_
    simp (maxSteps := 4000000) (disch := omega) only [rr, aop, cV, cV1, AV.one, Qb, okW, Qd, app, Qa, Qc, Qe, Qf, Qg, simprocAttr]
    exact ⟨4, by omega, by omega, Le.dropT [] (by simp) (by simp [Am.look, Qy, frzL, Qx])⟩
  · obtain ⟨k1, k2, k3, k4⟩ := key 1 8 0 [1, 2, 3] QtT (by intro v hv; simp at hv; omega) (by simp)
    have k1 : VC P fS [.agg [.int .i64 1, .int .i64 8, .int .i64 0, .list 3 [.int .i32 1, .int .i32 2, .int .i32 3]]] (.tup [.list 0 [], .int .i64 8]) := k1
    have k2 : VC P fF [.agg [.int .i64 1, .int .i64 8, .int .i64 0, .list 3 [.int .i32 1, .int .i32 2, .int .i32 3]], .str lg] (.tup [.list 0 [], .int .i64 8]) := k2
    have k3 : VC P fJ [.agg [.int .i64 1, .int .i64 8, .int .i64 0, .list 3 [.int .i32 1, .int .i32 2, .int .i32 3]], .list 1 [.list 3 [.int .i32 1, .int .i32 2, .int .i32 3]]] (.tup [.agg [.int .i64 0, .int .i64 0, .int .i64 0, .list 0 []], .int .i64 8]) := k3
    have k4 : VC P fC [.agg [.int .i64 1, .int .i64 8, .int .i64 0, .list 3 [.int .i32 1, .int .i32 2, .int .i32 3]]] (.int .i64 8) := k4
    simp (maxSteps := 4000000) (disch := omega) only [rr, aop, cV, cV1, AV.one, Qb, okW, Qd, app, Qa, Qc, Qe, Qf, Qg, simprocAttr]
    refine ACall.of_body bX (by simp) ?_
    simp (maxSteps := 4000000) (disch := omega) only [rr, aop, cV, cV1, AV.one, Qb, okW, Qd, app, Qa, Qc, Qe, Qf, Qg, simprocAttr, Qi, Zf, hu, QR]
    refine Qh.still 1 [1] k1 (by simp [QH, Qy, frzL, Qx]) ?_
    simp (maxSteps := 4000000) (disch := omega) only [rr, aop, cV, cV1, AV.one, Qb, okW, Qd, app, Qa, Qc, Qe, Qf, Qg, simprocAttr, Qk]
    refine QC.vc hL' ?_
    simp (maxSteps := 4000000) (disch := omega) only [rr, aop, cV, cV1, AV.one, Qb, okW, Qd, app, Qa, Qc, Qe, Qf, Qg, simprocAttr]
    refine QC.still 1 1 rfl (by simp [ph]) k2 (by simp [QH, Qy, frzL, Qx]) ?_
    simp (maxSteps := 4000000) (disch := omega) only [rr, aop, cV, cV1, AV.one, Qb, okW, Qd, app, Qa, Qc, Qe, Qf, Qg, simprocAttr]
    refine Qh.still 2 [1, 3] k3 (by simp [QH, Qy, frzL, Qx]) ?_
    simp (maxSteps := 4000000) (disch := omega) only [rr, aop, cV, cV1, AV.one, Qb, okW, Qd, app, Qa, Qc, Qe, Qf, Qg, simprocAttr, Qk]
    refine Qh.still 1 [1] k4 (by simp [QH, Qy, frzL, Qx]) ?_
    simp (maxSteps := 4000000) (disch := omega) only [rr, aop, cV, cV1, AV.one, Qb, okW, Qd, app, Qa, Qc, Qe, Qf, Qg, simprocAttr]
    exact ⟨5, by omega, by omega, Le.dropT [] (by simp) (by simp [Am.look, Qy, frzL, Qx])⟩
  · obtain ⟨k1, k2, k3, k4⟩ := key 1 8 2 [] QtS (by intro v hv; simp at hv) (by simp)
    have k1 : VC P fS [.agg [.int .i64 1, .int .i64 8, .int .i64 2, .list 0 []]] (.tup [.list 0 [], .int .i64 8]) := k1
    have k2 : VC P fF [.agg [.int .i64 1, .int .i64 8, .int .i64 2, .list 0 []], .str lg] (.tup [.list 0 [], .int .i64 8]) := k2
    have k3 : VC P fJ [.agg [.int .i64 1, .int .i64 8, .int .i64 2, .list 0 []], .list 1 [.list 0 []]] (.tup [.agg [.int .i64 0, .int .i64 0, .int .i64 0, .list 0 []], .int .i64 8]) := k3
    have k4 : VC P fC [.agg [.int .i64 1, .int .i64 8, .int .i64 2, .list 0 []]] (.int .i64 8) := k4
    simp (maxSteps := 4000000) (disch := omega) only [rr, aop, cV, cV1, AV.one, Qb, okW, Qd, app, Qa, Qc, Qe, Qf, Qg, simprocAttr]
    refine ACall.of_body bX (by simp) ?_
    simp (maxSteps := 4000000) (disch := omega) only [rr, aop, cV, cV1, AV.one, Qb, okW, Qd, app, Qa, Qc, Qe, Qf, Qg, simprocAttr, Qi, Zf, hu, QR]
    refine Qh.still 1 [1] k1 (by simp [QH, Qy, frzL, Qx]) ?_
    simp (maxSteps := 4000000) (disch := omega) only [rr, aop, cV, cV1, AV.one, Qb, okW, Qd, app, Qa, Qc, Qe, Qf, Qg, simprocAttr, Qk]
    refine QC.vc hL' ?_
    simp (maxSteps := 4000000) (disch := omega) only [rr, aop, cV, cV1, AV.one, Qb, okW, Qd, app, Qa, Qc, Qe, Qf, Qg, simprocAttr]
    refine QC.still 1 1 rfl (by simp [ph]) k2 (by simp [QH, Qy, frzL, Qx]) ?_
    simp (maxSteps := 4000000) (disch := omega) only [rr, aop, cV, cV1, AV.one, Qb, okW, Qd, app, Qa, Qc, Qe, Qf, Qg, simprocAttr]
    refine Qh.still 2 [1, 3] k3 (by simp [QH, Qy, frzL, Qx]) ?_
    simp (maxSteps := 4000000) (disch := omega) only [rr, aop, cV, cV1, AV.one, Qb, okW, Qd, app, Qa, Qc, Qe, Qf, Qg, simprocAttr, Qk]
    refine Qh.still 1 [1] k4 (by simp [QH, Qy, frzL, Qx]) ?_
    simp (maxSteps := 4000000) (disch := omega) only [rr, aop, cV, cV1, AV.one, Qb, okW, Qd, app, Qa, Qc, Qe, Qf, Qg, simprocAttr]
    exact ⟨6, by omega, by omega, Le.dropT [] (by simp) (by simp [Am.look, Qy, frzL, Qx])⟩
  · obtain ⟨k1, k2, k3, k4⟩ := key 1 8 2 [1, 128, 3] QtR (by intro v hv; simp at hv; omega) (by simp)
    have k1 : VC P fS [.agg [.int .i64 1, .int .i64 8, .int .i64 2, .list 3 [.int .i32 1, .int .i32 128, .int .i32 3]]] (.tup [.list 0 [], .int .i64 8]) := k1
    have k2 : VC P fF [.agg [.int .i64 1, .int .i64 8, .int .i64 2, .list 3 [.int .i32 1, .int .i32 128, .int .i32 3]], .str lg] (.tup [.list 0 [], .int .i64 8]) := k2
    have k3 : VC P fJ [.agg [.int .i64 1, .int .i64 8, .int .i64 2, .list 3 [.int .i32 1, .int .i32 128, .int .i32 3]], .list 1 [.list 3 [.int .i32 1, .int .i32 128, .int .i32 3]]] (.tup [.agg [.int .i64 0, .int .i64 0, .int .i64 0, .list 0 []], .int .i64 8]) := k3
    have k4 : VC P fC [.agg [.int .i64 1, .int .i64 8, .int .i64 2, .list 3 [.int .i32 1, .int .i32 128, .int .i32 3]]] (.int .i64 8) := k4
    simp (maxSteps := 4000000) (disch := omega) only [rr, aop, cV, cV1, AV.one, Qb, okW, Qd, app, Qa, Qc, Qe, Qf, Qg, simprocAttr]
    refine ACall.of_body bX (by simp) ?_
    simp (maxSteps := 4000000) (disch := omega) only [rr, aop, cV, cV1, AV.one, Qb, okW, Qd, app, Qa, Qc, Qe, Qf, Qg, simprocAttr, Qi, Zf, hu, QR]
    refine Qh.still 1 [1] k1 (by simp [QH, Qy, frzL, Qx]) ?_
    simp (maxSteps := 4000000) (disch := omega) only [rr, aop, cV, cV1, AV.one, Qb, okW, Qd, app, Qa, Qc, Qe, Qf, Qg, simprocAttr, Qk]
    refine QC.vc hL' ?_
    simp (maxSteps := 4000000) (disch := omega) only [rr, aop, cV, cV1, AV.one, Qb, okW, Qd, app, Qa, Qc, Qe, Qf, Qg, simprocAttr]
    refine QC.still 1 1 rfl (by simp [ph]) k2 (by simp [QH, Qy, frzL, Qx]) ?_
    simp (maxSteps := 4000000) (disch := omega) only [rr, aop, cV, cV1, AV.one, Qb, okW, Qd, app, Qa, Qc, Qe, Qf, Qg, simprocAttr]
    refine Qh.still 2 [1, 3] k3 (by simp [QH, Qy, frzL, Qx]) ?_
    simp (maxSteps := 4000000) (disch := omega) only [rr, aop, cV, cV1, AV.one, Qb, okW, Qd, app, Qa, Qc, Qe, Qf, Qg, simprocAttr, Qk]
    refine Qh.still 1 [1] k4 (by simp [QH, Qy, frzL, Qx]) ?_
    simp (maxSteps := 4000000) (disch := omega) only [rr, aop, cV, cV1, AV.one, Qb, okW, Qd, app, Qa, Qc, Qe, Qf, Qg, simprocAttr]
    exact ⟨7, by omega, by omega, Le.dropT [] (by simp) (by simp [Am.look, Qy, frzL, Qx])⟩
  · obtain ⟨k1, k2, k3, k4⟩ := key 1 8 44100 (List.replicate 4001 0) QtQ (by intro v hv; simp at hv; omega) (by simp)
    have er := Qnp 4001
    have er2 : Qm [.int .i32 0] (Int.toNat 4001) = ks .i32 (List.replicate 4001 0) := er
    have tz : isTL (ks .i32 (List.replicate 4001 0)) = true := Qv _ _
    simp only [List.length_replicate] at k1 k2 k3 k4
    generalize ks .i32 (List.replicate 4001 0) = Z at *
    have k1 : VC P fS [.agg [.int .i64 1, .int .i64 8, .int .i64 44100, .list 4001 Z]] (.tup [.list 0 [], .int .i64 8]) := k1
    have k2 : VC P fF [.agg [.int .i64 1, .int .i64 8, .int .i64 44100, .list 4001 Z], .str lg] (.tup [.list 0 [], .int .i64 8]) := k2
    have k3 : VC P fJ [.agg [.int .i64 1, .int .i64 8, .int .i64 44100, .list 4001 Z], .list 1 [.list 4001 Z]] (.tup [.agg [.int .i64 0, .int .i64 0, .int .i64 0, .list 0 []], .int .i64 8]) := k3
    have k4 : VC P fC [.agg [.int .i64 1, .int .i64 8, .int .i64 44100, .list 4001 Z]] (.int .i64 8) := k4
    simp (maxSteps := 4000000) (disch := omega) only [rr, aop, cV, cV1, AV.one, Qb, okW, Qd, app, Qa, Qc, Qe, Qf, Qg, simprocAttr]
    refine ACall.of_body bX (by simp) ?_
    simp (maxSteps := 4000000) (disch := omega) only [rr, aop, cV, cV1, AV.one, Qb, okW, Qd, app, Qa, Qc, Qe, Qf, Qg, simprocAttr, Qi, Zf, hu, QR, ↓er, ↓er2]
    refine Qh.still 1 [3] k1 (by simp [QH, Qy, frzL, Qx, frzL_T _ tz]) ?_
    simp (maxSteps := 4000000) (disch := omega) only [rr, aop, cV, cV1, AV.one, Qb, okW, Qd, app, Qa, Qc, Qe, Qf, Qg, simprocAttr, Qk]
    refine QC.vc hL' ?_
    simp (maxSteps := 4000000) (disch := omega) only [rr, aop, cV, cV1, AV.one, Qb, okW, Qd, app, Qa, Qc, Qe, Qf, Qg, simprocAttr]
    refine QC.still 1 3 rfl (by simp [ph]) k2 (by simp [QH, Qy, frzL, Qx, frzL_T _ tz]) ?_
    simp (maxSteps := 4000000) (disch := omega) only [rr, aop, cV, cV1, AV.one, Qb, okW, Qd, app, Qa, Qc, Qe, Qf, Qg, simprocAttr]
    refine Qh.still 2 [3, 4] k3 (by simp [QH, Qy, frzL, Qx, frzL_T _ tz]) ?_
    simp (maxSteps := 4000000) (disch := omega) only [rr, aop, cV, cV1, AV.one, Qb, okW, Qd, app, Qa, Qc, Qe, Qf, Qg, simprocAttr, Qk]
    refine Qh.still 1 [3] k4 (by simp [QH, Qy, frzL, Qx, frzL_T _ tz]) ?_
    simp (maxSteps := 4000000) (disch := omega) only [rr, aop, cV, cV1, AV.one, Qb, okW, Qd, app, Qa, Qc, Qe, Qf, Qg, simprocAttr]
    exact ⟨8, by omega, by omega, Le.dropT [] (by simp) (by simp [Am.look, Qy, frzL, Qx])⟩
  · obtain ⟨k1, k2, k3, k4⟩ := key 1 8 1 (List.replicate 1001 0) QtP (by intro v hv; simp at hv; omega) (by simp)
    have er := Qnp 1001
    have er2 : Qm [.int .i32 0] (Int.toNat 1001) = ks .i32 (List.replicate 1001 0) := er
    have tz : isTL (ks .i32 (List.replicate 1001 0)) = true := Qv _ _
    simp only [List.length_replicate] at k1 k2 k3 k4
    generalize ks .i32 (List.replicate 1001 0) = Z at *
    have k1 : VC P fS [.agg [.int .i64 1, .int .i64 8, .int .i64 1, .list 1001 Z]] (.tup [.list 0 [], .int .i64 8]) := k1
    have k2 : VC P fF [.agg [.int .i64 1, .int .i64 8, .int .i64 1, .list 1001 Z], .str lg] (.tup [.list 0 [], .int .i64 8]) := k2
    have k3 : VC P fJ [.agg [.int .i64 1, .int .i64 8, .int .i64 1, .list 1001 Z], .list 1 [.list 1001 Z]] (.tup [.agg [.int .i64 0, .int .i64 0, .int .i64 0, .list 0 []], .int .i64 8]) := k3
    have k4 : VC P fC [.agg [.int .i64 1, .int .i64 8, .int .i64 1, .list 1001 Z]] (.int .i64 8) := k4
    simp (maxSteps := 4000000) (disch := omega) only [rr, aop, cV, cV1, AV.one, Qb, okW, Qd, app, Qa, Qc, Qe, Qf, Qg, simprocAttr]
    refine ACall.of_body bX (by simp) ?_
    simp (maxSteps := 4000000) (disch := omega) only [rr, aop, cV, cV1, AV.one, Qb, okW, Qd, app, Qa, Qc, Qe, Qf, Qg, simprocAttr, Qi, Zf, hu, QR, ↓er, ↓er2]
    refine Qh.still 1 [3] k1 (by simp [QH, Qy, frzL, Qx, frzL_T _ tz]) ?_
    simp (maxSteps := 4000000) (disch := omega) only [rr, aop, cV, cV1, AV.one, Qb, okW, Qd, app, Qa, Qc, Qe, Qf, Qg, simprocAttr, Qk]
    refine QC.vc hL' ?_
    simp (maxSteps := 4000000) (disch := omega) only [rr, aop, cV, cV1, AV.one, Qb, okW, Qd, app, Qa, Qc, Qe, Qf, Qg, simprocAttr]
    refine QC.still 1 3 rfl (by simp [ph]) k2 (by simp [QH, Qy, frzL, Qx, frzL_T _ tz]) ?_
    simp (maxSteps := 4000000) (disch := omega) only [rr, aop, cV, cV1, AV.one, Qb, okW, Qd, app, Qa, Qc, Qe, Qf, Qg, simprocAttr]
    refine Qh.still 2 [3, 4] k3 (by simp [QH, Qy, frzL, Qx, frzL_T _ tz]) ?_
    simp (maxSteps := 4000000) (disch := omega) only [rr, aop, cV, cV1, AV.one, Qb, okW, Qd, app, Qa, Qc, Qe, Qf, Qg, simprocAttr, Qk]
    refine Qh.still 1 [3] k4 (by simp [QH, Qy, frzL, Qx, frzL_T _ tz]) ?_
    simp (maxSteps := 4000000) (disch := omega) only [rr, aop, cV, cV1, AV.one, Qb, okW, Qd, app, Qa, Qc, Qe, Qf, Qg, simprocAttr]
    exact ⟨9, by omega, by omega, Le.dropT [] (by simp) (by simp [Am.look, Qy, frzL, Qx])⟩
  · have i3 : I32 [1, 2, 3] := by intro v hv; simp at hv; omega
    have lg65 : 64 < lg.length := by rw [← hlg]; simp
    obtain ⟨n0, n1⟩ := Qs9
    have hX' : VC P fX [] (.agg [.int .i64 1, .int .i64 8, .int .i64 2, .list 3 [.int .i32 1, .int .i32 2, .int .i32 3]]) := hX
    have F1 := hF 1 8 2 [1, 2, 3] [112] i3 (by simp)
    rw [cnF] at F1
    have F2 := hF 1 8 2 [1, 2, 3] lg i3 (by simp)
    rw [ZN, if_neg (by rw [Qga]; simp), if_pos lg65] at F2
    have J1 := hJ 1 8 2 [1, 2, 3] [[1, 2, 3]] (by simpa using i3) (by simp) (by simp)
    rw [Qt8 (by decide +kernel) (by decide +kernel)] at J1
    have J2 := hJ 1 8 2 [1, 2, 3] [[1, 2], [3], []] (by intro q hq v hv; simp at hq; rcases hq with rfl | rfl | rfl <;> simp at hv <;> omega) (by simp) (by simp)
    rw [Qt8 (by decide +kernel) (by decide +kernel)] at J2
    have O1 := hO 1 8 2 [1, 2, 3] lg 0 [] Qoo
    rw [Qq2 (by decide +kernel)] at O1
    have O2 := hO 1 8 2 [1, 2, 3] lg 3 [] Qoo
    rw [QtI (by decide +kernel) lg65] at O2
    have O3 := hO 1 8 2 [1, 2, 3] [112] 3 [cn0] (Qr6 n0)
    rw [QkM (by decide +kernel) (by simp) (by decide +kernel)] at O3
    have O4 := hO 1 8 2 [1, 2, 3] [112] 5 [cn0, cn1] (QhJ n0 n1)
    rw [QkM (by decide +kernel) (by simp) (by decide +kernel)] at O4
    have O5 := hO 1 8 2 [1, 2, 3] [112] 4 [cn0, cn1] (QhJ n0 n1)
    rw [QnY (by decide +kernel) (by simp) (by decide +kernel) Qul (by decide)] at O5
    have O6 := hO 1 8 2 [1, 2, 3] [112] 3 [cn0, []] (QhJ n0 (by simp))
    rw [QnY (by decide +kernel) (by simp) (by decide +kernel) Qum (by decide)] at O6
    have O7 := hO 1 8 2 [1, 2, 3] [112] 3 [[1, 2, 3, 4, 5, 6], []] (QhJ (by simp) (by simp))
    rw [QnY (by decide +kernel) (by simp) (by decide +kernel) Quk (by decide)] at O7
    have O8 := hO 1 8 2 [1, 2, 3] [112] 4001 [cn0, cn1] (QhJ n0 n1)
    rw [Qq2 (by decide +kernel)] at O8
    have C1 := hC 1 8 1 (List.replicate 1000 0) (by intro v hv; simp at hv; omega) (by simp)
    rw [show Zc 1 8 1 (List.replicate 1000 0) = 0 by decide +kernel] at C1
    have er := Qnp 1000
    have er2 : Qm [.int .i32 0] (Int.toNat 1000) = ks .i32 (List.replicate 1000 0) := er
    have tz : isTL (ks .i32 (List.replicate 1000 0)) = true := Qv _ _
    rw [il, List.length_replicate] at C1
    generalize ks .i32 (List.replicate 1000 0) = Z at *
    have tb0 : isDL [bs cn0] = true := by simp [isDL, Z5]
    have tt0 : isTL (u8 cn0) = true := ZR _
    have F1 : VC P fF [.agg [.int .i64 1, .int .i64 8, .int .i64 2, .list 3 [.int .i32 1, .int .i32 2, .int .i32 3]], .str [112]] (.tup [.list 2 [bs cn0, bs cn1], .int .i64 0]) := F1
    have O3 : VC P fO [.agg [.int .i64 1, .int .i64 8, .int .i64 2, .list 3 [.int .i32 1, .int .i32 2, .int .i32 3]], .str [112], .int .i64 3, .list 1 [bs cn0]] (.tup [.agg [.int .i64 0, .int .i64 0, .int .i64 0, .list 0 []], .int .i64 12]) := O3
    have O4 : VC P fO [.agg [.int .i64 1, .int .i64 8, .int .i64 2, .list 3 [.int .i32 1, .int .i32 2, .int .i32 3]], .str [112], .int .i64 5, .list 2 [bs cn0, bs cn1]] (.tup [.agg [.int .i64 0, .int .i64 0, .int .i64 0, .list 0 []], .int .i64 12]) := O4
    have O5 : VC P fO [.agg [.int .i64 1, .int .i64 8, .int .i64 2, .list 3 [.int .i32 1, .int .i32 2, .int .i32 3]], .str [112], .int .i64 4, .list 2 [bs cn0, bs cn1]] (.tup [.agg [.int .i64 0, .int .i64 0, .int .i64 0, .list 0 []], .int .i64 24]) := O5
    have O6 : VC P fO [.agg [.int .i64 1, .int .i64 8, .int .i64 2, .list 3 [.int .i32 1, .int .i32 2, .int .i32 3]], .str [112], .int .i64 3, .list 2 [bs cn0, .emp true]] (.tup [.agg [.int .i64 0, .int .i64 0, .int .i64 0, .list 0 []], .int .i64 24]) := VC.empL _ O6 (by simp [isDL, isD, Z5])
    have O8 : VC P fO [.agg [.int .i64 1, .int .i64 8, .int .i64 2, .list 3 [.int .i32 1, .int .i32 2, .int .i32 3]], .str [112], .int .i64 4001, .list 2 [bs cn0, bs cn1]] (.tup [.agg [.int .i64 0, .int .i64 0, .int .i64 0, .list 0 []], .int .i64 8]) := O8
    have F2 : VC P fF [.agg [.int .i64 1, .int .i64 8, .int .i64 2, .list 3 [.int .i32 1, .int .i32 2, .int .i32 3]], .str lg] (.tup [.list 0 [], .int .i64 2]) := F2
    have J1 : VC P fJ [.agg [.int .i64 1, .int .i64 8, .int .i64 2, .list 3 [.int .i32 1, .int .i32 2, .int .i32 3]], .list 1 [.list 3 [.int .i32 1, .int .i32 2, .int .i32 3]]] (.tup [.agg [.int .i64 0, .int .i64 0, .int .i64 0, .list 0 []], .int .i64 12]) := J1
    have J2 : VC P fJ [.agg [.int .i64 1, .int .i64 8, .int .i64 2, .list 3 [.int .i32 1, .int .i32 2, .int .i32 3]], .list 3 [.list 2 [.int .i32 1, .int .i32 2], .list 1 [.int .i32 3], .list 0 []]] (.tup [.agg [.int .i64 0, .int .i64 0, .int .i64 0, .list 0 []], .int .i64 12]) := J2
    have O1 : VC P fO [.agg [.int .i64 1, .int .i64 8, .int .i64 2, .list 3 [.int .i32 1, .int .i32 2, .int .i32 3]], .str lg, .int .i64 0, .emp true] (.tup [.agg [.int .i64 0, .int .i64 0, .int .i64 0, .list 0 []], .int .i64 8]) := VC.emp _ O1 rfl
    have O2 : VC P fO [.agg [.int .i64 1, .int .i64 8, .int .i64 2, .list 3 [.int .i32 1, .int .i32 2, .int .i32 3]], .str lg, .int .i64 3, .emp true] (.tup [.agg [.int .i64 0, .int .i64 0, .int .i64 0, .list 0 []], .int .i64 2]) := VC.emp _ O2 rfl
    have O7 : VC P fO [.agg [.int .i64 1, .int .i64 8, .int .i64 2, .list 3 [.int .i32 1, .int .i32 2, .int .i32 3]], .str [112], .int .i64 3, .list 2 [.list 6 [.int .u8 1, .int .u8 2, .int .u8 3, .int .u8 4, .int .u8 5, .int .u8 6], .list 0 []]] (.tup [.agg [.int .i64 0, .int .i64 0, .int .i64 0, .list 0 []], .int .i64 22]) := O7
    have C1 : VC P fC [.agg [.int .i64 1, .int .i64 8, .int .i64 1, .list 1000 Z]] (.int .i64 0) := C1
    have dU : isDL (u8 cn0) = true := QcD _
    simp only [bs] at F1 O3 O4 O5 O6 O8
    generalize u8 cn0 = U0 at *
    generalize u8 cn1 = U1 at *
    generalize cn0.length = m0 at *
    generalize cn1.length = m1 at *
    simp (maxSteps := 4000000) (disch := omega) only [rr, aop, cV, cV1, AV.one, Qb, okW, Qd, app, Qa, Qc, Qe, Qf, Qg, simprocAttr]
    refine Qh.vc hX' ?_
    simp (maxSteps := 4000000) (disch := omega) only [rr, aop, cV, cV1, AV.one, Qb, okW, Qd, app, Qa, Qc, Qe, Qf, Qg, simprocAttr]
    refine Qh.vc F1 ?_
    simp (maxSteps := 4000000) (disch := omega) only [rr, aop, cV, cV1, AV.one, Qb, okW, Qd, app, Qa, Qc, Qe, Qf, Qg, simprocAttr]
    refine QC.vc hL' ?_
    simp (maxSteps := 4000000) (disch := omega) only [rr, aop, cV, cV1, AV.one, Qb, okW, Qd, app, Qa, Qc, Qe, Qf, Qg, simprocAttr]
    refine QC.vc F2 ?_
    simp (maxSteps := 4000000) (disch := omega) only [rr, aop, cV, cV1, AV.one, Qb, okW, Qd, app, Qa, Qc, Qe, Qf, Qg, simprocAttr]
    refine Qh.still 2 [1, 2] J1 (by simp [QH, Qy, frzL, Qx]) ?_
    simp (maxSteps := 4000000) (disch := omega) only [rr, aop, cV, cV1, AV.one, Qb, okW, Qd, app, Qa, Qc, Qe, Qf, Qg, simprocAttr, Qk]
    refine Qh.still 2 [4, 5, 6] J2 (by simp [QH, Qy, frzL, Qx]) ?_
    simp (maxSteps := 4000000) (disch := omega) only [rr, aop, cV, cV1, AV.one, Qb, okW, Qd, app, Qa, Qc, Qe, Qf, Qg, simprocAttr, Qk]
    refine QC.vc hL' ?_
    simp (maxSteps := 4000000) (disch := omega) only [rr, aop, cV, cV1, AV.one, Qb, okW, Qd, app, Qa, Qc, Qe, Qf, Qg, simprocAttr]
    refine QC.vc O1 ?_
    simp (maxSteps := 4000000) (disch := omega) only [rr, aop, cV, cV1, AV.one, Qb, okW, Qd, app, Qa, Qc, Qe, Qf, Qg, simprocAttr]
    refine QC.vc hL' ?_
    simp (maxSteps := 4000000) (disch := omega) only [rr, aop, cV, cV1, AV.one, Qb, okW, Qd, app, Qa, Qc, Qe, Qf, Qg, simprocAttr]
    refine QC.vc O2 ?_
    simp (maxSteps := 4000000) (disch := omega) only [rr, aop, cV, cV1, AV.one, Qb, okW, Qd, app, Qa, Qc, Qe, Qf, Qg, simprocAttr]
    refine QC.vc O3 ?_
    simp (maxSteps := 4000000) (disch := omega) only [rr, aop, cV, cV1, AV.one, Qb, okW, Qd, app, Qa, Qc, Qe, Qf, Qg, simprocAttr]
    refine Qh.vc O4 ?_
    simp (maxSteps := 4000000) (disch := omega) only [rr, aop, cV, cV1, AV.one, Qb, okW, Qd, app, Qa, Qc, Qe, Qf, Qg, simprocAttr]
    refine Qh.vc O5 ?_
    simp (maxSteps := 4000000) (disch := omega) only [rr, aop, cV, cV1, AV.one, Qb, okW, Qd, app, Qa, Qc, Qe, Qf, Qg, simprocAttr, QiT, isDL, isD, dU]
    refine QC.vc O6 ?_
    simp (maxSteps := 4000000) (disch := omega) only [rr, aop, cV, cV1, AV.one, Qb, okW, Qd, app, Qa, Qc, Qe, Qf, Qg, simprocAttr]
    refine Qh.still 2 [15, 16] O7 (by simp [QH, Qy, frzL, Qx]) ?_
    simp (maxSteps := 4000000) (disch := omega) only [rr, aop, cV, cV1, AV.one, Qb, okW, Qd, app, Qa, Qc, Qe, Qf, Qg, simprocAttr, Qk]
    refine Qh.vc O8 ?_
    simp (maxSteps := 4000000) (disch := omega) only [rr, aop, cV, cV1, AV.one, Qb, okW, Qd, app, Qa, Qc, Qe, Qf, Qg, simprocAttr, ↓er, ↓er2]
    refine Qh.vc hA' ?_
    simp (maxSteps := 4000000) (disch := omega) only [rr, aop, cV, cV1, AV.one, Qb, okW, Qd, app, Qa, Qc, Qe, Qf, Qg, simprocAttr]
    refine Qh.still 1 [19] C1 (by simp [QH, Qy, frzL, Qx, frzL_T _ tz]) ?_
    simp (maxSteps := 4000000) (disch := omega) only [rr, aop, cV, cV1, AV.one, Qb, okW, Qd, app, Qa, Qc, Qe, Qf, Qg, simprocAttr, Qk]
end Go.Am
