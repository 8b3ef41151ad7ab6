/- What the functions that the law reaches return, for every program that has their code; the conditions stand in each statement. -/
import Derived.Test.YtkngajpinabacaaDoorVerdictNamesL1
set_option linter.unusedSectionVars false
set_option linter.unusedSimpArgs false
set_option linter.unusedVariables false
namespace Go.Am
open Go.RowKit

/-! ### The values of a frame (plain) -/

def chanM (c r : Nat) (v : List Nat) : Dl := ((List.range v.length).filter fun j => j % c == r).foldl (fun d j => learnM d (v.getD j 0)) startM

theorem chan_snoc {c r x : Nat} {v : List Nat} : chanM c r (v ++ [x]) = if v.length % c = r then learnM (chanM c r v) x else chanM c r v := by
  have h1 : ∀ (l : List Nat) (d : Dl), (∀ j ∈ l, j < v.length) → l.foldl (fun d j => learnM d ((v ++ [x]).getD j 0)) d = l.foldl (fun d j => learnM d (v.getD j 0)) d := by
    intro l
    induction l with
    | nil => intro d _; rfl
    | cons a l ih =>
      intro d h
      simp only [List.foldl_cons]
      have ha : a < v.length := h a (by simp)
      rw [ih _ fun j hj => h j (by simp [hj])]
      congr 2
      rw [List.getD_eq_getElem?_getD, List.getD_eq_getElem?_getD, List.getElem?_append_left ha]
  unfold chanM
  rw [List.length_append, List.length_cons, List.length_nil, Nat.zero_add, List.range_succ, List.filter_append, List.foldl_append]
  have hf := h1 ((List.range v.length).filter fun j => j % c == r) startM (fun j hj => by
    have := (List.mem_filter.1 hj).1
    simpa using this)
  rw [hf]
  have hx : (v ++ [x]).getD v.length 0 = x := by simp [List.getD_eq_getElem?_getD]
  by_cases h : v.length % c = r
  · rw [if_pos h]
    have : (List.filter (fun j => j % c == r) [v.length]) = [v.length] := by simp [h]
    rw [this]
    simp only [List.foldl_cons, List.foldl_nil]
    rw [hx]
  · rw [if_neg h]
    have : (List.filter (fun j => j % c == r) [v.length]) = [] := by simp [h]
    rw [this]
    rfl

def N32 (v : List Nat) : Prop := ∀ x ∈ v, x < 4294967296
theorem chan_ok {c r : Nat} {v : List Nat} (h : N32 v) : okD (chanM c r v) := by
  unfold chanM
  have key : ∀ (l : List Nat) (d : Dl), okD d → (∀ j ∈ l, j < v.length) → okD (l.foldl (fun d j => learnM d (v.getD j 0)) d) := by
    intro l
    induction l with
    | nil => intro d h _; exact h
    | cons a l ih =>
      intro d hd hl
      have ha : a < v.length := hl a (by simp)
      refine ih _ (learn_ok hd ?_) fun j hj => hl j (by simp [hj])
      rw [List.getD_eq_getElem?_getD, List.getElem?_eq_getElem ha]
      exact h _ (List.getElem_mem ha)
  exact key _ _ start_ok fun j hj => by
    have := (List.mem_filter.1 hj).1
    simpa using this

def prtN (N a : Nat) : Nat := min (a + 81) N - a
def prtV (V N a : Nat) : Nat := V / 2 ^ a % 2 ^ prtN N a
def valsM (V N c : Nat) : Nat → List Nat → Nat → (Nat × List Nat) ⊕ (List Nat × Nat)
  | 0, out, a => .inr (out, a)
  | k + 1, out, a =>
    match gotM (prtV V N a) (prtN N a) 0 (chanM c (out.length % c) out) with
    | .inl e => .inl (e, out)
    | .inr (v, nx) => valsM V N c k (out ++ [v]) (a + nx)

theorem prtV_lt (V N a : Nat) : prtV V N a < 2 ^ prtN N a := Nat.mod_lt _ (Nat.pow_pos (by omega))

def restM (V N a : Nat) : Nat := if 7 < N - a then 12 else if V / 2 ^ a = 0 then 0 else 12

theorem vals_spec {V N c : Nat} : ∀ (k : Nat) (out : List Nat) (a : Nat), a ≤ N → N32 out → (∀ e o, valsM V N c k out a = .inl (e, o) → (e = 24 ∨ e = 12) ∧ N32 o ∧ o.length ≤ out.length + k) ∧ (∀ o b, valsM V N c k out a = .inr (o, b) → N32 o ∧ b ≤ N ∧ o.length = out.length + k)
  | 0, out, a, ha, ho => by
    refine ⟨fun e o h => (by simp only [valsM] at h; cases h), fun o b h => ?_⟩
    simp only [valsM] at h
    cases h
    exact ⟨ho, ha, rfl⟩
  | k + 1, out, a, ha, ho => by
    have hd := chan_ok (c := c) (r := out.length % c) ho
    cases hg : gotM (prtV V N a) (prtN N a) 0 (chanM c (out.length % c) out) with
    | inl e =>
      have he := got_err hg
      simp only [valsM, hg]
      refine ⟨fun e' o h => ?_, fun o b h => (by cases h)⟩
      cases h
      exact ⟨he, ho, by omega⟩
    | inr p =>
      obtain ⟨v, nx⟩ := p
      obtain ⟨h1, h2⟩ := got_lt hd hg
      have hp : prtN N a ≤ N - a := by unfold prtN; omega
      have ho' : N32 (out ++ [v]) := fun x hx => by
        rcases List.mem_append.1 hx with h | h
        · exact ho x h
        · simp at h; subst h; exact h1
      obtain ⟨r1, r2⟩ := vals_spec (V := V) (N := N) (c := c) k (out ++ [v]) (a + nx) (by omega) ho'
      simp only [valsM, hg]
      refine ⟨fun e o h => ?_, fun o b h => ?_⟩
      · obtain ⟨q1, q2, q3⟩ := r1 e o h
        refine ⟨q1, q2, ?_⟩
        rw [List.length_append, List.length_cons, List.length_nil] at q3
        omega
      · obtain ⟨q1, q2, q3⟩ := r2 o b h
        refine ⟨q1, q2, ?_⟩
        rw [List.length_append, List.length_cons, List.length_nil] at q3
        omega

def sumM (p : List UInt8) : Nat := 4294967295 - crcL 4294967295 p
def openM (b : List UInt8) : Nat := if b.length < 5 then 24 else if 41254 < b.length then 4 else if leN (b.drop (b.length - 4)) = sumM (b.take (b.length - 4)) then 0 else 22

end Go.Am

namespace Go.Am
open Go.RowKit

/-! ### The values of a frame -/

def n32A (v : List Nat) : AV := u32L (v.map fun n : Nat => (n : Int))
theorem isD_n32A (v : List Nat) : isD (n32A v) = true := by simp [n32A, u32L, isD, isDL_ks]
end Go.Am

namespace Go.Am
open Go.RowKit

/-! ### A frame's sum -/

theorem sumM_lt (p : List UInt8) : sumM p < 4294967296 := by unfold sumM; omega

def S_Sealed (P : Prg) (f : Nat) : Prop := ∀ p : List UInt8, p.length ≤ 1000000 → VC P f [bs p] (bs (p ++ leB (sumM p) 4))
theorem ref20_Sealed {P : Prg} {f fO t0 : Nat} (bd : Body P f 22 [.tmp 2] (ac_cadenzaref20_Sealed fO t0)) (hO : S_COf P fO) : S_Sealed P f := by
  intro p hp
  refine VC.of_walk 1 (by simp [isDL, isD_bs]) (isD_bs _) (ACall.of_body bd (by simp) ?_)
  have hO' := hO p hp
  rw [← sumM] at hO'
  have hs := sumM_lt p
  generalize sumM p = s at *
  simp only [bs] at hO'
  have e1 : IntKind.u8.wrap (s : Int) = ((s % 256 : Nat) : Int) := by rw [wrap_u8_mod]; omega
  have a1 : shiftA false .u32 (s : Int) 8 = some (.int .u32 ((s / 256 : Nat) : Int)) := shrK (K := .u32) (k := 8) (by decide)
  have a2 : shiftA false .u32 (s : Int) 16 = some (.int .u32 ((s / 65536 : Nat) : Int)) := shrK (K := .u32) (k := 16) (by decide)
  have a3 : shiftA false .u32 (s : Int) 24 = some (.int .u32 ((s / 16777216 : Nat) : Int)) := shrK (K := .u32) (k := 24) (by decide)
  have e2 : IntKind.u8.wrap ((s / 256 : Nat) : Int) = ((s / 256 % 256 : Nat) : Int) := by rw [wrap_u8_mod]; omega
  have e3 : IntKind.u8.wrap ((s / 65536 : Nat) : Int) = ((s / 65536 % 256 : Nat) : Int) := by rw [wrap_u8_mod]; omega
  have e4 : IntKind.u8.wrap ((s / 16777216 : Nat) : Int) = ((s / 16777216 % 256 : Nat) : Int) := by rw [wrap_u8_mod]; omega
  have hb : u8 (p ++ leB s 4) = u8 p ++ [.int .u8 ((s % 256 : Nat) : Int), .int .u8 ((s / 256 % 256 : Nat) : Int), .int .u8 ((s / 65536 % 256 : Nat) : Int), .int .u8 ((s / 16777216 % 256 : Nat) : Int)] := by
    simp [u8, leB, Nat.div_div_eq_div_mul]
  have hl : (p ++ leB s 4).length = p.length + 4 := by simp [leB_length]
  rw [bs, hb, hl]
  generalize s % 256 = b0 at *
  generalize s / 256 % 256 = b1 at *
  generalize s / 65536 % 256 = b2 at *
  generalize s / 16777216 % 256 = b3 at *
  have tt : isTL (u8 p ++ [.int .u8 (b0 : Int), .int .u8 (b1 : Int), .int .u8 (b2 : Int), .int .u8 (b3 : Int)]) = true := by simp [isTL_append, isT_u8, isTL, isT]
  simp (maxSteps := 4000000) (disch := omega) only [step, stepv, ev, wl, wn, wp, wz, aop, cV, cV1, AV.one, partCells, okW, onlyFr, app, sliceCells, cellsAt, srcA, subA, eqFs, Int.cast_ofNat_Int, simprocAttr, ac_cadenzaref20_Sealed, bs]
  refine callQ.vc hO' ?_
  simp (maxSteps := 4000000) (disch := omega) only [step, stepv, ev, wl, wn, wp, wz, aop, cV, cV1, AV.one, partCells, okW, onlyFr, app, sliceCells, cellsAt, srcA, subA, eqFs, Int.cast_ofNat_Int, simprocAttr, e1, a1, a2, a3, e2, e3, e4]
  simp [frzN, frzK, frzL, frzV, frzL_T _ tt]

def opA (b : List UInt8) : AV := if openM b = 0 then .tup [bs (b.take (b.length - 4)), .int .i64 0] else .tup [.list 0 [], .int .i64 (openM b : Nat)]
def S_opened (P : Prg) (f : Nat) : Prop := ∀ b : List UInt8, b.length ≤ 1000000 → VC P f [bs b] (opA b)
theorem deframe_opened {P : Prg} {f fS fV : Nat} (bd : Body P f 46 [.tmp 2, .tmp 3] (ac_deframe_opened fS fV)) (hS : S_CSum P fS) (hV : S_le_Value P fV) : S_opened P f := by
  intro b hb
  refine VC.of_walk 1 (by simp [isDL, isD_bs]) (by unfold opA; split <;> simp [isD, isDL, isD_bs]) (ACall.of_body bd (by simp) ?_)
  unfold opA openM
  by_cases h1 : b.length < 5
  · simp only [h1, if_true]
    simp (maxSteps := 4000000) (disch := omega) only [step, stepv, ev, wl, wn, wp, wz, aop, cV, cV1, AV.one, partCells, okW, onlyFr, app, sliceCells, cellsAt, srcA, subA, eqFs, Int.cast_ofNat_Int, simprocAttr, ac_deframe_opened, bs]
    simp [frzN, frzK, frzL, frzV]
  simp only [h1, if_false]
  by_cases h2 : 41254 < b.length
  · simp only [h2, if_true]
    simp (maxSteps := 4000000) (disch := omega) only [step, stepv, ev, wl, wn, wp, wz, aop, cV, cV1, AV.one, partCells, okW, onlyFr, app, sliceCells, cellsAt, srcA, subA, eqFs, Int.cast_ofNat_Int, simprocAttr, ac_deframe_opened, bs]
    simp [frzN, frzK, frzL, frzV]
  simp only [h2, if_false]
  have hS' := hS (b.take (b.length - 4))
  rw [if_neg (by simp; omega), ← sumM] at hS'
  have hl1 : (b.take (b.length - 4)).length = b.length - 4 := by simp
  have hl2 : (b.drop (b.length - 4)).length = 4 := by simp; omega
  have hs := sumM_lt (b.take (b.length - 4))
  have hV' := hV (b.drop (b.length - 4)) (by omega) (by omega)
  have tk : (u8 b).take (b.length - 4) = u8 (b.take (b.length - 4)) := by simp [u8, List.map_take]
  have dk : (u8 b).drop (b.length - 4) = u8 (b.drop (b.length - 4)) := by simp [u8, List.map_drop]
  simp only [bs, hl1, hl2] at hS' hV'
  have hq : leN (b.drop (b.length - 4)) < 4294967296 := by
    have := leN_lt (b.drop (b.length - 4))
    rw [hl2] at this
    exact this
  have hpl : (u8 (b.take (b.length - 4))).length = b.length - 4 := by rw [u8_length, hl1]
  have hql : (u8 (b.drop (b.length - 4))).length = 4 := by rw [u8_length, hl2]
  have tq : (u8 (b.drop (b.length - 4))).take 4 = u8 (b.drop (b.length - 4)) := List.take_of_length_le (by omega)
  generalize b.take (b.length - 4) = p at *
  generalize b.drop (b.length - 4) = q at *
  generalize sumM p = s at *
  generalize leN q = w at *
  have n4 : b.length - (b.length - 4) = 4 := by omega
  have n5 : b.length - 4 - 0 = b.length - 4 := by omega
  have n6 : min (b.length - 4) b.length = b.length - 4 := by omega
  have tp : isTL (u8 p) = true := isT_u8 _
  by_cases h3 : w = s
  · subst h3
    simp only [if_true]
    simp (maxSteps := 4000000) (disch := omega) only [step, stepv, ev, wl, wn, wp, wz, aop, cV, cV1, AV.one, partCells, okW, onlyFr, app, sliceCells, cellsAt, srcA, subA, eqFs, Int.cast_ofNat_Int, simprocAttr, ac_deframe_opened, bs, tk, dk, n4, n5, tq]
    refine callQ.vc hS' ?_
    simp (maxSteps := 4000000) (disch := omega) only [step, stepv, ev, wl, wn, wp, wz, aop, cV, cV1, AV.one, partCells, okW, onlyFr, app, sliceCells, cellsAt, srcA, subA, eqFs, Int.cast_ofNat_Int, simprocAttr, tk, dk, n4, n5, tq]
    refine callQ.vc hV' ?_
    simp (maxSteps := 4000000) (disch := omega) only [step, stepv, ev, wl, wn, wp, wz, aop, cV, cV1, AV.one, partCells, okW, onlyFr, app, sliceCells, cellsAt, srcA, subA, eqFs, Int.cast_ofNat_Int, simprocAttr, tk, dk, n4, n5, tq]
    simp [frzN, frzK, frzL, frzV, frzL_T _ tp, bs, hl1]
    try omega
  · simp only [h3, if_false]
    simp (maxSteps := 4000000) (disch := omega) only [step, stepv, ev, wl, wn, wp, wz, aop, cV, cV1, AV.one, partCells, okW, onlyFr, app, sliceCells, cellsAt, srcA, subA, eqFs, Int.cast_ofNat_Int, simprocAttr, ac_deframe_opened, bs, tk, dk, n4, n5, tq]
    refine callQ.vc hS' ?_
    simp (maxSteps := 4000000) (disch := omega) only [step, stepv, ev, wl, wn, wp, wz, aop, cV, cV1, AV.one, partCells, okW, onlyFr, app, sliceCells, cellsAt, srcA, subA, eqFs, Int.cast_ofNat_Int, simprocAttr, tk, dk, n4, n5, tq]
    refine callQ.vc hV' ?_
    simp (maxSteps := 4000000) (disch := omega) only [step, stepv, ev, wl, wn, wp, wz, aop, cV, cV1, AV.one, partCells, okW, onlyFr, app, sliceCells, cellsAt, srcA, subA, eqFs, Int.cast_ofNat_Int, simprocAttr, tk, dk, n4, n5, tq]
    simp [frzN, frzK, frzL, frzV]

end Go.Am

namespace Go.Am
open Go.RowKit

/-! ### values -/

def sixD (F : Nat → Dl) : List AV := dlC (F 0) ++ dlC (F 1) ++ dlC (F 2) ++ dlC (F 3) ++ dlC (F 4) ++ dlC (F 5)
theorem isTL_sixD (F : Nat → Dl) : isTL (sixD F) = true := rfl
theorem sixD_len (F : Nat → Dl) : (sixD F).length = 24 := rfl
theorem sixD_get (F : Nat → Dl) {j : Nat} (h : j < 6) : ∃ r, (sixD F).drop (j * 4) = .int .i64 (F j).k0 :: .int .i64 (F j).k1 :: .int .u64 (F j).s0 :: .int .u64 (F j).s1 :: r := by
  rcases (by omega : j = 0 ∨ j = 1 ∨ j = 2 ∨ j = 3 ∨ j = 4 ∨ j = 5) with rfl | rfl | rfl | rfl | rfl | rfl <;> exact ⟨_, rfl⟩
def updD (F : Nat → Dl) (j : Nat) (d : Dl) : Nat → Dl := fun i => if i = j then d else F i
theorem sixD_set (F : Nat → Dl) {j : Nat} (h : j < 6) (d : Dl) : (sixD F).take (j * 4) ++ [.int .i64 d.k0, .int .i64 d.k1, .int .u64 d.s0, .int .u64 d.s1] ++ (sixD F).drop (j * 4 + 4) = sixD (updD F j d) := by
  rcases (by omega : j = 0 ∨ j = 1 ∨ j = 2 ∨ j = 3 ∨ j = 4 ∨ j = 5) with rfl | rfl | rfl | rfl | rfl | rfl <;> rfl

def vlA : (Nat × List Nat) ⊕ (List Nat × Nat) → AV
  | .inl (e, _) => .tup [.list 0 [], .int .i64 0, .int .i64 e]
  | .inr (o, a) => .tup [n32A o, .int .i64 a, .int .i64 0]
def S_dVals (P : Prg) (f : Nat) : Prop := ∀ N V c n : Nat, V < 2 ^ N → N ≤ 330000 → 1 ≤ c → c ≤ 6 → n * c ≤ 4000 → VC P f [.int .i64 c, .int .i64 n, bA N V] (vlA (valsM V N c (n * c) [] 0))
set_option maxHeartbeats 2000000 in
theorem deframe_values {P : Prg} {f fS fC fR t0 t1 t2 t3 : Nat} (bd : Body P f 76 [.tmp 6, .tmp 7, .tmp 8] (ac_deframe_values fS fC fR t0 t1 t2 t3)) (hS : S_Start P fS) (hC : S_Cut P fC) (hR : S_dRead P fR) : S_dVals P f := by
  intro N V c n hV hN hc hc6 hnc
  refine VC.of_walk 1 (by simp [isDL, isD_bA, isD]) (by unfold vlA; split <;> simp [isD, isDL, isD_n32A]) (ACall.of_body bd (by simp) ?_)
  simp only [S_Start, startM, dlA, dlC] at hS
  have hn4 : n ≤ 4000 := by
    have : n * 1 ≤ n * c := Nat.mul_le_mul_left _ hc
    omega
  have tu : isTL (u8 (leB V (nB N))) = true := isT_u8 _
  obtain ⟨T, hT⟩ : ∃ T, T = n * c := ⟨_, rfl⟩
  obtain ⟨R, hR0⟩ : ∃ R, R = valsM V N c (n * c) [] 0 := ⟨_, rfl⟩
  have eT : (n : Int) * c = (T : Int) := by rw [hT]; simp
  rw [← hR0]
  simp (maxSteps := 4000000) (disch := omega) only [step, stepv, ev, wl, wn, wp, wz, aop, cV, cV1, AV.one, partCells, okW, onlyFr, app, sliceCells, cellsAt, srcA, subA, eqFs, Int.cast_ofNat_Int, simprocAttr, ac_deframe_values, bA]
  refine ALoop.by (ι := Nat) (fun i => ⟨[(19, .int .i64 i), (9, .ref 1 1 0), (8, .int .i64 0), (7, .int .i64 0), (6, .emp true), (5, .ref 0 1 0), (0, .int .i64 c), (1, .int .i64 n)],
      [⟨t0, 2, 1, [.list (nB N) (u8 (leB V (nB N))), .int .i64 N], 0⟩, ⟨t1, 24, 1, sixD (fun j => if j < i then startM else ⟨0, 0, 0, 0⟩), 0⟩]⟩) (fun i => i ≤ 6) (fun i => 6 - i) 0 (Le.slots (by simp [Am.look])) (by omega) ?_
  intro i hi
  by_cases hlt : i < 6
  · have e1 := sixD_set (fun j => if j < i then startM else ⟨0, 0, 0, 0⟩) hlt startM
    have e2 : updD (fun j => if j < i then startM else ⟨0, 0, 0, 0⟩) i startM = fun j => if j < i + 1 then startM else ⟨0, 0, 0, 0⟩ := by
      funext j
      unfold updD
      by_cases h1 : j = i
      · subst h1; simp
      · by_cases h2 : j < i
        · simp [h1, h2, show j < i + 1 by omega]
        · simp [h1, h2, show ¬ j < i + 1 by omega]
    rw [e2] at e1
    have e3 := sixD_len (fun j => if j < i then startM else ⟨0, 0, 0, 0⟩)
    simp (maxSteps := 4000000) (disch := omega) only [step, stepv, ev, wl, wn, wp, wz, aop, cV, cV1, AV.one, partCells, okW, onlyFr, app, sliceCells, cellsAt, srcA, subA, eqFs, Int.cast_ofNat_Int, simprocAttr]
    refine callQ.vc hS ?_
    generalize hF : sixD (fun j => if j < i then startM else ⟨0, 0, 0, 0⟩) = F at *
    have e1' : F.take (i * 4) ++ [.int .i64 10, .int .i64 10, .int .u64 16384, .int .u64 16384] ++ F.drop (i * 4 + 4) = sixD fun j => if j < i + 1 then startM else ⟨0, 0, 0, 0⟩ := e1
    simp (maxSteps := 4000000) (disch := omega) only [step, stepv, ev, wl, wn, wp, wz, aop, cV, cV1, AV.one, partCells, okW, onlyFr, app, sliceCells, cellsAt, srcA, subA, eqFs, Int.cast_ofNat_Int, simprocAttr, e3]
    refine ⟨i + 1, by omega, by omega, ?_⟩
    rw [e1']
    exact Le.slots (by simp [Am.look])
  obtain rfl : i = 6 := by omega
  have hk0 : ∀ o : List Nat, (ks .u32 (o.map fun n : Nat => (n : Int))).length = o.length := fun o => by simp [ks]
  simp (maxSteps := 4000000) (disch := omega) only [step, stepv, ev, wl, wn, wp, wz, aop, cV, cV1, AV.one, partCells, okW, onlyFr, app, sliceCells, cellsAt, srcA, subA, eqFs, Int.cast_ofNat_Int, simprocAttr, eT]
  refine ALoop.by (ι := Nat × List Nat × Nat) (fun s => ⟨[(29, .int .i64 s.1), (28, .int .i64 T), (12, .int .i64 s.2.2), (11, .own 2 s.2.1.length), (9, .ref 1 1 0), (5, .ref 0 1 0), (0, .int .i64 c)],
      [⟨t0, 2, 1, [.list (nB N) (u8 (leB V (nB N))), .int .i64 N], 0⟩, ⟨t1, 24, 1, sixD (fun j => if j < c then chanM c j s.2.1 else startM), 0⟩, ⟨t3, 1, s.2.1.length, ks .u32 (s.2.1.map fun n : Nat => (n : Int)), 0⟩]⟩)
    (fun s => s.1 ≤ T ∧ s.2.1.length = s.1 ∧ s.2.2 ≤ N ∧ N32 s.2.1 ∧ valsM V N c (T - s.1) s.2.1 s.2.2 = R) (fun s => T - s.1) (0, [], 0) ?_ ⟨Nat.zero_le _, rfl, Nat.zero_le _, fun x hx => (by simp at hx), (by rw [hR0, hT]; rfl)⟩ ?_
  · have z1 : sixD (fun j => if j < 6 then startM else ⟨0, 0, 0, 0⟩) = sixD (fun _ => startM) := rfl
    have z2 : (fun j => if j < c then chanM c j [] else startM) = fun _ => startM := by
      funext j
      split <;> rfl
    simp only [z2]
    rw [z1]
    exact Le.trans (Le.virt 11 t3 1 (by decide) rfl) (Le.slots (by simp [Am.look]))
  rintro ⟨k, out, a⟩ ⟨h1, h2, h3, h4, h5⟩
  simp only at h1 h2 h3 h4 h5 ⊢
  by_cases hlt : k < T
  · obtain ⟨r, hr⟩ : ∃ r, r = k % c := ⟨_, rfl⟩
    have hrc : r < c := by rw [hr]; exact Nat.mod_lt _ (by omega)
    have e1 : (k : Int) % c = (r : Int) := by rw [hr]; simp [Int.natCast_emod]
    have e1' : ((k : Int)).tmod (c : Int) = (r : Int) := by rw [Int.tmod_eq_emod_of_nonneg (by omega), e1]
    have hc0 : (c : Int) ≠ 0 := by omega
    obtain ⟨b, hb⟩ : ∃ b, b = min (a + 81) N := ⟨_, rfl⟩
    have e2 : (if (N : Int) < (a : Int) + 81 then (N : Int) else (a : Int) + 81) = (b : Int) := by split <;> omega
    have hpn : b - a = prtN N a := by rw [hb]; rfl
    have hC' : VC P fC [bA N V, .int .i64 a, .int .i64 b] (.tup [bA (prtN N a) (prtV V N a), .int .i64 0]) := by
      have := hC N V a b hV hN (by omega) (by omega)
      rw [hpn] at this
      exact this
    have hpl : prtN N a ≤ 81 := by unfold prtN; omega
    have hd := chan_ok (c := c) (r := r) h4
    have hR' := hR (prtN N a) (prtV V N a) 0 (chanM c r out) (prtV_lt V N a) (by omega) (by omega) hd
    have hF : (fun j => if j < c then chanM c j out else startM) r = chanM c r out := by simp [hrc]
    obtain ⟨rest, hg⟩ := sixD_get (fun j => if j < c then chanM c j out else startM) (j := r) (by omega)
    simp only [hrc, if_true] at hg
    have hst := fun d => sixD_set (fun j => if j < c then chanM c j out else startM) (j := r) (by omega) d
    have hln := sixD_len (fun j => if j < c then chanM c j out else startM)
    have hupd : ∀ v : Nat, updD (fun j => if j < c then chanM c j out else startM) r (learnM (chanM c r out) v) = fun j => if j < c then chanM c j (out ++ [v]) else startM := by
      intro v
      funext j
      unfold updD
      by_cases hj : j = r
      · subst hj
        rw [if_pos rfl, if_pos hrc, chan_snoc, if_pos (by rw [h2, hr])]
      · rw [if_neg hj]
        by_cases hjc : j < c
        · simp only [hjc, if_true]
          rw [chan_snoc, if_neg (by rw [h2, ← hr]; exact fun e => hj e.symm)]
        · simp only [hjc, if_false]
    have hkT : T - k = (T - k - 1) + 1 := by omega
    rw [hkT, valsM, h2, ← hr] at h5
    have hgl := fun v nx (h : gotM (prtV V N a) (prtN N a) 0 (chanM c r out) = .inr (v, nx)) => got_lt hd h
    have hge := fun e (h : gotM (prtV V N a) (prtN N a) 0 (chanM c r out) = .inl e) => got_err h
    have hpN : prtN N a ≤ N - a := by unfold prtN; omega
    simp only [bA] at hC' hR'
    have hk1 := hk0 out
    have tk : isTL (ks .u32 (out.map fun n : Nat => (n : Int))) = true := isTL_ks _ _
    cases hgm : gotM (prtV V N a) (prtN N a) 0 (chanM c r out) with
    | inl e =>
      have he := hge e hgm
      rw [hgm] at hR' h5
      simp only at h5
      have he0 : (e : Int) ≠ 0 := by omega
      rw [← h5, vlA]
      generalize sixD (fun j => if j < c then chanM c j out else startM) = F at *
      generalize chanM c r out = d at *
      obtain ⟨d0, d1, d2, d3⟩ := d
      simp only [dlA, dlC, drA] at hR'
      simp only at hg
      simp (maxSteps := 4000000) (disch := omega) only [step, stepv, ev, wl, wn, wp, wz, aop, cV, cV1, AV.one, partCells, okW, onlyFr, app, sliceCells, cellsAt, srcA, subA, eqFs, Int.cast_ofNat_Int, simprocAttr, e2]
      refine callQ.vc hC' ?_
      simp (maxSteps := 4000000) (disch := omega) only [step, stepv, ev, wl, wn, wp, wz, aop, cV, cV1, AV.one, partCells, okW, onlyFr, app, sliceCells, cellsAt, srcA, subA, eqFs, Int.cast_ofNat_Int, simprocAttr, e1, e1', hc0, hg, hln]
      refine callD.vc hR' ?_
      simp (maxSteps := 4000000) (disch := omega) only [step, stepv, ev, wl, wn, wp, wz, aop, cV, cV1, AV.one, partCells, okW, onlyFr, app, sliceCells, cellsAt, srcA, subA, eqFs, Int.cast_ofNat_Int, simprocAttr]
      simp [frzN, frzK, frzL, frzV]
    | inr w =>
      obtain ⟨v, nx⟩ := w
      obtain ⟨v1, v2⟩ := hgl v nx hgm
      rw [hgm] at hR' h5
      simp only at h5
      have hset := hst (learnM (chanM c r out) v)
      rw [hupd v] at hset
      generalize hFF : sixD (fun j => if j < c then chanM c j out else startM) = F at *
      generalize chanM c r out = d at *
      obtain ⟨d0, d1, d2, d3⟩ := d
      simp only [drA] at hR'
      generalize learnM ⟨d0, d1, d2, d3⟩ v = d' at *
      obtain ⟨m0, m1, m2, m3⟩ := d'
      simp only [dlA, dlC] at hR'
      simp only at hg hset
      simp (maxSteps := 4000000) (disch := omega) only [step, stepv, ev, wl, wn, wp, wz, aop, cV, cV1, AV.one, partCells, okW, onlyFr, app, sliceCells, cellsAt, srcA, subA, eqFs, Int.cast_ofNat_Int, simprocAttr, e2]
      refine callQ.vc hC' ?_
      simp (maxSteps := 4000000) (disch := omega) only [step, stepv, ev, wl, wn, wp, wz, aop, cV, cV1, AV.one, partCells, okW, onlyFr, app, sliceCells, cellsAt, srcA, subA, eqFs, Int.cast_ofNat_Int, simprocAttr, e1, e1', hc0, hg, hln]
      refine callD.vc hR' ?_
      simp (maxSteps := 4000000) (disch := omega) only [step, stepv, ev, wl, wn, wp, wz, aop, cV, cV1, AV.one, partCells, okW, onlyFr, app, sliceCells, cellsAt, srcA, subA, eqFs, Int.cast_ofNat_Int, simprocAttr, e1, e1', hc0, hg, hln, hk1, h2]
      have hap : ks .u32 (out.map fun n : Nat => (n : Int)) ++ [.int .u32 (v : Int)] = ks .u32 ((out ++ [v]).map fun n : Nat => (n : Int)) := by simp [ks]
      have hol : (out ++ [v]).length = k + 1 := by simp [h2]
      refine ⟨(k + 1, out ++ [v], a + nx), ⟨by omega, hol, by simp only; omega, fun x hx => ?_, ?_⟩, by simp only; omega, ?_⟩
      · rcases List.mem_append.1 hx with h | h
        · exact h4 x h
        · simp at h; subst h; exact v1
      · simp only
        rw [show T - (k + 1) = T - k - 1 by omega]
        exact h5
      · simp only [hol]
        rw [hset, hap]
        exact Le.dropT [_, _, _] (by simp [isTL_sixD, isTL_ks, isTL, isT, isT_u8]) (by simp [Am.look, frzK, frzL, frzV])
  · obtain rfl : k = T := by omega
    rw [Nat.sub_self, valsM] at h5
    rw [← h5, vlA, n32A, u32L, List.length_map]
    simp (maxSteps := 4000000) (disch := omega) only [step, stepv, ev, wl, wn, wp, wz, aop, cV, cV1, AV.one, partCells, okW, onlyFr, app, sliceCells, cellsAt, srcA, subA, eqFs, Int.cast_ofNat_Int, simprocAttr]
    simp [frzN, frzK, frzL, frzV, frzL_T _ (isTL_ks _ _)]

end Go.Am

namespace Go.Am
open Go.RowKit

/-! ### Decode -/

def iL (o : List Nat) : List Int := o.map fun n : Nat => (n : Int)
def decV (V N c : Nat) (x : Int) (t : List Int) (w : (Nat × List Nat) ⊕ (List Nat × Nat)) : AV :=
  match w with
  | .inl (e, _) => erA e
  | .inr (o, a) => if restM V N a ≠ 0 then erA 12 else rngA x (unB c x t (iL o))
def decA (c x : Int) (t : List Int) (n : Int) (b : List UInt8) : AV :=
  if ask21 c x n ≠ 0 then erA 2 else if openM b ≠ 0 then erA (openM b : Nat) else
    decV (leN (b.take (b.length - 4))) (8 * (b.take (b.length - 4)).length) c.toNat x t (valsM (leN (b.take (b.length - 4))) (8 * (b.take (b.length - 4)).length) c.toNat (n.toNat * c.toNat) [] 0)
theorem isD_decV (V N c : Nat) (x : Int) (t : List Int) (w : (Nat × List Nat) ⊕ (List Nat × Nat)) : isD (decV V N c x t w) = true := by
  unfold decV
  split
  · rfl
  · split
    · rfl
    · exact isD_rng _ _
theorem isD_decA (c x : Int) (t : List Int) (n : Int) (b : List UInt8) : isD (decA c x t n b) = true := by
  unfold decA
  split
  · rfl
  split
  · rfl
  · exact isD_decV _ _ _ _ _ _

theorem ask21_cases {c x n : Int} (h : ask21 c x n = 0) : eCheck c x = 0 ∧ ∃ c' n' : Nat, c = c' ∧ n = n' ∧ 1 ≤ c' ∧ c' ≤ 6 ∧ 1 ≤ n' ∧ n' * c' ≤ 4000 ∧ half x ≠ 0 := by
  unfold ask21 at h
  rcases eCheck_cases c x with h1 | ⟨h1, h2, h3, h4⟩
  · rw [if_pos (by omega)] at h; omega
  · rw [if_neg (by omega)] at h
    split at h
    · omega
    split at h
    · omega
    rename_i h5 h6
    refine ⟨h1, c.toNat, n.toNat, by omega, by omega, by omega, by omega, by omega, ?_, h2⟩
    have h7 : n.toNat ≤ 4000 / c.toNat := by
      have : ((4000 / c.toNat : Nat) : Int) = 4000 / c := by rw [Int.natCast_ediv, Int.toNat_of_nonneg (by omega)]; rfl
      omega
    exact (Nat.le_div_iff_mul_le (by omega)).1 h7

theorem okV_of {V N c n : Nat} {o : List Nat} {a : Nat} (hc : 1 ≤ c) (hc6 : c ≤ 6) (hn : 1 ≤ n) (hnc : n * c ≤ 4000) (h : valsM V N c (n * c) [] 0 = .inr (o, a)) : okV c (iL o) ∧ a ≤ N ∧ o.length = n * c := by
  obtain ⟨_, h2⟩ := vals_spec (V := V) (N := N) (c := c) (n * c) [] 0 (Nat.zero_le _) (fun x hx => by simp at hx)
  obtain ⟨q1, q2, q3⟩ := h2 o a h
  rw [List.length_nil, Nat.zero_add] at q3
  have hpos : 0 < n * c := Nat.mul_pos hn hc
  refine ⟨⟨hc, hc6, by simp [iL]; omega, by simp [iL]; omega, by simp [iL, q3], fun x hx => ?_⟩, q2, q3⟩
  simp only [iL, List.mem_map] at hx
  obtain ⟨y, hy, rfl⟩ := hx
  have := q1 y hy
  omega

def S_Decode (P : Prg) (f : Nat) : Prop := ∀ (c x n : Int) (t : List Int) (b : List UInt8), t.length = 16 → I32 t → b.length ≤ 1000000 → VC P f [shA c x, .agg (ks .i32 t), .int .i64 n, bs b] (decA c x t n b)
set_option maxHeartbeats 2000000 in
theorem deframe_Decode {P : Prg} {f fE fO fF fV fG fS t0 t1 t2 : Nat} (bd : Body P f 87 [.tmp 8, .tmp 9] (ac_deframe_Decode fE fO fF fV fG fS t0 t1 t2)) (hE0 : S_ECheck P fE) (hO : S_opened P fO) (hF : S_bOf P fF) (hV : S_dVals P fV) (hG : S_bGet P fG) (hS : S_DSam P fS) : S_Decode P f := by
  intro c x n t b ht hI hb
  refine VC.of_walk 1 (by simp [isDL, isD_bs, isDL_ks, isD, shA]) (isD_decA _ _ _ _ _) (ACall.of_body bd (by simp) ?_)
  have hE' := hE0 c x
  have hO' := hO b hb
  have hk : (ks .i32 t).length = 16 := by simp [ks_length, ht]
  have tt : (ks .i32 t).take 16 = ks .i32 t := take_all (by omega)
  have ot := ks_one .i32 t
  rw [shA] at hE'
  simp only [bs] at hO'
  unfold decA
  rcases eCheck_cases c x with g1 | ⟨g1, g2, g3, g4⟩
  · have h1 : ask21 c x n = 2 := by unfold ask21; rw [if_pos (by omega)]
    rw [g1] at hE'
    rw [if_pos (by omega), erA]
    simp (maxSteps := 4000000) (disch := omega) only [step, stepv, ev, wl, wn, wp, wz, aop, cV, cV1, AV.one, partCells, okW, onlyFr, app, sliceCells, cellsAt, srcA, subA, eqFs, Int.cast_ofNat_Int, simprocAttr, ac_deframe_Decode, shA, bs, hk, tt, ot]
    refine callQ.vc hE' ?_
    simp (maxSteps := 4000000) (disch := omega) only [step, stepv, ev, wl, wn, wp, wz, aop, cV, cV1, AV.one, partCells, okW, onlyFr, app, sliceCells, cellsAt, srcA, subA, eqFs, Int.cast_ofNat_Int, simprocAttr]
    simp [frzN, frzK, frzL, frzV]
  rw [g1] at hE'
  have ed : ((4000 : Int)).tdiv c = 4000 / c := Int.tdiv_eq_ediv_of_nonneg (by omega)
  have hc0 : c ≠ 0 := by omega
  have hd1 : 4000 / c ≤ 4000 := by
    have := Int.ediv_le_self c (show (0 : Int) ≤ 4000 by omega)
    exact this
  have hd0 : 0 ≤ 4000 / c := Int.ediv_nonneg (by omega) (by omega)
  by_cases h1 : ask21 c x n = 0
  case neg =>
    rw [if_pos h1, erA]
    have h1' : n < 1 ∨ 4000 / c < n := by
      unfold ask21 at h1
      rw [if_neg (by omega)] at h1
      split at h1
      · exact .inl (by assumption)
      split at h1
      · exact .inr (by assumption)
      · omega
    obtain ⟨q, hq⟩ : ∃ q, q = 4000 / c := ⟨_, rfl⟩
    rw [← hq] at hd0 hd1 h1' ed
    have ed2 : (4000 : Int) / c = q := hq.symm
    clear hq
    by_cases h1'' : n < 1
    · simp (maxSteps := 4000000) (disch := omega) only [step, stepv, ev, wl, wn, wp, wz, aop, cV, cV1, AV.one, partCells, okW, onlyFr, app, sliceCells, cellsAt, srcA, subA, eqFs, Int.cast_ofNat_Int, simprocAttr, ac_deframe_Decode, shA, bs, hk, tt, ot]
      refine callQ.vc hE' ?_
      simp (maxSteps := 4000000) (disch := omega) only [step, stepv, ev, wl, wn, wp, wz, aop, cV, cV1, AV.one, partCells, okW, onlyFr, app, sliceCells, cellsAt, srcA, subA, eqFs, Int.cast_ofNat_Int, simprocAttr]
      simp [frzN, frzK, frzL, frzV]
    · have h1''' : q < n := by omega
      simp (maxSteps := 4000000) (disch := omega) only [step, stepv, ev, wl, wn, wp, wz, aop, cV, cV1, AV.one, partCells, okW, onlyFr, app, sliceCells, cellsAt, srcA, subA, eqFs, Int.cast_ofNat_Int, simprocAttr, ac_deframe_Decode, shA, bs, hk, tt, ot]
      refine callQ.vc hE' ?_
      simp (maxSteps := 4000000) (disch := omega) only [step, stepv, ev, wl, wn, wp, wz, aop, cV, cV1, AV.one, partCells, okW, onlyFr, app, sliceCells, cellsAt, srcA, subA, eqFs, Int.cast_ofNat_Int, simprocAttr, ed, ed2, hc0]
      simp [frzN, frzK, frzL, frzV]
  rw [if_neg (by omega)]
  obtain ⟨_, c', n', rfl, rfl, q1, q2, q3, q4, q5⟩ := ask21_cases h1
  have hnq : (n' : Int) ≤ 4000 / (c' : Int) := by
    unfold ask21 at h1
    rw [if_neg (by omega)] at h1
    split at h1
    · omega
    split at h1
    · omega
    · omega
  obtain ⟨q, hq⟩ : ∃ q, q = (4000 : Int) / (c' : Int) := ⟨_, rfl⟩
  rw [← hq] at hd0 hd1 hnq ed
  have ed2 : (4000 : Int) / (c' : Int) = q := hq.symm
  clear hq
  by_cases h2 : openM b = 0
  case neg =>
    have h2' : ((openM b : Nat) : Int) ≠ 0 := by omega
    rw [opA, if_neg h2] at hO'
    rw [if_pos h2, erA]
    generalize openM b = m at *
    simp (maxSteps := 4000000) (disch := omega) only [step, stepv, ev, wl, wn, wp, wz, aop, cV, cV1, AV.one, partCells, okW, onlyFr, app, sliceCells, cellsAt, srcA, subA, eqFs, Int.cast_ofNat_Int, simprocAttr, ac_deframe_Decode, shA, bs, hk, tt, ot]
    refine callQ.vc hE' ?_
    simp (maxSteps := 4000000) (disch := omega) only [step, stepv, ev, wl, wn, wp, wz, aop, cV, cV1, AV.one, partCells, okW, onlyFr, app, sliceCells, cellsAt, srcA, subA, eqFs, Int.cast_ofNat_Int, simprocAttr, ed, ed2, hc0]
    refine callQ.vc hO' ?_
    simp (maxSteps := 4000000) (disch := omega) only [step, stepv, ev, wl, wn, wp, wz, aop, cV, cV1, AV.one, partCells, okW, onlyFr, app, sliceCells, cellsAt, srcA, subA, eqFs, Int.cast_ofNat_Int, simprocAttr]
    simp [frzN, frzK, frzL, frzV]
  rw [if_neg (by omega)]
  have hbl : 5 ≤ b.length ∧ b.length ≤ 41254 := by
    unfold openM at h2
    split at h2
    · omega
    split at h2
    · omega
    · omega
  rw [opA, if_pos h2] at hO'
  have hpl : (b.take (b.length - 4)).length = b.length - 4 := by simp
  have hF' := hF (b.take (b.length - 4)) (by omega)
  have hVlt := leN_lt' (b.take (b.length - 4))
  have hbA := bA_of (b.take (b.length - 4))
  rw [ofA, if_neg (by omega), hbA] at hF'
  simp only [Int.toNat_natCast]
  have hV' := hV (8 * (b.take (b.length - 4)).length) (leN (b.take (b.length - 4))) c' n' hVlt (by omega) q1 q2 q4
  have hG0 := fun a m => hG (8 * (b.take (b.length - 4)).length) (leN (b.take (b.length - 4))) a m hVlt (by omega)
  rw [hbA] at hV'
  simp only [hbA] at hG0
  simp only [bs, hpl] at hF' hV' hG0 hO' hVlt ⊢
  have hNN : 8 * (b.length - 4) ≤ 330000 := by omega
  generalize hp : b.take (b.length - 4) = p at *
  generalize leN p = V at *
  obtain ⟨N, hN⟩ : ∃ N, N = 8 * (b.length - 4) := ⟨_, rfl⟩
  rw [← hN] at hF' hV' hG0 hVlt hNN ⊢
  have hokv := fun o a (h : valsM V N c' (n' * c') [] 0 = .inr (o, a)) => okV_of q1 q2 q3 q4 h
  have hspec := vals_spec (V := V) (N := N) (c := c') (n' * c') [] 0 (Nat.zero_le _) (fun x hx => by simp at hx)
  cases hw : valsM V N c' (n' * c') [] 0 with
  | inl w =>
    obtain ⟨e, o⟩ := w
    have he := (hspec.1 e o hw).1
    have he0 : (e : Int) ≠ 0 := by omega
    rw [hw, vlA] at hV'
    simp only [decV, erA]
    simp (maxSteps := 4000000) (disch := omega) only [step, stepv, ev, wl, wn, wp, wz, aop, cV, cV1, AV.one, partCells, okW, onlyFr, app, sliceCells, cellsAt, srcA, subA, eqFs, Int.cast_ofNat_Int, simprocAttr, ac_deframe_Decode, shA, bs, hk, tt, ot]
    refine callQ.vc hE' ?_
    simp (maxSteps := 4000000) (disch := omega) only [step, stepv, ev, wl, wn, wp, wz, aop, cV, cV1, AV.one, partCells, okW, onlyFr, app, sliceCells, cellsAt, srcA, subA, eqFs, Int.cast_ofNat_Int, simprocAttr, ed, ed2, hc0]
    refine callQ.vc hO' ?_
    simp (maxSteps := 4000000) (disch := omega) only [step, stepv, ev, wl, wn, wp, wz, aop, cV, cV1, AV.one, partCells, okW, onlyFr, app, sliceCells, cellsAt, srcA, subA, eqFs, Int.cast_ofNat_Int, simprocAttr]
    refine callQ.vc hF' ?_
    simp (maxSteps := 4000000) (disch := omega) only [step, stepv, ev, wl, wn, wp, wz, aop, cV, cV1, AV.one, partCells, okW, onlyFr, app, sliceCells, cellsAt, srcA, subA, eqFs, Int.cast_ofNat_Int, simprocAttr]
    refine callQ.vc hV' ?_
    simp (maxSteps := 4000000) (disch := omega) only [step, stepv, ev, wl, wn, wp, wz, aop, cV, cV1, AV.one, partCells, okW, onlyFr, app, sliceCells, cellsAt, srcA, subA, eqFs, Int.cast_ofNat_Int, simprocAttr]
    simp [frzN, frzK, frzL, frzV]
  | inr w =>
    obtain ⟨o, a⟩ := w
    obtain ⟨hv, ha, hol⟩ := hokv o a hw
    rw [hw, vlA, n32A, u32L, List.length_map] at hV'
    simp only [decV]
    have hS' := hS c' x t (iL o) ht hI hv q5
    rw [shA, u32L, iL, List.length_map] at hS'
    by_cases h8 : 7 < N - a
    · have h12 : restM V N a = 12 := by unfold restM; rw [if_pos h8]
      rw [h12, if_pos (by omega), erA]
      simp (maxSteps := 4000000) (disch := omega) only [step, stepv, ev, wl, wn, wp, wz, aop, cV, cV1, AV.one, partCells, okW, onlyFr, app, sliceCells, cellsAt, srcA, subA, eqFs, Int.cast_ofNat_Int, simprocAttr, ac_deframe_Decode, shA, bs, hk, tt, ot]
      refine callQ.vc hE' ?_
      simp (maxSteps := 4000000) (disch := omega) only [step, stepv, ev, wl, wn, wp, wz, aop, cV, cV1, AV.one, partCells, okW, onlyFr, app, sliceCells, cellsAt, srcA, subA, eqFs, Int.cast_ofNat_Int, simprocAttr, ed, ed2, hc0]
      refine callQ.vc hO' ?_
      simp (maxSteps := 4000000) (disch := omega) only [step, stepv, ev, wl, wn, wp, wz, aop, cV, cV1, AV.one, partCells, okW, onlyFr, app, sliceCells, cellsAt, srcA, subA, eqFs, Int.cast_ofNat_Int, simprocAttr]
      refine callQ.vc hF' ?_
      simp (maxSteps := 4000000) (disch := omega) only [step, stepv, ev, wl, wn, wp, wz, aop, cV, cV1, AV.one, partCells, okW, onlyFr, app, sliceCells, cellsAt, srcA, subA, eqFs, Int.cast_ofNat_Int, simprocAttr]
      refine callQ.vc hV' ?_
      simp (maxSteps := 4000000) (disch := omega) only [step, stepv, ev, wl, wn, wp, wz, aop, cV, cV1, AV.one, partCells, okW, onlyFr, app, sliceCells, cellsAt, srcA, subA, eqFs, Int.cast_ofNat_Int, simprocAttr]
      simp [frzN, frzK, frzL, frzV]
    · have hG' := hG0 a (N - a) (by omega) (by omega)
      rw [if_neg (by omega)] at hG'
      have hlt : V / 2 ^ a < 2 ^ (N - a) := Nat.div_lt_of_lt_mul (by rw [← Nat.pow_add, show a + (N - a) = N by omega]; exact hVlt)
      rw [Nat.mod_eq_of_lt hlt] at hG'
      have eNa : (N : Int) - a = ((N - a : Nat) : Int) := by omega
      have h7 : 2 ^ (N - a) ≤ 2 ^ 7 := Nat.pow_le_pow_right (by omega) (by omega)
      have hr : restM V N a = if V / 2 ^ a = 0 then 0 else 12 := by unfold restM; rw [if_neg h8]
      rw [hr]
      generalize V / 2 ^ a = y at *
      obtain ⟨m, hm⟩ : ∃ m, m = N - a := ⟨_, rfl⟩
      rw [← hm] at hG' eNa
      have hm7 : m ≤ 7 := by omega
      by_cases h0 : y = 0
      · subst h0
        rw [if_pos rfl, if_neg (by omega)]
        have hG'' : VC P fG [.agg [.list (b.length - 4) (u8 p), .int .i64 N], .int .i64 a, .int .i64 m] (.tup [.int .u64 0, .int .i64 0]) := hG'
        simp (maxSteps := 4000000) (disch := omega) only [step, stepv, ev, wl, wn, wp, wz, aop, cV, cV1, AV.one, partCells, okW, onlyFr, app, sliceCells, cellsAt, srcA, subA, eqFs, Int.cast_ofNat_Int, simprocAttr, ac_deframe_Decode, shA, bs, hk, tt, ot]
        refine callQ.vc hE' ?_
        simp (maxSteps := 4000000) (disch := omega) only [step, stepv, ev, wl, wn, wp, wz, aop, cV, cV1, AV.one, partCells, okW, onlyFr, app, sliceCells, cellsAt, srcA, subA, eqFs, Int.cast_ofNat_Int, simprocAttr, ed, ed2, hc0]
        refine callQ.vc hO' ?_
        simp (maxSteps := 4000000) (disch := omega) only [step, stepv, ev, wl, wn, wp, wz, aop, cV, cV1, AV.one, partCells, okW, onlyFr, app, sliceCells, cellsAt, srcA, subA, eqFs, Int.cast_ofNat_Int, simprocAttr]
        refine callQ.vc hF' ?_
        simp (maxSteps := 4000000) (disch := omega) only [step, stepv, ev, wl, wn, wp, wz, aop, cV, cV1, AV.one, partCells, okW, onlyFr, app, sliceCells, cellsAt, srcA, subA, eqFs, Int.cast_ofNat_Int, simprocAttr]
        refine callQ.vc hV' ?_
        simp (maxSteps := 4000000) (disch := omega) only [step, stepv, ev, wl, wn, wp, wz, aop, cV, cV1, AV.one, partCells, okW, onlyFr, app, sliceCells, cellsAt, srcA, subA, eqFs, Int.cast_ofNat_Int, simprocAttr, eNa]
        refine callQ.vc hG'' ?_
        simp (maxSteps := 4000000) (disch := omega) only [step, stepv, ev, wl, wn, wp, wz, aop, cV, cV1, AV.one, partCells, okW, onlyFr, app, sliceCells, cellsAt, srcA, subA, eqFs, Int.cast_ofNat_Int, simprocAttr, hk, tt, ot]
        refine callQ.vc hS' ?_
        simp only [iL]
        generalize unB c' x t (o.map fun n : Nat => (n : Int)) = z at *
        unfold rngA
        by_cases h4 : checkN x z = 0
        · rw [if_neg (by omega)]
          simp (maxSteps := 4000000) (disch := omega) only [step, stepv, ev, wl, wn, wp, wz, aop, cV, cV1, AV.one, partCells, okW, onlyFr, app, sliceCells, cellsAt, srcA, subA, eqFs, Int.cast_ofNat_Int, simprocAttr, il]
          simp [frzN, frzK, frzL, frzV, frzL_T _ (isTL_ks _ _)]
        · rw [if_pos h4]
          simp (maxSteps := 4000000) (disch := omega) only [step, stepv, ev, wl, wn, wp, wz, aop, cV, cV1, AV.one, partCells, okW, onlyFr, app, sliceCells, cellsAt, srcA, subA, eqFs, Int.cast_ofNat_Int, simprocAttr]
          simp [frzN, frzK, frzL, frzV]
      · rw [if_neg h0, if_pos (by omega), erA]
        simp (maxSteps := 4000000) (disch := omega) only [step, stepv, ev, wl, wn, wp, wz, aop, cV, cV1, AV.one, partCells, okW, onlyFr, app, sliceCells, cellsAt, srcA, subA, eqFs, Int.cast_ofNat_Int, simprocAttr, ac_deframe_Decode, shA, bs, hk, tt, ot]
        refine callQ.vc hE' ?_
        simp (maxSteps := 4000000) (disch := omega) only [step, stepv, ev, wl, wn, wp, wz, aop, cV, cV1, AV.one, partCells, okW, onlyFr, app, sliceCells, cellsAt, srcA, subA, eqFs, Int.cast_ofNat_Int, simprocAttr, ed, ed2, hc0]
        refine callQ.vc hO' ?_
        simp (maxSteps := 4000000) (disch := omega) only [step, stepv, ev, wl, wn, wp, wz, aop, cV, cV1, AV.one, partCells, okW, onlyFr, app, sliceCells, cellsAt, srcA, subA, eqFs, Int.cast_ofNat_Int, simprocAttr]
        refine callQ.vc hF' ?_
        simp (maxSteps := 4000000) (disch := omega) only [step, stepv, ev, wl, wn, wp, wz, aop, cV, cV1, AV.one, partCells, okW, onlyFr, app, sliceCells, cellsAt, srcA, subA, eqFs, Int.cast_ofNat_Int, simprocAttr]
        refine callQ.vc hV' ?_
        simp (maxSteps := 4000000) (disch := omega) only [step, stepv, ev, wl, wn, wp, wz, aop, cV, cV1, AV.one, partCells, okW, onlyFr, app, sliceCells, cellsAt, srcA, subA, eqFs, Int.cast_ofNat_Int, simprocAttr, eNa]
        refine callQ.vc hG' ?_
        simp (maxSteps := 4000000) (disch := omega) only [step, stepv, ev, wl, wn, wp, wz, aop, cV, cV1, AV.one, partCells, okW, onlyFr, app, sliceCells, cellsAt, srcA, subA, eqFs, Int.cast_ofNat_Int, simprocAttr]
        simp [frzN, frzK, frzL, frzV]

end Go.Am

namespace Go.Am
open Go.RowKit

/-! ### How many samples are good (plain) -/

theorem take_getD {l : List Int} {k j : Nat} (h : j < k) : (l.take k).getD j 0 = l.getD j 0 := by
  simp only [List.getD_eq_getElem?_getD, List.getElem?_take_of_lt h]
theorem stB_take {c : Nat} {L : List Int} {z : Chan} {k m : Nat} : ∀ n, (∀ i, i < n → k + i * c < m) → stB c (L.take m) z k n = stB c L z k n
  | 0, _ => rfl
  | n + 1, h => by
    rw [stB, stB, stB_take n fun i hi => h i (by omega), take_getD (h n (by omega))]
theorem bacV_take {c : Nat} {L : List Int} {z : Chan} {j m : Nat} (hc : 1 ≤ c) (hj : j < m) : bacV c (L.take m) z j = bacV c L z j := by
  rw [bacV, bacV, take_getD hj, stB_take _ fun i hi => ?_]
  have h1 := Nat.div_add_mod j c
  have h2 : i * c + c ≤ j / c * c := by
    have := Nat.mul_le_mul_right c (show i + 1 ≤ j / c from hi)
    rwa [Nat.add_mul, Nat.one_mul] at this
  rw [Nat.mul_comm c] at h1
  omega
theorem seg_lt {c j m : Nat} (hj : j < m * c) (hc : 1 ≤ c) : c * (j / c) + c ≤ m * c := by
  have h1 : j / c < m := (Nat.div_lt_iff_lt_mul hc).2 hj
  have := Nat.mul_le_mul_right c (show j / c + 1 ≤ m from h1)
  rw [Nat.add_mul, Nat.one_mul, Nat.mul_comm (j / c)] at this
  exact this
theorem unB_take {c : Nat} {x : Int} {t v : List Int} {m : Nat} (hc : 1 ≤ c) (hm : m * c ≤ v.length) : unB c x t (v.take (m * c)) = (unB c x t v).take (m * c) := by
  have hl : (v.take (m * c)).length = m * c := by simp; omega
  apply getD_ext
  · simp only [unB_len, List.length_take]
  intro j hj
  rw [unB_len, hl] at hj
  have hjv : j < v.length := by omega
  rw [take_getD hj]
  unfold unB undAll undT
  rw [map_getD (by rw [bacT_len, hl]; exact hj), map_getD (by rw [bacT_len]; exact hjv)]
  unfold undV
  refine ud_congr hc (fun i hi => ?_) _
  have hs := seg_lt hj hc
  rw [bacT, bacT, map_getD (by rw [hl]; omega), map_getD (by omega), List.map_take, bacV_take hc (by omega)]

def okP (c : Nat) (x : Int) (l : List Int) (k : Nat) : Bool := (l.take (k * c)).all (inR x)
def goodK (c : Nat) (x : Int) (l : List Int) : Nat → Nat
  | 0 => 0
  | m + 1 => if okP c x l (m + 1) then m + 1 else goodK c x l m
theorem okP_zero (c : Nat) (x : Int) (l : List Int) : okP c x l 0 = true := by simp [okP]
theorem okP_mono {c : Nat} {x : Int} {l : List Int} {j k : Nat} (h : okP c x l k = true) (hjk : j ≤ k) : okP c x l j = true := by
  unfold okP at h ⊢
  have : j * c ≤ k * c := Nat.mul_le_mul_right c hjk
  rw [List.all_eq_true] at h ⊢
  intro y hy
  refine h y ?_
  rw [show l.take (j * c) = (l.take (k * c)).take (j * c) by rw [List.take_take, Nat.min_eq_left this]] at hy
  exact List.mem_of_mem_take hy
theorem goodK_spec (c : Nat) (x : Int) (l : List Int) : ∀ m, goodK c x l m ≤ m ∧ okP c x l (goodK c x l m) = true ∧ ∀ k, k ≤ m → okP c x l k = true → k ≤ goodK c x l m
  | 0 => ⟨Nat.le_refl _, okP_zero _ _ _, fun k hk _ => hk⟩
  | m + 1 => by
    obtain ⟨h1, h2, h3⟩ := goodK_spec c x l m
    unfold goodK
    split
    · rename_i h; exact ⟨Nat.le_refl _, h, fun k hk _ => hk⟩
    · rename_i h
      refine ⟨by omega, h2, fun k hk hok => ?_⟩
      rcases Nat.lt_or_ge m k with hlt | hge
      · obtain rfl : k = m + 1 := by omega
        exact absurd hok h
      · exact h3 k hge hok
def goodM (c : Nat) (x : Int) (t v : List Int) : Nat := goodK c x (unB c x t (v.take (v.length / c * c))) (v.length / c) * c
theorem goodM_le {c : Nat} {x : Int} {t v : List Int} : goodM c x t v ≤ v.length := by
  have h1 := (goodK_spec c x (unB c x t (v.take (v.length / c * c))) (v.length / c)).1
  have h2 := Nat.mul_le_mul_right c h1
  have h3 := Nat.div_mul_le_self v.length c
  unfold goodM
  omega
theorem chk_all {x : Int} {l : List Int} (hx : half x ≠ 0) (hl : l.length ≤ 4000) : checkN x l = if l.all (inR x) then 0 else 16 := by
  unfold checkN
  rw [if_neg hx, if_neg (by omega)]

/-! ### verdict.check, sound -/

theorem verdict_check {P : Prg} {f fE t0 : Nat} (bd : Body P f 20 [.tmp 4] (ac_verdict_check fE t0)) (hE : S_ECheck P fE) : S_Ask21 P f := by
  intro c x n
  refine VC.of_acall (by simp [isDL, isD, shA]) rfl (ACall.of_body bd (by simp) ?_)
  have hE' := hE c x
  rw [shA] at hE'
  simp (maxSteps := 4000000) (disch := omega) only [step, stepv, ev, wl, wn, wp, wz, aop, cV, cV1, AV.one, partCells, okW, onlyFr, app, sliceCells, cellsAt, srcA, subA, eqFs, Int.cast_ofNat_Int, simprocAttr, ac_verdict_check, shA]
  refine callQ.vc hE' ?_
  rcases eCheck_cases c x with h1 | ⟨h1, h2, h3, h4⟩
  · have e9 : ask21 c x n = 2 := by simp [ask21, h1]
    simp (maxSteps := 4000000) (disch := omega) only [step, stepv, ev, wl, wn, wp, wz, aop, cV, cV1, AV.one, partCells, okW, onlyFr, app, sliceCells, cellsAt, srcA, subA, eqFs, Int.cast_ofNat_Int, simprocAttr, h1, e9]
  by_cases h5 : n < 1
  · have e9 : ask21 c x n = 2 := by simp [ask21, h5]
    simp (maxSteps := 4000000) (disch := omega) only [step, stepv, ev, wl, wn, wp, wz, aop, cV, cV1, AV.one, partCells, okW, onlyFr, app, sliceCells, cellsAt, srcA, subA, eqFs, Int.cast_ofNat_Int, simprocAttr, h1, e9]
  have ed : ((4000 : Int)).tdiv c = 4000 / c := Int.tdiv_eq_ediv_of_nonneg (by omega)
  have hc0 : c ≠ 0 := by omega
  have hd1 : 4000 / c ≤ 4000 := Int.ediv_le_self c (show (0 : Int) ≤ 4000 by omega)
  have hd0 : 0 ≤ 4000 / c := Int.ediv_nonneg (by omega) (by omega)
  have e9 : ask21 c x n = if 4000 / c < n then 2 else 0 := by simp [ask21, h1, h5]
  obtain ⟨q, hq⟩ : ∃ q, q = 4000 / c := ⟨_, rfl⟩
  rw [← hq] at hd0 hd1 ed e9
  have ed2 : (4000 : Int) / c = q := hq.symm
  clear hq
  by_cases h6 : q < n
  · rw [if_pos h6] at e9
    simp (maxSteps := 4000000) (disch := omega) only [step, stepv, ev, wl, wn, wp, wz, aop, cV, cV1, AV.one, partCells, okW, onlyFr, app, sliceCells, cellsAt, srcA, subA, eqFs, Int.cast_ofNat_Int, simprocAttr, h1, ed, ed2, hc0, e9]
  · rw [if_neg h6] at e9
    simp (maxSteps := 4000000) (disch := omega) only [step, stepv, ev, wl, wn, wp, wz, aop, cV, cV1, AV.one, partCells, okW, onlyFr, app, sliceCells, cellsAt, srcA, subA, eqFs, Int.cast_ofNat_Int, simprocAttr, h1, ed, ed2, hc0, e9]

def S_Sound (P : Prg) (f : Nat) : Prop := ∀ b : List UInt8, b.length ≤ 1000000 → VC P f [bs b] (.bool (decide (openM b = 0)))
theorem verdict_sound {P : Prg} {f fS fV : Nat} (bd : Body P f 43 [.tmp 2] (ac_verdict_sound fS fV)) (hS : S_CSum P fS) (hV : S_le_Value P fV) : S_Sound P f := by
  intro b hb
  refine VC.of_acall (by simp [isDL, isD_bs]) rfl (ACall.of_body bd (by simp) ?_)
  unfold openM
  by_cases h1 : b.length < 5
  · simp only [h1, if_true]
    simp (maxSteps := 4000000) (disch := omega) only [step, stepv, ev, wl, wn, wp, wz, aop, cV, cV1, AV.one, partCells, okW, onlyFr, app, sliceCells, cellsAt, srcA, subA, eqFs, Int.cast_ofNat_Int, simprocAttr, ac_verdict_sound, bs]
    try rfl
  simp only [h1, if_false]
  by_cases h2 : 41254 < b.length
  · simp only [h2, if_true]
    simp (maxSteps := 4000000) (disch := omega) only [step, stepv, ev, wl, wn, wp, wz, aop, cV, cV1, AV.one, partCells, okW, onlyFr, app, sliceCells, cellsAt, srcA, subA, eqFs, Int.cast_ofNat_Int, simprocAttr, ac_verdict_sound, bs]
    try rfl
  simp only [h2, if_false]
  have hS' := hS (b.take (b.length - 4))
  rw [if_neg (by simp; omega), ← sumM] at hS'
  have hl1 : (b.take (b.length - 4)).length = b.length - 4 := by simp
  have hl2 : (b.drop (b.length - 4)).length = 4 := by simp; omega
  have hs := sumM_lt (b.take (b.length - 4))
  have hV' := hV (b.drop (b.length - 4)) (by omega) (by omega)
  have tk : (u8 b).take (b.length - 4) = u8 (b.take (b.length - 4)) := by simp [u8, List.map_take]
  have dk : (u8 b).drop (b.length - 4) = u8 (b.drop (b.length - 4)) := by simp [u8, List.map_drop]
  simp only [bs, hl1, hl2] at hS' hV'
  have hpl : (u8 (b.take (b.length - 4))).length = b.length - 4 := by rw [u8_length, hl1]
  have hql : (u8 (b.drop (b.length - 4))).length = 4 := by rw [u8_length, hl2]
  have tq : (u8 (b.drop (b.length - 4))).take 4 = u8 (b.drop (b.length - 4)) := List.take_of_length_le (by omega)
  have hq : leN (b.drop (b.length - 4)) < 4294967296 := by
    have := leN_lt (b.drop (b.length - 4))
    rw [hl2] at this
    exact this
  generalize b.take (b.length - 4) = p at *
  generalize b.drop (b.length - 4) = q at *
  generalize sumM p = s at *
  generalize leN q = r at *
  have e0 : ((b.length : Int) - 4).toNat = b.length - 4 := by omega
  have e1 : ((b.length : Int) - ((b.length : Int) - 4)).toNat = 4 := by omega
  have e2 : b.length - 4 - 0 = b.length - 4 := by omega
  have e3 : b.length - (b.length - 4) = 4 := by omega
  simp (maxSteps := 4000000) (disch := omega) only [step, stepv, ev, wl, wn, wp, wz, aop, cV, cV1, AV.one, partCells, okW, onlyFr, app, sliceCells, cellsAt, srcA, subA, eqFs, Int.cast_ofNat_Int, simprocAttr, ac_verdict_sound, bs, tk, dk, e0, e1, e2, e3, tq]
  refine callQ.vc hS' ?_
  simp (maxSteps := 4000000) (disch := omega) only [step, stepv, ev, wl, wn, wp, wz, aop, cV, cV1, AV.one, partCells, okW, onlyFr, app, sliceCells, cellsAt, srcA, subA, eqFs, Int.cast_ofNat_Int, simprocAttr, tk, dk, e0, e1, e2, e3, tq]
  refine callQ.vc hV' ?_
  by_cases he : r = s
  · subst he
    simp (maxSteps := 4000000) (disch := omega) only [step, stepv, ev, wl, wn, wp, wz, aop, cV, cV1, AV.one, partCells, okW, onlyFr, app, sliceCells, cellsAt, srcA, subA, eqFs, Int.cast_ofNat_Int, simprocAttr]
  · have he' : (r : Int) ≠ s := by omega
    simp (maxSteps := 4000000) (disch := omega) only [step, stepv, ev, wl, wn, wp, wz, aop, cV, cV1, AV.one, partCells, okW, onlyFr, app, sliceCells, cellsAt, srcA, subA, eqFs, Int.cast_ofNat_Int, simprocAttr, he, he']
    try rfl

end Go.Am

namespace Go.Am
open Go.RowKit

/-! ### verdict.values -/

def vlsM : (Nat × List Nat) ⊕ (List Nat × Nat) → List Nat
  | .inl (_, o) => o
  | .inr (o, _) => o
def allV (b : List UInt8) (c n : Nat) : (Nat × List Nat) ⊕ (List Nat × Nat) := valsM (leN (b.take (b.length - 4))) (8 * (b.take (b.length - 4)).length) c (n * c) [] 0
def S_vVals (P : Prg) (f : Nat) : Prop := ∀ (b : List UInt8) (c n : Nat), 5 ≤ b.length → b.length ≤ 41254 → 1 ≤ c → c ≤ 6 → n * c ≤ 4000 → VC P f [.int .i64 c, .int .i64 n, bs b] (n32A (vlsM (allV b c n)))
set_option maxHeartbeats 2000000 in
theorem verdict_values {P : Prg} {f fS fO fC fR t0 t1 t2 t3 : Nat} (bd : Body P f 86 [.tmp 6] (ac_verdict_values fS fO fC fR t0 t1 t2 t3)) (hS : S_Start P fS) (hO : S_bOf P fO) (hC : S_Cut P fC) (hR : S_dRead P fR) : S_vVals P f := by
  intro b c n hb5 hb hc hc6 hnc
  refine VC.of_walk 1 (by simp [isDL, isD_bs, isD]) (isD_n32A _) (ACall.of_body bd (by simp) ?_)
  simp only [S_Start, startM, dlA, dlC] at hS
  have hn4 : n ≤ 4000 := by
    have : n * 1 ≤ n * c := Nat.mul_le_mul_left _ hc
    omega
  unfold allV
  have hpl : (b.take (b.length - 4)).length = b.length - 4 := by simp
  have hO' := hO (b.take (b.length - 4)) (by omega)
  have hVlt := leN_lt' (b.take (b.length - 4))
  have hbA := bA_of (b.take (b.length - 4))
  rw [ofA, if_neg (by omega)] at hO'
  have tkb : (u8 b).take (b.length - 4) = u8 (b.take (b.length - 4)) := by simp [u8, List.map_take]
  have n5 : b.length - 4 - 0 = b.length - 4 := by omega
  obtain ⟨N, hN0⟩ : ∃ N, N = 8 * (b.take (b.length - 4)).length := ⟨_, rfl⟩
  rw [← hN0] at hO' hVlt hbA ⊢
  rw [bs, hpl] at hO'
  have hN : N ≤ 330000 := by omega
  generalize hp : b.take (b.length - 4) = p at *
  generalize leN p = V at *
  have hV : V < 2 ^ N := hVlt
  have tu : isTL (u8 (leB V (nB N))) = true := isT_u8 _
  obtain ⟨T, hT⟩ : ∃ T, T = n * c := ⟨_, rfl⟩
  obtain ⟨R, hR0⟩ : ∃ R, R = valsM V N c (n * c) [] 0 := ⟨_, rfl⟩
  have eT : (n : Int) * c = (T : Int) := by rw [hT]; simp
  rw [← hR0]
  rw [bA] at hO'
  simp (maxSteps := 4000000) (disch := omega) only [step, stepv, ev, wl, wn, wp, wz, aop, cV, cV1, AV.one, partCells, okW, onlyFr, app, sliceCells, cellsAt, srcA, subA, eqFs, Int.cast_ofNat_Int, simprocAttr, ac_verdict_values, bs]
  refine ALoop.by (ι := Nat) (fun i => ⟨[(19, .int .i64 i), (7, .ref 0 1 0), (6, .emp true), (0, .int .i64 c), (1, .int .i64 n), (2, .list b.length (u8 b))],
      [⟨t0, 24, 1, sixD (fun j => if j < i then startM else ⟨0, 0, 0, 0⟩), 0⟩]⟩) (fun i => i ≤ 6) (fun i => 6 - i) 0 (Le.slots (by simp [Am.look])) (by omega) ?_
  intro i hi
  by_cases hlt : i < 6
  · have e1 := sixD_set (fun j => if j < i then startM else ⟨0, 0, 0, 0⟩) hlt startM
    have e2 : updD (fun j => if j < i then startM else ⟨0, 0, 0, 0⟩) i startM = fun j => if j < i + 1 then startM else ⟨0, 0, 0, 0⟩ := by
      funext j
      unfold updD
      by_cases h1 : j = i
      · subst h1; simp
      · by_cases h2 : j < i
        · simp [h1, h2, show j < i + 1 by omega]
        · simp [h1, h2, show ¬ j < i + 1 by omega]
    rw [e2] at e1
    have e3 := sixD_len (fun j => if j < i then startM else ⟨0, 0, 0, 0⟩)
    simp (maxSteps := 4000000) (disch := omega) only [step, stepv, ev, wl, wn, wp, wz, aop, cV, cV1, AV.one, partCells, okW, onlyFr, app, sliceCells, cellsAt, srcA, subA, eqFs, Int.cast_ofNat_Int, simprocAttr]
    refine callQ.vc hS ?_
    generalize hF : sixD (fun j => if j < i then startM else ⟨0, 0, 0, 0⟩) = F at *
    have e1' : F.take (i * 4) ++ [.int .i64 10, .int .i64 10, .int .u64 16384, .int .u64 16384] ++ F.drop (i * 4 + 4) = sixD fun j => if j < i + 1 then startM else ⟨0, 0, 0, 0⟩ := e1
    simp (maxSteps := 4000000) (disch := omega) only [step, stepv, ev, wl, wn, wp, wz, aop, cV, cV1, AV.one, partCells, okW, onlyFr, app, sliceCells, cellsAt, srcA, subA, eqFs, Int.cast_ofNat_Int, simprocAttr, e3]
    refine ⟨i + 1, by omega, by omega, ?_⟩
    rw [e1']
    exact Le.slots (by simp [Am.look])
  obtain rfl : i = 6 := by omega
  have hk0 : ∀ o : List Nat, (ks .u32 (o.map fun n : Nat => (n : Int))).length = o.length := fun o => by simp [ks]
  simp (maxSteps := 4000000) (disch := omega) only [step, stepv, ev, wl, wn, wp, wz, aop, cV, cV1, AV.one, partCells, okW, onlyFr, app, sliceCells, cellsAt, srcA, subA, eqFs, Int.cast_ofNat_Int, simprocAttr, tkb, n5]
  refine callQ.vc hO' ?_
  simp (maxSteps := 4000000) (disch := omega) only [step, stepv, ev, wl, wn, wp, wz, aop, cV, cV1, AV.one, partCells, okW, onlyFr, app, sliceCells, cellsAt, srcA, subA, eqFs, Int.cast_ofNat_Int, simprocAttr, eT]
  refine ALoop.byP [0, 0, 1, 2, 0, 0, 0, 0, 0] (ι := Nat × List Nat × Nat) (fun s => ⟨[(40, .int .i64 s.1), (39, .int .i64 T), (12, .int .i64 s.2.2), (11, .own 2 s.2.1.length), (9, .ref 1 1 0), (7, .ref 0 1 0), (0, .int .i64 c)],
      [⟨t0, 24, 1, sixD (fun j => if j < c then chanM c j s.2.1 else startM), 0⟩, ⟨t1, 2, 1, [.list (nB N) (u8 (leB V (nB N))), .int .i64 N], 0⟩, ⟨t3, 1, s.2.1.length, ks .u32 (s.2.1.map fun n : Nat => (n : Int)), 0⟩]⟩)
    (fun s => s.1 ≤ T ∧ s.2.1.length = s.1 ∧ s.2.2 ≤ N ∧ N32 s.2.1 ∧ valsM V N c (T - s.1) s.2.1 s.2.2 = R) (fun s => T - s.1) (0, [], 0) ?_ ⟨Nat.zero_le _, rfl, Nat.zero_le _, fun x hx => (by simp at hx), (by rw [hR0, hT]; rfl)⟩ ?_
  · have z1 : sixD (fun j => if j < 6 then startM else ⟨0, 0, 0, 0⟩) = sixD (fun _ => startM) := rfl
    have z2 : (fun j => if j < c then chanM c j [] else startM) = fun _ => startM := by
      funext j
      split <;> rfl
    simp only [z2]
    rw [z1]
    exact Le.trans (Le.virt 11 t3 1 (by decide) rfl) (Le.slots (by simp [Am.look]))
  rintro ⟨k, out, a⟩ ⟨h1, h2, h3, h4, h5⟩
  simp only at h1 h2 h3 h4 h5 ⊢
  by_cases hlt : k < T
  · obtain ⟨r, hr⟩ : ∃ r, r = k % c := ⟨_, rfl⟩
    have hrc : r < c := by rw [hr]; exact Nat.mod_lt _ (by omega)
    have e1 : (k : Int) % c = (r : Int) := by rw [hr]; simp [Int.natCast_emod]
    have e1' : ((k : Int)).tmod (c : Int) = (r : Int) := by rw [Int.tmod_eq_emod_of_nonneg (by omega), e1]
    have hc0 : (c : Int) ≠ 0 := by omega
    obtain ⟨b', hb'⟩ : ∃ b, b = min (a + 81) N := ⟨_, rfl⟩
    have e2 : (if (N : Int) < (a : Int) + 81 then (N : Int) else (a : Int) + 81) = (b' : Int) := by split <;> omega
    have hpn : b' - a = prtN N a := by rw [hb']; rfl
    have hC' : VC P fC [bA N V, .int .i64 a, .int .i64 b'] (.tup [bA (prtN N a) (prtV V N a), .int .i64 0]) := by
      have := hC N V a b' hV hN (by omega) (by omega)
      rw [hpn] at this
      exact this
    have hpl' : prtN N a ≤ 81 := by unfold prtN; omega
    have hd := chan_ok (c := c) (r := r) h4
    have hR' := hR (prtN N a) (prtV V N a) 0 (chanM c r out) (prtV_lt V N a) (by omega) (by omega) hd
    obtain ⟨rest, hg⟩ := sixD_get (fun j => if j < c then chanM c j out else startM) (j := r) (by omega)
    simp only [hrc, if_true] at hg
    have hst := fun d => sixD_set (fun j => if j < c then chanM c j out else startM) (j := r) (by omega) d
    have hln := sixD_len (fun j => if j < c then chanM c j out else startM)
    have hupd : ∀ v : Nat, updD (fun j => if j < c then chanM c j out else startM) r (learnM (chanM c r out) v) = fun j => if j < c then chanM c j (out ++ [v]) else startM := by
      intro v
      funext j
      unfold updD
      by_cases hj : j = r
      · subst hj
        rw [if_pos rfl, if_pos hrc, chan_snoc, if_pos (by rw [h2, hr])]
      · rw [if_neg hj]
        by_cases hjc : j < c
        · simp only [hjc, if_true]
          rw [chan_snoc, if_neg (by rw [h2, ← hr]; exact fun e => hj e.symm)]
        · simp only [hjc, if_false]
    have hkT : T - k = (T - k - 1) + 1 := by omega
    rw [hkT, valsM, h2, ← hr] at h5
    have hgl := fun v nx (h : gotM (prtV V N a) (prtN N a) 0 (chanM c r out) = .inr (v, nx)) => got_lt hd h
    have hge := fun e (h : gotM (prtV V N a) (prtN N a) 0 (chanM c r out) = .inl e) => got_err h
    have hpN : prtN N a ≤ N - a := by unfold prtN; omega
    simp only [bA] at hC' hR'
    have hk1 := hk0 out
    have tk : isTL (ks .u32 (out.map fun n : Nat => (n : Int))) = true := isTL_ks _ _
    cases hgm : gotM (prtV V N a) (prtN N a) 0 (chanM c r out) with
    | inl e =>
      have he := hge e hgm
      rw [hgm] at hR' h5
      simp only at h5
      have he0 : (e : Int) ≠ 0 := by omega
      rw [← h5, vlsM, n32A, u32L, List.length_map]
      generalize sixD (fun j => if j < c then chanM c j out else startM) = F at *
      generalize chanM c r out = d at *
      obtain ⟨d0, d1, d2, d3⟩ := d
      simp only [dlA, dlC, drA] at hR'
      simp only at hg
      simp (maxSteps := 4000000) (disch := omega) only [step, stepv, ev, wl, wn, wp, wz, aop, cV, cV1, AV.one, partCells, okW, onlyFr, app, sliceCells, cellsAt, srcA, subA, eqFs, Int.cast_ofNat_Int, simprocAttr, cutp, e2]
      refine callQ.vc hC' ?_
      simp (maxSteps := 4000000) (disch := omega) only [step, stepv, ev, wl, wn, wp, wz, aop, cV, cV1, AV.one, partCells, okW, onlyFr, app, sliceCells, cellsAt, srcA, subA, eqFs, Int.cast_ofNat_Int, simprocAttr, cutp, e1, e1', hc0, hg, hln]
      refine callD.vc hR' ?_
      simp (maxSteps := 4000000) (disch := omega) only [step, stepv, ev, wl, wn, wp, wz, aop, cV, cV1, AV.one, partCells, okW, onlyFr, app, sliceCells, cellsAt, srcA, subA, eqFs, Int.cast_ofNat_Int, simprocAttr, cutp, h2]
      simp [frzN, frzK, frzL, frzV, h2, frzL_T _ tk]
    | inr w =>
      obtain ⟨v, nx⟩ := w
      obtain ⟨v1, v2⟩ := hgl v nx hgm
      rw [hgm] at hR' h5
      simp only at h5
      have hset := hst (learnM (chanM c r out) v)
      rw [hupd v] at hset
      have tF := isTL_sixD (fun j => if j < c then chanM c j out else startM)
      generalize hFF : sixD (fun j => if j < c then chanM c j out else startM) = F at *
      generalize chanM c r out = d at *
      obtain ⟨d0, d1, d2, d3⟩ := d
      simp only [drA] at hR'
      generalize learnM ⟨d0, d1, d2, d3⟩ v = d' at *
      obtain ⟨m0, m1, m2, m3⟩ := d'
      simp only [dlA, dlC] at hR'
      simp only at hg hset
      simp (maxSteps := 4000000) (disch := omega) only [step, stepv, ev, wl, wn, wp, wz, aop, cV, cV1, AV.one, partCells, okW, onlyFr, app, sliceCells, cellsAt, srcA, subA, eqFs, Int.cast_ofNat_Int, simprocAttr, cutp, e2]
      refine callQ.vc hC' ?_
      simp (maxSteps := 4000000) (disch := omega) only [step, stepv, ev, wl, wn, wp, wz, aop, cV, cV1, AV.one, partCells, okW, onlyFr, app, sliceCells, cellsAt, srcA, subA, eqFs, Int.cast_ofNat_Int, simprocAttr, cutp, e1, e1', hc0, hg, hln]
      refine callD.vc hR' ?_
      simp (maxSteps := 4000000) (disch := omega) only [step, stepv, ev, wl, wn, wp, wz, aop, cV, cV1, AV.one, partCells, okW, onlyFr, app, sliceCells, cellsAt, srcA, subA, eqFs, Int.cast_ofNat_Int, simprocAttr, cutp, e1, e1', hc0, hg, hln, hk1, h2]
      refine ⟨⟨[(13, .int .i64 k), (0, .int .i64 c), (11, .own 2 k), (16, .int .u32 v), (12, .int .i64 a), (17, .int .i64 nx), (18, .cell [.int .i64 m0, .int .i64 m1, .int .u64 m2, .int .u64 m3]), (7, .ref 0 1 0), (9, .ref 1 1 0), (39, .int .i64 T), (40, .int .i64 k)],
        [⟨t0, 24, 1, F, 0⟩, ⟨t1, 2, 1, [.list (nB N) (u8 (leB V (nB N))), .int .i64 N], 0⟩, ⟨t3, 1, k, ks .u32 (out.map fun n : Nat => (n : Int)), 0⟩]⟩,
        Le.dropT [_, _, _] (by simp [tF, isTL_ks, isTL, isT, isT_u8]) (by simp [Am.look, frzK, frzL, frzV]), ?_⟩
      simp (maxSteps := 4000000) (disch := omega) only [step, stepv, ev, wl, wn, wp, wz, aop, cV, cV1, AV.one, partCells, okW, onlyFr, app, sliceCells, cellsAt, srcA, subA, eqFs, Int.cast_ofNat_Int, simprocAttr, e1, e1', hc0, hg, hln, hk1, h2]
      have hap : ks .u32 (out.map fun n : Nat => (n : Int)) ++ [.int .u32 (v : Int)] = ks .u32 ((out ++ [v]).map fun n : Nat => (n : Int)) := by simp [ks]
      have hol : (out ++ [v]).length = k + 1 := by simp [h2]
      refine ⟨(k + 1, out ++ [v], a + nx), ⟨by omega, hol, by simp only; omega, fun x hx => ?_, ?_⟩, by simp only; omega, ?_⟩
      · rcases List.mem_append.1 hx with h | h
        · exact h4 x h
        · simp at h; subst h; exact v1
      · simp only
        rw [show T - (k + 1) = T - k - 1 by omega]
        exact h5
      · simp only [hol]
        rw [hset, hap]
        exact Le.dropT [_, _, _] (by simp [isTL_sixD, isTL_ks, isTL, isT, isT_u8]) (by simp [Am.look, frzK, frzL, frzV])
  · obtain rfl : k = T := by omega
    rw [Nat.sub_self, valsM] at h5
    rw [← h5, vlsM, n32A, u32L, List.length_map]
    simp (maxSteps := 4000000) (disch := omega) only [step, stepv, ev, wl, wn, wp, wz, aop, cV, cV1, AV.one, partCells, okW, onlyFr, app, sliceCells, cellsAt, srcA, subA, eqFs, Int.cast_ofNat_Int, simprocAttr, cutp]
    simp [frzN, frzK, frzL, frzV, frzL_T _ (isTL_ks _ _)]

end Go.Am

namespace Go.Am
open Go.RowKit

/-! ### verdict.good -/

theorem U32_take {v : List Int} (h : U32 v) (k : Nat) : U32 (v.take k) := fun x hx => h x (List.mem_of_mem_take hx)
theorem mod_mul (m c : Nat) : (m * c) % c = 0 := Nat.mul_mod_left m c
theorem df_take {c k : Nat} {x : Int} {t v : List Int} (hc : 1 ≤ c) (hc6 : c ≤ 6) (hx : half x ≠ 0) (hk : 1 ≤ k) (hkl : k ≤ v.length / c) (hl : v.length ≤ 4000) :
    ∃ m : List Int, dfA c x t (v.take (k * c)) = .tup [il m, .int .i64 (if okP c x (unB c x t (v.take (v.length / c * c))) k then 0 else 16)] := by
  have h2 : v.length / c * c ≤ v.length := Nat.div_mul_le_self _ _
  have h3 : k * c ≤ v.length / c * c := Nat.mul_le_mul_right c hkl
  have h0 : 0 < k * c := Nat.mul_pos hk hc
  have h1 : (v.take (k * c)).length = k * c := by simp; omega
  have hE : eCheck c x = 0 := by unfold eCheck; rw [if_neg (by omega)]
  have e1 : v.take (k * c) = (v.take (v.length / c * c)).take (k * c) := by rw [List.take_take, Nat.min_eq_left h3]
  have e2 : unB c x t (v.take (k * c)) = (unB c x t (v.take (v.length / c * c))).take (k * c) := by
    rw [e1]; exact unB_take hc (by simp; omega)
  have hz : ((v.take (k * c)).length : Int) % (c : Int) = 0 := by
    rw [h1, ← Int.natCast_emod, mod_mul]; rfl
  rw [df_ok hE (by omega) (by omega), rngA, chk_all hx (by rw [unB_len]; omega), e2]
  unfold okP
  split
  · rename_i h
    exact ⟨_, rfl⟩
  · rename_i h
    exact ⟨[], rfl⟩

def S_vGood (P : Prg) (f : Nat) : Prop := ∀ (c : Nat) (x : Int) (t v : List Int), 1 ≤ c → c ≤ 6 → half x ≠ 0 → t.length = 16 → I32 t → v.length ≤ 4000 → U32 v → VC P f [shA c x, .agg (ks .i32 t), u32L v] (.int .i64 (goodM c x t v : Nat))
set_option maxHeartbeats 1000000 in
theorem verdict_good {P : Prg} {f fS t0 t1 : Nat} (bd : Body P f 46 [.tmp 6] (ac_verdict_good fS t0 t1)) (hS : S_DSamples P fS) : S_vGood P f := by
  intro c x t v hc hc6 hx ht hI hl hV
  refine VC.of_acall (by simp [isDL, isD, isD_u32L, isDL_ks, shA]) rfl (ACall.of_body bd (by simp) ?_)
  have hk : (ks .i32 t).length = 16 := by simp [ks_length, ht]
  have tt : (ks .i32 t).take 16 = ks .i32 t := take_all (by omega)
  have ot := ks_one .i32 t
  have hc0 : (c : Int) ≠ 0 := by omega
  obtain ⟨G, hG⟩ : ∃ G, G = goodK c x (unB c x t (v.take (v.length / c * c))) (v.length / c) := ⟨_, rfl⟩
  obtain ⟨g1, g2, g3⟩ := goodK_spec c x (unB c x t (v.take (v.length / c * c))) (v.length / c)
  rw [← hG] at g1 g2 g3
  have hgm : goodM c x t v = G * c := by rw [goodM, ← hG]
  rw [hgm]
  have hdf := fun k (h1 : 1 ≤ k) (h2 : k ≤ v.length / c) => df_take (t := t) hc hc6 hx h1 h2 hl
  have hmon := fun j k (h : okP c x (unB c x t (v.take (v.length / c * c))) k = true) (hj : j ≤ k) => okP_mono h hj
  have hml : ∀ k, k ≤ v.length / c → k * c ≤ v.length := fun k hkl => Nat.le_trans (Nat.mul_le_mul_right c hkl) (Nat.div_mul_le_self _ _)
  have hm4 : v.length / c ≤ v.length := Nat.div_le_self _ _
  have eM : (v.length : Int) / (c : Int) = ((v.length / c : Nat) : Int) := by simp
  have eM2 : (v.length : Int).tdiv (c : Int) = ((v.length / c : Nat) : Int) := by rw [Int.tdiv_eq_ediv_of_nonneg (by omega), eM]
  obtain ⟨M, hM⟩ : ∃ M, M = v.length / c := ⟨_, rfl⟩
  rw [← hM] at g1 g2 g3 hdf hml hm4 eM eM2 hmon hG
  generalize unB c x t (v.take (M * c)) = z at *
  clear hM hG hgm
  simp (maxSteps := 4000000) (disch := omega) only [step, stepv, ev, wl, wn, wp, wz, aop, cV, cV1, AV.one, partCells, okW, onlyFr, app, sliceCells, cellsAt, srcA, subA, eqFs, Int.cast_ofNat_Int, simprocAttr, ac_verdict_good, shA, u32L, hk, tt, ot, hc0, eM, eM2]
  refine ALoop.by (ι := Nat × Nat) (fun s => ⟨[(7, .int .i64 s.1), (8, .int .i64 s.2), (4, .ref 1 1 0), (3, .ref 0 1 0), (2, .list v.length (ks .u32 v))], [⟨t0, 2, 1, [.int .i64 c, .int .i64 x], 0⟩, ⟨t1, 16, 1, ks .i32 t, 0⟩]⟩)
    (fun s => s.1 ≤ G ∧ G ≤ s.2 ∧ s.2 ≤ M) (fun s => s.2 - s.1) (0, M) (Le.slots (by simp [Am.look])) ⟨Nat.zero_le _, g1, Nat.le_refl _⟩ ?_
  rintro ⟨lo, hi⟩ ⟨h1, h2, h3⟩
  simp only at h1 h2 h3 ⊢
  by_cases hlt : lo < hi
  · obtain ⟨k, hk0⟩ : ∃ k, k = (lo + hi + 1) / 2 := ⟨_, rfl⟩
    have e0 : ((lo : Int) + hi + 1) / 2 = (k : Int) := by omega
    have e0' : ((lo : Int) + hi + 1).tdiv 2 = (k : Int) := by rw [Int.tdiv_eq_ediv_of_nonneg (by omega), e0]
    obtain ⟨m, hm⟩ := hdf k (by omega) (by omega)
    have hkc := hml k (by omega)
    have hS' := hS c x t (v.take (k * c)) ht hI (U32_take hV _)
    rw [hm, shA, u32L] at hS'
    have hl1 : (v.take (k * c)).length = k * c := by simp; omega
    rw [hl1] at hS'
    obtain ⟨K, hK⟩ : ∃ K, K = k * c := ⟨_, rfl⟩
    have eK : (k : Int) * c = (K : Int) := by rw [hK]; simp
    rw [← hK] at hS' hkc hl1
    have tk : (ks .u32 v).take K = ks .u32 (v.take K) := ks_take _ _ _
    have hlv : (ks .u32 v).length = v.length := ks_length _ _
    have n0 : K - 0 = K := by omega
    simp only [il] at hS'
    cases hok : okP c x z k with
    | true =>
      rw [hok] at hS'
      simp only [if_true] at hS'
      have hG' := g3 k (by omega) hok
      simp (maxSteps := 4000000) (disch := omega) only [step, stepv, ev, wl, wn, wp, wz, aop, cV, cV1, AV.one, partCells, okW, onlyFr, app, sliceCells, cellsAt, srcA, subA, eqFs, Int.cast_ofNat_Int, simprocAttr, e0, e0', eK, hk, tt, ot, tk, hlv, n0]
      refine callD.vc hS' ?_
      simp (maxSteps := 4000000) (disch := omega) only [step, stepv, ev, wl, wn, wp, wz, aop, cV, cV1, AV.one, partCells, okW, onlyFr, app, sliceCells, cellsAt, srcA, subA, eqFs, Int.cast_ofNat_Int, simprocAttr]
      exact ⟨(k, hi), ⟨hG', h2, h3⟩, by simp only; omega, Le.slots (by simp [Am.look])⟩
    | false =>
      rw [hok] at hS'
      simp only [Bool.false_eq_true, if_false] at hS'
      have hG' : G ≤ k - 1 := by
        rcases Nat.lt_or_ge G k with h | h
        · omega
        · have := hmon k G g2 h
          rw [hok] at this; cases this
      simp (maxSteps := 4000000) (disch := omega) only [step, stepv, ev, wl, wn, wp, wz, aop, cV, cV1, AV.one, partCells, okW, onlyFr, app, sliceCells, cellsAt, srcA, subA, eqFs, Int.cast_ofNat_Int, simprocAttr, e0, e0', eK, hk, tt, ot, tk, hlv, n0]
      refine callD.vc hS' ?_
      simp (maxSteps := 4000000) (disch := omega) only [step, stepv, ev, wl, wn, wp, wz, aop, cV, cV1, AV.one, partCells, okW, onlyFr, app, sliceCells, cellsAt, srcA, subA, eqFs, Int.cast_ofNat_Int, simprocAttr]
      exact ⟨(lo, k - 1), ⟨h1, hG', by simp only; omega⟩, by simp only; omega, Le.slots (by simp [Am.look]; omega)⟩
  · obtain rfl : lo = G := by omega
    have hkc := hml lo g1
    have eK : (lo : Int) * c = ((lo * c : Nat) : Int) := by simp
    obtain ⟨K, hK⟩ : ∃ K, K = lo * c := ⟨_, rfl⟩
    rw [← hK] at eK hkc ⊢
    simp (maxSteps := 4000000) (disch := omega) only [step, stepv, ev, wl, wn, wp, wz, aop, cV, cV1, AV.one, partCells, okW, onlyFr, app, sliceCells, cellsAt, srcA, subA, eqFs, Int.cast_ofNat_Int, simprocAttr, eK]

/-! ### verdict.Judge -/

def errV (V N c : Nat) (x : Int) (t : List Int) (w : (Nat × List Nat) ⊕ (List Nat × Nat)) : Int :=
  match w with
  | .inl (e, _) => e
  | .inr (o, a) => if restM V N a ≠ 0 then 12 else checkN x (unB c x t (iL o))
def errD (c x : Int) (t : List Int) (n : Int) (b : List UInt8) : Int :=
  if ask21 c x n ≠ 0 then 2 else if openM b ≠ 0 then (openM b : Nat) else
    errV (leN (b.take (b.length - 4))) (8 * (b.take (b.length - 4)).length) c.toNat x t (allV b c.toNat n.toNat)
theorem dec_form2 (c x n : Int) (t : List Int) (b : List UInt8) : ∃ m : List Int, decA c x t n b = .tup [il m, .int .i64 (errD c x t n b)] ∧ m.length ≤ 4000 := by
  unfold decA errD allV
  by_cases h1 : ask21 c x n = 0
  case neg => simp only [if_pos h1]; exact ⟨[], rfl, by simp⟩
  have a1 : ¬ (ask21 c x n ≠ 0) := by omega
  simp only [if_neg a1]
  by_cases h2 : openM b = 0
  case neg => simp only [if_pos h2]; exact ⟨[], rfl, by simp⟩
  have a2 : ¬ (openM b ≠ 0) := by omega
  simp only [if_neg a2]
  obtain ⟨_, c', n', rfl, rfl, q1, q2, q3, q4, q5⟩ := ask21_cases h1
  simp only [Int.toNat_natCast]
  generalize leN (b.take (b.length - 4)) = V
  generalize 8 * (b.take (b.length - 4)).length = N
  cases hw : valsM V N c' (n' * c') [] 0 with
  | inl w => exact ⟨[], rfl, by simp⟩
  | inr w =>
    obtain ⟨o, a⟩ := w
    obtain ⟨hv, ha, hol⟩ := okV_of q1 q2 q3 q4 hw
    simp only [decV, errV]
    by_cases h3 : restM V N a = 0
    · rw [if_neg (by omega), if_neg (by omega)]
      unfold rngA
      by_cases h4 : checkN x (unB c' x t (iL o)) = 0
      · rw [if_neg (by omega), h4]
        exact ⟨_, rfl, by rw [unB_len]; simp only [iL, List.length_map]; omega⟩
      · rw [if_pos h4]
        exact ⟨[], rfl, by simp⟩
    · rw [if_pos h3, if_pos h3]; exact ⟨[], rfl, by simp⟩
def judG (c x : Int) (t : List Int) (n : Int) (b : List UInt8) : Int :=
  if errD c x t n b = 0 then n * c else if openM b = 0 then (goodM c.toNat x t (iL (vlsM (allV b c.toNat n.toNat))) : Nat) else 0
def judA (c x : Int) (t : List Int) (n : Int) (b : List UInt8) : AV :=
  if ask21 c x n ≠ 0 then .tup [.agg [.int .i64 0, .int .i64 0], .int .i64 2] else .tup [.agg [.int .i64 (errD c x t n b), .int .i64 (judG c x t n b)], .int .i64 0]
theorem allV_ok {b : List UInt8} {c n : Nat} (hn : n * c ≤ 4000) : N32 (vlsM (allV b c n)) ∧ (vlsM (allV b c n)).length ≤ 4000 := by
  have hs := vals_spec (V := leN (b.take (b.length - 4))) (N := 8 * (b.take (b.length - 4)).length) (c := c) (n * c) [] 0 (Nat.zero_le _) (fun x hx => by simp at hx)
  unfold allV
  cases hw : valsM (leN (b.take (b.length - 4))) (8 * (b.take (b.length - 4)).length) c (n * c) [] 0 with
  | inl w =>
    obtain ⟨e, o⟩ := w
    obtain ⟨_, h2, h3⟩ := hs.1 e o hw
    rw [List.length_nil, Nat.zero_add] at h3
    exact ⟨h2, by simp only [vlsM]; omega⟩
  | inr w =>
    obtain ⟨o, a⟩ := w
    obtain ⟨h2, _, h3⟩ := hs.2 o a hw
    rw [List.length_nil, Nat.zero_add] at h3
    exact ⟨h2, by simp only [vlsM]; omega⟩
theorem U32_iL {o : List Nat} (h : N32 o) : U32 (iL o) := by
  intro x hx
  simp only [iL, List.mem_map] at hx
  obtain ⟨y, hy, rfl⟩ := hx
  have := h y hy
  omega
theorem errD_ask {c x n : Int} {t : List Int} {b : List UInt8} (h : ask21 c x n = 0) (h2 : errD c x t n b = 0) : openM b = 0 := by
  unfold errD at h2
  rw [if_neg (by omega)] at h2
  split at h2
  · omega
  · omega
def S_Judge (P : Prg) (f : Nat) : Prop := ∀ (c x n : Int) (t : List Int) (b : List UInt8), t.length = 16 → I32 t → b.length ≤ 1000000 → VC P f [shA c x, .agg (ks .i32 t), .int .i64 n, bs b] (judA c x t n b)
theorem isD_judA (c x : Int) (t : List Int) (n : Int) (b : List UInt8) : isD (judA c x t n b) = true := by unfold judA; split <;> rfl
set_option maxHeartbeats 1000000 in
theorem verdict_Judge {P : Prg} {f fC fD fS fV fG t0 t1 t2 : Nat} (bd : Body P f 52 [.cell 8 t2, .tmp 9] (ac_verdict_Judge fC fD fS fV fG t0 t1 t2)) (hC : S_Ask21 P fC) (hD : S_Decode P fD) (hS : S_Sound P fS) (hV : S_vVals P fV) (hG : S_vGood P fG) (ha : aggO P t2 = some (some 2)) : S_Judge P f := by
  intro c x n t b ht hI hb
  refine VC.of_acall (by simp [isDL, isD_bs, isDL_ks, isD, shA]) (isD_judA _ _ _ _ _) (ACall.of_body bd (by simp) ?_)
  have hC' := hC c x n
  have hD' := hD c x n t b ht hI hb
  have hS' := hS b hb
  have hk : (ks .i32 t).length = 16 := by simp [ks_length, ht]
  have tt : (ks .i32 t).take 16 = ks .i32 t := take_all (by omega)
  have ot := ks_one .i32 t
  rw [shA] at hC' hD'
  unfold judA
  by_cases h1 : ask21 c x n = 0
  case neg =>
    have h2 : ask21 c x n = 2 := by unfold ask21 at h1 ⊢; split <;> (try rfl); rename_i q; rw [if_neg q] at h1; split <;> (try rfl); rename_i q; rw [if_neg q] at h1; split <;> (try rfl); rename_i q; rw [if_neg q] at h1; omega
    rw [h2] at hC' ⊢
    simp only [bs]
    simp (maxSteps := 4000000) (disch := omega) only [step, stepv, ev, wl, wn, wp, wz, aop, cV, cV1, AV.one, partCells, okW, onlyFr, app, sliceCells, cellsAt, srcA, subA, eqFs, Int.cast_ofNat_Int, simprocAttr, ac_verdict_Judge, shA, hk, tt, ot]
    refine callQ.vc hC' ?_
    simp (maxSteps := 4000000) (disch := omega) only [step, stepv, ev, wl, wn, wp, wz, aop, cV, cV1, AV.one, partCells, okW, onlyFr, app, sliceCells, cellsAt, srcA, subA, eqFs, Int.cast_ofNat_Int, simprocAttr, resA, ha, oneOf]
  rw [if_neg (by omega)]
  obtain ⟨hE, c', n', rfl, rfl, q1, q2, q3, q4, q5⟩ := ask21_cases h1
  rw [h1] at hC'
  obtain ⟨m, hm, _⟩ := dec_form2 (c' : Int) x (n' : Int) t b
  rw [hm] at hD'
  have h0 := errD_ask (c := (c' : Int)) (n := (n' : Int)) (x := x) (t := t) (b := b) h1
  unfold judG
  simp only [bs, il, Int.toNat_natCast] at hD' hS' ⊢
  have eT : (n' : Int) * c' = ((n' * c' : Nat) : Int) := by simp
  obtain ⟨T, hT⟩ : ∃ T, T = n' * c' := ⟨_, rfl⟩
  rw [← hT] at eT
  by_cases h2 : errD c' x t n' b = 0
  · rw [if_pos h2, h2]
    rw [h2] at hD'
    rw [eT]
    simp (maxSteps := 4000000) (disch := omega) only [step, stepv, ev, wl, wn, wp, wz, aop, cV, cV1, AV.one, partCells, okW, onlyFr, app, sliceCells, cellsAt, srcA, subA, eqFs, Int.cast_ofNat_Int, simprocAttr, ac_verdict_Judge, shA, hk, tt, ot]
    refine callQ.vc hC' ?_
    simp (maxSteps := 4000000) (disch := omega) only [step, stepv, ev, wl, wn, wp, wz, aop, cV, cV1, AV.one, partCells, okW, onlyFr, app, sliceCells, cellsAt, srcA, subA, eqFs, Int.cast_ofNat_Int, simprocAttr, hk, tt, ot]
    refine callQ.vc hD' ?_
    simp (maxSteps := 4000000) (disch := omega) only [step, stepv, ev, wl, wn, wp, wz, aop, cV, cV1, AV.one, partCells, okW, onlyFr, app, sliceCells, cellsAt, srcA, subA, eqFs, Int.cast_ofNat_Int, simprocAttr, eT, resA, ha, oneOf]
  rw [if_neg h2]
  by_cases h3 : openM b = 0
  · rw [if_pos h3]
    have hbl : 5 ≤ b.length ∧ b.length ≤ 41254 := by
      unfold openM at h3
      split at h3
      · omega
      split at h3
      · omega
      · omega
    rw [h3] at hS'
    have hV' := hV b c' n' hbl.1 hbl.2 q1 q2 q4
    obtain ⟨a1, a2⟩ := allV_ok (b := b) (c := c') (n := n') q4
    have hG' := hG c' x t (iL (vlsM (allV b c' n'))) q1 q2 q5 ht hI (by simp only [iL, List.length_map]; exact a2) (U32_iL a1)
    have hgl := goodM_le (c := c') (x := x) (t := t) (v := iL (vlsM (allV b c' n')))
    rw [n32A] at hV'
    simp only [iL] at hG' hgl ⊢
    simp only [List.length_map] at hgl
    generalize vlsM (allV b c' n') = o at *
    generalize goodM c' x t (o.map fun n : Nat => (n : Int)) = g at *
    generalize errD c' x t n' b = e at *
    simp only [bs, u32L, shA, List.length_map] at hV' hG'
    simp (maxSteps := 4000000) (disch := omega) only [step, stepv, ev, wl, wn, wp, wz, aop, cV, cV1, AV.one, partCells, okW, onlyFr, app, sliceCells, cellsAt, srcA, subA, eqFs, Int.cast_ofNat_Int, simprocAttr, ac_verdict_Judge, shA, hk, tt, ot]
    refine callQ.vc hC' ?_
    simp (maxSteps := 4000000) (disch := omega) only [step, stepv, ev, wl, wn, wp, wz, aop, cV, cV1, AV.one, partCells, okW, onlyFr, app, sliceCells, cellsAt, srcA, subA, eqFs, Int.cast_ofNat_Int, simprocAttr, hk, tt, ot]
    refine callQ.vc hD' ?_
    simp (maxSteps := 4000000) (disch := omega) only [step, stepv, ev, wl, wn, wp, wz, aop, cV, cV1, AV.one, partCells, okW, onlyFr, app, sliceCells, cellsAt, srcA, subA, eqFs, Int.cast_ofNat_Int, simprocAttr]
    refine callQ.vc hS' ?_
    simp (maxSteps := 4000000) (disch := omega) only [step, stepv, ev, wl, wn, wp, wz, aop, cV, cV1, AV.one, partCells, okW, onlyFr, app, sliceCells, cellsAt, srcA, subA, eqFs, Int.cast_ofNat_Int, simprocAttr, hk, tt, ot]
    refine callD.vc hV' ?_
    simp (maxSteps := 4000000) (disch := omega) only [step, stepv, ev, wl, wn, wp, wz, aop, cV, cV1, AV.one, partCells, okW, onlyFr, app, sliceCells, cellsAt, srcA, subA, eqFs, Int.cast_ofNat_Int, simprocAttr, hk, tt, ot]
    refine callD.vc hG' ?_
    simp (maxSteps := 4000000) (disch := omega) only [step, stepv, ev, wl, wn, wp, wz, aop, cV, cV1, AV.one, partCells, okW, onlyFr, app, sliceCells, cellsAt, srcA, subA, eqFs, Int.cast_ofNat_Int, simprocAttr, resA, ha, oneOf]
  · rw [if_neg h3]
    have hS'' : VC P fS [.list b.length (u8 b)] (.bool false) := by
      rw [decide_eq_false h3] at hS'; exact hS'
    generalize errD c' x t n' b = e at *
    simp (maxSteps := 4000000) (disch := omega) only [step, stepv, ev, wl, wn, wp, wz, aop, cV, cV1, AV.one, partCells, okW, onlyFr, app, sliceCells, cellsAt, srcA, subA, eqFs, Int.cast_ofNat_Int, simprocAttr, ac_verdict_Judge, shA, hk, tt, ot]
    refine callQ.vc hC' ?_
    simp (maxSteps := 4000000) (disch := omega) only [step, stepv, ev, wl, wn, wp, wz, aop, cV, cV1, AV.one, partCells, okW, onlyFr, app, sliceCells, cellsAt, srcA, subA, eqFs, Int.cast_ofNat_Int, simprocAttr, hk, tt, ot]
    refine callQ.vc hD' ?_
    simp (maxSteps := 4000000) (disch := omega) only [step, stepv, ev, wl, wn, wp, wz, aop, cV, cV1, AV.one, partCells, okW, onlyFr, app, sliceCells, cellsAt, srcA, subA, eqFs, Int.cast_ofNat_Int, simprocAttr]
    refine callQ.vc hS'' ?_
    simp (maxSteps := 4000000) (disch := omega) only [step, stepv, ev, wl, wn, wp, wz, aop, cV, cV1, AV.one, partCells, okW, onlyFr, app, sliceCells, cellsAt, srcA, subA, eqFs, Int.cast_ofNat_Int, simprocAttr, resA, ha, oneOf]

end Go.Am

namespace Go.Am
open Go.RowKit

theorem ask_two {c x n : Int} (h1 : ask21 c x n ≠ 0) : ask21 c x n = 2 := by
  unfold ask21 at h1 ⊢
  split
  · rfl
  rename_i q
  rw [if_neg q] at h1
  split
  · rfl
  rename_i q
  rw [if_neg q] at h1
  split
  · rfl
  rename_i q
  rw [if_neg q] at h1
  omega

/-! ### Silence, Heal -/

def silL (c n : Int) : List Int := List.replicate (n.toNat * c.toNat) 0
def silA (c x n : Int) : AV := if ask21 c x n ≠ 0 then erA 2 else .tup [il (silL c n), .int .i64 0]
theorem isD_silA (c x n : Int) : isD (silA c x n) = true := by unfold silA; split <;> simp [isD, isDL, isD_il, erA]
def S_Silence (P : Prg) (f : Nat) : Prop := ∀ c x n : Int, VC P f [shA c x, .int .i64 n] (silA c x n)
theorem sil_ks (N : Nat) : repCells [.int .i32 0] N = ks .i32 (List.replicate N 0) := rep_ks _ N

theorem verdict_Silence {P : Prg} {f fC t0 t1 : Nat} (bd : Body P f 18 [.tmp 4, .tmp 5] (ac_verdict_Silence fC t0 t1)) (hC : S_Ask21 P fC) : S_Silence P f := by
  intro c x n
  refine VC.of_walk 1 (by simp [isDL, isD, shA]) (isD_silA _ _ _) (ACall.of_body bd (by simp) ?_)
  have hC' := hC c x n
  rw [shA] at hC'
  unfold silA
  by_cases h1 : ask21 c x n = 0
  case neg =>
    rw [if_pos h1, erA]
    rw [ask_two h1] at hC'
    simp (maxSteps := 4000000) (disch := omega) only [step, stepv, ev, wl, wn, wp, wz, aop, cV, cV1, AV.one, partCells, okW, onlyFr, app, sliceCells, cellsAt, srcA, subA, eqFs, Int.cast_ofNat_Int, simprocAttr, ac_verdict_Silence, shA]
    refine callQ.vc hC' ?_
    simp (maxSteps := 4000000) (disch := omega) only [step, stepv, ev, wl, wn, wp, wz, aop, cV, cV1, AV.one, partCells, okW, onlyFr, app, sliceCells, cellsAt, srcA, subA, eqFs, Int.cast_ofNat_Int, simprocAttr]
    simp [frzN, frzK, frzL, frzV]
  rw [if_neg (by omega)]
  obtain ⟨hE, c', n', rfl, rfl, q1, q2, q3, q4, q5⟩ := ask21_cases h1
  rw [h1] at hC'
  unfold silL
  simp only [Int.toNat_natCast]
  have eT : (n' : Int) * c' = ((n' * c' : Nat) : Int) := by simp
  have hp : 0 < n' * c' := Nat.mul_pos q3 q1
  obtain ⟨T, hT⟩ : ∃ T, T = n' * c' := ⟨_, rfl⟩
  rw [← hT] at eT hp q4 ⊢
  have er := sil_ks T
  have tl : isTL (ks .i32 (List.replicate T 0)) = true := isTL_ks _ _
  simp (maxSteps := 4000000) (disch := omega) only [step, stepv, ev, wl, wn, wp, wz, aop, cV, cV1, AV.one, partCells, okW, onlyFr, app, sliceCells, cellsAt, srcA, subA, eqFs, Int.cast_ofNat_Int, simprocAttr, ac_verdict_Silence, shA]
  refine callQ.vc hC' ?_
  simp (maxSteps := 4000000) (disch := omega) only [step, stepv, ev, wl, wn, wp, wz, aop, cV, cV1, AV.one, partCells, okW, onlyFr, app, sliceCells, cellsAt, srcA, subA, eqFs, Int.cast_ofNat_Int, simprocAttr, eT, er]
  simp [frzN, frzK, frzL, frzV, il, er, frzL_T _ tl]

def decL (c x : Int) (t : List Int) (n : Int) (b : List UInt8) : List Int := if errD c x t n b = 0 then unB c.toNat x t (iL (vlsM (allV b c.toNat n.toNat))) else []
theorem dec_eq (c x n : Int) (t : List Int) (b : List UInt8) : decA c x t n b = .tup [il (decL c x t n b), .int .i64 (errD c x t n b)] ∧ (decL c x t n b).length ≤ 4000 := by
  unfold decA decL errD allV
  by_cases h1 : ask21 c x n = 0
  case neg => simp only [if_pos h1]; exact ⟨rfl, by simp⟩
  have a1 : ¬ (ask21 c x n ≠ 0) := by omega
  simp only [if_neg a1]
  by_cases h2 : openM b = 0
  case neg =>
    have h2' : ((openM b : Nat) : Int) ≠ 0 := by omega
    simp only [if_pos h2, if_neg h2']
    exact ⟨rfl, by simp⟩
  have a2 : ¬ (openM b ≠ 0) := by omega
  simp only [if_neg a2]
  obtain ⟨_, c', n', rfl, rfl, q1, q2, q3, q4, q5⟩ := ask21_cases h1
  simp only [Int.toNat_natCast]
  have hs := vals_spec (V := leN (b.take (b.length - 4))) (N := 8 * (b.take (b.length - 4)).length) (c := c') (n' * c') [] 0 (Nat.zero_le _) (fun x hx => by simp at hx)
  generalize leN (b.take (b.length - 4)) = V at *
  generalize 8 * (b.take (b.length - 4)).length = N at *
  cases hw : valsM V N c' (n' * c') [] 0 with
  | inl w =>
    obtain ⟨e, o⟩ := w
    have he := (hs.1 e o hw).1
    have he0 : ¬ ((e : Int) = 0) := by omega
    have he2 : ¬ (errV V N c' x t (.inl (e, o)) = 0) := he0
    rw [if_neg he2]
    exact ⟨rfl, by simp⟩
  | inr w =>
    obtain ⟨o, a⟩ := w
    obtain ⟨hv, ha, hol⟩ := okV_of q1 q2 q3 q4 hw
    simp only [decV, errV, vlsM]
    by_cases h3 : restM V N a = 0
    · have a3 : ¬ (restM V N a ≠ 0) := by omega
      simp only [if_neg a3]
      unfold rngA
      by_cases h4 : checkN x (unB c' x t (iL o)) = 0
      · have a4 : ¬ (checkN x (unB c' x t (iL o)) ≠ 0) := by omega
        simp only [if_neg a4, if_pos h4]
        rw [h4]
        exact ⟨rfl, by rw [unB_len]; simp only [iL, List.length_map]; omega⟩
      · simp only [if_pos h4, if_neg h4]
        exact ⟨rfl, by simp⟩
    · have a5 : ¬ ((12 : Int) = 0) := by omega
      simp only [if_pos h3, if_neg a5]
      exact ⟨rfl, by simp⟩
def heaA (c x : Int) (t : List Int) (n : Int) (b : List UInt8) : AV :=
  if ask21 c x n ≠ 0 then .tup [.list 0 [], .bool false, .int .i64 2] else if errD c x t n b = 0 then .tup [il (decL c x t n b), .bool true, .int .i64 0] else .tup [il (silL c n), .bool false, .int .i64 0]
theorem isD_heaA (c x : Int) (t : List Int) (n : Int) (b : List UInt8) : isD (heaA c x t n b) = true := by unfold heaA; split <;> (try split) <;> simp [isD, isDL, isD_il]
def S_Heal (P : Prg) (f : Nat) : Prop := ∀ (c x n : Int) (t : List Int) (b : List UInt8), t.length = 16 → I32 t → b.length ≤ 1000000 → VC P f [shA c x, .agg (ks .i32 t), .int .i64 n, bs b] (heaA c x t n b)
theorem verdict_Heal {P : Prg} {f fC fD fS t0 t1 : Nat} (bd : Body P f 41 [.tmp 8, .tmp 9, .tmp 10] (ac_verdict_Heal fC fD fS t0 t1)) (hC : S_Ask21 P fC) (hD : S_Decode P fD) (hS : S_Silence P fS) : S_Heal P f := by
  intro c x n t b ht hI hb
  refine VC.of_walk 1 (by simp [isDL, isD_bs, isDL_ks, isD, shA]) (isD_heaA _ _ _ _ _) (ACall.of_body bd (by simp) ?_)
  have hC' := hC c x n
  have hD' := hD c x n t b ht hI hb
  have hS' := hS c x n
  have hk : (ks .i32 t).length = 16 := by simp [ks_length, ht]
  have tt : (ks .i32 t).take 16 = ks .i32 t := take_all (by omega)
  have ot := ks_one .i32 t
  rw [shA] at hC' hD' hS'
  rw [(dec_eq c x n t b).1] at hD'
  unfold heaA
  unfold silA at hS'
  simp only [bs] at hD' ⊢
  by_cases h1 : ask21 c x n = 0
  case neg =>
    rw [if_pos h1]
    rw [ask_two h1] at hC'
    simp (maxSteps := 4000000) (disch := omega) only [step, stepv, ev, wl, wn, wp, wz, aop, cV, cV1, AV.one, partCells, okW, onlyFr, app, sliceCells, cellsAt, srcA, subA, eqFs, Int.cast_ofNat_Int, simprocAttr, ac_verdict_Heal, shA, hk, tt, ot]
    refine callQ.vc hC' ?_
    simp (maxSteps := 4000000) (disch := omega) only [step, stepv, ev, wl, wn, wp, wz, aop, cV, cV1, AV.one, partCells, okW, onlyFr, app, sliceCells, cellsAt, srcA, subA, eqFs, Int.cast_ofNat_Int, simprocAttr]
    simp [frzN, frzK, frzL, frzV]
  rw [if_neg (by omega)] at hS' ⊢
  rw [h1] at hC'
  by_cases h2 : errD c x t n b = 0
  · rw [if_pos h2]
    rw [h2] at hD'
    have tl : isTL (ks .i32 (decL c x t n b)) = true := isTL_ks _ _
    generalize decL c x t n b = m at *
    simp only [il] at hD' ⊢
    simp (maxSteps := 4000000) (disch := omega) only [step, stepv, ev, wl, wn, wp, wz, aop, cV, cV1, AV.one, partCells, okW, onlyFr, app, sliceCells, cellsAt, srcA, subA, eqFs, Int.cast_ofNat_Int, simprocAttr, ac_verdict_Heal, shA, hk, tt, ot]
    refine callQ.vc hC' ?_
    simp (maxSteps := 4000000) (disch := omega) only [step, stepv, ev, wl, wn, wp, wz, aop, cV, cV1, AV.one, partCells, okW, onlyFr, app, sliceCells, cellsAt, srcA, subA, eqFs, Int.cast_ofNat_Int, simprocAttr, hk, tt, ot]
    refine callQ.vc hD' ?_
    simp (maxSteps := 4000000) (disch := omega) only [step, stepv, ev, wl, wn, wp, wz, aop, cV, cV1, AV.one, partCells, okW, onlyFr, app, sliceCells, cellsAt, srcA, subA, eqFs, Int.cast_ofNat_Int, simprocAttr]
    simp [frzN, frzK, frzL, frzV, frzL_T _ tl]
  · rw [if_neg h2]
    have tl : isTL (ks .i32 (silL c n)) = true := isTL_ks _ _
    generalize decL c x t n b = m at *
    generalize errD c x t n b = e at *
    generalize silL c n = sl at *
    simp only [il] at hD' hS' ⊢
    simp (maxSteps := 4000000) (disch := omega) only [step, stepv, ev, wl, wn, wp, wz, aop, cV, cV1, AV.one, partCells, okW, onlyFr, app, sliceCells, cellsAt, srcA, subA, eqFs, Int.cast_ofNat_Int, simprocAttr, ac_verdict_Heal, shA, hk, tt, ot]
    refine callQ.vc hC' ?_
    simp (maxSteps := 4000000) (disch := omega) only [step, stepv, ev, wl, wn, wp, wz, aop, cV, cV1, AV.one, partCells, okW, onlyFr, app, sliceCells, cellsAt, srcA, subA, eqFs, Int.cast_ofNat_Int, simprocAttr, hk, tt, ot]
    refine callQ.vc hD' ?_
    simp (maxSteps := 4000000) (disch := omega) only [step, stepv, ev, wl, wn, wp, wz, aop, cV, cV1, AV.one, partCells, okW, onlyFr, app, sliceCells, cellsAt, srcA, subA, eqFs, Int.cast_ofNat_Int, simprocAttr]
    refine callQ.vc hS' ?_
    simp (maxSteps := 4000000) (disch := omega) only [step, stepv, ev, wl, wn, wp, wz, aop, cV, cV1, AV.one, partCells, okW, onlyFr, app, sliceCells, cellsAt, srcA, subA, eqFs, Int.cast_ofNat_Int, simprocAttr]
    simp [frzN, frzK, frzL, frzV, frzL_T _ tl]
end Go.Am

namespace Go.Am
open Go.RowKit

/-! ### Codes (plain) -/

theorem N32.take {v : List Nat} (h : N32 v) (i : Nat) : N32 (v.take i) := fun x hx => h x (List.mem_of_mem_take hx)
theorem N32.getD {v : List Nat} (h : N32 v) (i : Nat) : v.getD i 0 < 4294967296 := by
  rw [List.getD_eq_getElem?_getD]
  cases hx : v[i]? with
  | none => simp
  | some x => exact h x (List.mem_of_getElem? hx)
def sealB (p : List UInt8) : List UInt8 := p ++ leB (sumM p) 4
end Go.Am

namespace Go.Am
open Go.RowKit

/-! ### Chapter 21: the examples hold -/


def fr0 : List UInt8 := sealB [0, 0, 0]
theorem I32_z16 : I32 z16 := by
  intro v hv
  have := List.eq_of_mem_replicate hv
  omega
def S_alive21 (P : Prg) (f : Nat) : Prop := VC P f [] (.bool true)
end Go.Am

namespace Go.Am
open Go.RowKit

/-! ### law23: judged, alive, VerdictSays -/

def S_Judged (P : Prg) (f : Nat) : Prop := ∀ (n : Int) (b : List UInt8) (e g : Int), b.length ≤ 1000000 → judA 1 16 z16 n b = .tup [.agg [.int .i64 e, .int .i64 g], .int .i64 0] → VC P f [.int .i64 n, bs b, .int .i64 e, .int .i64 g] (.bool true)
theorem law23_judged {P : Prg} {f fJ t0 : Nat} (bd : Body P f 28 [.tmp 8] (ac_cadenzalaw23_judged fJ t0)) (hJ : S_Judge P fJ) : S_Judged P f := by
  intro n b e g hb h
  refine VC.of_acall (by simp [isDL, isD_bs, isD]) rfl (ACall.of_body bd (by simp) ?_)
  have hJ' := hJ 1 16 n z16 b rfl I32_z16 hb
  rw [h] at hJ'
  have hj : VC P fJ [.agg [.int .i64 1, .int .i64 16], .agg [.int .i32 0, .int .i32 0, .int .i32 0, .int .i32 0, .int .i32 0, .int .i32 0, .int .i32 0, .int .i32 0, .int .i32 0, .int .i32 0, .int .i32 0, .int .i32 0, .int .i32 0, .int .i32 0, .int .i32 0, .int .i32 0], .int .i64 n, .list b.length (u8 b)] (.tup [.agg [.int .i64 e, .int .i64 g], .int .i64 0]) := hJ'
  simp (maxSteps := 4000000) (disch := omega) only [step, stepv, ev, wl, wn, wp, wz, aop, cV, cV1, AV.one, partCells, okW, onlyFr, app, sliceCells, cellsAt, srcA, subA, eqFs, Int.cast_ofNat_Int, simprocAttr, ac_cadenzalaw23_judged, bs]
  refine callQ.vc hj ?_
  simp (maxSteps := 4000000) (disch := omega) only [step, stepv, ev, wl, wn, wp, wz, aop, cV, cV1, AV.one, partCells, okW, onlyFr, app, sliceCells, cellsAt, srcA, subA, eqFs, Int.cast_ofNat_Int, simprocAttr]

def fr1 : List UInt8 := [0, 0, 0, 18, 217, 65, 0]
theorem fr0_eq : fr0 = [0, 0, 0, 18, 217, 65, 255] := by decide +kernel
theorem jud_fr (n : Int) (b : List UInt8) (e g : Int) (h0 : ask21 1 16 n = 0) (h1 : errD 1 16 z16 n b = e) (h2 : judG 1 16 z16 n b = g) : judA 1 16 z16 n b = .tup [.agg [.int .i64 e, .int .i64 g], .int .i64 0] := by
  rw [judA, if_neg (by omega), h1, h2]
theorem law23_alive {P : Prg} {f fZ fJ t0 : Nat} (bd : Body P f 27 [.tmp 0] (ac_cadenzalaw23_alive fZ fJ t0)) (hZ : S_Sealed P fZ) (hJ : S_Judged P fJ) : S_alive21 P f := by
  refine VC.of_acall rfl rfl (ACall.of_body bd (by simp) ?_)
  have hZ' := hZ [0, 0, 0] (by decide)
  rw [show [0, 0, 0] ++ leB (sumM [0, 0, 0]) 4 = fr0 from rfl, fr0_eq] at hZ'
  have j1 := hJ 2 fr0 0 2 (by decide +kernel) (jud_fr _ _ _ _ (by decide +kernel) (by decide +kernel) (by decide +kernel))
  have j2 := hJ 3 fr0 24 2 (by decide +kernel) (jud_fr _ _ _ _ (by decide +kernel) (by decide +kernel) (by decide +kernel))
  have j3 := hJ 1 fr0 12 1 (by decide +kernel) (jud_fr _ _ _ _ (by decide +kernel) (by decide +kernel) (by decide +kernel))
  have j4 := hJ 2 fr1 22 0 (by decide +kernel) (jud_fr _ _ _ _ (by decide +kernel) (by decide +kernel) (by decide +kernel))
  rw [fr0_eq] at j1 j2 j3
  have hz : VC P fZ [.list 3 [.int .u8 0, .int .u8 0, .int .u8 0]] (.list 7 [.int .u8 0, .int .u8 0, .int .u8 0, .int .u8 18, .int .u8 217, .int .u8 65, .int .u8 255]) := hZ'
  have k1 : VC P fJ [.int .i64 2, .list 7 [.int .u8 0, .int .u8 0, .int .u8 0, .int .u8 18, .int .u8 217, .int .u8 65, .int .u8 255], .int .i64 0, .int .i64 2] (.bool true) := j1
  have k2 : VC P fJ [.int .i64 3, .list 7 [.int .u8 0, .int .u8 0, .int .u8 0, .int .u8 18, .int .u8 217, .int .u8 65, .int .u8 255], .int .i64 24, .int .i64 2] (.bool true) := j2
  have k3 : VC P fJ [.int .i64 1, .list 7 [.int .u8 0, .int .u8 0, .int .u8 0, .int .u8 18, .int .u8 217, .int .u8 65, .int .u8 255], .int .i64 12, .int .i64 1] (.bool true) := j3
  have k4 : VC P fJ [.int .i64 2, .list 7 [.int .u8 0, .int .u8 0, .int .u8 0, .int .u8 18, .int .u8 217, .int .u8 65, .int .u8 0], .int .i64 22, .int .i64 0] (.bool true) := j4
  have wr : IntKind.u8.wrap 256 = 0 := by decide
  clear hZ hJ hZ' j1 j2 j3 j4
  simp (maxSteps := 4000000) (disch := omega) only [step, stepv, ev, wl, wn, wp, wz, aop, cV, cV1, AV.one, partCells, okW, onlyFr, app, sliceCells, cellsAt, srcA, subA, eqFs, Int.cast_ofNat_Int, simprocAttr, ac_cadenzalaw23_alive]
  refine callQ.still 1 [0] hz (by simp [frzN, frzK, frzL, frzV]) ?_
  simp (maxSteps := 4000000) (disch := omega) only [step, stepv, ev, wl, wn, wp, wz, aop, cV, cV1, AV.one, partCells, okW, onlyFr, app, sliceCells, cellsAt, srcA, subA, eqFs, Int.cast_ofNat_Int, simprocAttr, stillAt]
  refine callQ.vc k1 ?_
  simp (maxSteps := 4000000) (disch := omega) only [step, stepv, ev, wl, wn, wp, wz, aop, cV, cV1, AV.one, partCells, okW, onlyFr, app, sliceCells, cellsAt, srcA, subA, eqFs, Int.cast_ofNat_Int, simprocAttr]
  refine callQ.vc k2 ?_
  simp (maxSteps := 4000000) (disch := omega) only [step, stepv, ev, wl, wn, wp, wz, aop, cV, cV1, AV.one, partCells, okW, onlyFr, app, sliceCells, cellsAt, srcA, subA, eqFs, Int.cast_ofNat_Int, simprocAttr]
  refine callQ.vc k3 ?_
  simp (maxSteps := 4000000) (disch := omega) only [step, stepv, ev, wl, wn, wp, wz, aop, cV, cV1, AV.one, partCells, okW, onlyFr, app, sliceCells, cellsAt, srcA, subA, eqFs, Int.cast_ofNat_Int, simprocAttr]
  refine callQ.still 1 [1] k4 (by simp [frzN, frzK, frzL, frzV, wr]) ?_
  simp (maxSteps := 4000000) (disch := omega) only [step, stepv, ev, wl, wn, wp, wz, aop, cV, cV1, AV.one, partCells, okW, onlyFr, app, sliceCells, cellsAt, srcA, subA, eqFs, Int.cast_ofNat_Int, simprocAttr, stillAt]

/-! What a verdict says (plain). -/
end Go.Am

namespace Go.Am
open Go.RowKit

/-! ### Bits that are flipped (plain) -/

theorem errD_open {c x n : Int} {t : List Int} {b : List UInt8} (h : ask21 c x n = 0) (ho : openM b ≠ 0) : errD c x t n b = (openM b : Nat) := by
  unfold errD
  rw [if_neg (by omega), if_pos ho]
end Go.Am

namespace Go.Am
open Go.RowKit

/-! ### Names: what is said of some frames -/

def emL : List AV → List AV
  | [] => []
  | .emp _ :: l => .list 0 [] :: emL l
  | a :: l => a :: emL l
theorem RepL_emL {X : Cx} : ∀ (l : List AV) (vs : List Value), RepL X l vs → RepL X (emL l) vs
  | [], _, h => h
  | a :: l, vs, h => by
    simp only [RepL] at h
    obtain ⟨v, rest, e, g1, g2⟩ := h
    have h2 := RepL_emL l rest g2
    cases a with
    | emp z =>
      simp only [emL, RepL]
      refine ⟨v, rest, e, ?_, h2⟩
      simp only [Rep] at g1 ⊢
      obtain ⟨a, e, _⟩ := g1
      exact ⟨a, 0, [], e, Nat.le_refl _, .inl rfl, by simp [RepL]⟩
    | _ => simp only [emL, RepL]; exact ⟨v, rest, e, g1, h2⟩
theorem rep_u8s : ∀ n : Nat, repCells [.int .u8 0] n = u8 (List.replicate n 0)
  | 0 => rfl
  | n + 1 => by rw [repCells, rep_u8s n]; simp [u8, List.replicate_succ]
theorem VC.emp {P : Prg} {f : FuncId} (avs : List AV) {r : AV} (h : VC P f (emL avs) r) (hd : isDL avs = true) : VC P f avs r :=
  ⟨h.1, hd, h.2.2.1, fun w C vs hC hG hr => h.2.2.2 w C vs hC hG (RepL_emL _ _ hr)⟩

def z16L : List AV := [.int .i32 0, .int .i32 0, .int .i32 0, .int .i32 0, .int .i32 0, .int .i32 0, .int .i32 0, .int .i32 0, .int .i32 0, .int .i32 0, .int .i32 0, .int .i32 0, .int .i32 0, .int .i32 0, .int .i32 0, .int .i32 0]
theorem judge_nil {P : Prg} {f : Nat} (hJ : S_Judge P f) {c x n : Int} (h : ask21 c x n ≠ 0) : VC P f [.agg [.int .i64 c, .int .i64 x], .agg z16L, .int .i64 n, .emp true] (.tup [.agg [.int .i64 0, .int .i64 0], .int .i64 2]) := by
  have := hJ c x n z16 [] rfl I32_z16 (by decide)
  rw [judA, if_pos h] at this
  exact VC.emp _ this rfl
theorem heal_nil {P : Prg} {f : Nat} (hH : S_Heal P f) {c x n : Int} (h : ask21 c x n ≠ 0) : VC P f [.agg [.int .i64 c, .int .i64 x], .agg z16L, .int .i64 n, .emp true] (.tup [.list 0 [], .bool false, .int .i64 2]) := by
  have := hH c x n z16 [] rfl I32_z16 (by decide)
  rw [heaA, if_pos h] at this
  exact VC.emp _ this rfl
theorem sil_nil {P : Prg} {f : Nat} (hS : S_Silence P f) {c x n : Int} (h : ask21 c x n ≠ 0) : VC P f [.agg [.int .i64 c, .int .i64 x], .int .i64 n] (.tup [.list 0 [], .int .i64 2]) := by
  have := hS c x n
  rw [silA, if_pos h] at this
  exact this

set_option maxHeartbeats 2000000 in
set_option maxRecDepth 20000 in
theorem law23_VerdictNames {P : Prg} {f fJ fS fH fZ fA fD fI t0 t1 t2 t3 t4 t5 : Nat} (bd : Body P f 171 [.tmp 0] (ac_cadenzalaw23_VerdictNames fJ fS fH fZ fA fD fI t0 t1 t2 t3 t4 t5)) (hJ : S_Judge P fJ) (hS : S_Silence P fS) (hH : S_Heal P fH) (hZ : S_Sealed P fZ) (hA : S_alive21 P fA) (hD : S_Judged P fD) (hI0 : S_ISame P fI) : S_alive21 P f := by
  refine VC.of_acall rfl rfl (ACall.of_body bd (by simp) ?_)
  have J0 := judge_nil hJ (c := 0) (x := 0) (n := 1) (by decide +kernel)
  have J1 := judge_nil hJ (c := 7) (x := 8) (n := 1) (by decide +kernel)
  have J2 := judge_nil hJ (c := 1) (x := 9) (n := 1) (by decide +kernel)
  have J3 := judge_nil hJ (c := 2) (x := 8) (n := 0) (by decide +kernel)
  have J4 := judge_nil hJ (c := 2) (x := 8) (n := 2001) (by decide +kernel)
  have J5 := judge_nil hJ (c := 1) (x := 8) (n := -1) (by decide +kernel)
  have H0 := heal_nil hH (c := 0) (x := 0) (n := 1) (by decide +kernel)
  have H1 := heal_nil hH (c := 7) (x := 8) (n := 1) (by decide +kernel)
  have H2 := heal_nil hH (c := 1) (x := 9) (n := 1) (by decide +kernel)
  have H3 := heal_nil hH (c := 2) (x := 8) (n := 0) (by decide +kernel)
  have H4 := heal_nil hH (c := 2) (x := 8) (n := 2001) (by decide +kernel)
  have H5 := heal_nil hH (c := 1) (x := 8) (n := -1) (by decide +kernel)
  have S0 := sil_nil hS (c := 0) (x := 0) (n := 1) (by decide +kernel)
  have S1 := sil_nil hS (c := 7) (x := 8) (n := 1) (by decide +kernel)
  have S2 := sil_nil hS (c := 1) (x := 9) (n := 1) (by decide +kernel)
  have S3 := sil_nil hS (c := 2) (x := 8) (n := 0) (by decide +kernel)
  have S4 := sil_nil hS (c := 2) (x := 8) (n := 2001) (by decide +kernel)
  have S5 := sil_nil hS (c := 1) (x := 8) (n := -1) (by decide +kernel)
  have hZ1 := hZ [0, 2] (by decide)
  have hZ2 := hZ [0, 0, 16] (by decide)
  have hZ3 := hZ [0] (by decide)
  rw [← sealB] at hZ1 hZ2 hZ3
  have L1 : (sealB [0, 2]).length = 6 := by decide +kernel
  have L2 : (sealB [0, 0, 16]).length = 7 := by decide +kernel
  have L3 : (sealB [0]).length = 5 := by decide +kernel
  have hJ1 := hJ 1 8 1 z16 (sealB [0, 2]) rfl I32_z16 (by rw [L1]; decide)
  have hJ2 := hJ 1 8 2 z16 (sealB [0, 0, 16]) rfl I32_z16 (by rw [L2]; decide)
  rw [judA, if_neg (by decide +kernel), show errD 1 8 z16 1 (sealB [0, 2]) = 16 by decide +kernel, show judG 1 8 z16 1 (sealB [0, 2]) = 0 by decide +kernel] at hJ1
  rw [judA, if_neg (by decide +kernel), show errD 1 8 z16 2 (sealB [0, 0, 16]) = 16 by decide +kernel, show judG 1 8 z16 2 (sealB [0, 0, 16]) = 1 by decide +kernel] at hJ2
  have hD3 := hD 1 (sealB [0]) 24 0 (by rw [L3]; decide) (jud_fr _ _ _ _ (by decide +kernel) (by decide +kernel) (by decide +kernel))
  have hD9 := hD 1 (List.replicate 9 0) 22 0 (by decide) (jud_fr _ _ _ _ (by decide +kernel) (by decide +kernel) (by decide +kernel))
  have o4 : openM (List.replicate 41255 0) = 4 := by rw [openM, List.length_replicate, if_neg (by decide), if_pos (by decide)]
  have a0 : ask21 1 16 1 = 0 := by decide +kernel
  have e4 : errD 1 16 z16 1 (List.replicate 41255 0) = 4 := by rw [errD_open a0 (by omega), o4]; rfl
  have hDg := hD 1 (List.replicate 41255 0) 4 0 (by rw [List.length_replicate]; decide) (jud_fr _ _ _ _ a0 e4 (by rw [judG, if_neg (by omega), if_neg (by omega)]))
  have hDn := hD 1 [] 24 0 (by decide) (jud_fr _ _ _ _ a0 (by decide +kernel) (by decide +kernel))
  have hH' := hH 1 8 3 z16 [] rfl I32_z16 (by decide)
  rw [heaA, if_neg (by decide +kernel), if_neg (by decide +kernel)] at hH'
  have hS' := hS 6 24 666
  rw [silA, if_neg (by decide +kernel)] at hS'
  have hI3 := hI0 [0, 0, 0] (by decide)
  simp only [bs, L1, L2, L3, List.length_replicate] at hZ1 hZ2 hZ3 hJ1 hJ2 hD3 hDg
  have er1 : repCells [.int .u8 0] 41255 = u8 (List.replicate 41255 0) := rep_u8s 41255
  have er2 : repCells [.int .u8 0] (Int.toNat 41255) = u8 (List.replicate 41255 0) := er1
  have tg : isTL (u8 (List.replicate 41255 0)) = true := isT_u8 _
  have hgl : (u8 (List.replicate 41255 0)).length = 41255 := by rw [u8_length, List.length_replicate]
  generalize u8 (List.replicate 41255 0) = G at *
  have hsl : silL 6 666 = List.replicate 3996 0 := rfl
  rw [hsl] at hS'
  simp only [il, List.length_replicate] at hS'
  generalize ks .i32 (List.replicate 3996 0) = Y at *
  generalize u8 (sealB [0, 2]) = U1 at *
  generalize u8 (sealB [0, 0, 16]) = U2 at *
  generalize u8 (sealB [0]) = U3 at *
  have hz1 : VC P fZ [.list 2 [.int .u8 0, .int .u8 2]] (.list 6 U1) := hZ1
  have hz2 : VC P fZ [.list 3 [.int .u8 0, .int .u8 0, .int .u8 16]] (.list 7 U2) := hZ2
  have hz3 : VC P fZ [.list 1 [.int .u8 0]] (.list 5 U3) := hZ3
  have hj1 : VC P fJ [.agg [.int .i64 1, .int .i64 8], .agg z16L, .int .i64 1, .list 6 U1] (.tup [.agg [.int .i64 16, .int .i64 0], .int .i64 0]) := hJ1
  have hj2 : VC P fJ [.agg [.int .i64 1, .int .i64 8], .agg z16L, .int .i64 2, .list 7 U2] (.tup [.agg [.int .i64 16, .int .i64 1], .int .i64 0]) := hJ2
  have hh : VC P fH [.agg [.int .i64 1, .int .i64 8], .agg z16L, .int .i64 3, .emp true] (.tup [.list 3 [.int .i32 0, .int .i32 0, .int .i32 0], .bool false, .int .i64 0]) := VC.emp _ hH' rfl
  have hs : VC P fS [.agg [.int .i64 6, .int .i64 24], .int .i64 666] (.tup [.list 3996 Y, .int .i64 0]) := hS'
  have hA' : VC P fA [] (.bool true) := hA
  have hd1 : VC P fD [.int .i64 1, .emp true, .int .i64 24, .int .i64 0] (.bool true) := VC.emp _ hDn rfl
  have hdg : VC P fD [.int .i64 1, .list 41255 G, .int .i64 4, .int .i64 0] (.bool true) := hDg
  have hd9 : VC P fD [.int .i64 1, .list 9 [.int .u8 0, .int .u8 0, .int .u8 0, .int .u8 0, .int .u8 0, .int .u8 0, .int .u8 0, .int .u8 0, .int .u8 0], .int .i64 22, .int .i64 0] (.bool true) := hD9
  have hd3 : VC P fD [.int .i64 1, .list 5 U3, .int .i64 24, .int .i64 0] (.bool true) := hD3
  have hsm : VC P fI [.list 3 [.int .i32 0, .int .i32 0, .int .i32 0], .list 3 [.int .i32 0, .int .i32 0, .int .i32 0]] (.bool true) := hI3
  clear hZ1 hZ2 hZ3 hJ1 hJ2 hH' hS' hA hDn hDg hD9 hD3 hI3 hJ hS hH hZ hD hI0
  simp only [z16L] at hj1 hj2 hh
  simp only [z16L] at J0 J1 J2 J3 J4 J5 H0 H1 H2 H3 H4 H5
  simp (maxSteps := 4000000) (disch := omega) only [step, stepv, ev, wl, wn, wp, wz, aop, cV, cV1, AV.one, partCells, okW, onlyFr, app, sliceCells, cellsAt, srcA, subA, eqFs, Int.cast_ofNat_Int, simprocAttr, ac_cadenzalaw23_VerdictNames]
  refine ALoop.by (ι := Nat) (fun i => ⟨[(4, .int .i64 i), (3, .own 2 6), (2, .own 1 6), (1, .ref 0 1 0)], [⟨t0, 16, 1, z16L, 0⟩, ⟨t1, 2, 6, [.int .i64 0, .int .i64 0, .int .i64 7, .int .i64 8, .int .i64 1, .int .i64 9, .int .i64 2, .int .i64 8, .int .i64 2, .int .i64 8, .int .i64 1, .int .i64 8], 0⟩, ⟨t2, 1, 6, [.int .i64 1, .int .i64 1, .int .i64 1, .int .i64 0, .int .i64 2001, .int .i64 (-1)], 0⟩]⟩) (fun i => i ≤ 6) (fun i => 6 - i) 0 ?_ (by omega) ?_
  · exact Le.slots (by simp [Am.look])
  intro i hi
  have hc : i = 0 ∨ i = 1 ∨ i = 2 ∨ i = 3 ∨ i = 4 ∨ i = 5 ∨ i = 6 := by omega
  rcases hc with rfl | rfl | rfl | rfl | rfl | rfl | rfl
  · simp (maxSteps := 4000000) (disch := omega) only [step, stepv, ev, wl, wn, wp, wz, aop, cV, cV1, AV.one, partCells, okW, onlyFr, app, sliceCells, cellsAt, srcA, subA, eqFs, Int.cast_ofNat_Int, simprocAttr, z16L]
    refine callD.vc J0 ?_
    simp (maxSteps := 4000000) (disch := omega) only [step, stepv, ev, wl, wn, wp, wz, aop, cV, cV1, AV.one, partCells, okW, onlyFr, app, sliceCells, cellsAt, srcA, subA, eqFs, Int.cast_ofNat_Int, simprocAttr]
    refine callD.vc S0 ?_
    simp (maxSteps := 4000000) (disch := omega) only [step, stepv, ev, wl, wn, wp, wz, aop, cV, cV1, AV.one, partCells, okW, onlyFr, app, sliceCells, cellsAt, srcA, subA, eqFs, Int.cast_ofNat_Int, simprocAttr]
    refine callD.vc H0 ?_
    simp (maxSteps := 4000000) (disch := omega) only [step, stepv, ev, wl, wn, wp, wz, aop, cV, cV1, AV.one, partCells, okW, onlyFr, app, sliceCells, cellsAt, srcA, subA, eqFs, Int.cast_ofNat_Int, simprocAttr]
    refine ⟨1, by omega, by omega, Le.dropT [_, _, _] (by simp [z16L, isTL, isT]) (by simp [Am.look, frzK, frzL, frzV])⟩
  · simp (maxSteps := 4000000) (disch := omega) only [step, stepv, ev, wl, wn, wp, wz, aop, cV, cV1, AV.one, partCells, okW, onlyFr, app, sliceCells, cellsAt, srcA, subA, eqFs, Int.cast_ofNat_Int, simprocAttr, z16L]
    refine callD.vc J1 ?_
    simp (maxSteps := 4000000) (disch := omega) only [step, stepv, ev, wl, wn, wp, wz, aop, cV, cV1, AV.one, partCells, okW, onlyFr, app, sliceCells, cellsAt, srcA, subA, eqFs, Int.cast_ofNat_Int, simprocAttr]
    refine callD.vc S1 ?_
    simp (maxSteps := 4000000) (disch := omega) only [step, stepv, ev, wl, wn, wp, wz, aop, cV, cV1, AV.one, partCells, okW, onlyFr, app, sliceCells, cellsAt, srcA, subA, eqFs, Int.cast_ofNat_Int, simprocAttr]
    refine callD.vc H1 ?_
    simp (maxSteps := 4000000) (disch := omega) only [step, stepv, ev, wl, wn, wp, wz, aop, cV, cV1, AV.one, partCells, okW, onlyFr, app, sliceCells, cellsAt, srcA, subA, eqFs, Int.cast_ofNat_Int, simprocAttr]
    refine ⟨2, by omega, by omega, Le.dropT [_, _, _] (by simp [z16L, isTL, isT]) (by simp [Am.look, frzK, frzL, frzV])⟩
  · simp (maxSteps := 4000000) (disch := omega) only [step, stepv, ev, wl, wn, wp, wz, aop, cV, cV1, AV.one, partCells, okW, onlyFr, app, sliceCells, cellsAt, srcA, subA, eqFs, Int.cast_ofNat_Int, simprocAttr, z16L]
    refine callD.vc J2 ?_
    simp (maxSteps := 4000000) (disch := omega) only [step, stepv, ev, wl, wn, wp, wz, aop, cV, cV1, AV.one, partCells, okW, onlyFr, app, sliceCells, cellsAt, srcA, subA, eqFs, Int.cast_ofNat_Int, simprocAttr]
    refine callD.vc S2 ?_
    simp (maxSteps := 4000000) (disch := omega) only [step, stepv, ev, wl, wn, wp, wz, aop, cV, cV1, AV.one, partCells, okW, onlyFr, app, sliceCells, cellsAt, srcA, subA, eqFs, Int.cast_ofNat_Int, simprocAttr]
    refine callD.vc H2 ?_
    simp (maxSteps := 4000000) (disch := omega) only [step, stepv, ev, wl, wn, wp, wz, aop, cV, cV1, AV.one, partCells, okW, onlyFr, app, sliceCells, cellsAt, srcA, subA, eqFs, Int.cast_ofNat_Int, simprocAttr]
    refine ⟨3, by omega, by omega, Le.dropT [_, _, _] (by simp [z16L, isTL, isT]) (by simp [Am.look, frzK, frzL, frzV])⟩
  · simp (maxSteps := 4000000) (disch := omega) only [step, stepv, ev, wl, wn, wp, wz, aop, cV, cV1, AV.one, partCells, okW, onlyFr, app, sliceCells, cellsAt, srcA, subA, eqFs, Int.cast_ofNat_Int, simprocAttr, z16L]
    refine callD.vc J3 ?_
    simp (maxSteps := 4000000) (disch := omega) only [step, stepv, ev, wl, wn, wp, wz, aop, cV, cV1, AV.one, partCells, okW, onlyFr, app, sliceCells, cellsAt, srcA, subA, eqFs, Int.cast_ofNat_Int, simprocAttr]
    refine callD.vc S3 ?_
    simp (maxSteps := 4000000) (disch := omega) only [step, stepv, ev, wl, wn, wp, wz, aop, cV, cV1, AV.one, partCells, okW, onlyFr, app, sliceCells, cellsAt, srcA, subA, eqFs, Int.cast_ofNat_Int, simprocAttr]
    refine callD.vc H3 ?_
    simp (maxSteps := 4000000) (disch := omega) only [step, stepv, ev, wl, wn, wp, wz, aop, cV, cV1, AV.one, partCells, okW, onlyFr, app, sliceCells, cellsAt, srcA, subA, eqFs, Int.cast_ofNat_Int, simprocAttr]
    refine ⟨4, by omega, by omega, Le.dropT [_, _, _] (by simp [z16L, isTL, isT]) (by simp [Am.look, frzK, frzL, frzV])⟩
  · simp (maxSteps := 4000000) (disch := omega) only [step, stepv, ev, wl, wn, wp, wz, aop, cV, cV1, AV.one, partCells, okW, onlyFr, app, sliceCells, cellsAt, srcA, subA, eqFs, Int.cast_ofNat_Int, simprocAttr, z16L]
    refine callD.vc J4 ?_
    simp (maxSteps := 4000000) (disch := omega) only [step, stepv, ev, wl, wn, wp, wz, aop, cV, cV1, AV.one, partCells, okW, onlyFr, app, sliceCells, cellsAt, srcA, subA, eqFs, Int.cast_ofNat_Int, simprocAttr]
    refine callD.vc S4 ?_
    simp (maxSteps := 4000000) (disch := omega) only [step, stepv, ev, wl, wn, wp, wz, aop, cV, cV1, AV.one, partCells, okW, onlyFr, app, sliceCells, cellsAt, srcA, subA, eqFs, Int.cast_ofNat_Int, simprocAttr]
    refine callD.vc H4 ?_
    simp (maxSteps := 4000000) (disch := omega) only [step, stepv, ev, wl, wn, wp, wz, aop, cV, cV1, AV.one, partCells, okW, onlyFr, app, sliceCells, cellsAt, srcA, subA, eqFs, Int.cast_ofNat_Int, simprocAttr]
    refine ⟨5, by omega, by omega, Le.dropT [_, _, _] (by simp [z16L, isTL, isT]) (by simp [Am.look, frzK, frzL, frzV])⟩
  · simp (maxSteps := 4000000) (disch := omega) only [step, stepv, ev, wl, wn, wp, wz, aop, cV, cV1, AV.one, partCells, okW, onlyFr, app, sliceCells, cellsAt, srcA, subA, eqFs, Int.cast_ofNat_Int, simprocAttr, z16L]
    refine callD.vc J5 ?_
    simp (maxSteps := 4000000) (disch := omega) only [step, stepv, ev, wl, wn, wp, wz, aop, cV, cV1, AV.one, partCells, okW, onlyFr, app, sliceCells, cellsAt, srcA, subA, eqFs, Int.cast_ofNat_Int, simprocAttr]
    refine callD.vc S5 ?_
    simp (maxSteps := 4000000) (disch := omega) only [step, stepv, ev, wl, wn, wp, wz, aop, cV, cV1, AV.one, partCells, okW, onlyFr, app, sliceCells, cellsAt, srcA, subA, eqFs, Int.cast_ofNat_Int, simprocAttr]
    refine callD.vc H5 ?_
    simp (maxSteps := 4000000) (disch := omega) only [step, stepv, ev, wl, wn, wp, wz, aop, cV, cV1, AV.one, partCells, okW, onlyFr, app, sliceCells, cellsAt, srcA, subA, eqFs, Int.cast_ofNat_Int, simprocAttr]
    refine ⟨6, by omega, by omega, Le.dropT [_, _, _] (by simp [z16L, isTL, isT]) (by simp [Am.look, frzK, frzL, frzV])⟩
  · clear J0 J1 J2 J3 J4 J5 H0 H1 H2 H3 H4 H5 S0 S1 S2 S3 S4 S5
    simp (maxSteps := 4000000) (disch := omega) only [step, stepv, ev, wl, wn, wp, wz, aop, cV, cV1, AV.one, partCells, okW, onlyFr, app, sliceCells, cellsAt, srcA, subA, eqFs, Int.cast_ofNat_Int, simprocAttr, z16L, isDL, isD]
    refine callD.vc hz1 ?_
    simp (maxSteps := 4000000) (disch := omega) only [step, stepv, ev, wl, wn, wp, wz, aop, cV, cV1, AV.one, partCells, okW, onlyFr, app, sliceCells, cellsAt, srcA, subA, eqFs, Int.cast_ofNat_Int, simprocAttr, z16L, isDL, isD]
    refine callD.vc hj1 ?_
    simp (maxSteps := 4000000) (disch := omega) only [step, stepv, ev, wl, wn, wp, wz, aop, cV, cV1, AV.one, partCells, okW, onlyFr, app, sliceCells, cellsAt, srcA, subA, eqFs, Int.cast_ofNat_Int, simprocAttr, z16L, isDL, isD]
    refine callD.vc hz2 ?_
    simp (maxSteps := 4000000) (disch := omega) only [step, stepv, ev, wl, wn, wp, wz, aop, cV, cV1, AV.one, partCells, okW, onlyFr, app, sliceCells, cellsAt, srcA, subA, eqFs, Int.cast_ofNat_Int, simprocAttr, z16L]
    refine callD.vc hj2 ?_
    simp (maxSteps := 4000000) (disch := omega) only [step, stepv, ev, wl, wn, wp, wz, aop, cV, cV1, AV.one, partCells, okW, onlyFr, app, sliceCells, cellsAt, srcA, subA, eqFs, Int.cast_ofNat_Int, simprocAttr, z16L]
    refine callQ.vc hh ?_
    simp (maxSteps := 4000000) (disch := omega) only [step, stepv, ev, wl, wn, wp, wz, aop, cV, cV1, AV.one, partCells, okW, onlyFr, app, sliceCells, cellsAt, srcA, subA, eqFs, Int.cast_ofNat_Int, simprocAttr, z16L]
    refine callQ.vc hs ?_
    simp (maxSteps := 4000000) (disch := omega) only [step, stepv, ev, wl, wn, wp, wz, aop, cV, cV1, AV.one, partCells, okW, onlyFr, app, sliceCells, cellsAt, srcA, subA, eqFs, Int.cast_ofNat_Int, simprocAttr, z16L]
    refine callQ.vc hA' ?_
    simp (maxSteps := 4000000) (disch := omega) only [step, stepv, ev, wl, wn, wp, wz, aop, cV, cV1, AV.one, partCells, okW, onlyFr, app, sliceCells, cellsAt, srcA, subA, eqFs, Int.cast_ofNat_Int, simprocAttr]
    refine callQ.vc hd1 ?_
    simp (maxSteps := 4000000) (disch := omega) only [step, stepv, ev, wl, wn, wp, wz, aop, cV, cV1, AV.one, partCells, okW, onlyFr, app, sliceCells, cellsAt, srcA, subA, eqFs, Int.cast_ofNat_Int, simprocAttr, ↓er1, ↓er2]
    refine callQ.still 1 [8] hdg (by simp [frzN, frzK, frzL, frzV, frzL_T _ tg]) ?_
    simp (maxSteps := 4000000) (disch := omega) only [step, stepv, ev, wl, wn, wp, wz, aop, cV, cV1, AV.one, partCells, okW, onlyFr, app, sliceCells, cellsAt, srcA, subA, eqFs, Int.cast_ofNat_Int, simprocAttr, stillAt]
    refine callQ.still 1 [9] hd9 (by simp [frzN, frzK, frzL, frzV]) ?_
    simp (maxSteps := 4000000) (disch := omega) only [step, stepv, ev, wl, wn, wp, wz, aop, cV, cV1, AV.one, partCells, okW, onlyFr, app, sliceCells, cellsAt, srcA, subA, eqFs, Int.cast_ofNat_Int, simprocAttr, stillAt]
    refine callQ.still 1 [10] hz3 (by simp [frzN, frzK, frzL, frzV]) ?_
    simp (maxSteps := 4000000) (disch := omega) only [step, stepv, ev, wl, wn, wp, wz, aop, cV, cV1, AV.one, partCells, okW, onlyFr, app, sliceCells, cellsAt, srcA, subA, eqFs, Int.cast_ofNat_Int, simprocAttr, stillAt]
    refine callQ.vc hd3 ?_
    simp (maxSteps := 4000000) (disch := omega) only [step, stepv, ev, wl, wn, wp, wz, aop, cV, cV1, AV.one, partCells, okW, onlyFr, app, sliceCells, cellsAt, srcA, subA, eqFs, Int.cast_ofNat_Int, simprocAttr, stillAt]
    refine callQ.still 1 [11] hsm (by simp [frzN, frzK, frzL, frzV]) ?_
    simp (maxSteps := 4000000) (disch := omega) only [step, stepv, ev, wl, wn, wp, wz, aop, cV, cV1, AV.one, partCells, okW, onlyFr, app, sliceCells, cellsAt, srcA, subA, eqFs, Int.cast_ofNat_Int, simprocAttr, stillAt]

end Go.Am

namespace Go.Am
open Go.RowKit

theorem flatten_one {α : Type} (f : α → AV) : ∀ l : List α, (l.map fun x => [f x]).flatten = l.map f
  | [] => rfl
  | x :: l => by simp [flatten_one f l]

theorem fits_u8s {L : List (List AV)} (h : ∀ c ∈ L, Fits (.int .u8) c) : ∃ l : List UInt8, L.length = l.length ∧ AV.list L.length L.flatten = bs l := by
  obtain ⟨l, rfl, _⟩ := map_of_all (f := fun b : UInt8 => [AV.int .u8 b.toNat]) (q := fun _ => True) h (fun c hc => by
    simp only [Fits] at hc
    obtain ⟨n, rfl, h1, h2⟩ := hc
    simp only [IntKind.min, IntKind.max, IntKind.signed, IntKind.bits] at h1 h2
    refine ⟨UInt8.ofNat n.toNat, ?_, trivial⟩
    simp at h1 h2
    simp; omega)
  exact ⟨l, by simp, by simp [bs, u8, flatten_one]⟩

theorem fits_ints {K : IntKind} {L : List (List AV)} (h : ∀ c ∈ L, Fits (.int K) c) : ∃ l : List Int, L.length = l.length ∧ AV.list L.length L.flatten = .list l.length (ks K l) ∧ ∀ x ∈ l, K.min ≤ x ∧ x ≤ K.max := by
  obtain ⟨l, rfl, h2⟩ := map_of_all (f := fun n : Int => [AV.int K n]) (q := fun x => K.min ≤ x ∧ x ≤ K.max) h (fun c hc => by
    simp only [Fits] at hc
    obtain ⟨n, rfl, h1, h2⟩ := hc
    exact ⟨n, rfl, h1, h2⟩)
  exact ⟨l, by simp, by simp [ks, flatten_one], h2⟩

def isStr (P : Program) (t : TypeId) : Bool := match P.underlying t with | some (.struct _) => true | _ => false
def isArr (P : Program) (t : TypeId) : Bool := match P.underlying t with | some (.array _ _) => true | _ => false
def isSl (P : Program) (t : TypeId) : Bool := match P.underlying t with | some (.slice _) => true | _ => false
theorem isStr_eq {P : Program} {t : TypeId} (h : isStr P t = true) : ∃ fs, P.underlying t = some (.struct fs) := by
  unfold isStr at h; split at h
  · exact ⟨_, by assumption⟩
  · cases h
theorem isArr_eq {P : Program} {t : TypeId} (h : isArr P t = true) : ∃ n e, P.underlying t = some (.array n e) := by
  unfold isArr at h; split at h
  · exact ⟨_, _, by assumption⟩
  · cases h
theorem isSl_eq {P : Program} {t : TypeId} (h : isSl P t = true) : ∃ e, P.underlying t = some (.slice e) := by
  unfold isSl at h; split at h
  · exact ⟨_, by assumption⟩
  · cases h

end Go.Am
