/- What the functions that the law reaches return, for every program that has their code; the conditions stand in each statement. -/
import Derived.Test.YtkngajpinabacaaDoorDeframeNamesL1
set_option linter.unusedSectionVars false
set_option linter.unusedSimpArgs false
set_option linter.unusedVariables false
namespace Go.Am
open Go.RowKit

/-! ### The values of a frame (plain) -/

def chanM (c r : Nat) (v : List Nat) : Dl := ((List.range v.length).filter fun j => j % c == r).foldl (fun d j => learnM d (v.getD j 0)) startM

theorem chan_snoc {c r x : Nat} {v : List Nat} : chanM c r (v ++ [x]) = if v.length % c = r then learnM (chanM c r v) x else chanM c r v := by
  have h1 : ∀ (l : List Nat) (d : Dl), (∀ j ∈ l, j < v.length) → l.foldl (fun d j => learnM d ((v ++ [x]).getD j 0)) d = l.foldl (fun d j => learnM d (v.getD j 0)) d := by
    intro l
    induction l with
    | nil => intro d _; rfl
    | cons a l ih =>
      intro d h
      simp only [List.foldl_cons]
      have ha : a < v.length := h a (by simp)
      rw [ih _ fun j hj => h j (by simp [hj])]
      congr 2
      rw [List.getD_eq_getElem?_getD, List.getD_eq_getElem?_getD, List.getElem?_append_left ha]
  unfold chanM
  rw [List.length_append, List.length_cons, List.length_nil, Nat.zero_add, List.range_succ, List.filter_append, List.foldl_append]
  have hf := h1 ((List.range v.length).filter fun j => j % c == r) startM (fun j hj => by
    have := (List.mem_filter.1 hj).1
    simpa using this)
  rw [hf]
  have hx : (v ++ [x]).getD v.length 0 = x := by simp [List.getD_eq_getElem?_getD]
  by_cases h : v.length % c = r
  · rw [if_pos h]
    have : (List.filter (fun j => j % c == r) [v.length]) = [v.length] := by simp [h]
    rw [this]
    simp only [List.foldl_cons, List.foldl_nil]
    rw [hx]
  · rw [if_neg h]
    have : (List.filter (fun j => j % c == r) [v.length]) = [] := by simp [h]
    rw [this]
    rfl

def N32 (v : List Nat) : Prop := ∀ x ∈ v, x < 4294967296
theorem chan_ok {c r : Nat} {v : List Nat} (h : N32 v) : okD (chanM c r v) := by
  unfold chanM
  have key : ∀ (l : List Nat) (d : Dl), okD d → (∀ j ∈ l, j < v.length) → okD (l.foldl (fun d j => learnM d (v.getD j 0)) d) := by
    intro l
    induction l with
    | nil => intro d h _; exact h
    | cons a l ih =>
      intro d hd hl
      have ha : a < v.length := hl a (by simp)
      refine ih _ (learn_ok hd ?_) fun j hj => hl j (by simp [hj])
      rw [List.getD_eq_getElem?_getD, List.getElem?_eq_getElem ha]
      exact h _ (List.getElem_mem ha)
  exact key _ _ start_ok fun j hj => by
    have := (List.mem_filter.1 hj).1
    simpa using this

def prtN (N a : Nat) : Nat := min (a + 81) N - a
def prtV (V N a : Nat) : Nat := V / 2 ^ a % 2 ^ prtN N a
def valsM (V N c : Nat) : Nat → List Nat → Nat → (Nat × List Nat) ⊕ (List Nat × Nat)
  | 0, out, a => .inr (out, a)
  | k + 1, out, a =>
    match gotM (prtV V N a) (prtN N a) 0 (chanM c (out.length % c) out) with
    | .inl e => .inl (e, out)
    | .inr (v, nx) => valsM V N c k (out ++ [v]) (a + nx)

theorem prtV_lt (V N a : Nat) : prtV V N a < 2 ^ prtN N a := Nat.mod_lt _ (Nat.pow_pos (by omega))

def restM (V N a : Nat) : Nat := if 7 < N - a then 12 else if V / 2 ^ a = 0 then 0 else 12

theorem vals_spec {V N c : Nat} : ∀ (k : Nat) (out : List Nat) (a : Nat), a ≤ N → N32 out → (∀ e o, valsM V N c k out a = .inl (e, o) → (e = 24 ∨ e = 12) ∧ N32 o ∧ o.length ≤ out.length + k) ∧ (∀ o b, valsM V N c k out a = .inr (o, b) → N32 o ∧ b ≤ N ∧ o.length = out.length + k)
  | 0, out, a, ha, ho => by
    refine ⟨fun e o h => (by simp only [valsM] at h; cases h), fun o b h => ?_⟩
    simp only [valsM] at h
    cases h
    exact ⟨ho, ha, rfl⟩
  | k + 1, out, a, ha, ho => by
    have hd := chan_ok (c := c) (r := out.length % c) ho
    cases hg : gotM (prtV V N a) (prtN N a) 0 (chanM c (out.length % c) out) with
    | inl e =>
      have he := got_err hg
      simp only [valsM, hg]
      refine ⟨fun e' o h => ?_, fun o b h => (by cases h)⟩
      cases h
      exact ⟨he, ho, by omega⟩
    | inr p =>
      obtain ⟨v, nx⟩ := p
      obtain ⟨h1, h2⟩ := got_lt hd hg
      have hp : prtN N a ≤ N - a := by unfold prtN; omega
      have ho' : N32 (out ++ [v]) := fun x hx => by
        rcases List.mem_append.1 hx with h | h
        · exact ho x h
        · simp at h; subst h; exact h1
      obtain ⟨r1, r2⟩ := vals_spec (V := V) (N := N) (c := c) k (out ++ [v]) (a + nx) (by omega) ho'
      simp only [valsM, hg]
      refine ⟨fun e o h => ?_, fun o b h => ?_⟩
      · obtain ⟨q1, q2, q3⟩ := r1 e o h
        refine ⟨q1, q2, ?_⟩
        rw [List.length_append, List.length_cons, List.length_nil] at q3
        omega
      · obtain ⟨q1, q2, q3⟩ := r2 o b h
        refine ⟨q1, q2, ?_⟩
        rw [List.length_append, List.length_cons, List.length_nil] at q3
        omega

def sumM (p : List UInt8) : Nat := 4294967295 - crcL 4294967295 p
def openM (b : List UInt8) : Nat := if b.length < 5 then 24 else if 41254 < b.length then 4 else if leN (b.drop (b.length - 4)) = sumM (b.take (b.length - 4)) then 0 else 22

end Go.Am

namespace Go.Am
open Go.RowKit

/-! ### The values of a frame -/

def n32A (v : List Nat) : AV := u32L (v.map fun n : Nat => (n : Int))
theorem isD_n32A (v : List Nat) : isD (n32A v) = true := by simp [n32A, u32L, isD, isDL_ks]
end Go.Am

namespace Go.Am
open Go.RowKit

/-! ### A frame's sum -/

theorem sumM_lt (p : List UInt8) : sumM p < 4294967296 := by unfold sumM; omega

def S_Sealed (P : Prg) (f : Nat) : Prop := ∀ p : List UInt8, p.length ≤ 1000000 → VC P f [bs p] (bs (p ++ leB (sumM p) 4))
theorem ref20_Sealed {P : Prg} {f fO t0 : Nat} (bd : Body P f 22 [.tmp 2] (ac_cadenzaref20_Sealed fO t0)) (hO : S_COf P fO) : S_Sealed P f := by
  intro p hp
  refine VC.of_walk 1 (by simp [isDL, isD_bs]) (isD_bs _) (ACall.of_body bd (by simp) ?_)
  have hO' := hO p hp
  rw [← sumM] at hO'
  have hs := sumM_lt p
  generalize sumM p = s at *
  simp only [bs] at hO'
  have e1 : IntKind.u8.wrap (s : Int) = ((s % 256 : Nat) : Int) := by rw [wrap_u8_mod]; omega
  have a1 : shiftA false .u32 (s : Int) 8 = some (.int .u32 ((s / 256 : Nat) : Int)) := shrK (K := .u32) (k := 8) (by decide)
  have a2 : shiftA false .u32 (s : Int) 16 = some (.int .u32 ((s / 65536 : Nat) : Int)) := shrK (K := .u32) (k := 16) (by decide)
  have a3 : shiftA false .u32 (s : Int) 24 = some (.int .u32 ((s / 16777216 : Nat) : Int)) := shrK (K := .u32) (k := 24) (by decide)
  have e2 : IntKind.u8.wrap ((s / 256 : Nat) : Int) = ((s / 256 % 256 : Nat) : Int) := by rw [wrap_u8_mod]; omega
  have e3 : IntKind.u8.wrap ((s / 65536 : Nat) : Int) = ((s / 65536 % 256 : Nat) : Int) := by rw [wrap_u8_mod]; omega
  have e4 : IntKind.u8.wrap ((s / 16777216 : Nat) : Int) = ((s / 16777216 % 256 : Nat) : Int) := by rw [wrap_u8_mod]; omega
  have hb : u8 (p ++ leB s 4) = u8 p ++ [.int .u8 ((s % 256 : Nat) : Int), .int .u8 ((s / 256 % 256 : Nat) : Int), .int .u8 ((s / 65536 % 256 : Nat) : Int), .int .u8 ((s / 16777216 % 256 : Nat) : Int)] := by
    simp [u8, leB, Nat.div_div_eq_div_mul]
  have hl : (p ++ leB s 4).length = p.length + 4 := by simp [leB_length]
  rw [bs, hb, hl]
  generalize s % 256 = b0 at *
  generalize s / 256 % 256 = b1 at *
  generalize s / 65536 % 256 = b2 at *
  generalize s / 16777216 % 256 = b3 at *
  have tt : isTL (u8 p ++ [.int .u8 (b0 : Int), .int .u8 (b1 : Int), .int .u8 (b2 : Int), .int .u8 (b3 : Int)]) = true := by simp [isTL_append, isT_u8, isTL, isT]
  simp (maxSteps := 4000000) (disch := omega) only [step, stepv, ev, wl, wn, wp, wz, aop, cV, cV1, AV.one, partCells, okW, onlyFr, app, sliceCells, cellsAt, srcA, subA, eqFs, Int.cast_ofNat_Int, simprocAttr, ac_cadenzaref20_Sealed, bs]
  refine callQ.vc hO' ?_
  simp (maxSteps := 4000000) (disch := omega) only [step, stepv, ev, wl, wn, wp, wz, aop, cV, cV1, AV.one, partCells, okW, onlyFr, app, sliceCells, cellsAt, srcA, subA, eqFs, Int.cast_ofNat_Int, simprocAttr, e1, a1, a2, a3, e2, e3, e4]
  simp [frzN, frzK, frzL, frzV, frzL_T _ tt]

def opA (b : List UInt8) : AV := if openM b = 0 then .tup [bs (b.take (b.length - 4)), .int .i64 0] else .tup [.list 0 [], .int .i64 (openM b : Nat)]
def S_opened (P : Prg) (f : Nat) : Prop := ∀ b : List UInt8, b.length ≤ 1000000 → VC P f [bs b] (opA b)
theorem deframe_opened {P : Prg} {f fS fV : Nat} (bd : Body P f 46 [.tmp 2, .tmp 3] (ac_deframe_opened fS fV)) (hS : S_CSum P fS) (hV : S_le_Value P fV) : S_opened P f := by
  intro b hb
  refine VC.of_walk 1 (by simp [isDL, isD_bs]) (by unfold opA; split <;> simp [isD, isDL, isD_bs]) (ACall.of_body bd (by simp) ?_)
  unfold opA openM
  by_cases h1 : b.length < 5
  · simp only [h1, if_true]
    simp (maxSteps := 4000000) (disch := omega) only [step, stepv, ev, wl, wn, wp, wz, aop, cV, cV1, AV.one, partCells, okW, onlyFr, app, sliceCells, cellsAt, srcA, subA, eqFs, Int.cast_ofNat_Int, simprocAttr, ac_deframe_opened, bs]
    simp [frzN, frzK, frzL, frzV]
  simp only [h1, if_false]
  by_cases h2 : 41254 < b.length
  · simp only [h2, if_true]
    simp (maxSteps := 4000000) (disch := omega) only [step, stepv, ev, wl, wn, wp, wz, aop, cV, cV1, AV.one, partCells, okW, onlyFr, app, sliceCells, cellsAt, srcA, subA, eqFs, Int.cast_ofNat_Int, simprocAttr, ac_deframe_opened, bs]
    simp [frzN, frzK, frzL, frzV]
  simp only [h2, if_false]
  have hS' := hS (b.take (b.length - 4))
  rw [if_neg (by simp; omega), ← sumM] at hS'
  have hl1 : (b.take (b.length - 4)).length = b.length - 4 := by simp
  have hl2 : (b.drop (b.length - 4)).length = 4 := by simp; omega
  have hs := sumM_lt (b.take (b.length - 4))
  have hV' := hV (b.drop (b.length - 4)) (by omega) (by omega)
  have tk : (u8 b).take (b.length - 4) = u8 (b.take (b.length - 4)) := by simp [u8, List.map_take]
  have dk : (u8 b).drop (b.length - 4) = u8 (b.drop (b.length - 4)) := by simp [u8, List.map_drop]
  simp only [bs, hl1, hl2] at hS' hV'
  have hq : leN (b.drop (b.length - 4)) < 4294967296 := by
    have := leN_lt (b.drop (b.length - 4))
    rw [hl2] at this
    exact this
  have hpl : (u8 (b.take (b.length - 4))).length = b.length - 4 := by rw [u8_length, hl1]
  have hql : (u8 (b.drop (b.length - 4))).length = 4 := by rw [u8_length, hl2]
  have tq : (u8 (b.drop (b.length - 4))).take 4 = u8 (b.drop (b.length - 4)) := List.take_of_length_le (by omega)
  generalize b.take (b.length - 4) = p at *
  generalize b.drop (b.length - 4) = q at *
  generalize sumM p = s at *
  generalize leN q = w at *
  have n4 : b.length - (b.length - 4) = 4 := by omega
  have n5 : b.length - 4 - 0 = b.length - 4 := by omega
  have n6 : min (b.length - 4) b.length = b.length - 4 := by omega
  have tp : isTL (u8 p) = true := isT_u8 _
  by_cases h3 : w = s
  · subst h3
    simp only [if_true]
    simp (maxSteps := 4000000) (disch := omega) only [step, stepv, ev, wl, wn, wp, wz, aop, cV, cV1, AV.one, partCells, okW, onlyFr, app, sliceCells, cellsAt, srcA, subA, eqFs, Int.cast_ofNat_Int, simprocAttr, ac_deframe_opened, bs, tk, dk, n4, n5, tq]
    refine callQ.vc hS' ?_
    simp (maxSteps := 4000000) (disch := omega) only [step, stepv, ev, wl, wn, wp, wz, aop, cV, cV1, AV.one, partCells, okW, onlyFr, app, sliceCells, cellsAt, srcA, subA, eqFs, Int.cast_ofNat_Int, simprocAttr, tk, dk, n4, n5, tq]
    refine callQ.vc hV' ?_
    simp (maxSteps := 4000000) (disch := omega) only [step, stepv, ev, wl, wn, wp, wz, aop, cV, cV1, AV.one, partCells, okW, onlyFr, app, sliceCells, cellsAt, srcA, subA, eqFs, Int.cast_ofNat_Int, simprocAttr, tk, dk, n4, n5, tq]
    simp [frzN, frzK, frzL, frzV, frzL_T _ tp, bs, hl1]
    try omega
  · simp only [h3, if_false]
    simp (maxSteps := 4000000) (disch := omega) only [step, stepv, ev, wl, wn, wp, wz, aop, cV, cV1, AV.one, partCells, okW, onlyFr, app, sliceCells, cellsAt, srcA, subA, eqFs, Int.cast_ofNat_Int, simprocAttr, ac_deframe_opened, bs, tk, dk, n4, n5, tq]
    refine callQ.vc hS' ?_
    simp (maxSteps := 4000000) (disch := omega) only [step, stepv, ev, wl, wn, wp, wz, aop, cV, cV1, AV.one, partCells, okW, onlyFr, app, sliceCells, cellsAt, srcA, subA, eqFs, Int.cast_ofNat_Int, simprocAttr, tk, dk, n4, n5, tq]
    refine callQ.vc hV' ?_
    simp (maxSteps := 4000000) (disch := omega) only [step, stepv, ev, wl, wn, wp, wz, aop, cV, cV1, AV.one, partCells, okW, onlyFr, app, sliceCells, cellsAt, srcA, subA, eqFs, Int.cast_ofNat_Int, simprocAttr, tk, dk, n4, n5, tq]
    simp [frzN, frzK, frzL, frzV]

end Go.Am

namespace Go.Am
open Go.RowKit

/-! ### values -/

def sixD (F : Nat → Dl) : List AV := dlC (F 0) ++ dlC (F 1) ++ dlC (F 2) ++ dlC (F 3) ++ dlC (F 4) ++ dlC (F 5)
theorem isTL_sixD (F : Nat → Dl) : isTL (sixD F) = true := rfl
theorem sixD_len (F : Nat → Dl) : (sixD F).length = 24 := rfl
theorem sixD_get (F : Nat → Dl) {j : Nat} (h : j < 6) : ∃ r, (sixD F).drop (j * 4) = .int .i64 (F j).k0 :: .int .i64 (F j).k1 :: .int .u64 (F j).s0 :: .int .u64 (F j).s1 :: r := by
  rcases (by omega : j = 0 ∨ j = 1 ∨ j = 2 ∨ j = 3 ∨ j = 4 ∨ j = 5) with rfl | rfl | rfl | rfl | rfl | rfl <;> exact ⟨_, rfl⟩
def updD (F : Nat → Dl) (j : Nat) (d : Dl) : Nat → Dl := fun i => if i = j then d else F i
theorem sixD_set (F : Nat → Dl) {j : Nat} (h : j < 6) (d : Dl) : (sixD F).take (j * 4) ++ [.int .i64 d.k0, .int .i64 d.k1, .int .u64 d.s0, .int .u64 d.s1] ++ (sixD F).drop (j * 4 + 4) = sixD (updD F j d) := by
  rcases (by omega : j = 0 ∨ j = 1 ∨ j = 2 ∨ j = 3 ∨ j = 4 ∨ j = 5) with rfl | rfl | rfl | rfl | rfl | rfl <;> rfl

def vlA : (Nat × List Nat) ⊕ (List Nat × Nat) → AV
  | .inl (e, _) => .tup [.list 0 [], .int .i64 0, .int .i64 e]
  | .inr (o, a) => .tup [n32A o, .int .i64 a, .int .i64 0]
def S_dVals (P : Prg) (f : Nat) : Prop := ∀ N V c n : Nat, V < 2 ^ N → N ≤ 330000 → 1 ≤ c → c ≤ 6 → n * c ≤ 4000 → VC P f [.int .i64 c, .int .i64 n, bA N V] (vlA (valsM V N c (n * c) [] 0))
set_option maxHeartbeats 2000000 in
theorem deframe_values {P : Prg} {f fS fC fR t0 t1 t2 t3 : Nat} (bd : Body P f 76 [.tmp 6, .tmp 7, .tmp 8] (ac_deframe_values fS fC fR t0 t1 t2 t3)) (hS : S_Start P fS) (hC : S_Cut P fC) (hR : S_dRead P fR) : S_dVals P f := by
  intro N V c n hV hN hc hc6 hnc
  refine VC.of_walk 1 (by simp [isDL, isD_bA, isD]) (by unfold vlA; split <;> simp [isD, isDL, isD_n32A]) (ACall.of_body bd (by simp) ?_)
  simp only [S_Start, startM, dlA, dlC] at hS
  have hn4 : n ≤ 4000 := by
    have : n * 1 ≤ n * c := Nat.mul_le_mul_left _ hc
    omega
  have tu : isTL (u8 (leB V (nB N))) = true := isT_u8 _
  obtain ⟨T, hT⟩ : ∃ T, T = n * c := ⟨_, rfl⟩
  obtain ⟨R, hR0⟩ : ∃ R, R = valsM V N c (n * c) [] 0 := ⟨_, rfl⟩
  have eT : (n : Int) * c = (T : Int) := by rw [hT]; simp
  rw [← hR0]
  simp (maxSteps := 4000000) (disch := omega) only [step, stepv, ev, wl, wn, wp, wz, aop, cV, cV1, AV.one, partCells, okW, onlyFr, app, sliceCells, cellsAt, srcA, subA, eqFs, Int.cast_ofNat_Int, simprocAttr, ac_deframe_values, bA]
  refine ALoop.by (ι := Nat) (fun i => ⟨[(19, .int .i64 i), (9, .ref 1 1 0), (8, .int .i64 0), (7, .int .i64 0), (6, .emp true), (5, .ref 0 1 0), (0, .int .i64 c), (1, .int .i64 n)],
      [⟨t0, 2, 1, [.list (nB N) (u8 (leB V (nB N))), .int .i64 N], 0⟩, ⟨t1, 24, 1, sixD (fun j => if j < i then startM else ⟨0, 0, 0, 0⟩), 0⟩]⟩) (fun i => i ≤ 6) (fun i => 6 - i) 0 (Le.slots (by simp [Am.look])) (by omega) ?_
  intro i hi
  by_cases hlt : i < 6
  · have e1 := sixD_set (fun j => if j < i then startM else ⟨0, 0, 0, 0⟩) hlt startM
    have e2 : updD (fun j => if j < i then startM else ⟨0, 0, 0, 0⟩) i startM = fun j => if j < i + 1 then startM else ⟨0, 0, 0, 0⟩ := by
      funext j
      unfold updD
      by_cases h1 : j = i
      · subst h1; simp
      · by_cases h2 : j < i
        · simp [h1, h2, show j < i + 1 by omega]
        · simp [h1, h2, show ¬ j < i + 1 by omega]
    rw [e2] at e1
    have e3 := sixD_len (fun j => if j < i then startM else ⟨0, 0, 0, 0⟩)
    simp (maxSteps := 4000000) (disch := omega) only [step, stepv, ev, wl, wn, wp, wz, aop, cV, cV1, AV.one, partCells, okW, onlyFr, app, sliceCells, cellsAt, srcA, subA, eqFs, Int.cast_ofNat_Int, simprocAttr]
    refine callQ.vc hS ?_
    generalize hF : sixD (fun j => if j < i then startM else ⟨0, 0, 0, 0⟩) = F at *
    have e1' : F.take (i * 4) ++ [.int .i64 10, .int .i64 10, .int .u64 16384, .int .u64 16384] ++ F.drop (i * 4 + 4) = sixD fun j => if j < i + 1 then startM else ⟨0, 0, 0, 0⟩ := e1
    simp (maxSteps := 4000000) (disch := omega) only [step, stepv, ev, wl, wn, wp, wz, aop, cV, cV1, AV.one, partCells, okW, onlyFr, app, sliceCells, cellsAt, srcA, subA, eqFs, Int.cast_ofNat_Int, simprocAttr, e3]
    refine ⟨i + 1, by omega, by omega, ?_⟩
    rw [e1']
    exact Le.slots (by simp [Am.look])
  obtain rfl : i = 6 := by omega
  have hk0 : ∀ o : List Nat, (ks .u32 (o.map fun n : Nat => (n : Int))).length = o.length := fun o => by simp [ks]
  simp (maxSteps := 4000000) (disch := omega) only [step, stepv, ev, wl, wn, wp, wz, aop, cV, cV1, AV.one, partCells, okW, onlyFr, app, sliceCells, cellsAt, srcA, subA, eqFs, Int.cast_ofNat_Int, simprocAttr, eT]
  refine ALoop.by (ι := Nat × List Nat × Nat) (fun s => ⟨[(29, .int .i64 s.1), (28, .int .i64 T), (12, .int .i64 s.2.2), (11, .own 2 s.2.1.length), (9, .ref 1 1 0), (5, .ref 0 1 0), (0, .int .i64 c)],
      [⟨t0, 2, 1, [.list (nB N) (u8 (leB V (nB N))), .int .i64 N], 0⟩, ⟨t1, 24, 1, sixD (fun j => if j < c then chanM c j s.2.1 else startM), 0⟩, ⟨t3, 1, s.2.1.length, ks .u32 (s.2.1.map fun n : Nat => (n : Int)), 0⟩]⟩)
    (fun s => s.1 ≤ T ∧ s.2.1.length = s.1 ∧ s.2.2 ≤ N ∧ N32 s.2.1 ∧ valsM V N c (T - s.1) s.2.1 s.2.2 = R) (fun s => T - s.1) (0, [], 0) ?_ ⟨Nat.zero_le _, rfl, Nat.zero_le _, fun x hx => (by simp at hx), (by rw [hR0, hT]; rfl)⟩ ?_
  · have z1 : sixD (fun j => if j < 6 then startM else ⟨0, 0, 0, 0⟩) = sixD (fun _ => startM) := rfl
    have z2 : (fun j => if j < c then chanM c j [] else startM) = fun _ => startM := by
      funext j
      split <;> rfl
    simp only [z2]
    rw [z1]
    exact Le.trans (Le.virt 11 t3 1 (by decide) rfl) (Le.slots (by simp [Am.look]))
  rintro ⟨k, out, a⟩ ⟨h1, h2, h3, h4, h5⟩
  simp only at h1 h2 h3 h4 h5 ⊢
  by_cases hlt : k < T
  · obtain ⟨r, hr⟩ : ∃ r, r = k % c := ⟨_, rfl⟩
    have hrc : r < c := by rw [hr]; exact Nat.mod_lt _ (by omega)
    have e1 : (k : Int) % c = (r : Int) := by rw [hr]; simp [Int.natCast_emod]
    have e1' : ((k : Int)).tmod (c : Int) = (r : Int) := by rw [Int.tmod_eq_emod_of_nonneg (by omega), e1]
    have hc0 : (c : Int) ≠ 0 := by omega
    obtain ⟨b, hb⟩ : ∃ b, b = min (a + 81) N := ⟨_, rfl⟩
    have e2 : (if (N : Int) < (a : Int) + 81 then (N : Int) else (a : Int) + 81) = (b : Int) := by split <;> omega
    have hpn : b - a = prtN N a := by rw [hb]; rfl
    have hC' : VC P fC [bA N V, .int .i64 a, .int .i64 b] (.tup [bA (prtN N a) (prtV V N a), .int .i64 0]) := by
      have := hC N V a b hV hN (by omega) (by omega)
      rw [hpn] at this
      exact this
    have hpl : prtN N a ≤ 81 := by unfold prtN; omega
    have hd := chan_ok (c := c) (r := r) h4
    have hR' := hR (prtN N a) (prtV V N a) 0 (chanM c r out) (prtV_lt V N a) (by omega) (by omega) hd
    have hF : (fun j => if j < c then chanM c j out else startM) r = chanM c r out := by simp [hrc]
    obtain ⟨rest, hg⟩ := sixD_get (fun j => if j < c then chanM c j out else startM) (j := r) (by omega)
    simp only [hrc, if_true] at hg
    have hst := fun d => sixD_set (fun j => if j < c then chanM c j out else startM) (j := r) (by omega) d
    have hln := sixD_len (fun j => if j < c then chanM c j out else startM)
    have hupd : ∀ v : Nat, updD (fun j => if j < c then chanM c j out else startM) r (learnM (chanM c r out) v) = fun j => if j < c then chanM c j (out ++ [v]) else startM := by
      intro v
      funext j
      unfold updD
      by_cases hj : j = r
      · subst hj
        rw [if_pos rfl, if_pos hrc, chan_snoc, if_pos (by rw [h2, hr])]
      · rw [if_neg hj]
        by_cases hjc : j < c
        · simp only [hjc, if_true]
          rw [chan_snoc, if_neg (by rw [h2, ← hr]; exact fun e => hj e.symm)]
        · simp only [hjc, if_false]
    have hkT : T - k = (T - k - 1) + 1 := by omega
    rw [hkT, valsM, h2, ← hr] at h5
    have hgl := fun v nx (h : gotM (prtV V N a) (prtN N a) 0 (chanM c r out) = .inr (v, nx)) => got_lt hd h
    have hge := fun e (h : gotM (prtV V N a) (prtN N a) 0 (chanM c r out) = .inl e) => got_err h
    have hpN : prtN N a ≤ N - a := by unfold prtN; omega
    simp only [bA] at hC' hR'
    have hk1 := hk0 out
    have tk : isTL (ks .u32 (out.map fun n : Nat => (n : Int))) = true := isTL_ks _ _
    cases hgm : gotM (prtV V N a) (prtN N a) 0 (chanM c r out) with
    | inl e =>
      have he := hge e hgm
      rw [hgm] at hR' h5
      simp only at h5
      have he0 : (e : Int) ≠ 0 := by omega
      rw [← h5, vlA]
      generalize sixD (fun j => if j < c then chanM c j out else startM) = F at *
      generalize chanM c r out = d at *
      obtain ⟨d0, d1, d2, d3⟩ := d
      simp only [dlA, dlC, drA] at hR'
      simp only at hg
      simp (maxSteps := 4000000) (disch := omega) only [step, stepv, ev, wl, wn, wp, wz, aop, cV, cV1, AV.one, partCells, okW, onlyFr, app, sliceCells, cellsAt, srcA, subA, eqFs, Int.cast_ofNat_Int, simprocAttr, e2]
      refine callQ.vc hC' ?_
      simp (maxSteps := 4000000) (disch := omega) only [step, stepv, ev, wl, wn, wp, wz, aop, cV, cV1, AV.one, partCells, okW, onlyFr, app, sliceCells, cellsAt, srcA, subA, eqFs, Int.cast_ofNat_Int, simprocAttr, e1, e1', hc0, hg, hln]
      refine callD.vc hR' ?_
      simp (maxSteps := 4000000) (disch := omega) only [step, stepv, ev, wl, wn, wp, wz, aop, cV, cV1, AV.one, partCells, okW, onlyFr, app, sliceCells, cellsAt, srcA, subA, eqFs, Int.cast_ofNat_Int, simprocAttr]
      simp [frzN, frzK, frzL, frzV]
    | inr w =>
      obtain ⟨v, nx⟩ := w
      obtain ⟨v1, v2⟩ := hgl v nx hgm
      rw [hgm] at hR' h5
      simp only at h5
      have hset := hst (learnM (chanM c r out) v)
      rw [hupd v] at hset
      generalize hFF : sixD (fun j => if j < c then chanM c j out else startM) = F at *
      generalize chanM c r out = d at *
      obtain ⟨d0, d1, d2, d3⟩ := d
      simp only [drA] at hR'
      generalize learnM ⟨d0, d1, d2, d3⟩ v = d' at *
      obtain ⟨m0, m1, m2, m3⟩ := d'
      simp only [dlA, dlC] at hR'
      simp only at hg hset
      simp (maxSteps := 4000000) (disch := omega) only [step, stepv, ev, wl, wn, wp, wz, aop, cV, cV1, AV.one, partCells, okW, onlyFr, app, sliceCells, cellsAt, srcA, subA, eqFs, Int.cast_ofNat_Int, simprocAttr, e2]
      refine callQ.vc hC' ?_
      simp (maxSteps := 4000000) (disch := omega) only [step, stepv, ev, wl, wn, wp, wz, aop, cV, cV1, AV.one, partCells, okW, onlyFr, app, sliceCells, cellsAt, srcA, subA, eqFs, Int.cast_ofNat_Int, simprocAttr, e1, e1', hc0, hg, hln]
      refine callD.vc hR' ?_
      simp (maxSteps := 4000000) (disch := omega) only [step, stepv, ev, wl, wn, wp, wz, aop, cV, cV1, AV.one, partCells, okW, onlyFr, app, sliceCells, cellsAt, srcA, subA, eqFs, Int.cast_ofNat_Int, simprocAttr, e1, e1', hc0, hg, hln, hk1, h2]
      have hap : ks .u32 (out.map fun n : Nat => (n : Int)) ++ [.int .u32 (v : Int)] = ks .u32 ((out ++ [v]).map fun n : Nat => (n : Int)) := by simp [ks]
      have hol : (out ++ [v]).length = k + 1 := by simp [h2]
      refine ⟨(k + 1, out ++ [v], a + nx), ⟨by omega, hol, by simp only; omega, fun x hx => ?_, ?_⟩, by simp only; omega, ?_⟩
      · rcases List.mem_append.1 hx with h | h
        · exact h4 x h
        · simp at h; subst h; exact v1
      · simp only
        rw [show T - (k + 1) = T - k - 1 by omega]
        exact h5
      · simp only [hol]
        rw [hset, hap]
        exact Le.dropT [_, _, _] (by simp [isTL_sixD, isTL_ks, isTL, isT, isT_u8]) (by simp [Am.look, frzK, frzL, frzV])
  · obtain rfl : k = T := by omega
    rw [Nat.sub_self, valsM] at h5
    rw [← h5, vlA, n32A, u32L, List.length_map]
    simp (maxSteps := 4000000) (disch := omega) only [step, stepv, ev, wl, wn, wp, wz, aop, cV, cV1, AV.one, partCells, okW, onlyFr, app, sliceCells, cellsAt, srcA, subA, eqFs, Int.cast_ofNat_Int, simprocAttr]
    simp [frzN, frzK, frzL, frzV, frzL_T _ (isTL_ks _ _)]

end Go.Am

namespace Go.Am
open Go.RowKit

/-! ### Decode -/

def iL (o : List Nat) : List Int := o.map fun n : Nat => (n : Int)
def decV (V N c : Nat) (x : Int) (t : List Int) (w : (Nat × List Nat) ⊕ (List Nat × Nat)) : AV :=
  match w with
  | .inl (e, _) => erA e
  | .inr (o, a) => if restM V N a ≠ 0 then erA 12 else rngA x (unB c x t (iL o))
def decA (c x : Int) (t : List Int) (n : Int) (b : List UInt8) : AV :=
  if ask21 c x n ≠ 0 then erA 2 else if openM b ≠ 0 then erA (openM b : Nat) else
    decV (leN (b.take (b.length - 4))) (8 * (b.take (b.length - 4)).length) c.toNat x t (valsM (leN (b.take (b.length - 4))) (8 * (b.take (b.length - 4)).length) c.toNat (n.toNat * c.toNat) [] 0)
theorem isD_decV (V N c : Nat) (x : Int) (t : List Int) (w : (Nat × List Nat) ⊕ (List Nat × Nat)) : isD (decV V N c x t w) = true := by
  unfold decV
  split
  · rfl
  · split
    · rfl
    · exact isD_rng _ _
theorem isD_decA (c x : Int) (t : List Int) (n : Int) (b : List UInt8) : isD (decA c x t n b) = true := by
  unfold decA
  split
  · rfl
  split
  · rfl
  · exact isD_decV _ _ _ _ _ _

theorem ask21_cases {c x n : Int} (h : ask21 c x n = 0) : eCheck c x = 0 ∧ ∃ c' n' : Nat, c = c' ∧ n = n' ∧ 1 ≤ c' ∧ c' ≤ 6 ∧ 1 ≤ n' ∧ n' * c' ≤ 4000 ∧ half x ≠ 0 := by
  unfold ask21 at h
  rcases eCheck_cases c x with h1 | ⟨h1, h2, h3, h4⟩
  · rw [if_pos (by omega)] at h; omega
  · rw [if_neg (by omega)] at h
    split at h
    · omega
    split at h
    · omega
    rename_i h5 h6
    refine ⟨h1, c.toNat, n.toNat, by omega, by omega, by omega, by omega, by omega, ?_, h2⟩
    have h7 : n.toNat ≤ 4000 / c.toNat := by
      have : ((4000 / c.toNat : Nat) : Int) = 4000 / c := by rw [Int.natCast_ediv, Int.toNat_of_nonneg (by omega)]; rfl
      omega
    exact (Nat.le_div_iff_mul_le (by omega)).1 h7

theorem okV_of {V N c n : Nat} {o : List Nat} {a : Nat} (hc : 1 ≤ c) (hc6 : c ≤ 6) (hn : 1 ≤ n) (hnc : n * c ≤ 4000) (h : valsM V N c (n * c) [] 0 = .inr (o, a)) : okV c (iL o) ∧ a ≤ N ∧ o.length = n * c := by
  obtain ⟨_, h2⟩ := vals_spec (V := V) (N := N) (c := c) (n * c) [] 0 (Nat.zero_le _) (fun x hx => by simp at hx)
  obtain ⟨q1, q2, q3⟩ := h2 o a h
  rw [List.length_nil, Nat.zero_add] at q3
  have hpos : 0 < n * c := Nat.mul_pos hn hc
  refine ⟨⟨hc, hc6, by simp [iL]; omega, by simp [iL]; omega, by simp [iL, q3], fun x hx => ?_⟩, q2, q3⟩
  simp only [iL, List.mem_map] at hx
  obtain ⟨y, hy, rfl⟩ := hx
  have := q1 y hy
  omega

def S_Decode (P : Prg) (f : Nat) : Prop := ∀ (c x n : Int) (t : List Int) (b : List UInt8), t.length = 16 → I32 t → b.length ≤ 1000000 → VC P f [shA c x, .agg (ks .i32 t), .int .i64 n, bs b] (decA c x t n b)
set_option maxHeartbeats 2000000 in
theorem deframe_Decode {P : Prg} {f fE fO fF fV fG fS t0 t1 t2 : Nat} (bd : Body P f 87 [.tmp 8, .tmp 9] (ac_deframe_Decode fE fO fF fV fG fS t0 t1 t2)) (hE0 : S_ECheck P fE) (hO : S_opened P fO) (hF : S_bOf P fF) (hV : S_dVals P fV) (hG : S_bGet P fG) (hS : S_DSam P fS) : S_Decode P f := by
  intro c x n t b ht hI hb
  refine VC.of_walk 1 (by simp [isDL, isD_bs, isDL_ks, isD, shA]) (isD_decA _ _ _ _ _) (ACall.of_body bd (by simp) ?_)
  have hE' := hE0 c x
  have hO' := hO b hb
  have hk : (ks .i32 t).length = 16 := by simp [ks_length, ht]
  have tt : (ks .i32 t).take 16 = ks .i32 t := take_all (by omega)
  have ot := ks_one .i32 t
  rw [shA] at hE'
  simp only [bs] at hO'
  unfold decA
  rcases eCheck_cases c x with g1 | ⟨g1, g2, g3, g4⟩
  · have h1 : ask21 c x n = 2 := by unfold ask21; rw [if_pos (by omega)]
    rw [g1] at hE'
    rw [if_pos (by omega), erA]
    simp (maxSteps := 4000000) (disch := omega) only [step, stepv, ev, wl, wn, wp, wz, aop, cV, cV1, AV.one, partCells, okW, onlyFr, app, sliceCells, cellsAt, srcA, subA, eqFs, Int.cast_ofNat_Int, simprocAttr, ac_deframe_Decode, shA, bs, hk, tt, ot]
    refine callQ.vc hE' ?_
    simp (maxSteps := 4000000) (disch := omega) only [step, stepv, ev, wl, wn, wp, wz, aop, cV, cV1, AV.one, partCells, okW, onlyFr, app, sliceCells, cellsAt, srcA, subA, eqFs, Int.cast_ofNat_Int, simprocAttr]
    simp [frzN, frzK, frzL, frzV]
  rw [g1] at hE'
  have ed : ((4000 : Int)).tdiv c = 4000 / c := Int.tdiv_eq_ediv_of_nonneg (by omega)
  have hc0 : c ≠ 0 := by omega
  have hd1 : 4000 / c ≤ 4000 := by
    have := Int.ediv_le_self c (show (0 : Int) ≤ 4000 by omega)
    exact this
  have hd0 : 0 ≤ 4000 / c := Int.ediv_nonneg (by omega) (by omega)
  by_cases h1 : ask21 c x n = 0
  case neg =>
    rw [if_pos h1, erA]
    have h1' : n < 1 ∨ 4000 / c < n := by
      unfold ask21 at h1
      rw [if_neg (by omega)] at h1
      split at h1
      · exact .inl (by assumption)
      split at h1
      · exact .inr (by assumption)
      · omega
    obtain ⟨q, hq⟩ : ∃ q, q = 4000 / c := ⟨_, rfl⟩
    rw [← hq] at hd0 hd1 h1' ed
    have ed2 : (4000 : Int) / c = q := hq.symm
    clear hq
    by_cases h1'' : n < 1
    · simp (maxSteps := 4000000) (disch := omega) only [step, stepv, ev, wl, wn, wp, wz, aop, cV, cV1, AV.one, partCells, okW, onlyFr, app, sliceCells, cellsAt, srcA, subA, eqFs, Int.cast_ofNat_Int, simprocAttr, ac_deframe_Decode, shA, bs, hk, tt, ot]
      refine callQ.vc hE' ?_
      simp (maxSteps := 4000000) (disch := omega) only [step, stepv, ev, wl, wn, wp, wz, aop, cV, cV1, AV.one, partCells, okW, onlyFr, app, sliceCells, cellsAt, srcA, subA, eqFs, Int.cast_ofNat_Int, simprocAttr]
      simp [frzN, frzK, frzL, frzV]
    · have h1''' : q < n := by omega
      simp (maxSteps := 4000000) (disch := omega) only [step, stepv, ev, wl, wn, wp, wz, aop, cV, cV1, AV.one, partCells, okW, onlyFr, app, sliceCells, cellsAt, srcA, subA, eqFs, Int.cast_ofNat_Int, simprocAttr, ac_deframe_Decode, shA, bs, hk, tt, ot]
      refine callQ.vc hE' ?_
      simp (maxSteps := 4000000) (disch := omega) only [step, stepv, ev, wl, wn, wp, wz, aop, cV, cV1, AV.one, partCells, okW, onlyFr, app, sliceCells, cellsAt, srcA, subA, eqFs, Int.cast_ofNat_Int, simprocAttr, ed, ed2, hc0]
      simp [frzN, frzK, frzL, frzV]
  rw [if_neg (by omega)]
  obtain ⟨_, c', n', rfl, rfl, q1, q2, q3, q4, q5⟩ := ask21_cases h1
  have hnq : (n' : Int) ≤ 4000 / (c' : Int) := by
    unfold ask21 at h1
    rw [if_neg (by omega)] at h1
    split at h1
    · omega
    split at h1
    · omega
    · omega
  obtain ⟨q, hq⟩ : ∃ q, q = (4000 : Int) / (c' : Int) := ⟨_, rfl⟩
  rw [← hq] at hd0 hd1 hnq ed
  have ed2 : (4000 : Int) / (c' : Int) = q := hq.symm
  clear hq
  by_cases h2 : openM b = 0
  case neg =>
    have h2' : ((openM b : Nat) : Int) ≠ 0 := by omega
    rw [opA, if_neg h2] at hO'
    rw [if_pos h2, erA]
    generalize openM b = m at *
    simp (maxSteps := 4000000) (disch := omega) only [step, stepv, ev, wl, wn, wp, wz, aop, cV, cV1, AV.one, partCells, okW, onlyFr, app, sliceCells, cellsAt, srcA, subA, eqFs, Int.cast_ofNat_Int, simprocAttr, ac_deframe_Decode, shA, bs, hk, tt, ot]
    refine callQ.vc hE' ?_
    simp (maxSteps := 4000000) (disch := omega) only [step, stepv, ev, wl, wn, wp, wz, aop, cV, cV1, AV.one, partCells, okW, onlyFr, app, sliceCells, cellsAt, srcA, subA, eqFs, Int.cast_ofNat_Int, simprocAttr, ed, ed2, hc0]
    refine callQ.vc hO' ?_
    simp (maxSteps := 4000000) (disch := omega) only [step, stepv, ev, wl, wn, wp, wz, aop, cV, cV1, AV.one, partCells, okW, onlyFr, app, sliceCells, cellsAt, srcA, subA, eqFs, Int.cast_ofNat_Int, simprocAttr]
    simp [frzN, frzK, frzL, frzV]
  rw [if_neg (by omega)]
  have hbl : 5 ≤ b.length ∧ b.length ≤ 41254 := by
    unfold openM at h2
    split at h2
    · omega
    split at h2
    · omega
    · omega
  rw [opA, if_pos h2] at hO'
  have hpl : (b.take (b.length - 4)).length = b.length - 4 := by simp
  have hF' := hF (b.take (b.length - 4)) (by omega)
  have hVlt := leN_lt' (b.take (b.length - 4))
  have hbA := bA_of (b.take (b.length - 4))
  rw [ofA, if_neg (by omega), hbA] at hF'
  simp only [Int.toNat_natCast]
  have hV' := hV (8 * (b.take (b.length - 4)).length) (leN (b.take (b.length - 4))) c' n' hVlt (by omega) q1 q2 q4
  have hG0 := fun a m => hG (8 * (b.take (b.length - 4)).length) (leN (b.take (b.length - 4))) a m hVlt (by omega)
  rw [hbA] at hV'
  simp only [hbA] at hG0
  simp only [bs, hpl] at hF' hV' hG0 hO' hVlt ⊢
  have hNN : 8 * (b.length - 4) ≤ 330000 := by omega
  generalize hp : b.take (b.length - 4) = p at *
  generalize leN p = V at *
  obtain ⟨N, hN⟩ : ∃ N, N = 8 * (b.length - 4) := ⟨_, rfl⟩
  rw [← hN] at hF' hV' hG0 hVlt hNN ⊢
  have hokv := fun o a (h : valsM V N c' (n' * c') [] 0 = .inr (o, a)) => okV_of q1 q2 q3 q4 h
  have hspec := vals_spec (V := V) (N := N) (c := c') (n' * c') [] 0 (Nat.zero_le _) (fun x hx => by simp at hx)
  cases hw : valsM V N c' (n' * c') [] 0 with
  | inl w =>
    obtain ⟨e, o⟩ := w
    have he := (hspec.1 e o hw).1
    have he0 : (e : Int) ≠ 0 := by omega
    rw [hw, vlA] at hV'
    simp only [decV, erA]
    simp (maxSteps := 4000000) (disch := omega) only [step, stepv, ev, wl, wn, wp, wz, aop, cV, cV1, AV.one, partCells, okW, onlyFr, app, sliceCells, cellsAt, srcA, subA, eqFs, Int.cast_ofNat_Int, simprocAttr, ac_deframe_Decode, shA, bs, hk, tt, ot]
    refine callQ.vc hE' ?_
    simp (maxSteps := 4000000) (disch := omega) only [step, stepv, ev, wl, wn, wp, wz, aop, cV, cV1, AV.one, partCells, okW, onlyFr, app, sliceCells, cellsAt, srcA, subA, eqFs, Int.cast_ofNat_Int, simprocAttr, ed, ed2, hc0]
    refine callQ.vc hO' ?_
    simp (maxSteps := 4000000) (disch := omega) only [step, stepv, ev, wl, wn, wp, wz, aop, cV, cV1, AV.one, partCells, okW, onlyFr, app, sliceCells, cellsAt, srcA, subA, eqFs, Int.cast_ofNat_Int, simprocAttr]
    refine callQ.vc hF' ?_
    simp (maxSteps := 4000000) (disch := omega) only [step, stepv, ev, wl, wn, wp, wz, aop, cV, cV1, AV.one, partCells, okW, onlyFr, app, sliceCells, cellsAt, srcA, subA, eqFs, Int.cast_ofNat_Int, simprocAttr]
    refine callQ.vc hV' ?_
    simp (maxSteps := 4000000) (disch := omega) only [step, stepv, ev, wl, wn, wp, wz, aop, cV, cV1, AV.one, partCells, okW, onlyFr, app, sliceCells, cellsAt, srcA, subA, eqFs, Int.cast_ofNat_Int, simprocAttr]
    simp [frzN, frzK, frzL, frzV]
  | inr w =>
    obtain ⟨o, a⟩ := w
    obtain ⟨hv, ha, hol⟩ := hokv o a hw
    rw [hw, vlA, n32A, u32L, List.length_map] at hV'
    simp only [decV]
    have hS' := hS c' x t (iL o) ht hI hv q5
    rw [shA, u32L, iL, List.length_map] at hS'
    by_cases h8 : 7 < N - a
    · have h12 : restM V N a = 12 := by unfold restM; rw [if_pos h8]
      rw [h12, if_pos (by omega), erA]
      simp (maxSteps := 4000000) (disch := omega) only [step, stepv, ev, wl, wn, wp, wz, aop, cV, cV1, AV.one, partCells, okW, onlyFr, app, sliceCells, cellsAt, srcA, subA, eqFs, Int.cast_ofNat_Int, simprocAttr, ac_deframe_Decode, shA, bs, hk, tt, ot]
      refine callQ.vc hE' ?_
      simp (maxSteps := 4000000) (disch := omega) only [step, stepv, ev, wl, wn, wp, wz, aop, cV, cV1, AV.one, partCells, okW, onlyFr, app, sliceCells, cellsAt, srcA, subA, eqFs, Int.cast_ofNat_Int, simprocAttr, ed, ed2, hc0]
      refine callQ.vc hO' ?_
      simp (maxSteps := 4000000) (disch := omega) only [step, stepv, ev, wl, wn, wp, wz, aop, cV, cV1, AV.one, partCells, okW, onlyFr, app, sliceCells, cellsAt, srcA, subA, eqFs, Int.cast_ofNat_Int, simprocAttr]
      refine callQ.vc hF' ?_
      simp (maxSteps := 4000000) (disch := omega) only [step, stepv, ev, wl, wn, wp, wz, aop, cV, cV1, AV.one, partCells, okW, onlyFr, app, sliceCells, cellsAt, srcA, subA, eqFs, Int.cast_ofNat_Int, simprocAttr]
      refine callQ.vc hV' ?_
      simp (maxSteps := 4000000) (disch := omega) only [step, stepv, ev, wl, wn, wp, wz, aop, cV, cV1, AV.one, partCells, okW, onlyFr, app, sliceCells, cellsAt, srcA, subA, eqFs, Int.cast_ofNat_Int, simprocAttr]
      simp [frzN, frzK, frzL, frzV]
    · have hG' := hG0 a (N - a) (by omega) (by omega)
      rw [if_neg (by omega)] at hG'
      have hlt : V / 2 ^ a < 2 ^ (N - a) := Nat.div_lt_of_lt_mul (by rw [← Nat.pow_add, show a + (N - a) = N by omega]; exact hVlt)
      rw [Nat.mod_eq_of_lt hlt] at hG'
      have eNa : (N : Int) - a = ((N - a : Nat) : Int) := by omega
      have h7 : 2 ^ (N - a) ≤ 2 ^ 7 := Nat.pow_le_pow_right (by omega) (by omega)
      have hr : restM V N a = if V / 2 ^ a = 0 then 0 else 12 := by unfold restM; rw [if_neg h8]
      rw [hr]
      generalize V / 2 ^ a = y at *
      obtain ⟨m, hm⟩ : ∃ m, m = N - a := ⟨_, rfl⟩
      rw [← hm] at hG' eNa
      have hm7 : m ≤ 7 := by omega
      by_cases h0 : y = 0
      · subst h0
        rw [if_pos rfl, if_neg (by omega)]
        have hG'' : VC P fG [.agg [.list (b.length - 4) (u8 p), .int .i64 N], .int .i64 a, .int .i64 m] (.tup [.int .u64 0, .int .i64 0]) := hG'
        simp (maxSteps := 4000000) (disch := omega) only [step, stepv, ev, wl, wn, wp, wz, aop, cV, cV1, AV.one, partCells, okW, onlyFr, app, sliceCells, cellsAt, srcA, subA, eqFs, Int.cast_ofNat_Int, simprocAttr, ac_deframe_Decode, shA, bs, hk, tt, ot]
        refine callQ.vc hE' ?_
        simp (maxSteps := 4000000) (disch := omega) only [step, stepv, ev, wl, wn, wp, wz, aop, cV, cV1, AV.one, partCells, okW, onlyFr, app, sliceCells, cellsAt, srcA, subA, eqFs, Int.cast_ofNat_Int, simprocAttr, ed, ed2, hc0]
        refine callQ.vc hO' ?_
        simp (maxSteps := 4000000) (disch := omega) only [step, stepv, ev, wl, wn, wp, wz, aop, cV, cV1, AV.one, partCells, okW, onlyFr, app, sliceCells, cellsAt, srcA, subA, eqFs, Int.cast_ofNat_Int, simprocAttr]
        refine callQ.vc hF' ?_
        simp (maxSteps := 4000000) (disch := omega) only [step, stepv, ev, wl, wn, wp, wz, aop, cV, cV1, AV.one, partCells, okW, onlyFr, app, sliceCells, cellsAt, srcA, subA, eqFs, Int.cast_ofNat_Int, simprocAttr]
        refine callQ.vc hV' ?_
        simp (maxSteps := 4000000) (disch := omega) only [step, stepv, ev, wl, wn, wp, wz, aop, cV, cV1, AV.one, partCells, okW, onlyFr, app, sliceCells, cellsAt, srcA, subA, eqFs, Int.cast_ofNat_Int, simprocAttr, eNa]
        refine callQ.vc hG'' ?_
        simp (maxSteps := 4000000) (disch := omega) only [step, stepv, ev, wl, wn, wp, wz, aop, cV, cV1, AV.one, partCells, okW, onlyFr, app, sliceCells, cellsAt, srcA, subA, eqFs, Int.cast_ofNat_Int, simprocAttr, hk, tt, ot]
        refine callQ.vc hS' ?_
        simp only [iL]
        generalize unB c' x t (o.map fun n : Nat => (n : Int)) = z at *
        unfold rngA
        by_cases h4 : checkN x z = 0
        · rw [if_neg (by omega)]
          simp (maxSteps := 4000000) (disch := omega) only [step, stepv, ev, wl, wn, wp, wz, aop, cV, cV1, AV.one, partCells, okW, onlyFr, app, sliceCells, cellsAt, srcA, subA, eqFs, Int.cast_ofNat_Int, simprocAttr, il]
          simp [frzN, frzK, frzL, frzV, frzL_T _ (isTL_ks _ _)]
        · rw [if_pos h4]
          simp (maxSteps := 4000000) (disch := omega) only [step, stepv, ev, wl, wn, wp, wz, aop, cV, cV1, AV.one, partCells, okW, onlyFr, app, sliceCells, cellsAt, srcA, subA, eqFs, Int.cast_ofNat_Int, simprocAttr]
          simp [frzN, frzK, frzL, frzV]
      · rw [if_neg h0, if_pos (by omega), erA]
        simp (maxSteps := 4000000) (disch := omega) only [step, stepv, ev, wl, wn, wp, wz, aop, cV, cV1, AV.one, partCells, okW, onlyFr, app, sliceCells, cellsAt, srcA, subA, eqFs, Int.cast_ofNat_Int, simprocAttr, ac_deframe_Decode, shA, bs, hk, tt, ot]
        refine callQ.vc hE' ?_
        simp (maxSteps := 4000000) (disch := omega) only [step, stepv, ev, wl, wn, wp, wz, aop, cV, cV1, AV.one, partCells, okW, onlyFr, app, sliceCells, cellsAt, srcA, subA, eqFs, Int.cast_ofNat_Int, simprocAttr, ed, ed2, hc0]
        refine callQ.vc hO' ?_
        simp (maxSteps := 4000000) (disch := omega) only [step, stepv, ev, wl, wn, wp, wz, aop, cV, cV1, AV.one, partCells, okW, onlyFr, app, sliceCells, cellsAt, srcA, subA, eqFs, Int.cast_ofNat_Int, simprocAttr]
        refine callQ.vc hF' ?_
        simp (maxSteps := 4000000) (disch := omega) only [step, stepv, ev, wl, wn, wp, wz, aop, cV, cV1, AV.one, partCells, okW, onlyFr, app, sliceCells, cellsAt, srcA, subA, eqFs, Int.cast_ofNat_Int, simprocAttr]
        refine callQ.vc hV' ?_
        simp (maxSteps := 4000000) (disch := omega) only [step, stepv, ev, wl, wn, wp, wz, aop, cV, cV1, AV.one, partCells, okW, onlyFr, app, sliceCells, cellsAt, srcA, subA, eqFs, Int.cast_ofNat_Int, simprocAttr, eNa]
        refine callQ.vc hG' ?_
        simp (maxSteps := 4000000) (disch := omega) only [step, stepv, ev, wl, wn, wp, wz, aop, cV, cV1, AV.one, partCells, okW, onlyFr, app, sliceCells, cellsAt, srcA, subA, eqFs, Int.cast_ofNat_Int, simprocAttr]
        simp [frzN, frzK, frzL, frzV]

end Go.Am

namespace Go.Am
open Go.RowKit

/-! ### verdict.values -/

def vlsM : (Nat × List Nat) ⊕ (List Nat × Nat) → List Nat
  | .inl (_, o) => o
  | .inr (o, _) => o
def allV (b : List UInt8) (c n : Nat) : (Nat × List Nat) ⊕ (List Nat × Nat) := valsM (leN (b.take (b.length - 4))) (8 * (b.take (b.length - 4)).length) c (n * c) [] 0
end Go.Am

namespace Go.Am
open Go.RowKit

/-! ### verdict.good -/

theorem mod_mul (m c : Nat) : (m * c) % c = 0 := Nat.mul_mod_left m c
/-! ### verdict.Judge -/

def errV (V N c : Nat) (x : Int) (t : List Int) (w : (Nat × List Nat) ⊕ (List Nat × Nat)) : Int :=
  match w with
  | .inl (e, _) => e
  | .inr (o, a) => if restM V N a ≠ 0 then 12 else checkN x (unB c x t (iL o))
def errD (c x : Int) (t : List Int) (n : Int) (b : List UInt8) : Int :=
  if ask21 c x n ≠ 0 then 2 else if openM b ≠ 0 then (openM b : Nat) else
    errV (leN (b.take (b.length - 4))) (8 * (b.take (b.length - 4)).length) c.toNat x t (allV b c.toNat n.toNat)
end Go.Am

namespace Go.Am
open Go.RowKit

/-! ### Silence, Heal -/

def decL (c x : Int) (t : List Int) (n : Int) (b : List UInt8) : List Int := if errD c x t n b = 0 then unB c.toNat x t (iL (vlsM (allV b c.toNat n.toNat))) else []
theorem dec_eq (c x n : Int) (t : List Int) (b : List UInt8) : decA c x t n b = .tup [il (decL c x t n b), .int .i64 (errD c x t n b)] ∧ (decL c x t n b).length ≤ 4000 := by
  unfold decA decL errD allV
  by_cases h1 : ask21 c x n = 0
  case neg => simp only [if_pos h1]; exact ⟨rfl, by simp⟩
  have a1 : ¬ (ask21 c x n ≠ 0) := by omega
  simp only [if_neg a1]
  by_cases h2 : openM b = 0
  case neg =>
    have h2' : ((openM b : Nat) : Int) ≠ 0 := by omega
    simp only [if_pos h2, if_neg h2']
    exact ⟨rfl, by simp⟩
  have a2 : ¬ (openM b ≠ 0) := by omega
  simp only [if_neg a2]
  obtain ⟨_, c', n', rfl, rfl, q1, q2, q3, q4, q5⟩ := ask21_cases h1
  simp only [Int.toNat_natCast]
  have hs := vals_spec (V := leN (b.take (b.length - 4))) (N := 8 * (b.take (b.length - 4)).length) (c := c') (n' * c') [] 0 (Nat.zero_le _) (fun x hx => by simp at hx)
  generalize leN (b.take (b.length - 4)) = V at *
  generalize 8 * (b.take (b.length - 4)).length = N at *
  cases hw : valsM V N c' (n' * c') [] 0 with
  | inl w =>
    obtain ⟨e, o⟩ := w
    have he := (hs.1 e o hw).1
    have he0 : ¬ ((e : Int) = 0) := by omega
    have he2 : ¬ (errV V N c' x t (.inl (e, o)) = 0) := he0
    rw [if_neg he2]
    exact ⟨rfl, by simp⟩
  | inr w =>
    obtain ⟨o, a⟩ := w
    obtain ⟨hv, ha, hol⟩ := okV_of q1 q2 q3 q4 hw
    simp only [decV, errV, vlsM]
    by_cases h3 : restM V N a = 0
    · have a3 : ¬ (restM V N a ≠ 0) := by omega
      simp only [if_neg a3]
      unfold rngA
      by_cases h4 : checkN x (unB c' x t (iL o)) = 0
      · have a4 : ¬ (checkN x (unB c' x t (iL o)) ≠ 0) := by omega
        simp only [if_neg a4, if_pos h4]
        rw [h4]
        exact ⟨rfl, by rw [unB_len]; simp only [iL, List.length_map]; omega⟩
      · simp only [if_pos h4, if_neg h4]
        exact ⟨rfl, by simp⟩
    · have a5 : ¬ ((12 : Int) = 0) := by omega
      simp only [if_pos h3, if_neg a5]
      exact ⟨rfl, by simp⟩
end Go.Am

namespace Go.Am
open Go.RowKit

/-! ### Codes (plain) -/

theorem N32.take {v : List Nat} (h : N32 v) (i : Nat) : N32 (v.take i) := fun x hx => h x (List.mem_of_mem_take hx)
theorem N32.getD {v : List Nat} (h : N32 v) (i : Nat) : v.getD i 0 < 4294967296 := by
  rw [List.getD_eq_getElem?_getD]
  cases hx : v[i]? with
  | none => simp
  | some x => exact h x (List.mem_of_getElem? hx)
def sealB (p : List UInt8) : List UInt8 := p ++ leB (sumM p) 4
end Go.Am

namespace Go.Am
open Go.RowKit

/-! ### Chapter 21: the examples hold -/


def S_mono (P : Prg) (f : Nat) : Prop := VC P f [] (shA 1 16)
theorem law21_mono {P : Prg} {f t0 : Nat} (bd : Body P f 2 [.cell 0 t0] (ac_cadenzalaw21_mono t0)) (ht : aggO P t0 = some (some 2)) : S_mono P f := by
  refine VC.of_acall rfl rfl (ACall.of_body bd (by simp) ?_)
  simp (maxSteps := 4000000) (disch := omega) only [step, stepv, ev, wl, wn, wp, wz, aop, cV, cV1, AV.one, partCells, okW, onlyFr, app, sliceCells, cellsAt, srcA, subA, eqFs, Int.cast_ofNat_Int, simprocAttr, ac_cadenzalaw21_mono, resA, ht, oneOf, shA]

def fr0 : List UInt8 := sealB [0, 0, 0]
theorem fr0_len : fr0.length = 7 := by decide +kernel
theorem I32_z16 : I32 z16 := by
  intro v hv
  have := List.eq_of_mem_replicate hv
  omega
theorem fr0_two : decA 1 16 z16 2 fr0 = .tup [il [0, 0], .int .i64 0] := by
  have h1 : decL 1 16 z16 2 fr0 = [0, 0] := by decide +kernel
  have h2 : errD 1 16 z16 2 fr0 = 0 := by decide +kernel
  rw [(dec_eq _ _ _ _ _).1, h1, h2]
theorem fr0_one : decA 1 16 z16 1 fr0 = .tup [il [], .int .i64 12] := by
  have h1 : decL 1 16 z16 1 fr0 = [] := by decide +kernel
  have h2 : errD 1 16 z16 1 fr0 = 12 := by decide +kernel
  rw [(dec_eq _ _ _ _ _).1, h1, h2]
theorem fr0_three : decA 1 16 z16 3 fr0 = .tup [il [], .int .i64 24] := by
  have h1 : decL 1 16 z16 3 fr0 = [] := by decide +kernel
  have h2 : errD 1 16 z16 3 fr0 = 24 := by decide +kernel
  rw [(dec_eq _ _ _ _ _).1, h1, h2]
theorem df_ex : dfA 1 16 z16 [2, 1] = .tup [il [1, -1], .int .i64 0] := by
  have h1 : unB 1 16 z16 [2, 1] = [1, -1] := by decide +kernel
  have h2 : checkN 16 [1, -1] = 0 := by decide +kernel
  have h3 : eCheck 1 16 = 0 := by decide +kernel
  have h4 := df_ok (k := 1) (x := 16) (t := z16) (v := [2, 1]) h3 (by decide) (by decide)
  rw [show ((1 : Nat) : Int) = 1 from rfl] at h4
  rw [h4, rngA, h1, if_neg (by omega)]

def S_alive21 (P : Prg) (f : Nat) : Prop := VC P f [] (.bool true)
set_option maxHeartbeats 1000000 in
theorem law21_alive {P : Prg} {f fM fS fZ fD fE t0 t1 t2 t3 : Nat} (bd : Body P f 65 [.tmp 0] (ac_cadenzalaw21_alive fM fS fZ fD fE t0 t1 t2 t3)) (hM : S_mono P fM) (hS : S_DSamples P fS) (hZ : S_Sealed P fZ) (hD : S_Decode P fD) (hE : S_ISame P fE) : S_alive21 P f := by
  refine VC.of_acall rfl rfl (ACall.of_body bd (by simp) ?_)
  have hS' := hS 1 16 z16 [2, 1] rfl I32_z16 (by intro x hx; simp at hx; omega)
  have hZ' := hZ [0, 0, 0] (by decide)
  have hD2 := hD 1 16 2 z16 fr0 rfl I32_z16 (by rw [fr0_len]; omega)
  have hD1 := hD 1 16 1 z16 fr0 rfl I32_z16 (by rw [fr0_len]; omega)
  have hD3 := hD 1 16 3 z16 fr0 rfl I32_z16 (by rw [fr0_len]; omega)
  have hE1 := hE [1, -1] (by decide)
  have hE2 := hE [0, 0] (by decide)
  rw [df_ex] at hS'
  rw [fr0_two] at hD2
  rw [fr0_one] at hD1
  rw [fr0_three] at hD3
  rw [show [0, 0, 0] ++ leB (sumM [0, 0, 0]) 4 = fr0 from rfl] at hZ'
  simp only [bs, fr0_len] at hZ' hD1 hD2 hD3
  generalize u8 fr0 = U at *
  have hM' : VC P fM [] (.agg [.int .i64 1, .int .i64 16]) := hM
  have hz : VC P fZ [.list 3 [.int .u8 0, .int .u8 0, .int .u8 0]] (.list 7 U) := hZ'
  have hs : VC P fS [.agg [.int .i64 1, .int .i64 16], .agg [.int .i32 0, .int .i32 0, .int .i32 0, .int .i32 0, .int .i32 0, .int .i32 0, .int .i32 0, .int .i32 0, .int .i32 0, .int .i32 0, .int .i32 0, .int .i32 0, .int .i32 0, .int .i32 0, .int .i32 0, .int .i32 0], .list 2 [.int .u32 2, .int .u32 1]] (.tup [.list 2 [.int .i32 1, .int .i32 (-1)], .int .i64 0]) := hS'
  have h2 : VC P fD [.agg [.int .i64 1, .int .i64 16], .agg [.int .i32 0, .int .i32 0, .int .i32 0, .int .i32 0, .int .i32 0, .int .i32 0, .int .i32 0, .int .i32 0, .int .i32 0, .int .i32 0, .int .i32 0, .int .i32 0, .int .i32 0, .int .i32 0, .int .i32 0, .int .i32 0], .int .i64 2, .list 7 U] (.tup [.list 2 [.int .i32 0, .int .i32 0], .int .i64 0]) := hD2
  have h1 : VC P fD [.agg [.int .i64 1, .int .i64 16], .agg [.int .i32 0, .int .i32 0, .int .i32 0, .int .i32 0, .int .i32 0, .int .i32 0, .int .i32 0, .int .i32 0, .int .i32 0, .int .i32 0, .int .i32 0, .int .i32 0, .int .i32 0, .int .i32 0, .int .i32 0, .int .i32 0], .int .i64 1, .list 7 U] (.tup [.list 0 [], .int .i64 12]) := hD1
  have h3 : VC P fD [.agg [.int .i64 1, .int .i64 16], .agg [.int .i32 0, .int .i32 0, .int .i32 0, .int .i32 0, .int .i32 0, .int .i32 0, .int .i32 0, .int .i32 0, .int .i32 0, .int .i32 0, .int .i32 0, .int .i32 0, .int .i32 0, .int .i32 0, .int .i32 0, .int .i32 0], .int .i64 3, .list 7 U] (.tup [.list 0 [], .int .i64 24]) := hD3
  have hE1' : VC P fE [.list 2 [.int .i32 1, .int .i32 (-1)], .list 2 [.int .i32 1, .int .i32 (-1)]] (.bool true) := hE1
  have hE2' : VC P fE [.list 2 [.int .i32 0, .int .i32 0], .list 2 [.int .i32 0, .int .i32 0]] (.bool true) := hE2
  clear hM hS hZ hD hE hS' hZ' hD1 hD2 hD3 hE1 hE2
  simp (maxSteps := 4000000) (disch := omega) only [step, stepv, ev, wl, wn, wp, wz, aop, cV, cV1, AV.one, partCells, okW, onlyFr, app, sliceCells, cellsAt, srcA, subA, eqFs, Int.cast_ofNat_Int, simprocAttr, ac_cadenzalaw21_alive]
  refine callD.vc hM' ?_
  simp (maxSteps := 4000000) (disch := omega) only [step, stepv, ev, wl, wn, wp, wz, aop, cV, cV1, AV.one, partCells, okW, onlyFr, app, sliceCells, cellsAt, srcA, subA, eqFs, Int.cast_ofNat_Int, simprocAttr, sealw, isDL, isD]
  refine callD.vc hs ?_
  simp (maxSteps := 4000000) (disch := omega) only [step, stepv, ev, wl, wn, wp, wz, aop, cV, cV1, AV.one, partCells, okW, onlyFr, app, sliceCells, cellsAt, srcA, subA, eqFs, Int.cast_ofNat_Int, simprocAttr]
  refine callQ.still 1 [2] hz ?_ ?_
  · simp [frzN, frzK, frzL, frzV]
  simp (maxSteps := 4000000) (disch := omega) only [step, stepv, ev, wl, wn, wp, wz, aop, cV, cV1, AV.one, partCells, okW, onlyFr, app, sliceCells, cellsAt, srcA, subA, eqFs, Int.cast_ofNat_Int, simprocAttr, stillAt]
  refine callD.vc hM' ?_
  simp (maxSteps := 4000000) (disch := omega) only [step, stepv, ev, wl, wn, wp, wz, aop, cV, cV1, AV.one, partCells, okW, onlyFr, app, sliceCells, cellsAt, srcA, subA, eqFs, Int.cast_ofNat_Int, simprocAttr]
  refine callD.vc h2 ?_
  simp (maxSteps := 4000000) (disch := omega) only [step, stepv, ev, wl, wn, wp, wz, aop, cV, cV1, AV.one, partCells, okW, onlyFr, app, sliceCells, cellsAt, srcA, subA, eqFs, Int.cast_ofNat_Int, simprocAttr]
  refine callD.vc hM' ?_
  simp (maxSteps := 4000000) (disch := omega) only [step, stepv, ev, wl, wn, wp, wz, aop, cV, cV1, AV.one, partCells, okW, onlyFr, app, sliceCells, cellsAt, srcA, subA, eqFs, Int.cast_ofNat_Int, simprocAttr]
  refine callD.vc h1 ?_
  simp (maxSteps := 4000000) (disch := omega) only [step, stepv, ev, wl, wn, wp, wz, aop, cV, cV1, AV.one, partCells, okW, onlyFr, app, sliceCells, cellsAt, srcA, subA, eqFs, Int.cast_ofNat_Int, simprocAttr]
  refine callD.vc hM' ?_
  simp (maxSteps := 4000000) (disch := omega) only [step, stepv, ev, wl, wn, wp, wz, aop, cV, cV1, AV.one, partCells, okW, onlyFr, app, sliceCells, cellsAt, srcA, subA, eqFs, Int.cast_ofNat_Int, simprocAttr]
  refine callD.vc h3 ?_
  simp (maxSteps := 4000000) (disch := omega) only [step, stepv, ev, wl, wn, wp, wz, aop, cV, cV1, AV.one, partCells, okW, onlyFr, app, sliceCells, cellsAt, srcA, subA, eqFs, Int.cast_ofNat_Int, simprocAttr]
  refine callQ.still 1 [3] hE1' ?_ ?_
  · simp [frzN, frzK, frzL, frzV]
  simp (maxSteps := 4000000) (disch := omega) only [step, stepv, ev, wl, wn, wp, wz, aop, cV, cV1, AV.one, partCells, okW, onlyFr, app, sliceCells, cellsAt, srcA, subA, eqFs, Int.cast_ofNat_Int, simprocAttr, stillAt]
  refine callQ.still 1 [4] hE2' ?_ ?_
  · simp [frzN, frzK, frzL, frzV]
  simp (maxSteps := 4000000) (disch := omega) only [step, stepv, ev, wl, wn, wp, wz, aop, cV, cV1, AV.one, partCells, okW, onlyFr, app, sliceCells, cellsAt, srcA, subA, eqFs, Int.cast_ofNat_Int, simprocAttr, stillAt]

end Go.Am

namespace Go.Am
open Go.RowKit

/-! ### Bursts are found (plain) -/

theorem xor_half (a b : Nat) : (a ^^^ b) / 2 = a / 2 ^^^ b / 2 := Nat.xor_div_two
theorem crcS_lin (a b : Nat) : crcS (a ^^^ b) = crcS a ^^^ crcS b := by
  unfold crcS
  rw [xor_half]
  have h := Nat.xor_mod_two_eq_one (a := a) (b := b)
  by_cases ha : a % 2 = 1 <;> by_cases hb : b % 2 = 1
  · rw [if_pos ha, if_pos hb, if_neg (by rw [h]; simp [ha, hb])]
    rw [Nat.xor_zero, Nat.xor_assoc, ← Nat.xor_assoc 3988292384, Nat.xor_comm 3988292384, Nat.xor_assoc, Nat.xor_self, Nat.xor_zero]
  · rw [if_pos ha, if_neg hb, if_pos (by rw [h]; simp [ha, hb]), Nat.xor_zero, Nat.xor_assoc, Nat.xor_assoc, Nat.xor_comm (b / 2)]
  · rw [if_neg ha, if_pos hb, if_pos (by rw [h]; simp [ha, hb]), Nat.xor_zero, Nat.xor_assoc]
  · rw [if_neg ha, if_neg hb, if_neg (by rw [h]; simp [ha, hb]), Nat.xor_zero, Nat.xor_zero, Nat.xor_zero]
theorem crcN_lin : ∀ (k a b : Nat), crcN k (a ^^^ b) = crcN k a ^^^ crcN k b
  | 0, _, _ => rfl
  | k + 1, a, b => by rw [crcN, crcN, crcN, crcS_lin, crcN_lin k]
theorem crcN_nil : ∀ k : Nat, crcN k 0 = 0
  | 0 => rfl
  | k + 1 => by rw [crcN, show crcS 0 = 0 from rfl, crcN_nil k]
theorem crcN_add : ∀ (j k c : Nat), crcN (j + k) c = crcN k (crcN j c)
  | 0, k, c => by rw [Nat.zero_add]; rfl
  | j + 1, k, c => by rw [Nat.add_right_comm, crcN, crcN_add j, crcN]
theorem xor_add {b h : Nat} (hb : b < 256) : b + 256 * h = b ^^^ 2 ^ 8 * h := by
  have := xor_split (b + 256 * h) 8
  rw [show (2 : Nat) ^ 8 = 256 from rfl] at this ⊢
  rwa [show (b + 256 * h) % 256 = b by omega, show (b + 256 * h) / 256 = h by omega] at this
theorem crcL_eq : ∀ (l : List UInt8) (s : Nat), crcL s l = crcN (8 * l.length) (s ^^^ leN l)
  | [], s => by simp [crcL, crcN, leN]
  | b :: l, s => by
    have hb := UInt8.toNat_lt b
    have e : leN (b :: l) = b.toNat ^^^ 2 ^ 8 * leN l := by rw [← xor_add hb]; rfl
    rw [show crcL s (b :: l) = crcL (crcB s b.toNat) l from rfl, crcL_eq l, e, ← Nat.xor_assoc, List.length_cons, show 8 * (l.length + 1) = 8 + 8 * l.length by omega, crcN_add, crcN_xor]
    rfl
end Go.Am

namespace Go.Am
open Go.RowKit

/-! ### Bits that are flipped (plain) -/

theorem errD_open {c x n : Int} {t : List Int} {b : List UInt8} (h : ask21 c x n = 0) (ho : openM b ≠ 0) : errD c x t n b = (openM b : Nat) := by
  unfold errD
  rw [if_neg (by omega), if_pos ho]
end Go.Am

namespace Go.Am
open Go.RowKit

/-! ### Names: what is said of some frames -/

def emL : List AV → List AV
  | [] => []
  | .emp _ :: l => .list 0 [] :: emL l
  | a :: l => a :: emL l
theorem RepL_emL {X : Cx} : ∀ (l : List AV) (vs : List Value), RepL X l vs → RepL X (emL l) vs
  | [], _, h => h
  | a :: l, vs, h => by
    simp only [RepL] at h
    obtain ⟨v, rest, e, g1, g2⟩ := h
    have h2 := RepL_emL l rest g2
    cases a with
    | emp z =>
      simp only [emL, RepL]
      refine ⟨v, rest, e, ?_, h2⟩
      simp only [Rep] at g1 ⊢
      obtain ⟨a, e, _⟩ := g1
      exact ⟨a, 0, [], e, Nat.le_refl _, .inl rfl, by simp [RepL]⟩
    | _ => simp only [emL, RepL]; exact ⟨v, rest, e, g1, h2⟩
theorem rep_u8s : ∀ n : Nat, repCells [.int .u8 0] n = u8 (List.replicate n 0)
  | 0 => rfl
  | n + 1 => by rw [repCells, rep_u8s n]; simp [u8, List.replicate_succ]
theorem VC.emp {P : Prg} {f : FuncId} (avs : List AV) {r : AV} (h : VC P f (emL avs) r) (hd : isDL avs = true) : VC P f avs r :=
  ⟨h.1, hd, h.2.2.1, fun w C vs hC hG hr => h.2.2.2 w C vs hC hG (RepL_emL _ _ hr)⟩

def z16L : List AV := [.int .i32 0, .int .i32 0, .int .i32 0, .int .i32 0, .int .i32 0, .int .i32 0, .int .i32 0, .int .i32 0, .int .i32 0, .int .i32 0, .int .i32 0, .int .i32 0, .int .i32 0, .int .i32 0, .int .i32 0, .int .i32 0]
end Go.Am

namespace Go.Am
open Go.RowKit

/-! ### Many zero bytes: their sum (plain) -/

def appX : List Nat → Nat → Nat
  | [], _ => 0
  | m :: ms, c => (if c % 2 = 1 then m else 0) ^^^ appX ms (c / 2)
theorem two_mul_xor' (a x y : Nat) : 2 ^ a * (x ^^^ y) = 2 ^ a * x ^^^ 2 ^ a * y := by
  apply Nat.eq_of_testBit_eq
  intro j
  simp only [Nat.testBit_two_pow_mul, Nat.testBit_xor]
  cases decide (j ≥ a) <;> simp
theorem appX_ok (k : Nat) : ∀ (n j c : Nat), c < 2 ^ n → appX ((List.range' j n).map fun i => crcN k (2 ^ i)) c = crcN k (2 ^ j * c)
  | 0, j, c, h => by
    have : c = 0 := by rw [Nat.pow_zero] at h; omega
    subst this
    simp [appX, crcN_nil]
  | n + 1, j, c, h => by
    rw [List.range'_succ, List.map_cons, appX, appX_ok k n (j + 1) (c / 2) (by rw [Nat.pow_succ] at h; omega)]
    by_cases hc : c % 2 = 1
    · rw [if_pos hc, ← crcN_lin]
      congr 1
      have e : c = 1 ^^^ 2 ^ 1 * (c / 2) := by
        have := xor_split c 1
        rw [Nat.pow_one, hc] at this
        rw [Nat.pow_one]
        exact this
      conv => rhs; rw [e, two_mul_xor', ← Nat.mul_assoc, ← Nat.pow_add, Nat.mul_one]
    · rw [if_neg hc, Nat.zero_xor]
      congr 1
      rw [Nat.pow_succ, Nat.mul_assoc]
      congr 1
      omega
def okX (k : Nat) (ms : List Nat) : Prop := ms = (List.range' 0 32).map fun i => crcN k (2 ^ i)
theorem okX_app {k : Nat} {ms : List Nat} (h : okX k ms) {c : Nat} (hc : c < 4294967296) : appX ms c = crcN k c := by
  unfold okX at h
  rw [h, appX_ok k 32 0 c hc, Nat.pow_zero, Nat.one_mul]
theorem okX_dbl {k n : Nat} {ms ns : List Nat} (h : okX k ms) (e : ms.map (appX ms) = ns) (hn : k + k = n) : okX n ns := by
  subst hn
  have h' := h
  unfold okX at h' ⊢
  rw [← e]
  conv => lhs; arg 2; rw [h']
  rw [List.map_map]
  apply List.map_congr_left
  intro i hi
  have h3 : i < 32 := by
    have := List.mem_range'_1.1 hi
    omega
  have h2 : 2 ^ i < 4294967296 := by
    have : 2 ^ i < 2 ^ 32 := Nat.pow_lt_pow_right (by decide) h3
    omega
  have h1 : crcN k (2 ^ i) < 4294967296 := crcN_lt k h2
  show appX ms (crcN k (2 ^ i)) = _
  rw [okX_app h h1, crcN_add]
def mX0 : List Nat := [3988292384, 1, 2, 4, 8, 16, 32, 64, 128, 256, 512, 1024, 2048, 4096, 8192, 16384, 32768, 65536, 131072, 262144, 524288, 1048576, 2097152, 4194304, 8388608, 16777216, 33554432, 67108864, 134217728, 268435456, 536870912, 1073741824]
def mX1 : List Nat := [1994146192, 3988292384, 1, 2, 4, 8, 16, 32, 64, 128, 256, 512, 1024, 2048, 4096, 8192, 16384, 32768, 65536, 131072, 262144, 524288, 1048576, 2097152, 4194304, 8388608, 16777216, 33554432, 67108864, 134217728, 268435456, 536870912]
def mX2 : List Nat := [498536548, 997073096, 1994146192, 3988292384, 1, 2, 4, 8, 16, 32, 64, 128, 256, 512, 1024, 2048, 4096, 8192, 16384, 32768, 65536, 131072, 262144, 524288, 1048576, 2097152, 4194304, 8388608, 16777216, 33554432, 67108864, 134217728]
def mX3 : List Nat := [1996959894, 3993919788, 124634137, 249268274, 498536548, 997073096, 1994146192, 3988292384, 1, 2, 4, 8, 16, 32, 64, 128, 256, 512, 1024, 2048, 4096, 8192, 16384, 32768, 65536, 131072, 262144, 524288, 1048576, 2097152, 4194304, 8388608]
def mX4 : List Nat := [421212481, 842424962, 1684849924, 3369699848, 1254232657, 2508465314, 4034481925, 998479947, 1996959894, 3993919788, 124634137, 249268274, 498536548, 997073096, 1994146192, 3988292384, 1, 2, 4, 8, 16, 32, 64, 128, 256, 512, 1024, 2048, 4096, 8192, 16384, 32768]
def mX5 : List Nat := [3099354981, 2852767883, 2405603159, 3316918511, 1343838111, 2687676222, 2601801789, 3982079547, 29518391, 59036782, 118073564, 236147128, 472294256, 944588512, 1889177024, 3778354048, 421212481, 842424962, 1684849924, 3369699848, 1254232657, 2508465314, 4034481925, 998479947, 1996959894, 3993919788, 124634137, 249268274, 498536548, 997073096, 1994146192, 3988292384]
def mX6 : List Nat := [3433693342, 1109723005, 2219446010, 3555007413, 2092642603, 4185285206, 698204909, 1396409818, 2792819636, 2543784233, 4098827283, 871321191, 1742642382, 3485284764, 1141601657, 2283203314, 3411858341, 1304994059, 2609988118, 3964895853, 64357019, 128714038, 257428076, 514856152, 1029712304, 2059424608, 4118849216, 812665793, 1625331586, 3250663172, 1492342857, 2984685714]
def mX7 : List Nat := [2926088593, 2275419491, 3560000647, 1930665807, 3861331614, 390036349, 780072698, 1560145396, 3120290792, 2827399569, 2323408227, 3481914503, 1147313999, 2294627998, 3405478781, 1317531835, 2635063670, 3782132909, 430739227, 861478454, 1722956908, 3445913816, 1102706673, 2205413346, 3717650821, 1616688459, 3233376918, 1510200173, 3020400346, 3011398645, 3180171691, 2691310871]
def mX8 : List Nat := [4057597354, 952438037, 1904876074, 3809752148, 492400361, 984800722, 1969601444, 3939202888, 250079441, 500158882, 1000317764, 2000635528, 4001271056, 126622817, 253245634, 506491268, 1012982536, 2025965072, 4051930144, 947265025, 1894530050, 3789060100, 415364681, 830729362, 1661458724, 3322917448, 1466852049, 2933704098, 2261290245, 3605011531, 1991327447, 3982654894]
def mX9 : List Nat := [2402626965, 3306904939, 1363655831, 2727311662, 2658137117, 3887001211, 338483895, 676967790, 1353935580, 2707871160, 2579279153, 3892861987, 190955015, 381910030, 763820060, 1527640120, 3055280240, 3074868897, 3053226755, 2961707079, 3126929103, 2947763167, 2216137215, 3546162623, 2110606655, 4221213310, 742666941, 1485333882, 2970667764, 3109065641, 2848989459, 2295415911]
def mX10 : List Nat := [872412467, 1744824934, 3489649868, 1150201817, 2300403634, 3377183013, 1239839755, 2479679510, 4243117677, 580954779, 1161909558, 2323819116, 3463729817, 1201251187, 2402502374, 3306654605, 1365119323, 2730238646, 2651407149, 3882057755, 364250743, 728501486, 1457002972, 2914005944, 2148622641, 3679700003, 1842777607, 3685555214, 1814773341, 3629546682, 1809710901, 3619421802]
def mX11 : List Nat := [3459477963, 1192748503, 2385497006, 3341717789, 1428956283, 2857912566, 2411829165, 3304204571, 1385518199, 2771036398, 2435078045, 4181305723, 688018615, 1376037230, 2752074460, 2472780793, 4256580019, 538805543, 1077611086, 2155222172, 3684511609, 1816877235, 3633754470, 1784439949, 3568879898, 1912640629, 3825281258, 326326165, 652652330, 1305304660, 2610609320, 3963911953]
def mX12 : List Nat := [275962664, 551925328, 1103850656, 2207701312, 3697063105, 1674080195, 3348160390, 1414576461, 2829152922, 2318656373, 3474374827, 1163691799, 2327383598, 3456309789, 1198994043, 2397988086, 3333279661, 1445632283, 2891264566, 2212192813, 3704078875, 1660846711, 3321693422, 1351290781, 2702581562, 2573023285, 3922425387, 149416471, 298832942, 597665884, 1195331768, 2390663536]
def mX13 : List Nat := [4170314095, 710075551, 1420151102, 2840302204, 2313560761, 3367846707, 1242267687, 2484535374, 4083091165, 1036979195, 2073958390, 4147916780, 889805209, 1779610418, 3559220836, 1933298313, 3866596626, 396242021, 792484042, 1584968084, 3169936168, 2727591953, 2656470627, 3889957511, 348721999, 697443998, 1394887996, 2789775992, 2548052657, 4105265955, 840155143, 1680310286]
def mX14 : List Nat := [2293676643, 3390861959, 1330242383, 2660484766, 3864431485, 400298171, 800596342, 1601192684, 3202385368, 2796555761, 2517704099, 4149427463, 903314511, 1806629022, 3613258044, 1976230969, 3952461938, 207263397, 414526794, 829053588, 1658107176, 3316214352, 1344525025, 2689050050, 2617134533, 3968703947, 40517079, 81034158, 162068316, 324136632, 648273264, 1296546528]
def mX15 : List Nat := [1524148524, 3048297048, 2954076913, 3142992803, 2916974855, 2160723023, 3672444639, 1857756159, 3715512318, 1637706173, 3275412346, 1560584373, 3121168746, 2942534805, 2243301227, 3491567767, 2068526959, 4137053918, 912120829, 1824241658, 3648483316, 1772083625, 3544167250, 2098094309, 4196188618, 793282005, 1586564010, 3173128020, 2704615657, 2568705939, 3913787751, 167662735]
def mX16 : List Nat := [3043423970, 2981948293, 3087585611, 2875237591, 2377142255, 3222378911, 1532114303, 3064228606, 3057243069, 3070402875, 3044295735, 2979630639, 3091339807, 2884973183, 2358993599, 3259482943, 1610514495, 3221028990, 2760574653, 2456226619, 4290711607, 604972591, 1209945182, 2419890364, 4211619641, 761358387, 1522716774, 3045433548, 2960803801, 3146090995, 2893682087, 2206543119]
def mX17 : List Nat := [2643536319, 3763557695, 467119167, 934238334, 1868476668, 3736953336, 1712047537, 3424095074, 1130238085, 2260476170, 3590931541, 2003013355, 4006026710, 117390829, 234781658, 469563316, 939126632, 1878253264, 3756506528, 1690205441, 3380410882, 1233711685, 2467423370, 4250062677, 567580907, 1135161814, 2270323628, 3587555609, 1893368947, 3786737894, 404428685, 808857370]
def mX18 : List Nat := [786709036, 1573418072, 3146836144, 2890979105, 2211489795, 3704641095, 1657907919, 3315815838, 1345826173, 2691652346, 2611983285, 3962462507, 53330967, 106661934, 213323868, 426647736, 853295472, 1706590944, 3413181888, 1301482945, 2602965890, 3980210501, 17523915, 35047830, 70095660, 140191320, 280382640, 560765280, 1121530560, 2243061120, 3491089729, 2069535939]
theorem kX0 : okX 1 mX0 := by unfold okX; decide +kernel
theorem kX1 : okX 2 mX1 := okX_dbl kX0 (by decide +kernel) (by decide)
theorem kX2 : okX 4 mX2 := okX_dbl kX1 (by decide +kernel) (by decide)
theorem kX3 : okX 8 mX3 := okX_dbl kX2 (by decide +kernel) (by decide)
theorem kX4 : okX 16 mX4 := okX_dbl kX3 (by decide +kernel) (by decide)
theorem kX5 : okX 32 mX5 := okX_dbl kX4 (by decide +kernel) (by decide)
theorem kX6 : okX 64 mX6 := okX_dbl kX5 (by decide +kernel) (by decide)
theorem kX7 : okX 128 mX7 := okX_dbl kX6 (by decide +kernel) (by decide)
theorem kX8 : okX 256 mX8 := okX_dbl kX7 (by decide +kernel) (by decide)
theorem kX9 : okX 512 mX9 := okX_dbl kX8 (by decide +kernel) (by decide)
theorem kX10 : okX 1024 mX10 := okX_dbl kX9 (by decide +kernel) (by decide)
theorem kX11 : okX 2048 mX11 := okX_dbl kX10 (by decide +kernel) (by decide)
theorem kX12 : okX 4096 mX12 := okX_dbl kX11 (by decide +kernel) (by decide)
theorem kX13 : okX 8192 mX13 := okX_dbl kX12 (by decide +kernel) (by decide)
theorem kX14 : okX 16384 mX14 := okX_dbl kX13 (by decide +kernel) (by decide)
theorem kX15 : okX 32768 mX15 := okX_dbl kX14 (by decide +kernel) (by decide)
theorem kX16 : okX 65536 mX16 := okX_dbl kX15 (by decide +kernel) (by decide)
theorem kX17 : okX 131072 mX17 := okX_dbl kX16 (by decide +kernel) (by decide)
theorem kX18 : okX 262144 mX18 := okX_dbl kX17 (by decide +kernel) (by decide)
theorem crc_330000 : crcN 330000 4294967295 ≠ 4294967295 := by
  have l : ∀ k c, c < 4294967296 → crcN k c < 4294967296 := fun k c h => crcN_lt k h
  have e : crcN 330000 4294967295 = crcN 262144 (crcN 65536 (crcN 2048 (crcN 256 (crcN 16 4294967295)))) := by
    rw [← crcN_add, ← crcN_add, ← crcN_add, ← crcN_add]
  have h0 : 4294967295 < 4294967296 := by decide
  rw [e, ← okX_app kX18 (l _ _ (l _ _ (l _ _ (l _ _ h0)))), ← okX_app kX16 (l _ _ (l _ _ (l _ _ h0))), ← okX_app kX11 (l _ _ (l _ _ h0)), ← okX_app kX8 (l _ _ h0), ← okX_app kX4 h0]
  decide +kernel
theorem leN_zeros : ∀ n : Nat, leN (List.replicate n 0) = 0
  | 0 => rfl
  | n + 1 => by rw [List.replicate_succ, leN, leN_zeros n]; rfl
theorem open_zeros : openM (List.replicate 41254 0) = 22 := by
  rw [openM, List.length_replicate, if_neg (by decide), if_neg (by decide), if_neg]
  rw [List.drop_replicate, List.take_replicate, leN_zeros, sumM, crcL_eq, leN_zeros, List.length_replicate, Nat.xor_zero]
  have h1 := crc_330000
  have h2 : crcN 330000 4294967295 < 4294967296 := crcN_lt _ (by decide)
  rw [show 8 * min (41254 - 4) 41254 = 330000 by decide]
  omega

end Go.Am

namespace Go.Am
open Go.RowKit

/-! ### The law DeframeNames -/

theorem decN {P : Prg} {f : Nat} (hD : S_Decode P f) (c x n : Int) (b : List UInt8) (e : Int) (l : List Int) (hb : b.length ≤ 1000000) (h1 : errD c x z16 n b = e) (h2 : decL c x z16 n b = l) : VC P f [.agg [.int .i64 c, .int .i64 x], .agg z16L, .int .i64 n, bs b] (.tup [il l, .int .i64 e]) := by
  have := hD c x n z16 b rfl I32_z16 hb
  rw [(dec_eq c x n z16 b).1, h1, h2] at this
  exact this
theorem decE {P : Prg} {f : Nat} (hD : S_Decode P f) (c x n : Int) (b : List UInt8) (e : Int) (hb : b.length ≤ 1000000) (h1 : errD c x z16 n b = e) (h2 : e ≠ 0) : VC P f [.agg [.int .i64 c, .int .i64 x], .agg z16L, .int .i64 n, bs b] (.tup [.list 0 [], .int .i64 e]) := by
  have := decN hD c x n b e [] hb h1 (by unfold decL; rw [if_neg (by omega)])
  exact this
theorem samE {P : Prg} {f : Nat} (hS : S_DSamples P f) (c x : Int) (v : List Int) (e : Int) (hU : U32 v) (h : dfA c x z16 v = erA e) : VC P f [.agg [.int .i64 c, .int .i64 x], .agg z16L, u32L v] (.tup [.list 0 [], .int .i64 e]) := by
  have := hS c x z16 v rfl I32_z16 hU
  rw [h] at this
  exact this
theorem U32_zeros (n : Nat) : U32 (List.replicate n 0) := by
  intro v hv
  have := List.eq_of_mem_replicate hv
  omega

set_option maxHeartbeats 4000000 in
set_option maxRecDepth 20000 in
theorem law21_DeframeNames {P : Prg} {f fS fD fZ fA fI t0 t1 t2 t3 t4 : Nat} (bd : Body P f 242 [.tmp 0] (ac_cadenzalaw21_DeframeNames fS fD fZ fA fI t0 t1 t2 t3 t4)) (hS : S_DSamples P fS) (hD : S_Decode P fD) (hZ : S_Sealed P fZ) (hA : S_alive21 P fA) (hI0 : S_ISame P fI) : S_alive21 P f := by
  refine VC.of_acall rfl rfl (ACall.of_body bd (by simp) ?_)
  have er1 : repCells [.int .u32 0] 4001 = ks .u32 (List.replicate 4001 0) := rep_ks .u32 4001
  have er2 : repCells [.int .u32 0] (Int.toNat 4001) = ks .u32 (List.replicate 4001 0) := er1
  have er3 : repCells [.int .u8 0] 41255 = u8 (List.replicate 41255 0) := rep_u8s 41255
  have er4 : repCells [.int .u8 0] (Int.toNat 41255) = u8 (List.replicate 41255 0) := er3
  have er5 : repCells [.int .u8 0] 41254 = u8 (List.replicate 41254 0) := rep_u8s 41254
  have er6 : repCells [.int .u8 0] (Int.toNat 41254) = u8 (List.replicate 41254 0) := er5
  have tV := isTL_ks .u32 (List.replicate 4001 0)
  have tG := isT_u8 (List.replicate 41255 0)
  have tH := isT_u8 (List.replicate 41254 0)
  have S0 := samE hS 0 0 (List.replicate 4001 0) 2 (U32_zeros _) (df_err (by decide +kernel))
  have S1 := samE hS 7 8 (List.replicate 4001 0) 2 (U32_zeros _) (df_err (by decide +kernel))
  have S2 := samE hS 1 9 (List.replicate 4001 0) 2 (U32_zeros _) (df_err (by decide +kernel))
  have S3 := samE hS 2 8 (List.replicate 4001 0) 4 (U32_zeros _) (df_big (by decide +kernel) (by rw [List.length_replicate]; decide))
  have S4 : VC P fS [.agg [.int .i64 2, .int .i64 8], .agg z16L, .emp true] (.tup [.list 0 [], .int .i64 2]) := VC.emp _ (samE hS 2 8 [] 2 (U32_zeros 0) (df_odd (by decide +kernel) (by decide) (by decide))) rfl
  have S5 : VC P fS [.agg [.int .i64 2, .int .i64 8], .agg z16L, .list 3 [.int .u32 0, .int .u32 0, .int .u32 0]] (.tup [.list 0 [], .int .i64 2]) := samE hS 2 8 [0, 0, 0] 2 (U32_zeros 3) (df_odd (by decide +kernel) (by decide) (by decide))
  have S6 : VC P fS [.agg [.int .i64 2, .int .i64 8], .agg z16L, .list 2 [.int .u32 0, .int .u32 256]] (.tup [.list 0 [], .int .i64 16]) := samE hS 2 8 [0, 256] 16 (by intro v hv; simp at hv; omega) (by
    have h4 := df_ok (k := 2) (x := 8) (t := z16) (v := [0, 256]) (by decide +kernel) (by decide) (by decide)
    rw [show ((2 : Nat) : Int) = 2 from rfl] at h4
    rw [h4, rngA, if_pos (by decide +kernel), show checkN 8 (unB 2 8 z16 [0, 256]) = 16 by decide +kernel]; rfl)
  have D0 : VC P fD [.agg [.int .i64 0, .int .i64 0], .agg z16L, .int .i64 0, .emp true] (.tup [.list 0 [], .int .i64 2]) := VC.emp _ (decE hD 0 0 0 [] 2 (by decide) (by decide +kernel) (by decide)) rfl
  have D1 : VC P fD [.agg [.int .i64 7, .int .i64 8], .agg z16L, .int .i64 0, .emp true] (.tup [.list 0 [], .int .i64 2]) := VC.emp _ (decE hD 7 8 0 [] 2 (by decide) (by decide +kernel) (by decide)) rfl
  have D2 : VC P fD [.agg [.int .i64 1, .int .i64 9], .agg z16L, .int .i64 0, .emp true] (.tup [.list 0 [], .int .i64 2]) := VC.emp _ (decE hD 1 9 0 [] 2 (by decide) (by decide +kernel) (by decide)) rfl
  have D3 : VC P fD [.agg [.int .i64 2, .int .i64 8], .agg z16L, .int .i64 0, .emp true] (.tup [.list 0 [], .int .i64 2]) := VC.emp _ (decE hD 2 8 0 [] 2 (by decide) (by decide +kernel) (by decide)) rfl
  have D4 : VC P fD [.agg [.int .i64 2, .int .i64 8], .agg z16L, .int .i64 2001, .emp true] (.tup [.list 0 [], .int .i64 2]) := VC.emp _ (decE hD 2 8 2001 [] 2 (by decide) (by decide +kernel) (by decide)) rfl
  have D5 : VC P fD [.agg [.int .i64 2, .int .i64 8], .agg z16L, .int .i64 2000, .list 4 [.int .u8 0, .int .u8 0, .int .u8 0, .int .u8 0]] (.tup [.list 0 [], .int .i64 24]) := decE hD 2 8 2000 [0, 0, 0, 0] 24 (by decide) (by decide +kernel) (by decide)
  have a0 : ask21 2 8 1 = 0 := by decide +kernel
  have o4 : openM (List.replicate 41255 0) = 4 := by rw [openM, List.length_replicate, if_neg (by decide), if_pos (by decide)]
  have D6 := decE hD 2 8 1 (List.replicate 41255 0) 4 (by rw [List.length_replicate]; decide) (by rw [errD_open a0 (by omega), o4]; rfl) (by decide)
  have o5 := open_zeros
  have D7 := decE hD 2 8 1 (List.replicate 41254 0) 22 (by rw [List.length_replicate]; decide) (by rw [errD_open a0 (by omega), o5]; rfl) (by decide)
  have L8 : (sealB [0, 0, 64]).length = 7 := by decide +kernel
  have L9 : (sealB [0, 0, 0, 0]).length = 8 := by decide +kernel
  have L10 : (sealB [0, 0, 0]).length = 7 := by decide +kernel
  have L11 : (sealB [0, 2]).length = 6 := by decide +kernel
  have L12 : (sealB [254, 1]).length = 6 := by decide +kernel
  have D8 := decE hD 2 8 1 (sealB [0, 0, 64]) 12 (by rw [L8]; decide) (by decide +kernel) (by decide)
  have D9 := decE hD 2 8 1 (sealB [0, 0, 0, 0]) 12 (by rw [L9]; decide) (by decide +kernel) (by decide)
  have D10 := decN hD 2 8 1 (sealB [0, 0, 0]) 0 [0, 0] (by rw [L10]; decide) (by decide +kernel) (by decide +kernel)
  have D11 := decE hD 1 8 1 (sealB [0, 2]) 16 (by rw [L11]; decide) (by decide +kernel) (by decide)
  have D12 := decN hD 1 8 1 (sealB [254, 1]) 0 [-128] (by rw [L12]; decide) (by decide +kernel) (by decide +kernel)
  have Z8 := hZ [0, 0, 64] (by decide)
  have Z9 := hZ [0, 0, 0, 0] (by decide)
  have Z10 := hZ [0, 0, 0] (by decide)
  have Z11 := hZ [0, 2] (by decide)
  have Z12 := hZ [254, 1] (by decide)
  have I1 : VC P fI [.list 2 [.int .i32 0, .int .i32 0], .list 2 [.int .i32 0, .int .i32 0]] (.bool true) := hI0 [0, 0] (by decide)
  have I2 : VC P fI [.list 1 [.int .i32 (-128)], .list 1 [.int .i32 (-128)]] (.bool true) := hI0 [-128] (by decide)
  rw [← sealB] at Z8 Z9 Z10 Z11 Z12
  simp only [bs, u32L, L8, L9, L10, L11, L12, List.length_replicate] at D6 D7 D8 D9 D10 D11 D12 Z8 Z9 Z10 Z11 Z12 S0 S1 S2 S3
  generalize ks .u32 (List.replicate 4001 0) = V at *
  generalize u8 (List.replicate 41255 0) = G at *
  generalize u8 (List.replicate 41254 0) = H at *
  generalize u8 (sealB [0, 0, 64]) = U8 at *
  generalize u8 (sealB [0, 0, 0, 0]) = U9 at *
  generalize u8 (sealB [0, 0, 0]) = U10 at *
  generalize u8 (sealB [0, 2]) = U11 at *
  generalize u8 (sealB [254, 1]) = U12 at *
  have z8 : VC P fZ [.list 3 [.int .u8 0, .int .u8 0, .int .u8 64]] (.list 7 U8) := Z8
  have z9 : VC P fZ [.list 4 [.int .u8 0, .int .u8 0, .int .u8 0, .int .u8 0]] (.list 8 U9) := Z9
  have z10 : VC P fZ [.list 3 [.int .u8 0, .int .u8 0, .int .u8 0]] (.list 7 U10) := Z10
  have z11 : VC P fZ [.list 2 [.int .u8 0, .int .u8 2]] (.list 6 U11) := Z11
  have z12 : VC P fZ [.list 2 [.int .u8 254, .int .u8 1]] (.list 6 U12) := Z12
  have d10 : VC P fD [.agg [.int .i64 2, .int .i64 8], .agg z16L, .int .i64 1, .list 7 U10] (.tup [.list 2 [.int .i32 0, .int .i32 0], .int .i64 0]) := D10
  have d12 : VC P fD [.agg [.int .i64 1, .int .i64 8], .agg z16L, .int .i64 1, .list 6 U12] (.tup [.list 1 [.int .i32 (-128)], .int .i64 0]) := D12
  have hA' : VC P fA [] (.bool true) := hA
  clear Z8 Z9 Z10 Z11 Z12 D10 D12 hS hD hZ hA hI0 a0 o4 o5 L8 L9 L10 L11 L12
  simp only [z16L] at S0 S1 S2 S3 S4 S5 S6 D0 D1 D2 D3 D4 D5 D6 D7 D8 D9 d10 D11 d12
  simp (maxSteps := 4000000) (disch := omega) only [step, stepv, ev, wl, wn, wp, wz, aop, cV, cV1, AV.one, partCells, okW, onlyFr, app, sliceCells, cellsAt, srcA, subA, eqFs, Int.cast_ofNat_Int, simprocAttr, ac_cadenzalaw21_DeframeNames]
  refine ALoop.by (ι := Nat) (fun i => ⟨[(3, .int .i64 i), (2, .own 1 3), (1, .ref 0 1 0)], [⟨t0, 16, 1, z16L, 0⟩, ⟨t1, 2, 3, [.int .i64 0, .int .i64 0, .int .i64 7, .int .i64 8, .int .i64 1, .int .i64 9], 0⟩]⟩) (fun i => i ≤ 3) (fun i => 3 - i) 0 ?_ (by omega) ?_
  · exact Le.slots (by simp [Am.look])
  intro i hi
  have hc : i = 0 ∨ i = 1 ∨ i = 2 ∨ i = 3 := by omega
  rcases hc with rfl | rfl | rfl | rfl
  · simp (maxSteps := 4000000) (disch := omega) only [step, stepv, ev, wl, wn, wp, wz, aop, cV, cV1, AV.one, partCells, okW, onlyFr, app, sliceCells, cellsAt, srcA, subA, eqFs, Int.cast_ofNat_Int, simprocAttr, z16L, ↓er1, ↓er2]
    refine callD.still 1 2 rfl (by simp [ph]) S0 (by simp [frzN, frzK, frzL, frzV, frzL_T _ tV]) ?_
    simp (maxSteps := 4000000) (disch := omega) only [step, stepv, ev, wl, wn, wp, wz, aop, cV, cV1, AV.one, partCells, okW, onlyFr, app, sliceCells, cellsAt, srcA, subA, eqFs, Int.cast_ofNat_Int, simprocAttr, z16L]
    refine callD.vc D0 ?_
    simp (maxSteps := 4000000) (disch := omega) only [step, stepv, ev, wl, wn, wp, wz, aop, cV, cV1, AV.one, partCells, okW, onlyFr, app, sliceCells, cellsAt, srcA, subA, eqFs, Int.cast_ofNat_Int, simprocAttr]
    refine ⟨1, by omega, by omega, Le.dropT [_, _] (by simp [z16L, isTL, isT]) (by simp [Am.look, frzK, frzL, frzV])⟩
  · simp (maxSteps := 4000000) (disch := omega) only [step, stepv, ev, wl, wn, wp, wz, aop, cV, cV1, AV.one, partCells, okW, onlyFr, app, sliceCells, cellsAt, srcA, subA, eqFs, Int.cast_ofNat_Int, simprocAttr, z16L, ↓er1, ↓er2]
    refine callD.still 1 2 rfl (by simp [ph]) S1 (by simp [frzN, frzK, frzL, frzV, frzL_T _ tV]) ?_
    simp (maxSteps := 4000000) (disch := omega) only [step, stepv, ev, wl, wn, wp, wz, aop, cV, cV1, AV.one, partCells, okW, onlyFr, app, sliceCells, cellsAt, srcA, subA, eqFs, Int.cast_ofNat_Int, simprocAttr, z16L]
    refine callD.vc D1 ?_
    simp (maxSteps := 4000000) (disch := omega) only [step, stepv, ev, wl, wn, wp, wz, aop, cV, cV1, AV.one, partCells, okW, onlyFr, app, sliceCells, cellsAt, srcA, subA, eqFs, Int.cast_ofNat_Int, simprocAttr]
    refine ⟨2, by omega, by omega, Le.dropT [_, _] (by simp [z16L, isTL, isT]) (by simp [Am.look, frzK, frzL, frzV])⟩
  · simp (maxSteps := 4000000) (disch := omega) only [step, stepv, ev, wl, wn, wp, wz, aop, cV, cV1, AV.one, partCells, okW, onlyFr, app, sliceCells, cellsAt, srcA, subA, eqFs, Int.cast_ofNat_Int, simprocAttr, z16L, ↓er1, ↓er2]
    refine callD.still 1 2 rfl (by simp [ph]) S2 (by simp [frzN, frzK, frzL, frzV, frzL_T _ tV]) ?_
    simp (maxSteps := 4000000) (disch := omega) only [step, stepv, ev, wl, wn, wp, wz, aop, cV, cV1, AV.one, partCells, okW, onlyFr, app, sliceCells, cellsAt, srcA, subA, eqFs, Int.cast_ofNat_Int, simprocAttr, z16L]
    refine callD.vc D2 ?_
    simp (maxSteps := 4000000) (disch := omega) only [step, stepv, ev, wl, wn, wp, wz, aop, cV, cV1, AV.one, partCells, okW, onlyFr, app, sliceCells, cellsAt, srcA, subA, eqFs, Int.cast_ofNat_Int, simprocAttr]
    refine ⟨3, by omega, by omega, Le.dropT [_, _] (by simp [z16L, isTL, isT]) (by simp [Am.look, frzK, frzL, frzV])⟩
  · simp (maxSteps := 4000000) (disch := omega) only [step, stepv, ev, wl, wn, wp, wz, aop, cV, cV1, AV.one, partCells, okW, onlyFr, app, sliceCells, cellsAt, srcA, subA, eqFs, Int.cast_ofNat_Int, simprocAttr, z16L, ↓er1, ↓er2]
    refine callD.still 1 3 rfl (by simp [ph]) S3 (by simp [frzN, frzK, frzL, frzV, frzL_T _ tV]) ?_
    simp (maxSteps := 4000000) (disch := omega) only [step, stepv, ev, wl, wn, wp, wz, aop, cV, cV1, AV.one, partCells, okW, onlyFr, app, sliceCells, cellsAt, srcA, subA, eqFs, Int.cast_ofNat_Int, simprocAttr, z16L]
    refine callQ.vc S4 ?_
    simp (maxSteps := 4000000) (disch := omega) only [step, stepv, ev, wl, wn, wp, wz, aop, cV, cV1, AV.one, partCells, okW, onlyFr, app, sliceCells, cellsAt, srcA, subA, eqFs, Int.cast_ofNat_Int, simprocAttr, z16L]
    refine callD.still 1 4 rfl (by simp [ph]) S5 (by simp [frzN, frzK, frzL, frzV]) ?_
    simp (maxSteps := 4000000) (disch := omega) only [step, stepv, ev, wl, wn, wp, wz, aop, cV, cV1, AV.one, partCells, okW, onlyFr, app, sliceCells, cellsAt, srcA, subA, eqFs, Int.cast_ofNat_Int, simprocAttr, z16L]
    refine callQ.still 1 [5] S6 (by simp [frzN, frzK, frzL, frzV]) ?_
    simp (maxSteps := 4000000) (disch := omega) only [step, stepv, ev, wl, wn, wp, wz, aop, cV, cV1, AV.one, partCells, okW, onlyFr, app, sliceCells, cellsAt, srcA, subA, eqFs, Int.cast_ofNat_Int, simprocAttr, z16L, stillAt]
    refine callQ.vc D3 ?_
    simp (maxSteps := 4000000) (disch := omega) only [step, stepv, ev, wl, wn, wp, wz, aop, cV, cV1, AV.one, partCells, okW, onlyFr, app, sliceCells, cellsAt, srcA, subA, eqFs, Int.cast_ofNat_Int, simprocAttr, z16L, stillAt]
    refine callQ.vc D4 ?_
    simp (maxSteps := 4000000) (disch := omega) only [step, stepv, ev, wl, wn, wp, wz, aop, cV, cV1, AV.one, partCells, okW, onlyFr, app, sliceCells, cellsAt, srcA, subA, eqFs, Int.cast_ofNat_Int, simprocAttr, z16L, stillAt]
    refine callD.still 1 6 rfl (by simp [ph]) D5 (by simp [frzN, frzK, frzL, frzV]) ?_
    simp (maxSteps := 4000000) (disch := omega) only [step, stepv, ev, wl, wn, wp, wz, aop, cV, cV1, AV.one, partCells, okW, onlyFr, app, sliceCells, cellsAt, srcA, subA, eqFs, Int.cast_ofNat_Int, simprocAttr, z16L, ↓er3, ↓er4]
    refine callD.still 1 7 rfl (by simp [ph]) D6 (by simp [frzN, frzK, frzL, frzV, frzL_T _ tG]) ?_
    simp (maxSteps := 4000000) (disch := omega) only [step, stepv, ev, wl, wn, wp, wz, aop, cV, cV1, AV.one, partCells, okW, onlyFr, app, sliceCells, cellsAt, srcA, subA, eqFs, Int.cast_ofNat_Int, simprocAttr, z16L, ↓er5, ↓er6]
    refine callD.still 1 8 rfl (by simp [ph]) D7 (by simp [frzN, frzK, frzL, frzV, frzL_T _ tH]) ?_
    simp (maxSteps := 4000000) (disch := omega) only [step, stepv, ev, wl, wn, wp, wz, aop, cV, cV1, AV.one, partCells, okW, onlyFr, app, sliceCells, cellsAt, srcA, subA, eqFs, Int.cast_ofNat_Int, simprocAttr, z16L, isDL, isD]
    refine callD.vc z8 ?_
    simp (maxSteps := 4000000) (disch := omega) only [step, stepv, ev, wl, wn, wp, wz, aop, cV, cV1, AV.one, partCells, okW, onlyFr, app, sliceCells, cellsAt, srcA, subA, eqFs, Int.cast_ofNat_Int, simprocAttr, z16L]
    refine callD.vc D8 ?_
    simp (maxSteps := 4000000) (disch := omega) only [step, stepv, ev, wl, wn, wp, wz, aop, cV, cV1, AV.one, partCells, okW, onlyFr, app, sliceCells, cellsAt, srcA, subA, eqFs, Int.cast_ofNat_Int, simprocAttr, z16L, isDL, isD]
    refine callD.vc z9 ?_
    simp (maxSteps := 4000000) (disch := omega) only [step, stepv, ev, wl, wn, wp, wz, aop, cV, cV1, AV.one, partCells, okW, onlyFr, app, sliceCells, cellsAt, srcA, subA, eqFs, Int.cast_ofNat_Int, simprocAttr, z16L]
    refine callD.vc D9 ?_
    simp (maxSteps := 4000000) (disch := omega) only [step, stepv, ev, wl, wn, wp, wz, aop, cV, cV1, AV.one, partCells, okW, onlyFr, app, sliceCells, cellsAt, srcA, subA, eqFs, Int.cast_ofNat_Int, simprocAttr, z16L, isDL, isD]
    refine callD.vc z10 ?_
    simp (maxSteps := 4000000) (disch := omega) only [step, stepv, ev, wl, wn, wp, wz, aop, cV, cV1, AV.one, partCells, okW, onlyFr, app, sliceCells, cellsAt, srcA, subA, eqFs, Int.cast_ofNat_Int, simprocAttr, z16L]
    refine callD.vc d10 ?_
    simp (maxSteps := 4000000) (disch := omega) only [step, stepv, ev, wl, wn, wp, wz, aop, cV, cV1, AV.one, partCells, okW, onlyFr, app, sliceCells, cellsAt, srcA, subA, eqFs, Int.cast_ofNat_Int, simprocAttr, z16L, isDL, isD]
    refine callD.vc z11 ?_
    simp (maxSteps := 4000000) (disch := omega) only [step, stepv, ev, wl, wn, wp, wz, aop, cV, cV1, AV.one, partCells, okW, onlyFr, app, sliceCells, cellsAt, srcA, subA, eqFs, Int.cast_ofNat_Int, simprocAttr, z16L]
    refine callD.vc D11 ?_
    simp (maxSteps := 4000000) (disch := omega) only [step, stepv, ev, wl, wn, wp, wz, aop, cV, cV1, AV.one, partCells, okW, onlyFr, app, sliceCells, cellsAt, srcA, subA, eqFs, Int.cast_ofNat_Int, simprocAttr, z16L, isDL, isD]
    refine callD.vc z12 ?_
    simp (maxSteps := 4000000) (disch := omega) only [step, stepv, ev, wl, wn, wp, wz, aop, cV, cV1, AV.one, partCells, okW, onlyFr, app, sliceCells, cellsAt, srcA, subA, eqFs, Int.cast_ofNat_Int, simprocAttr, z16L]
    refine callD.vc d12 ?_
    simp (maxSteps := 4000000) (disch := omega) only [step, stepv, ev, wl, wn, wp, wz, aop, cV, cV1, AV.one, partCells, okW, onlyFr, app, sliceCells, cellsAt, srcA, subA, eqFs, Int.cast_ofNat_Int, simprocAttr]
    refine callQ.vc hA' ?_
    simp (maxSteps := 4000000) (disch := omega) only [step, stepv, ev, wl, wn, wp, wz, aop, cV, cV1, AV.one, partCells, okW, onlyFr, app, sliceCells, cellsAt, srcA, subA, eqFs, Int.cast_ofNat_Int, simprocAttr]
    refine callQ.still 1 [14] I1 (by simp [frzN, frzK, frzL, frzV]) ?_
    simp (maxSteps := 4000000) (disch := omega) only [step, stepv, ev, wl, wn, wp, wz, aop, cV, cV1, AV.one, partCells, okW, onlyFr, app, sliceCells, cellsAt, srcA, subA, eqFs, Int.cast_ofNat_Int, simprocAttr, stillAt]
    refine callQ.still 1 [15] I2 (by simp [frzN, frzK, frzL, frzV]) ?_
    simp (maxSteps := 4000000) (disch := omega) only [step, stepv, ev, wl, wn, wp, wz, aop, cV, cV1, AV.one, partCells, okW, onlyFr, app, sliceCells, cellsAt, srcA, subA, eqFs, Int.cast_ofNat_Int, simprocAttr, stillAt]

end Go.Am

namespace Go.Am
open Go.RowKit

theorem flatten_one {α : Type} (f : α → AV) : ∀ l : List α, (l.map fun x => [f x]).flatten = l.map f
  | [] => rfl
  | x :: l => by simp [flatten_one f l]

theorem fits_u8s {L : List (List AV)} (h : ∀ c ∈ L, Fits (.int .u8) c) : ∃ l : List UInt8, L.length = l.length ∧ AV.list L.length L.flatten = bs l := by
  obtain ⟨l, rfl, _⟩ := map_of_all (f := fun b : UInt8 => [AV.int .u8 b.toNat]) (q := fun _ => True) h (fun c hc => by
    simp only [Fits] at hc
    obtain ⟨n, rfl, h1, h2⟩ := hc
    simp only [IntKind.min, IntKind.max, IntKind.signed, IntKind.bits] at h1 h2
    refine ⟨UInt8.ofNat n.toNat, ?_, trivial⟩
    simp at h1 h2
    simp; omega)
  exact ⟨l, by simp, by simp [bs, u8, flatten_one]⟩

theorem fits_ints {K : IntKind} {L : List (List AV)} (h : ∀ c ∈ L, Fits (.int K) c) : ∃ l : List Int, L.length = l.length ∧ AV.list L.length L.flatten = .list l.length (ks K l) ∧ ∀ x ∈ l, K.min ≤ x ∧ x ≤ K.max := by
  obtain ⟨l, rfl, h2⟩ := map_of_all (f := fun n : Int => [AV.int K n]) (q := fun x => K.min ≤ x ∧ x ≤ K.max) h (fun c hc => by
    simp only [Fits] at hc
    obtain ⟨n, rfl, h1, h2⟩ := hc
    exact ⟨n, rfl, h1, h2⟩)
  exact ⟨l, by simp, by simp [ks, flatten_one], h2⟩

def isStr (P : Program) (t : TypeId) : Bool := match P.underlying t with | some (.struct _) => true | _ => false
def isArr (P : Program) (t : TypeId) : Bool := match P.underlying t with | some (.array _ _) => true | _ => false
def isSl (P : Program) (t : TypeId) : Bool := match P.underlying t with | some (.slice _) => true | _ => false
theorem isStr_eq {P : Program} {t : TypeId} (h : isStr P t = true) : ∃ fs, P.underlying t = some (.struct fs) := by
  unfold isStr at h; split at h
  · exact ⟨_, by assumption⟩
  · cases h
theorem isArr_eq {P : Program} {t : TypeId} (h : isArr P t = true) : ∃ n e, P.underlying t = some (.array n e) := by
  unfold isArr at h; split at h
  · exact ⟨_, _, by assumption⟩
  · cases h
theorem isSl_eq {P : Program} {t : TypeId} (h : isSl P t = true) : ∃ e, P.underlying t = some (.slice e) := by
  unfold isSl at h; split at h
  · exact ⟨_, by assumption⟩
  · cases h

end Go.Am
