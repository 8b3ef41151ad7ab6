/- What the functions that the law reaches return, for every program that has their code; the conditions stand in each statement. -/
import Derived.Test.YtkngajpinabacaaDoorDeframePartsL1
set_option linter.unusedSectionVars false
set_option linter.unusedSimpArgs false
set_option linter.unusedVariables false
namespace Go.Am
open Go.RowKit

/-! ### Bits of bytes, bits cut out -/

theorem slices_Clone {P : Prg} {f t0 : Nat} (b : Body P f 8 [.tmp 2] (ac_slices_Clone_byte_byte t0)) : S_bytes_Clone P f := by
  exact bytes_Clone b

theorem nB_len (l : List UInt8) : nB (8 * l.length) = l.length := by unfold nB; omega
theorem bA_of (l : List UInt8) : bA (8 * l.length) (leN l) = .agg [bs l, .int .i64 ((8 * l.length : Nat) : Int)] := by
  rw [bA, nB_len, leB_leN]; rfl
theorem leN_lt' (l : List UInt8) : leN l < 2 ^ (8 * l.length) := leN_lt l

def ofA (l : List UInt8) : AV := if 41250 < l.length then .tup [bA 0 0, .int .i64 4] else .tup [bA (8 * l.length) (leN l), .int .i64 0]
def S_bOf (P : Prg) (f : Nat) : Prop := ∀ l : List UInt8, l.length ≤ 1000000 → VC P f [bs l] (ofA l)
theorem bits_Of {P : Prg} {f fC t0 : Nat} (bd : Body P f 14 [.cell 2 t0, .tmp 3] (ac_bits_Of fC t0)) (hC : S_bytes_Clone P fC) (ht : aggO P t0 = some (some 2)) : S_bOf P f := by
  intro l hl
  refine VC.of_walk 2 (by simp [isDL, isD_bs]) (by unfold ofA; split <;> simp [isD, isDL, isD_bA]) (ACall.of_body bd (by simp) ?_)
  have hC' := hC l (by omega)
  simp only [bs] at hC'
  unfold ofA
  by_cases h : 41250 < l.length
  · rw [if_pos h]
    simp (maxSteps := 4000000) (disch := omega) only [step, stepv, ev, wl, wn, wp, wz, aop, cV, cV1, AV.one, partCells, okW, onlyFr, app, sliceCells, cellsAt, srcA, subA, eqFs, Int.cast_ofNat_Int, simprocAttr, ac_bits_Of, bs, resA, ht, oneOf]
    simp [frzN, frzK, frzL, frzV, bA, nB, leB, u8]
  · rw [if_neg h, bA_of]
    simp (maxSteps := 4000000) (disch := omega) only [step, stepv, ev, wl, wn, wp, wz, aop, cV, cV1, AV.one, partCells, okW, onlyFr, app, sliceCells, cellsAt, srcA, subA, eqFs, Int.cast_ofNat_Int, simprocAttr, ac_bits_Of, bs]
    refine callQ.vc hC' ?_
    simp (maxSteps := 4000000) (disch := omega) only [step, stepv, ev, wl, wn, wp, wz, aop, cV, cV1, AV.one, partCells, okW, onlyFr, app, sliceCells, cellsAt, srcA, subA, eqFs, Int.cast_ofNat_Int, simprocAttr, resA, ht, oneOf]
    simp [frzN, frzK, frzL, frzV, frzL_T _ (isT_u8 _), bs]

def S_Cut (P : Prg) (f : Nat) : Prop := ∀ N V a b : Nat, V < 2 ^ N → N ≤ 330000 → a ≤ b → b ≤ N → VC P f [bA N V, .int .i64 a, .int .i64 b] (.tup [bA (b - a) (V / 2 ^ a % 2 ^ (b - a)), .int .i64 0])
set_option maxHeartbeats 1000000 in
theorem bits_Cut {P : Prg} {f fC fG fP t0 tp : Nat} (bd : Body P f 46 [.cell 6 t0, .tmp 7] (ac_bits_Cut fC fG fP t0)) (hC : S_bCheck P fC) (hG : S_bget P fG) (bP : Body P fP 75 [] (ac_bits_put tp)) (ht : aggO P t0 = some (some 2)) : S_Cut P f := by
  intro N V a b hV hN hab hbN
  refine VC.of_walk 2 (by simp [isDL, isD_bA, isD]) (by simp [isD, isDL, isD_bA]) (ACall.of_body bd (by simp) ?_)
  have hC' := hC N V hV hN
  rw [bA] at hC'
  have tu : isTL (u8 (leB V (nB N))) = true := isT_u8 _
  simp (maxSteps := 4000000) (disch := omega) only [step, stepv, ev, wl, wn, wp, wz, aop, cV, cV1, AV.one, partCells, okW, onlyFr, app, sliceCells, cellsAt, srcA, subA, eqFs, Int.cast_ofNat_Int, simprocAttr, ac_bits_Cut, bA]
  refine callQ.vc hC' ?_
  simp (maxSteps := 4000000) (disch := omega) only [step, stepv, ev, wl, wn, wp, wz, aop, cV, cV1, AV.one, partCells, okW, onlyFr, app, sliceCells, cellsAt, srcA, subA, eqFs, Int.cast_ofNat_Int, simprocAttr]
  refine ALoop.by (ι := Nat) (fun k => ⟨[(9, .int .i64 ((a + 64 * k : Nat) : Int)), (8, .ref 2 1 0), (7, .int .i64 0), (6, .ref 1 1 0), (3, .ref 0 1 0), (2, .int .i64 b)],
      [⟨t0, 2, 1, [.list (nB N) (u8 (leB V (nB N))), .int .i64 N], 0⟩, ⟨t0, 2, 1, [.own 3 0, .int .i64 0], 0⟩, bO t0 4 (min (64 * k) (b - a)), ⟨tp, 1, 0, [], 0⟩, bY tp (min (64 * k) (b - a)) (V / 2 ^ a % 2 ^ min (64 * k) (b - a))]⟩)
    (fun k => 64 * k < b - a + 64) (fun k => b - a + 64 - 64 * k) 0 ?_ (by omega) ?_
  · refine Le.trans (Le.virtF 1 tp 1 (by decide) rfl rfl) ?_
    refine Le.trans (Le.virtF 2 tp 1 (by decide) rfl rfl) ?_
    simp only [List.length_cons, List.length_nil, List.set_cons_succ, List.set_cons_zero, List.cons_append, List.nil_append, List.length_append]
    rw [Nat.mul_zero, Nat.zero_min, Nat.pow_zero, Nat.mod_one]
    exact Le.slots (by simp [Am.look])
  intro k hk
  by_cases hlt : a + 64 * k < b
  · obtain ⟨n, hn⟩ : ∃ n, n = min 64 (b - (a + 64 * k)) := ⟨_, rfl⟩
    have hm : min (64 * k) (b - a) = 64 * k := by omega
    have hG' := hG N V (a + 64 * k) n hV (by omega) (by omega) (by omega)
    rw [bA] at hG'
    have e1 : (if (b : Int) - ((a + 64 * k : Nat) : Int) < 64 then (b : Int) - ((a + 64 * k : Nat) : Int) else 64) = (n : Int) := by split <;> omega
    have hv : V / 2 ^ (a + 64 * k) % 2 ^ n < 2 ^ n := Nat.mod_lt _ (Nat.pow_pos (by omega))
    have hW : V / 2 ^ a % 2 ^ (64 * k) < 2 ^ (64 * k) := Nat.mod_lt _ (Nat.pow_pos (by omega))
    have hs := get_step (X := V / 2 ^ a) (h := 64 * k) (t := n)
    rw [Nat.div_div_eq_div_mul, ← Nat.pow_add, Nat.mul_comm (V / 2 ^ (a + 64 * k) % 2 ^ n)] at hs
    rw [hm]
    generalize hvv : V / 2 ^ (a + 64 * k) % 2 ^ n = v at *
    generalize hWW : V / 2 ^ a % 2 ^ (64 * k) = W at *
    obtain ⟨s, hs0⟩ : ∃ s, s = a + 64 * k := ⟨_, rfl⟩
    rw [← hs0] at hG' e1 ⊢
    simp (maxSteps := 4000000) (disch := omega) only [step, stepv, ev, wl, wn, wp, wz, aop, cV, cV1, AV.one, partCells, okW, onlyFr, app, sliceCells, cellsAt, srcA, subA, eqFs, Int.cast_ofNat_Int, simprocAttr, e1]
    refine callQ.vc hG' ?_
    simp (maxSteps := 4000000) (disch := omega) only [step, stepv, ev, wl, wn, wp, wz, aop, cV, cV1, AV.one, partCells, okW, onlyFr, app, sliceCells, cellsAt, srcA, subA, eqFs, Int.cast_ofNat_Int, simprocAttr]
    refine bits_put bP (ob := [⟨t0, 2, 1, [.list (nB N) (u8 (leB V (nB N))), .int .i64 N], 0⟩, ⟨t0, 2, 1, [.own 3 0, .int .i64 0], 0⟩, bO t0 4 (64 * k), ⟨tp, 1, 0, [], 0⟩, bY tp (64 * k) W]) (p := 2) (o := 4) (t := t0) rfl rfl (by decide) hW hv (by omega) (by omega) ?_ ?_
    · refine Low.cons ?_ (Low.cons ?_ (Low.cons ?_ (Low.cons ?_ (Low.cons ?_ Low.nil)))) <;> simp [bO, bY, lowL, lowV, lowL_D _ (isDL_leB _ _)]
    · simp only [upd2, List.set_cons_succ, List.set_cons_zero]
      rw [← hs]
      have hm2 : min (64 * (k + 1)) (b - a) = 64 * k + n := by omega
      simp (maxSteps := 4000000) (disch := omega) only [step, stepv, ev, wl, wn, wp, wz, aop, cV, cV1, AV.one, partCells, okW, onlyFr, app, sliceCells, cellsAt, srcA, subA, eqFs, Int.cast_ofNat_Int, simprocAttr]
      refine ⟨k + 1, by omega, by omega, ?_⟩
      rw [hm2]
      exact Le.slots (by simp [Am.look, hs0]; omega)
  · have hm : min (64 * k) (b - a) = b - a := by omega
    rw [hm]
    generalize V / 2 ^ a % 2 ^ (b - a) = W at *
    obtain ⟨s, hs0⟩ : ∃ s, s = a + 64 * k := ⟨_, rfl⟩
    rw [← hs0]
    simp (maxSteps := 4000000) (disch := omega) only [step, stepv, ev, wl, wn, wp, wz, aop, cV, cV1, AV.one, partCells, okW, onlyFr, app, sliceCells, cellsAt, srcA, subA, eqFs, Int.cast_ofNat_Int, simprocAttr, bO, bY, resA, ht, oneOf]
    simp [frzN, frzK, frzL, frzV, frzL_T _ (isT_u8 _)]

end Go.Am

namespace Go.Am
open Go.RowKit

/-! ### The values of a frame (plain) -/

def chanM (c r : Nat) (v : List Nat) : Dl := ((List.range v.length).filter fun j => j % c == r).foldl (fun d j => learnM d (v.getD j 0)) startM

theorem chan_snoc {c r x : Nat} {v : List Nat} : chanM c r (v ++ [x]) = if v.length % c = r then learnM (chanM c r v) x else chanM c r v := by
  have h1 : ∀ (l : List Nat) (d : Dl), (∀ j ∈ l, j < v.length) → l.foldl (fun d j => learnM d ((v ++ [x]).getD j 0)) d = l.foldl (fun d j => learnM d (v.getD j 0)) d := by
    intro l
    induction l with
    | nil => intro d _; rfl
    | cons a l ih =>
      intro d h
      simp only [List.foldl_cons]
      have ha : a < v.length := h a (by simp)
      rw [ih _ fun j hj => h j (by simp [hj])]
      congr 2
      rw [List.getD_eq_getElem?_getD, List.getD_eq_getElem?_getD, List.getElem?_append_left ha]
  unfold chanM
  rw [List.length_append, List.length_cons, List.length_nil, Nat.zero_add, List.range_succ, List.filter_append, List.foldl_append]
  have hf := h1 ((List.range v.length).filter fun j => j % c == r) startM (fun j hj => by
    have := (List.mem_filter.1 hj).1
    simpa using this)
  rw [hf]
  have hx : (v ++ [x]).getD v.length 0 = x := by simp [List.getD_eq_getElem?_getD]
  by_cases h : v.length % c = r
  · rw [if_pos h]
    have : (List.filter (fun j => j % c == r) [v.length]) = [v.length] := by simp [h]
    rw [this]
    simp only [List.foldl_cons, List.foldl_nil]
    rw [hx]
  · rw [if_neg h]
    have : (List.filter (fun j => j % c == r) [v.length]) = [] := by simp [h]
    rw [this]
    rfl

def N32 (v : List Nat) : Prop := ∀ x ∈ v, x < 4294967296
theorem chan_ok {c r : Nat} {v : List Nat} (h : N32 v) : okD (chanM c r v) := by
  unfold chanM
  have key : ∀ (l : List Nat) (d : Dl), okD d → (∀ j ∈ l, j < v.length) → okD (l.foldl (fun d j => learnM d (v.getD j 0)) d) := by
    intro l
    induction l with
    | nil => intro d h _; exact h
    | cons a l ih =>
      intro d hd hl
      have ha : a < v.length := hl a (by simp)
      refine ih _ (learn_ok hd ?_) fun j hj => hl j (by simp [hj])
      rw [List.getD_eq_getElem?_getD, List.getElem?_eq_getElem ha]
      exact h _ (List.getElem_mem ha)
  exact key _ _ start_ok fun j hj => by
    have := (List.mem_filter.1 hj).1
    simpa using this

def prtN (N a : Nat) : Nat := min (a + 81) N - a
def prtV (V N a : Nat) : Nat := V / 2 ^ a % 2 ^ prtN N a
def valsM (V N c : Nat) : Nat → List Nat → Nat → (Nat × List Nat) ⊕ (List Nat × Nat)
  | 0, out, a => .inr (out, a)
  | k + 1, out, a =>
    match gotM (prtV V N a) (prtN N a) 0 (chanM c (out.length % c) out) with
    | .inl e => .inl (e, out)
    | .inr (v, nx) => valsM V N c k (out ++ [v]) (a + nx)

theorem prtV_lt (V N a : Nat) : prtV V N a < 2 ^ prtN N a := Nat.mod_lt _ (Nat.pow_pos (by omega))

def restM (V N a : Nat) : Nat := if 7 < N - a then 12 else if V / 2 ^ a = 0 then 0 else 12

theorem vals_spec {V N c : Nat} : ∀ (k : Nat) (out : List Nat) (a : Nat), a ≤ N → N32 out → (∀ e o, valsM V N c k out a = .inl (e, o) → (e = 24 ∨ e = 12) ∧ N32 o ∧ o.length ≤ out.length + k) ∧ (∀ o b, valsM V N c k out a = .inr (o, b) → N32 o ∧ b ≤ N ∧ o.length = out.length + k)
  | 0, out, a, ha, ho => by
    refine ⟨fun e o h => (by simp only [valsM] at h; cases h), fun o b h => ?_⟩
    simp only [valsM] at h
    cases h
    exact ⟨ho, ha, rfl⟩
  | k + 1, out, a, ha, ho => by
    have hd := chan_ok (c := c) (r := out.length % c) ho
    cases hg : gotM (prtV V N a) (prtN N a) 0 (chanM c (out.length % c) out) with
    | inl e =>
      have he := got_err hg
      simp only [valsM, hg]
      refine ⟨fun e' o h => ?_, fun o b h => (by cases h)⟩
      cases h
      exact ⟨he, ho, by omega⟩
    | inr p =>
      obtain ⟨v, nx⟩ := p
      obtain ⟨h1, h2⟩ := got_lt hd hg
      have hp : prtN N a ≤ N - a := by unfold prtN; omega
      have ho' : N32 (out ++ [v]) := fun x hx => by
        rcases List.mem_append.1 hx with h | h
        · exact ho x h
        · simp at h; subst h; exact h1
      obtain ⟨r1, r2⟩ := vals_spec (V := V) (N := N) (c := c) k (out ++ [v]) (a + nx) (by omega) ho'
      simp only [valsM, hg]
      refine ⟨fun e o h => ?_, fun o b h => ?_⟩
      · obtain ⟨q1, q2, q3⟩ := r1 e o h
        refine ⟨q1, q2, ?_⟩
        rw [List.length_append, List.length_cons, List.length_nil] at q3
        omega
      · obtain ⟨q1, q2, q3⟩ := r2 o b h
        refine ⟨q1, q2, ?_⟩
        rw [List.length_append, List.length_cons, List.length_nil] at q3
        omega

def sumM (p : List UInt8) : Nat := 4294967295 - crcL 4294967295 p
def openM (b : List UInt8) : Nat := if b.length < 5 then 24 else if 41254 < b.length then 4 else if leN (b.drop (b.length - 4)) = sumM (b.take (b.length - 4)) then 0 else 22

end Go.Am

namespace Go.Am
open Go.RowKit

/-! ### The values of a frame -/

def n32A (v : List Nat) : AV := u32L (v.map fun n : Nat => (n : Int))
theorem isD_n32A (v : List Nat) : isD (n32A v) = true := by simp [n32A, u32L, isD, isDL_ks]
end Go.Am

namespace Go.Am
open Go.RowKit

/-! ### A frame's sum -/

theorem sumM_lt (p : List UInt8) : sumM p < 4294967296 := by unfold sumM; omega

def S_Sealed (P : Prg) (f : Nat) : Prop := ∀ p : List UInt8, p.length ≤ 1000000 → VC P f [bs p] (bs (p ++ leB (sumM p) 4))
theorem ref20_Sealed {P : Prg} {f fO t0 : Nat} (bd : Body P f 22 [.tmp 2] (ac_cadenzaref20_Sealed fO t0)) (hO : S_COf P fO) : S_Sealed P f := by
  intro p hp
  refine VC.of_walk 1 (by simp [isDL, isD_bs]) (isD_bs _) (ACall.of_body bd (by simp) ?_)
  have hO' := hO p hp
  rw [← sumM] at hO'
  have hs := sumM_lt p
  generalize sumM p = s at *
  simp only [bs] at hO'
  have e1 : IntKind.u8.wrap (s : Int) = ((s % 256 : Nat) : Int) := by rw [wrap_u8_mod]; omega
  have a1 : shiftA false .u32 (s : Int) 8 = some (.int .u32 ((s / 256 : Nat) : Int)) := shrK (K := .u32) (k := 8) (by decide)
  have a2 : shiftA false .u32 (s : Int) 16 = some (.int .u32 ((s / 65536 : Nat) : Int)) := shrK (K := .u32) (k := 16) (by decide)
  have a3 : shiftA false .u32 (s : Int) 24 = some (.int .u32 ((s / 16777216 : Nat) : Int)) := shrK (K := .u32) (k := 24) (by decide)
  have e2 : IntKind.u8.wrap ((s / 256 : Nat) : Int) = ((s / 256 % 256 : Nat) : Int) := by rw [wrap_u8_mod]; omega
  have e3 : IntKind.u8.wrap ((s / 65536 : Nat) : Int) = ((s / 65536 % 256 : Nat) : Int) := by rw [wrap_u8_mod]; omega
  have e4 : IntKind.u8.wrap ((s / 16777216 : Nat) : Int) = ((s / 16777216 % 256 : Nat) : Int) := by rw [wrap_u8_mod]; omega
  have hb : u8 (p ++ leB s 4) = u8 p ++ [.int .u8 ((s % 256 : Nat) : Int), .int .u8 ((s / 256 % 256 : Nat) : Int), .int .u8 ((s / 65536 % 256 : Nat) : Int), .int .u8 ((s / 16777216 % 256 : Nat) : Int)] := by
    simp [u8, leB, Nat.div_div_eq_div_mul]
  have hl : (p ++ leB s 4).length = p.length + 4 := by simp [leB_length]
  rw [bs, hb, hl]
  generalize s % 256 = b0 at *
  generalize s / 256 % 256 = b1 at *
  generalize s / 65536 % 256 = b2 at *
  generalize s / 16777216 % 256 = b3 at *
  have tt : isTL (u8 p ++ [.int .u8 (b0 : Int), .int .u8 (b1 : Int), .int .u8 (b2 : Int), .int .u8 (b3 : Int)]) = true := by simp [isTL_append, isT_u8, isTL, isT]
  simp (maxSteps := 4000000) (disch := omega) only [step, stepv, ev, wl, wn, wp, wz, aop, cV, cV1, AV.one, partCells, okW, onlyFr, app, sliceCells, cellsAt, srcA, subA, eqFs, Int.cast_ofNat_Int, simprocAttr, ac_cadenzaref20_Sealed, bs]
  refine callQ.vc hO' ?_
  simp (maxSteps := 4000000) (disch := omega) only [step, stepv, ev, wl, wn, wp, wz, aop, cV, cV1, AV.one, partCells, okW, onlyFr, app, sliceCells, cellsAt, srcA, subA, eqFs, Int.cast_ofNat_Int, simprocAttr, e1, a1, a2, a3, e2, e3, e4]
  simp [frzN, frzK, frzL, frzV, frzL_T _ tt]

def opA (b : List UInt8) : AV := if openM b = 0 then .tup [bs (b.take (b.length - 4)), .int .i64 0] else .tup [.list 0 [], .int .i64 (openM b : Nat)]
def S_opened (P : Prg) (f : Nat) : Prop := ∀ b : List UInt8, b.length ≤ 1000000 → VC P f [bs b] (opA b)
theorem deframe_opened {P : Prg} {f fS fV : Nat} (bd : Body P f 46 [.tmp 2, .tmp 3] (ac_deframe_opened fS fV)) (hS : S_CSum P fS) (hV : S_le_Value P fV) : S_opened P f := by
  intro b hb
  refine VC.of_walk 1 (by simp [isDL, isD_bs]) (by unfold opA; split <;> simp [isD, isDL, isD_bs]) (ACall.of_body bd (by simp) ?_)
  unfold opA openM
  by_cases h1 : b.length < 5
  · simp only [h1, if_true]
    simp (maxSteps := 4000000) (disch := omega) only [step, stepv, ev, wl, wn, wp, wz, aop, cV, cV1, AV.one, partCells, okW, onlyFr, app, sliceCells, cellsAt, srcA, subA, eqFs, Int.cast_ofNat_Int, simprocAttr, ac_deframe_opened, bs]
    simp [frzN, frzK, frzL, frzV]
  simp only [h1, if_false]
  by_cases h2 : 41254 < b.length
  · simp only [h2, if_true]
    simp (maxSteps := 4000000) (disch := omega) only [step, stepv, ev, wl, wn, wp, wz, aop, cV, cV1, AV.one, partCells, okW, onlyFr, app, sliceCells, cellsAt, srcA, subA, eqFs, Int.cast_ofNat_Int, simprocAttr, ac_deframe_opened, bs]
    simp [frzN, frzK, frzL, frzV]
  simp only [h2, if_false]
  have hS' := hS (b.take (b.length - 4))
  rw [if_neg (by simp; omega), ← sumM] at hS'
  have hl1 : (b.take (b.length - 4)).length = b.length - 4 := by simp
  have hl2 : (b.drop (b.length - 4)).length = 4 := by simp; omega
  have hs := sumM_lt (b.take (b.length - 4))
  have hV' := hV (b.drop (b.length - 4)) (by omega) (by omega)
  have tk : (u8 b).take (b.length - 4) = u8 (b.take (b.length - 4)) := by simp [u8, List.map_take]
  have dk : (u8 b).drop (b.length - 4) = u8 (b.drop (b.length - 4)) := by simp [u8, List.map_drop]
  simp only [bs, hl1, hl2] at hS' hV'
  have hq : leN (b.drop (b.length - 4)) < 4294967296 := by
    have := leN_lt (b.drop (b.length - 4))
    rw [hl2] at this
    exact this
  have hpl : (u8 (b.take (b.length - 4))).length = b.length - 4 := by rw [u8_length, hl1]
  have hql : (u8 (b.drop (b.length - 4))).length = 4 := by rw [u8_length, hl2]
  have tq : (u8 (b.drop (b.length - 4))).take 4 = u8 (b.drop (b.length - 4)) := List.take_of_length_le (by omega)
  generalize b.take (b.length - 4) = p at *
  generalize b.drop (b.length - 4) = q at *
  generalize sumM p = s at *
  generalize leN q = w at *
  have n4 : b.length - (b.length - 4) = 4 := by omega
  have n5 : b.length - 4 - 0 = b.length - 4 := by omega
  have n6 : min (b.length - 4) b.length = b.length - 4 := by omega
  have tp : isTL (u8 p) = true := isT_u8 _
  by_cases h3 : w = s
  · subst h3
    simp only [if_true]
    simp (maxSteps := 4000000) (disch := omega) only [step, stepv, ev, wl, wn, wp, wz, aop, cV, cV1, AV.one, partCells, okW, onlyFr, app, sliceCells, cellsAt, srcA, subA, eqFs, Int.cast_ofNat_Int, simprocAttr, ac_deframe_opened, bs, tk, dk, n4, n5, tq]
    refine callQ.vc hS' ?_
    simp (maxSteps := 4000000) (disch := omega) only [step, stepv, ev, wl, wn, wp, wz, aop, cV, cV1, AV.one, partCells, okW, onlyFr, app, sliceCells, cellsAt, srcA, subA, eqFs, Int.cast_ofNat_Int, simprocAttr, tk, dk, n4, n5, tq]
    refine callQ.vc hV' ?_
    simp (maxSteps := 4000000) (disch := omega) only [step, stepv, ev, wl, wn, wp, wz, aop, cV, cV1, AV.one, partCells, okW, onlyFr, app, sliceCells, cellsAt, srcA, subA, eqFs, Int.cast_ofNat_Int, simprocAttr, tk, dk, n4, n5, tq]
    simp [frzN, frzK, frzL, frzV, frzL_T _ tp, bs, hl1]
    try omega
  · simp only [h3, if_false]
    simp (maxSteps := 4000000) (disch := omega) only [step, stepv, ev, wl, wn, wp, wz, aop, cV, cV1, AV.one, partCells, okW, onlyFr, app, sliceCells, cellsAt, srcA, subA, eqFs, Int.cast_ofNat_Int, simprocAttr, ac_deframe_opened, bs, tk, dk, n4, n5, tq]
    refine callQ.vc hS' ?_
    simp (maxSteps := 4000000) (disch := omega) only [step, stepv, ev, wl, wn, wp, wz, aop, cV, cV1, AV.one, partCells, okW, onlyFr, app, sliceCells, cellsAt, srcA, subA, eqFs, Int.cast_ofNat_Int, simprocAttr, tk, dk, n4, n5, tq]
    refine callQ.vc hV' ?_
    simp (maxSteps := 4000000) (disch := omega) only [step, stepv, ev, wl, wn, wp, wz, aop, cV, cV1, AV.one, partCells, okW, onlyFr, app, sliceCells, cellsAt, srcA, subA, eqFs, Int.cast_ofNat_Int, simprocAttr, tk, dk, n4, n5, tq]
    simp [frzN, frzK, frzL, frzV]

end Go.Am

namespace Go.Am
open Go.RowKit

/-! ### values -/

def sixD (F : Nat → Dl) : List AV := dlC (F 0) ++ dlC (F 1) ++ dlC (F 2) ++ dlC (F 3) ++ dlC (F 4) ++ dlC (F 5)
theorem isTL_sixD (F : Nat → Dl) : isTL (sixD F) = true := rfl
theorem sixD_len (F : Nat → Dl) : (sixD F).length = 24 := rfl
theorem sixD_get (F : Nat → Dl) {j : Nat} (h : j < 6) : ∃ r, (sixD F).drop (j * 4) = .int .i64 (F j).k0 :: .int .i64 (F j).k1 :: .int .u64 (F j).s0 :: .int .u64 (F j).s1 :: r := by
  rcases (by omega : j = 0 ∨ j = 1 ∨ j = 2 ∨ j = 3 ∨ j = 4 ∨ j = 5) with rfl | rfl | rfl | rfl | rfl | rfl <;> exact ⟨_, rfl⟩
def updD (F : Nat → Dl) (j : Nat) (d : Dl) : Nat → Dl := fun i => if i = j then d else F i
theorem sixD_set (F : Nat → Dl) {j : Nat} (h : j < 6) (d : Dl) : (sixD F).take (j * 4) ++ [.int .i64 d.k0, .int .i64 d.k1, .int .u64 d.s0, .int .u64 d.s1] ++ (sixD F).drop (j * 4 + 4) = sixD (updD F j d) := by
  rcases (by omega : j = 0 ∨ j = 1 ∨ j = 2 ∨ j = 3 ∨ j = 4 ∨ j = 5) with rfl | rfl | rfl | rfl | rfl | rfl <;> rfl

def vlA : (Nat × List Nat) ⊕ (List Nat × Nat) → AV
  | .inl (e, _) => .tup [.list 0 [], .int .i64 0, .int .i64 e]
  | .inr (o, a) => .tup [n32A o, .int .i64 a, .int .i64 0]
def S_dVals (P : Prg) (f : Nat) : Prop := ∀ N V c n : Nat, V < 2 ^ N → N ≤ 330000 → 1 ≤ c → c ≤ 6 → n * c ≤ 4000 → VC P f [.int .i64 c, .int .i64 n, bA N V] (vlA (valsM V N c (n * c) [] 0))
set_option maxHeartbeats 2000000 in
theorem deframe_values {P : Prg} {f fS fC fR t0 t1 t2 t3 : Nat} (bd : Body P f 76 [.tmp 6, .tmp 7, .tmp 8] (ac_deframe_values fS fC fR t0 t1 t2 t3)) (hS : S_Start P fS) (hC : S_Cut P fC) (hR : S_dRead P fR) : S_dVals P f := by
  intro N V c n hV hN hc hc6 hnc
  refine VC.of_walk 1 (by simp [isDL, isD_bA, isD]) (by unfold vlA; split <;> simp [isD, isDL, isD_n32A]) (ACall.of_body bd (by simp) ?_)
  simp only [S_Start, startM, dlA, dlC] at hS
  have hn4 : n ≤ 4000 := by
    have : n * 1 ≤ n * c := Nat.mul_le_mul_left _ hc
    omega
  have tu : isTL (u8 (leB V (nB N))) = true := isT_u8 _
  obtain ⟨T, hT⟩ : ∃ T, T = n * c := ⟨_, rfl⟩
  obtain ⟨R, hR0⟩ : ∃ R, R = valsM V N c (n * c) [] 0 := ⟨_, rfl⟩
  have eT : (n : Int) * c = (T : Int) := by rw [hT]; simp
  rw [← hR0]
  simp (maxSteps := 4000000) (disch := omega) only [step, stepv, ev, wl, wn, wp, wz, aop, cV, cV1, AV.one, partCells, okW, onlyFr, app, sliceCells, cellsAt, srcA, subA, eqFs, Int.cast_ofNat_Int, simprocAttr, ac_deframe_values, bA]
  refine ALoop.by (ι := Nat) (fun i => ⟨[(19, .int .i64 i), (9, .ref 1 1 0), (8, .int .i64 0), (7, .int .i64 0), (6, .emp true), (5, .ref 0 1 0), (0, .int .i64 c), (1, .int .i64 n)],
      [⟨t0, 2, 1, [.list (nB N) (u8 (leB V (nB N))), .int .i64 N], 0⟩, ⟨t1, 24, 1, sixD (fun j => if j < i then startM else ⟨0, 0, 0, 0⟩), 0⟩]⟩) (fun i => i ≤ 6) (fun i => 6 - i) 0 (Le.slots (by simp [Am.look])) (by omega) ?_
  intro i hi
  by_cases hlt : i < 6
  · have e1 := sixD_set (fun j => if j < i then startM else ⟨0, 0, 0, 0⟩) hlt startM
    have e2 : updD (fun j => if j < i then startM else ⟨0, 0, 0, 0⟩) i startM = fun j => if j < i + 1 then startM else ⟨0, 0, 0, 0⟩ := by
      funext j
      unfold updD
      by_cases h1 : j = i
      · subst h1; simp
      · by_cases h2 : j < i
        · simp [h1, h2, show j < i + 1 by omega]
        · simp [h1, h2, show ¬ j < i + 1 by omega]
    rw [e2] at e1
    have e3 := sixD_len (fun j => if j < i then startM else ⟨0, 0, 0, 0⟩)
    simp (maxSteps := 4000000) (disch := omega) only [step, stepv, ev, wl, wn, wp, wz, aop, cV, cV1, AV.one, partCells, okW, onlyFr, app, sliceCells, cellsAt, srcA, subA, eqFs, Int.cast_ofNat_Int, simprocAttr]
    refine callQ.vc hS ?_
    generalize hF : sixD (fun j => if j < i then startM else ⟨0, 0, 0, 0⟩) = F at *
    have e1' : F.take (i * 4) ++ [.int .i64 10, .int .i64 10, .int .u64 16384, .int .u64 16384] ++ F.drop (i * 4 + 4) = sixD fun j => if j < i + 1 then startM else ⟨0, 0, 0, 0⟩ := e1
    simp (maxSteps := 4000000) (disch := omega) only [step, stepv, ev, wl, wn, wp, wz, aop, cV, cV1, AV.one, partCells, okW, onlyFr, app, sliceCells, cellsAt, srcA, subA, eqFs, Int.cast_ofNat_Int, simprocAttr, e3]
    refine ⟨i + 1, by omega, by omega, ?_⟩
    rw [e1']
    exact Le.slots (by simp [Am.look])
  obtain rfl : i = 6 := by omega
  have hk0 : ∀ o : List Nat, (ks .u32 (o.map fun n : Nat => (n : Int))).length = o.length := fun o => by simp [ks]
  simp (maxSteps := 4000000) (disch := omega) only [step, stepv, ev, wl, wn, wp, wz, aop, cV, cV1, AV.one, partCells, okW, onlyFr, app, sliceCells, cellsAt, srcA, subA, eqFs, Int.cast_ofNat_Int, simprocAttr, eT]
  refine ALoop.by (ι := Nat × List Nat × Nat) (fun s => ⟨[(29, .int .i64 s.1), (28, .int .i64 T), (12, .int .i64 s.2.2), (11, .own 2 s.2.1.length), (9, .ref 1 1 0), (5, .ref 0 1 0), (0, .int .i64 c)],
      [⟨t0, 2, 1, [.list (nB N) (u8 (leB V (nB N))), .int .i64 N], 0⟩, ⟨t1, 24, 1, sixD (fun j => if j < c then chanM c j s.2.1 else startM), 0⟩, ⟨t3, 1, s.2.1.length, ks .u32 (s.2.1.map fun n : Nat => (n : Int)), 0⟩]⟩)
    (fun s => s.1 ≤ T ∧ s.2.1.length = s.1 ∧ s.2.2 ≤ N ∧ N32 s.2.1 ∧ valsM V N c (T - s.1) s.2.1 s.2.2 = R) (fun s => T - s.1) (0, [], 0) ?_ ⟨Nat.zero_le _, rfl, Nat.zero_le _, fun x hx => (by simp at hx), (by rw [hR0, hT]; rfl)⟩ ?_
  · have z1 : sixD (fun j => if j < 6 then startM else ⟨0, 0, 0, 0⟩) = sixD (fun _ => startM) := rfl
    have z2 : (fun j => if j < c then chanM c j [] else startM) = fun _ => startM := by
      funext j
      split <;> rfl
    simp only [z2]
    rw [z1]
    exact Le.trans (Le.virt 11 t3 1 (by decide) rfl) (Le.slots (by simp [Am.look]))
  rintro ⟨k, out, a⟩ ⟨h1, h2, h3, h4, h5⟩
  simp only at h1 h2 h3 h4 h5 ⊢
  by_cases hlt : k < T
  · obtain ⟨r, hr⟩ : ∃ r, r = k % c := ⟨_, rfl⟩
    have hrc : r < c := by rw [hr]; exact Nat.mod_lt _ (by omega)
    have e1 : (k : Int) % c = (r : Int) := by rw [hr]; simp [Int.natCast_emod]
    have e1' : ((k : Int)).tmod (c : Int) = (r : Int) := by rw [Int.tmod_eq_emod_of_nonneg (by omega), e1]
    have hc0 : (c : Int) ≠ 0 := by omega
    obtain ⟨b, hb⟩ : ∃ b, b = min (a + 81) N := ⟨_, rfl⟩
    have e2 : (if (N : Int) < (a : Int) + 81 then (N : Int) else (a : Int) + 81) = (b : Int) := by split <;> omega
    have hpn : b - a = prtN N a := by rw [hb]; rfl
    have hC' : VC P fC [bA N V, .int .i64 a, .int .i64 b] (.tup [bA (prtN N a) (prtV V N a), .int .i64 0]) := by
      have := hC N V a b hV hN (by omega) (by omega)
      rw [hpn] at this
      exact this
    have hpl : prtN N a ≤ 81 := by unfold prtN; omega
    have hd := chan_ok (c := c) (r := r) h4
    have hR' := hR (prtN N a) (prtV V N a) 0 (chanM c r out) (prtV_lt V N a) (by omega) (by omega) hd
    have hF : (fun j => if j < c then chanM c j out else startM) r = chanM c r out := by simp [hrc]
    obtain ⟨rest, hg⟩ := sixD_get (fun j => if j < c then chanM c j out else startM) (j := r) (by omega)
    simp only [hrc, if_true] at hg
    have hst := fun d => sixD_set (fun j => if j < c then chanM c j out else startM) (j := r) (by omega) d
    have hln := sixD_len (fun j => if j < c then chanM c j out else startM)
    have hupd : ∀ v : Nat, updD (fun j => if j < c then chanM c j out else startM) r (learnM (chanM c r out) v) = fun j => if j < c then chanM c j (out ++ [v]) else startM := by
      intro v
      funext j
      unfold updD
      by_cases hj : j = r
      · subst hj
        rw [if_pos rfl, if_pos hrc, chan_snoc, if_pos (by rw [h2, hr])]
      · rw [if_neg hj]
        by_cases hjc : j < c
        · simp only [hjc, if_true]
          rw [chan_snoc, if_neg (by rw [h2, ← hr]; exact fun e => hj e.symm)]
        · simp only [hjc, if_false]
    have hkT : T - k = (T - k - 1) + 1 := by omega
    rw [hkT, valsM, h2, ← hr] at h5
    have hgl := fun v nx (h : gotM (prtV V N a) (prtN N a) 0 (chanM c r out) = .inr (v, nx)) => got_lt hd h
    have hge := fun e (h : gotM (prtV V N a) (prtN N a) 0 (chanM c r out) = .inl e) => got_err h
    have hpN : prtN N a ≤ N - a := by unfold prtN; omega
    simp only [bA] at hC' hR'
    have hk1 := hk0 out
    have tk : isTL (ks .u32 (out.map fun n : Nat => (n : Int))) = true := isTL_ks _ _
    cases hgm : gotM (prtV V N a) (prtN N a) 0 (chanM c r out) with
    | inl e =>
      have he := hge e hgm
      rw [hgm] at hR' h5
      simp only at h5
      have he0 : (e : Int) ≠ 0 := by omega
      rw [← h5, vlA]
      generalize sixD (fun j => if j < c then chanM c j out else startM) = F at *
      generalize chanM c r out = d at *
      obtain ⟨d0, d1, d2, d3⟩ := d
      simp only [dlA, dlC, drA] at hR'
      simp only at hg
      simp (maxSteps := 4000000) (disch := omega) only [step, stepv, ev, wl, wn, wp, wz, aop, cV, cV1, AV.one, partCells, okW, onlyFr, app, sliceCells, cellsAt, srcA, subA, eqFs, Int.cast_ofNat_Int, simprocAttr, e2]
      refine callQ.vc hC' ?_
      simp (maxSteps := 4000000) (disch := omega) only [step, stepv, ev, wl, wn, wp, wz, aop, cV, cV1, AV.one, partCells, okW, onlyFr, app, sliceCells, cellsAt, srcA, subA, eqFs, Int.cast_ofNat_Int, simprocAttr, e1, e1', hc0, hg, hln]
      refine callD.vc hR' ?_
      simp (maxSteps := 4000000) (disch := omega) only [step, stepv, ev, wl, wn, wp, wz, aop, cV, cV1, AV.one, partCells, okW, onlyFr, app, sliceCells, cellsAt, srcA, subA, eqFs, Int.cast_ofNat_Int, simprocAttr]
      simp [frzN, frzK, frzL, frzV]
    | inr w =>
      obtain ⟨v, nx⟩ := w
      obtain ⟨v1, v2⟩ := hgl v nx hgm
      rw [hgm] at hR' h5
      simp only at h5
      have hset := hst (learnM (chanM c r out) v)
      rw [hupd v] at hset
      generalize hFF : sixD (fun j => if j < c then chanM c j out else startM) = F at *
      generalize chanM c r out = d at *
      obtain ⟨d0, d1, d2, d3⟩ := d
      simp only [drA] at hR'
      generalize learnM ⟨d0, d1, d2, d3⟩ v = d' at *
      obtain ⟨m0, m1, m2, m3⟩ := d'
      simp only [dlA, dlC] at hR'
      simp only at hg hset
      simp (maxSteps := 4000000) (disch := omega) only [step, stepv, ev, wl, wn, wp, wz, aop, cV, cV1, AV.one, partCells, okW, onlyFr, app, sliceCells, cellsAt, srcA, subA, eqFs, Int.cast_ofNat_Int, simprocAttr, e2]
      refine callQ.vc hC' ?_
      simp (maxSteps := 4000000) (disch := omega) only [step, stepv, ev, wl, wn, wp, wz, aop, cV, cV1, AV.one, partCells, okW, onlyFr, app, sliceCells, cellsAt, srcA, subA, eqFs, Int.cast_ofNat_Int, simprocAttr, e1, e1', hc0, hg, hln]
      refine callD.vc hR' ?_
      simp (maxSteps := 4000000) (disch := omega) only [step, stepv, ev, wl, wn, wp, wz, aop, cV, cV1, AV.one, partCells, okW, onlyFr, app, sliceCells, cellsAt, srcA, subA, eqFs, Int.cast_ofNat_Int, simprocAttr, e1, e1', hc0, hg, hln, hk1, h2]
      have hap : ks .u32 (out.map fun n : Nat => (n : Int)) ++ [.int .u32 (v : Int)] = ks .u32 ((out ++ [v]).map fun n : Nat => (n : Int)) := by simp [ks]
      have hol : (out ++ [v]).length = k + 1 := by simp [h2]
      refine ⟨(k + 1, out ++ [v], a + nx), ⟨by omega, hol, by simp only; omega, fun x hx => ?_, ?_⟩, by simp only; omega, ?_⟩
      · rcases List.mem_append.1 hx with h | h
        · exact h4 x h
        · simp at h; subst h; exact v1
      · simp only
        rw [show T - (k + 1) = T - k - 1 by omega]
        exact h5
      · simp only [hol]
        rw [hset, hap]
        exact Le.dropT [_, _, _] (by simp [isTL_sixD, isTL_ks, isTL, isT, isT_u8]) (by simp [Am.look, frzK, frzL, frzV])
  · obtain rfl : k = T := by omega
    rw [Nat.sub_self, valsM] at h5
    rw [← h5, vlA, n32A, u32L, List.length_map]
    simp (maxSteps := 4000000) (disch := omega) only [step, stepv, ev, wl, wn, wp, wz, aop, cV, cV1, AV.one, partCells, okW, onlyFr, app, sliceCells, cellsAt, srcA, subA, eqFs, Int.cast_ofNat_Int, simprocAttr]
    simp [frzN, frzK, frzL, frzV, frzL_T _ (isTL_ks _ _)]

end Go.Am

namespace Go.Am
open Go.RowKit

/-! ### Decode -/

def iL (o : List Nat) : List Int := o.map fun n : Nat => (n : Int)
def decV (V N c : Nat) (x : Int) (t : List Int) (w : (Nat × List Nat) ⊕ (List Nat × Nat)) : AV :=
  match w with
  | .inl (e, _) => erA e
  | .inr (o, a) => if restM V N a ≠ 0 then erA 12 else rngA x (unB c x t (iL o))
def decA (c x : Int) (t : List Int) (n : Int) (b : List UInt8) : AV :=
  if ask21 c x n ≠ 0 then erA 2 else if openM b ≠ 0 then erA (openM b : Nat) else
    decV (leN (b.take (b.length - 4))) (8 * (b.take (b.length - 4)).length) c.toNat x t (valsM (leN (b.take (b.length - 4))) (8 * (b.take (b.length - 4)).length) c.toNat (n.toNat * c.toNat) [] 0)
theorem isD_decV (V N c : Nat) (x : Int) (t : List Int) (w : (Nat × List Nat) ⊕ (List Nat × Nat)) : isD (decV V N c x t w) = true := by
  unfold decV
  split
  · rfl
  · split
    · rfl
    · exact isD_rng _ _
theorem isD_decA (c x : Int) (t : List Int) (n : Int) (b : List UInt8) : isD (decA c x t n b) = true := by
  unfold decA
  split
  · rfl
  split
  · rfl
  · exact isD_decV _ _ _ _ _ _

theorem ask21_cases {c x n : Int} (h : ask21 c x n = 0) : eCheck c x = 0 ∧ ∃ c' n' : Nat, c = c' ∧ n = n' ∧ 1 ≤ c' ∧ c' ≤ 6 ∧ 1 ≤ n' ∧ n' * c' ≤ 4000 ∧ half x ≠ 0 := by
  unfold ask21 at h
  rcases eCheck_cases c x with h1 | ⟨h1, h2, h3, h4⟩
  · rw [if_pos (by omega)] at h; omega
  · rw [if_neg (by omega)] at h
    split at h
    · omega
    split at h
    · omega
    rename_i h5 h6
    refine ⟨h1, c.toNat, n.toNat, by omega, by omega, by omega, by omega, by omega, ?_, h2⟩
    have h7 : n.toNat ≤ 4000 / c.toNat := by
      have : ((4000 / c.toNat : Nat) : Int) = 4000 / c := by rw [Int.natCast_ediv, Int.toNat_of_nonneg (by omega)]; rfl
      omega
    exact (Nat.le_div_iff_mul_le (by omega)).1 h7

theorem okV_of {V N c n : Nat} {o : List Nat} {a : Nat} (hc : 1 ≤ c) (hc6 : c ≤ 6) (hn : 1 ≤ n) (hnc : n * c ≤ 4000) (h : valsM V N c (n * c) [] 0 = .inr (o, a)) : okV c (iL o) ∧ a ≤ N ∧ o.length = n * c := by
  obtain ⟨_, h2⟩ := vals_spec (V := V) (N := N) (c := c) (n * c) [] 0 (Nat.zero_le _) (fun x hx => by simp at hx)
  obtain ⟨q1, q2, q3⟩ := h2 o a h
  rw [List.length_nil, Nat.zero_add] at q3
  have hpos : 0 < n * c := Nat.mul_pos hn hc
  refine ⟨⟨hc, hc6, by simp [iL]; omega, by simp [iL]; omega, by simp [iL, q3], fun x hx => ?_⟩, q2, q3⟩
  simp only [iL, List.mem_map] at hx
  obtain ⟨y, hy, rfl⟩ := hx
  have := q1 y hy
  omega

def S_Decode (P : Prg) (f : Nat) : Prop := ∀ (c x n : Int) (t : List Int) (b : List UInt8), t.length = 16 → I32 t → b.length ≤ 1000000 → VC P f [shA c x, .agg (ks .i32 t), .int .i64 n, bs b] (decA c x t n b)
set_option maxHeartbeats 2000000 in
theorem deframe_Decode {P : Prg} {f fE fO fF fV fG fS t0 t1 t2 : Nat} (bd : Body P f 87 [.tmp 8, .tmp 9] (ac_deframe_Decode fE fO fF fV fG fS t0 t1 t2)) (hE0 : S_ECheck P fE) (hO : S_opened P fO) (hF : S_bOf P fF) (hV : S_dVals P fV) (hG : S_bGet P fG) (hS : S_DSam P fS) : S_Decode P f := by
  intro c x n t b ht hI hb
  refine VC.of_walk 1 (by simp [isDL, isD_bs, isDL_ks, isD, shA]) (isD_decA _ _ _ _ _) (ACall.of_body bd (by simp) ?_)
  have hE' := hE0 c x
  have hO' := hO b hb
  have hk : (ks .i32 t).length = 16 := by simp [ks_length, ht]
  have tt : (ks .i32 t).take 16 = ks .i32 t := take_all (by omega)
  have ot := ks_one .i32 t
  rw [shA] at hE'
  simp only [bs] at hO'
  unfold decA
  rcases eCheck_cases c x with g1 | ⟨g1, g2, g3, g4⟩
  · have h1 : ask21 c x n = 2 := by unfold ask21; rw [if_pos (by omega)]
    rw [g1] at hE'
    rw [if_pos (by omega), erA]
    simp (maxSteps := 4000000) (disch := omega) only [step, stepv, ev, wl, wn, wp, wz, aop, cV, cV1, AV.one, partCells, okW, onlyFr, app, sliceCells, cellsAt, srcA, subA, eqFs, Int.cast_ofNat_Int, simprocAttr, ac_deframe_Decode, shA, bs, hk, tt, ot]
    refine callQ.vc hE' ?_
    simp (maxSteps := 4000000) (disch := omega) only [step, stepv, ev, wl, wn, wp, wz, aop, cV, cV1, AV.one, partCells, okW, onlyFr, app, sliceCells, cellsAt, srcA, subA, eqFs, Int.cast_ofNat_Int, simprocAttr]
    simp [frzN, frzK, frzL, frzV]
  rw [g1] at hE'
  have ed : ((4000 : Int)).tdiv c = 4000 / c := Int.tdiv_eq_ediv_of_nonneg (by omega)
  have hc0 : c ≠ 0 := by omega
  have hd1 : 4000 / c ≤ 4000 := by
    have := Int.ediv_le_self c (show (0 : Int) ≤ 4000 by omega)
    exact this
  have hd0 : 0 ≤ 4000 / c := Int.ediv_nonneg (by omega) (by omega)
  by_cases h1 : ask21 c x n = 0
  case neg =>
    rw [if_pos h1, erA]
    have h1' : n < 1 ∨ 4000 / c < n := by
      unfold ask21 at h1
      rw [if_neg (by omega)] at h1
      split at h1
      · exact .inl (by assumption)
      split at h1
      · exact .inr (by assumption)
      · omega
    obtain ⟨q, hq⟩ : ∃ q, q = 4000 / c := ⟨_, rfl⟩
    rw [← hq] at hd0 hd1 h1' ed
    have ed2 : (4000 : Int) / c = q := hq.symm
    clear hq
    by_cases h1'' : n < 1
    · simp (maxSteps := 4000000) (disch := omega) only [step, stepv, ev, wl, wn, wp, wz, aop, cV, cV1, AV.one, partCells, okW, onlyFr, app, sliceCells, cellsAt, srcA, subA, eqFs, Int.cast_ofNat_Int, simprocAttr, ac_deframe_Decode, shA, bs, hk, tt, ot]
      refine callQ.vc hE' ?_
      simp (maxSteps := 4000000) (disch := omega) only [step, stepv, ev, wl, wn, wp, wz, aop, cV, cV1, AV.one, partCells, okW, onlyFr, app, sliceCells, cellsAt, srcA, subA, eqFs, Int.cast_ofNat_Int, simprocAttr]
      simp [frzN, frzK, frzL, frzV]
    · have h1''' : q < n := by omega
      simp (maxSteps := 4000000) (disch := omega) only [step, stepv, ev, wl, wn, wp, wz, aop, cV, cV1, AV.one, partCells, okW, onlyFr, app, sliceCells, cellsAt, srcA, subA, eqFs, Int.cast_ofNat_Int, simprocAttr, ac_deframe_Decode, shA, bs, hk, tt, ot]
      refine callQ.vc hE' ?_
      simp (maxSteps := 4000000) (disch := omega) only [step, stepv, ev, wl, wn, wp, wz, aop, cV, cV1, AV.one, partCells, okW, onlyFr, app, sliceCells, cellsAt, srcA, subA, eqFs, Int.cast_ofNat_Int, simprocAttr, ed, ed2, hc0]
      simp [frzN, frzK, frzL, frzV]
  rw [if_neg (by omega)]
  obtain ⟨_, c', n', rfl, rfl, q1, q2, q3, q4, q5⟩ := ask21_cases h1
  have hnq : (n' : Int) ≤ 4000 / (c' : Int) := by
    unfold ask21 at h1
    rw [if_neg (by omega)] at h1
    split at h1
    · omega
    split at h1
    · omega
    · omega
  obtain ⟨q, hq⟩ : ∃ q, q = (4000 : Int) / (c' : Int) := ⟨_, rfl⟩
  rw [← hq] at hd0 hd1 hnq ed
  have ed2 : (4000 : Int) / (c' : Int) = q := hq.symm
  clear hq
  by_cases h2 : openM b = 0
  case neg =>
    have h2' : ((openM b : Nat) : Int) ≠ 0 := by omega
    rw [opA, if_neg h2] at hO'
    rw [if_pos h2, erA]
    generalize openM b = m at *
    simp (maxSteps := 4000000) (disch := omega) only [step, stepv, ev, wl, wn, wp, wz, aop, cV, cV1, AV.one, partCells, okW, onlyFr, app, sliceCells, cellsAt, srcA, subA, eqFs, Int.cast_ofNat_Int, simprocAttr, ac_deframe_Decode, shA, bs, hk, tt, ot]
    refine callQ.vc hE' ?_
    simp (maxSteps := 4000000) (disch := omega) only [step, stepv, ev, wl, wn, wp, wz, aop, cV, cV1, AV.one, partCells, okW, onlyFr, app, sliceCells, cellsAt, srcA, subA, eqFs, Int.cast_ofNat_Int, simprocAttr, ed, ed2, hc0]
    refine callQ.vc hO' ?_
    simp (maxSteps := 4000000) (disch := omega) only [step, stepv, ev, wl, wn, wp, wz, aop, cV, cV1, AV.one, partCells, okW, onlyFr, app, sliceCells, cellsAt, srcA, subA, eqFs, Int.cast_ofNat_Int, simprocAttr]
    simp [frzN, frzK, frzL, frzV]
  rw [if_neg (by omega)]
  have hbl : 5 ≤ b.length ∧ b.length ≤ 41254 := by
    unfold openM at h2
    split at h2
    · omega
    split at h2
    · omega
    · omega
  rw [opA, if_pos h2] at hO'
  have hpl : (b.take (b.length - 4)).length = b.length - 4 := by simp
  have hF' := hF (b.take (b.length - 4)) (by omega)
  have hVlt := leN_lt' (b.take (b.length - 4))
  have hbA := bA_of (b.take (b.length - 4))
  rw [ofA, if_neg (by omega), hbA] at hF'
  simp only [Int.toNat_natCast]
  have hV' := hV (8 * (b.take (b.length - 4)).length) (leN (b.take (b.length - 4))) c' n' hVlt (by omega) q1 q2 q4
  have hG0 := fun a m => hG (8 * (b.take (b.length - 4)).length) (leN (b.take (b.length - 4))) a m hVlt (by omega)
  rw [hbA] at hV'
  simp only [hbA] at hG0
  simp only [bs, hpl] at hF' hV' hG0 hO' hVlt ⊢
  have hNN : 8 * (b.length - 4) ≤ 330000 := by omega
  generalize hp : b.take (b.length - 4) = p at *
  generalize leN p = V at *
  obtain ⟨N, hN⟩ : ∃ N, N = 8 * (b.length - 4) := ⟨_, rfl⟩
  rw [← hN] at hF' hV' hG0 hVlt hNN ⊢
  have hokv := fun o a (h : valsM V N c' (n' * c') [] 0 = .inr (o, a)) => okV_of q1 q2 q3 q4 h
  have hspec := vals_spec (V := V) (N := N) (c := c') (n' * c') [] 0 (Nat.zero_le _) (fun x hx => by simp at hx)
  cases hw : valsM V N c' (n' * c') [] 0 with
  | inl w =>
    obtain ⟨e, o⟩ := w
    have he := (hspec.1 e o hw).1
    have he0 : (e : Int) ≠ 0 := by omega
    rw [hw, vlA] at hV'
    simp only [decV, erA]
    simp (maxSteps := 4000000) (disch := omega) only [step, stepv, ev, wl, wn, wp, wz, aop, cV, cV1, AV.one, partCells, okW, onlyFr, app, sliceCells, cellsAt, srcA, subA, eqFs, Int.cast_ofNat_Int, simprocAttr, ac_deframe_Decode, shA, bs, hk, tt, ot]
    refine callQ.vc hE' ?_
    simp (maxSteps := 4000000) (disch := omega) only [step, stepv, ev, wl, wn, wp, wz, aop, cV, cV1, AV.one, partCells, okW, onlyFr, app, sliceCells, cellsAt, srcA, subA, eqFs, Int.cast_ofNat_Int, simprocAttr, ed, ed2, hc0]
    refine callQ.vc hO' ?_
    simp (maxSteps := 4000000) (disch := omega) only [step, stepv, ev, wl, wn, wp, wz, aop, cV, cV1, AV.one, partCells, okW, onlyFr, app, sliceCells, cellsAt, srcA, subA, eqFs, Int.cast_ofNat_Int, simprocAttr]
    refine callQ.vc hF' ?_
    simp (maxSteps := 4000000) (disch := omega) only [step, stepv, ev, wl, wn, wp, wz, aop, cV, cV1, AV.one, partCells, okW, onlyFr, app, sliceCells, cellsAt, srcA, subA, eqFs, Int.cast_ofNat_Int, simprocAttr]
    refine callQ.vc hV' ?_
    simp (maxSteps := 4000000) (disch := omega) only [step, stepv, ev, wl, wn, wp, wz, aop, cV, cV1, AV.one, partCells, okW, onlyFr, app, sliceCells, cellsAt, srcA, subA, eqFs, Int.cast_ofNat_Int, simprocAttr]
    simp [frzN, frzK, frzL, frzV]
  | inr w =>
    obtain ⟨o, a⟩ := w
    obtain ⟨hv, ha, hol⟩ := hokv o a hw
    rw [hw, vlA, n32A, u32L, List.length_map] at hV'
    simp only [decV]
    have hS' := hS c' x t (iL o) ht hI hv q5
    rw [shA, u32L, iL, List.length_map] at hS'
    by_cases h8 : 7 < N - a
    · have h12 : restM V N a = 12 := by unfold restM; rw [if_pos h8]
      rw [h12, if_pos (by omega), erA]
      simp (maxSteps := 4000000) (disch := omega) only [step, stepv, ev, wl, wn, wp, wz, aop, cV, cV1, AV.one, partCells, okW, onlyFr, app, sliceCells, cellsAt, srcA, subA, eqFs, Int.cast_ofNat_Int, simprocAttr, ac_deframe_Decode, shA, bs, hk, tt, ot]
      refine callQ.vc hE' ?_
      simp (maxSteps := 4000000) (disch := omega) only [step, stepv, ev, wl, wn, wp, wz, aop, cV, cV1, AV.one, partCells, okW, onlyFr, app, sliceCells, cellsAt, srcA, subA, eqFs, Int.cast_ofNat_Int, simprocAttr, ed, ed2, hc0]
      refine callQ.vc hO' ?_
      simp (maxSteps := 4000000) (disch := omega) only [step, stepv, ev, wl, wn, wp, wz, aop, cV, cV1, AV.one, partCells, okW, onlyFr, app, sliceCells, cellsAt, srcA, subA, eqFs, Int.cast_ofNat_Int, simprocAttr]
      refine callQ.vc hF' ?_
      simp (maxSteps := 4000000) (disch := omega) only [step, stepv, ev, wl, wn, wp, wz, aop, cV, cV1, AV.one, partCells, okW, onlyFr, app, sliceCells, cellsAt, srcA, subA, eqFs, Int.cast_ofNat_Int, simprocAttr]
      refine callQ.vc hV' ?_
      simp (maxSteps := 4000000) (disch := omega) only [step, stepv, ev, wl, wn, wp, wz, aop, cV, cV1, AV.one, partCells, okW, onlyFr, app, sliceCells, cellsAt, srcA, subA, eqFs, Int.cast_ofNat_Int, simprocAttr]
      simp [frzN, frzK, frzL, frzV]
    · have hG' := hG0 a (N - a) (by omega) (by omega)
      rw [if_neg (by omega)] at hG'
      have hlt : V / 2 ^ a < 2 ^ (N - a) := Nat.div_lt_of_lt_mul (by rw [← Nat.pow_add, show a + (N - a) = N by omega]; exact hVlt)
      rw [Nat.mod_eq_of_lt hlt] at hG'
      have eNa : (N : Int) - a = ((N - a : Nat) : Int) := by omega
      have h7 : 2 ^ (N - a) ≤ 2 ^ 7 := Nat.pow_le_pow_right (by omega) (by omega)
      have hr : restM V N a = if V / 2 ^ a = 0 then 0 else 12 := by unfold restM; rw [if_neg h8]
      rw [hr]
      generalize V / 2 ^ a = y at *
      obtain ⟨m, hm⟩ : ∃ m, m = N - a := ⟨_, rfl⟩
      rw [← hm] at hG' eNa
      have hm7 : m ≤ 7 := by omega
      by_cases h0 : y = 0
      · subst h0
        rw [if_pos rfl, if_neg (by omega)]
        have hG'' : VC P fG [.agg [.list (b.length - 4) (u8 p), .int .i64 N], .int .i64 a, .int .i64 m] (.tup [.int .u64 0, .int .i64 0]) := hG'
        simp (maxSteps := 4000000) (disch := omega) only [step, stepv, ev, wl, wn, wp, wz, aop, cV, cV1, AV.one, partCells, okW, onlyFr, app, sliceCells, cellsAt, srcA, subA, eqFs, Int.cast_ofNat_Int, simprocAttr, ac_deframe_Decode, shA, bs, hk, tt, ot]
        refine callQ.vc hE' ?_
        simp (maxSteps := 4000000) (disch := omega) only [step, stepv, ev, wl, wn, wp, wz, aop, cV, cV1, AV.one, partCells, okW, onlyFr, app, sliceCells, cellsAt, srcA, subA, eqFs, Int.cast_ofNat_Int, simprocAttr, ed, ed2, hc0]
        refine callQ.vc hO' ?_
        simp (maxSteps := 4000000) (disch := omega) only [step, stepv, ev, wl, wn, wp, wz, aop, cV, cV1, AV.one, partCells, okW, onlyFr, app, sliceCells, cellsAt, srcA, subA, eqFs, Int.cast_ofNat_Int, simprocAttr]
        refine callQ.vc hF' ?_
        simp (maxSteps := 4000000) (disch := omega) only [step, stepv, ev, wl, wn, wp, wz, aop, cV, cV1, AV.one, partCells, okW, onlyFr, app, sliceCells, cellsAt, srcA, subA, eqFs, Int.cast_ofNat_Int, simprocAttr]
        refine callQ.vc hV' ?_
        simp (maxSteps := 4000000) (disch := omega) only [step, stepv, ev, wl, wn, wp, wz, aop, cV, cV1, AV.one, partCells, okW, onlyFr, app, sliceCells, cellsAt, srcA, subA, eqFs, Int.cast_ofNat_Int, simprocAttr, eNa]
        refine callQ.vc hG'' ?_
        simp (maxSteps := 4000000) (disch := omega) only [step, stepv, ev, wl, wn, wp, wz, aop, cV, cV1, AV.one, partCells, okW, onlyFr, app, sliceCells, cellsAt, srcA, subA, eqFs, Int.cast_ofNat_Int, simprocAttr, hk, tt, ot]
        refine callQ.vc hS' ?_
        simp only [iL]
        generalize unB c' x t (o.map fun n : Nat => (n : Int)) = z at *
        unfold rngA
        by_cases h4 : checkN x z = 0
        · rw [if_neg (by omega)]
          simp (maxSteps := 4000000) (disch := omega) only [step, stepv, ev, wl, wn, wp, wz, aop, cV, cV1, AV.one, partCells, okW, onlyFr, app, sliceCells, cellsAt, srcA, subA, eqFs, Int.cast_ofNat_Int, simprocAttr, il]
          simp [frzN, frzK, frzL, frzV, frzL_T _ (isTL_ks _ _)]
        · rw [if_pos h4]
          simp (maxSteps := 4000000) (disch := omega) only [step, stepv, ev, wl, wn, wp, wz, aop, cV, cV1, AV.one, partCells, okW, onlyFr, app, sliceCells, cellsAt, srcA, subA, eqFs, Int.cast_ofNat_Int, simprocAttr]
          simp [frzN, frzK, frzL, frzV]
      · rw [if_neg h0, if_pos (by omega), erA]
        simp (maxSteps := 4000000) (disch := omega) only [step, stepv, ev, wl, wn, wp, wz, aop, cV, cV1, AV.one, partCells, okW, onlyFr, app, sliceCells, cellsAt, srcA, subA, eqFs, Int.cast_ofNat_Int, simprocAttr, ac_deframe_Decode, shA, bs, hk, tt, ot]
        refine callQ.vc hE' ?_
        simp (maxSteps := 4000000) (disch := omega) only [step, stepv, ev, wl, wn, wp, wz, aop, cV, cV1, AV.one, partCells, okW, onlyFr, app, sliceCells, cellsAt, srcA, subA, eqFs, Int.cast_ofNat_Int, simprocAttr, ed, ed2, hc0]
        refine callQ.vc hO' ?_
        simp (maxSteps := 4000000) (disch := omega) only [step, stepv, ev, wl, wn, wp, wz, aop, cV, cV1, AV.one, partCells, okW, onlyFr, app, sliceCells, cellsAt, srcA, subA, eqFs, Int.cast_ofNat_Int, simprocAttr]
        refine callQ.vc hF' ?_
        simp (maxSteps := 4000000) (disch := omega) only [step, stepv, ev, wl, wn, wp, wz, aop, cV, cV1, AV.one, partCells, okW, onlyFr, app, sliceCells, cellsAt, srcA, subA, eqFs, Int.cast_ofNat_Int, simprocAttr]
        refine callQ.vc hV' ?_
        simp (maxSteps := 4000000) (disch := omega) only [step, stepv, ev, wl, wn, wp, wz, aop, cV, cV1, AV.one, partCells, okW, onlyFr, app, sliceCells, cellsAt, srcA, subA, eqFs, Int.cast_ofNat_Int, simprocAttr, eNa]
        refine callQ.vc hG' ?_
        simp (maxSteps := 4000000) (disch := omega) only [step, stepv, ev, wl, wn, wp, wz, aop, cV, cV1, AV.one, partCells, okW, onlyFr, app, sliceCells, cellsAt, srcA, subA, eqFs, Int.cast_ofNat_Int, simprocAttr]
        simp [frzN, frzK, frzL, frzV]

end Go.Am

namespace Go.Am
open Go.RowKit

/-! ### How many samples are good (plain) -/

theorem chk_all {x : Int} {l : List Int} (hx : half x ≠ 0) (hl : l.length ≤ 4000) : checkN x l = if l.all (inR x) then 0 else 16 := by
  unfold checkN
  rw [if_neg hx, if_neg (by omega)]

/-! ### verdict.check, sound -/

end Go.Am

namespace Go.Am
open Go.RowKit

/-! ### verdict.values -/

def vlsM : (Nat × List Nat) ⊕ (List Nat × Nat) → List Nat
  | .inl (_, o) => o
  | .inr (o, _) => o
def allV (b : List UInt8) (c n : Nat) : (Nat × List Nat) ⊕ (List Nat × Nat) := valsM (leN (b.take (b.length - 4))) (8 * (b.take (b.length - 4)).length) c (n * c) [] 0
end Go.Am

namespace Go.Am
open Go.RowKit

/-! ### verdict.good -/

theorem mod_mul (m c : Nat) : (m * c) % c = 0 := Nat.mul_mod_left m c
/-! ### verdict.Judge -/

def errV (V N c : Nat) (x : Int) (t : List Int) (w : (Nat × List Nat) ⊕ (List Nat × Nat)) : Int :=
  match w with
  | .inl (e, _) => e
  | .inr (o, a) => if restM V N a ≠ 0 then 12 else checkN x (unB c x t (iL o))
def errD (c x : Int) (t : List Int) (n : Int) (b : List UInt8) : Int :=
  if ask21 c x n ≠ 0 then 2 else if openM b ≠ 0 then (openM b : Nat) else
    errV (leN (b.take (b.length - 4))) (8 * (b.take (b.length - 4)).length) c.toNat x t (allV b c.toNat n.toNat)
end Go.Am

namespace Go.Am
open Go.RowKit

/-! ### Silence, Heal -/

def decL (c x : Int) (t : List Int) (n : Int) (b : List UInt8) : List Int := if errD c x t n b = 0 then unB c.toNat x t (iL (vlsM (allV b c.toNat n.toNat))) else []
theorem dec_eq (c x n : Int) (t : List Int) (b : List UInt8) : decA c x t n b = .tup [il (decL c x t n b), .int .i64 (errD c x t n b)] ∧ (decL c x t n b).length ≤ 4000 := by
  unfold decA decL errD allV
  by_cases h1 : ask21 c x n = 0
  case neg => simp only [if_pos h1]; exact ⟨rfl, by simp⟩
  have a1 : ¬ (ask21 c x n ≠ 0) := by omega
  simp only [if_neg a1]
  by_cases h2 : openM b = 0
  case neg =>
    have h2' : ((openM b : Nat) : Int) ≠ 0 := by omega
    simp only [if_pos h2, if_neg h2']
    exact ⟨rfl, by simp⟩
  have a2 : ¬ (openM b ≠ 0) := by omega
  simp only [if_neg a2]
  obtain ⟨_, c', n', rfl, rfl, q1, q2, q3, q4, q5⟩ := ask21_cases h1
  simp only [Int.toNat_natCast]
  have hs := vals_spec (V := leN (b.take (b.length - 4))) (N := 8 * (b.take (b.length - 4)).length) (c := c') (n' * c') [] 0 (Nat.zero_le _) (fun x hx => by simp at hx)
  generalize leN (b.take (b.length - 4)) = V at *
  generalize 8 * (b.take (b.length - 4)).length = N at *
  cases hw : valsM V N c' (n' * c') [] 0 with
  | inl w =>
    obtain ⟨e, o⟩ := w
    have he := (hs.1 e o hw).1
    have he0 : ¬ ((e : Int) = 0) := by omega
    have he2 : ¬ (errV V N c' x t (.inl (e, o)) = 0) := he0
    rw [if_neg he2]
    exact ⟨rfl, by simp⟩
  | inr w =>
    obtain ⟨o, a⟩ := w
    obtain ⟨hv, ha, hol⟩ := okV_of q1 q2 q3 q4 hw
    simp only [decV, errV, vlsM]
    by_cases h3 : restM V N a = 0
    · have a3 : ¬ (restM V N a ≠ 0) := by omega
      simp only [if_neg a3]
      unfold rngA
      by_cases h4 : checkN x (unB c' x t (iL o)) = 0
      · have a4 : ¬ (checkN x (unB c' x t (iL o)) ≠ 0) := by omega
        simp only [if_neg a4, if_pos h4]
        rw [h4]
        exact ⟨rfl, by rw [unB_len]; simp only [iL, List.length_map]; omega⟩
      · simp only [if_pos h4, if_neg h4]
        exact ⟨rfl, by simp⟩
    · have a5 : ¬ ((12 : Int) = 0) := by omega
      simp only [if_pos h3, if_neg a5]
      exact ⟨rfl, by simp⟩
end Go.Am

namespace Go.Am
open Go.RowKit

/-! ### Codes (plain) -/

theorem N32.take {v : List Nat} (h : N32 v) (i : Nat) : N32 (v.take i) := fun x hx => h x (List.mem_of_mem_take hx)
theorem N32.getD {v : List Nat} (h : N32 v) (i : Nat) : v.getD i 0 < 4294967296 := by
  rw [List.getD_eq_getElem?_getD]
  cases hx : v[i]? with
  | none => simp
  | some x => exact h x (List.mem_of_getElem? hx)
def sealB (p : List UInt8) : List UInt8 := p ++ leB (sumM p) 4
end Go.Am

namespace Go.Am
open Go.RowKit

/-! ### Chapter 21: the examples hold -/


def S_mono (P : Prg) (f : Nat) : Prop := VC P f [] (shA 1 16)
theorem law21_mono {P : Prg} {f t0 : Nat} (bd : Body P f 2 [.cell 0 t0] (ac_cadenzalaw21_mono t0)) (ht : aggO P t0 = some (some 2)) : S_mono P f := by
  refine VC.of_acall rfl rfl (ACall.of_body bd (by simp) ?_)
  simp (maxSteps := 4000000) (disch := omega) only [step, stepv, ev, wl, wn, wp, wz, aop, cV, cV1, AV.one, partCells, okW, onlyFr, app, sliceCells, cellsAt, srcA, subA, eqFs, Int.cast_ofNat_Int, simprocAttr, ac_cadenzalaw21_mono, resA, ht, oneOf, shA]

def fr0 : List UInt8 := sealB [0, 0, 0]
theorem fr0_len : fr0.length = 7 := by decide +kernel
theorem I32_z16 : I32 z16 := by
  intro v hv
  have := List.eq_of_mem_replicate hv
  omega
theorem fr0_two : decA 1 16 z16 2 fr0 = .tup [il [0, 0], .int .i64 0] := by
  have h1 : decL 1 16 z16 2 fr0 = [0, 0] := by decide +kernel
  have h2 : errD 1 16 z16 2 fr0 = 0 := by decide +kernel
  rw [(dec_eq _ _ _ _ _).1, h1, h2]
theorem fr0_one : decA 1 16 z16 1 fr0 = .tup [il [], .int .i64 12] := by
  have h1 : decL 1 16 z16 1 fr0 = [] := by decide +kernel
  have h2 : errD 1 16 z16 1 fr0 = 12 := by decide +kernel
  rw [(dec_eq _ _ _ _ _).1, h1, h2]
theorem fr0_three : decA 1 16 z16 3 fr0 = .tup [il [], .int .i64 24] := by
  have h1 : decL 1 16 z16 3 fr0 = [] := by decide +kernel
  have h2 : errD 1 16 z16 3 fr0 = 24 := by decide +kernel
  rw [(dec_eq _ _ _ _ _).1, h1, h2]
theorem df_ex : dfA 1 16 z16 [2, 1] = .tup [il [1, -1], .int .i64 0] := by
  have h1 : unB 1 16 z16 [2, 1] = [1, -1] := by decide +kernel
  have h2 : checkN 16 [1, -1] = 0 := by decide +kernel
  have h3 : eCheck 1 16 = 0 := by decide +kernel
  have h4 := df_ok (k := 1) (x := 16) (t := z16) (v := [2, 1]) h3 (by decide) (by decide)
  rw [show ((1 : Nat) : Int) = 1 from rfl] at h4
  rw [h4, rngA, h1, if_neg (by omega)]

def S_alive21 (P : Prg) (f : Nat) : Prop := VC P f [] (.bool true)
set_option maxHeartbeats 1000000 in
theorem law21_alive {P : Prg} {f fM fS fZ fD fE t0 t1 t2 t3 : Nat} (bd : Body P f 65 [.tmp 0] (ac_cadenzalaw21_alive fM fS fZ fD fE t0 t1 t2 t3)) (hM : S_mono P fM) (hS : S_DSamples P fS) (hZ : S_Sealed P fZ) (hD : S_Decode P fD) (hE : S_ISame P fE) : S_alive21 P f := by
  refine VC.of_acall rfl rfl (ACall.of_body bd (by simp) ?_)
  have hS' := hS 1 16 z16 [2, 1] rfl I32_z16 (by intro x hx; simp at hx; omega)
  have hZ' := hZ [0, 0, 0] (by decide)
  have hD2 := hD 1 16 2 z16 fr0 rfl I32_z16 (by rw [fr0_len]; omega)
  have hD1 := hD 1 16 1 z16 fr0 rfl I32_z16 (by rw [fr0_len]; omega)
  have hD3 := hD 1 16 3 z16 fr0 rfl I32_z16 (by rw [fr0_len]; omega)
  have hE1 := hE [1, -1] (by decide)
  have hE2 := hE [0, 0] (by decide)
  rw [df_ex] at hS'
  rw [fr0_two] at hD2
  rw [fr0_one] at hD1
  rw [fr0_three] at hD3
  rw [show [0, 0, 0] ++ leB (sumM [0, 0, 0]) 4 = fr0 from rfl] at hZ'
  simp only [bs, fr0_len] at hZ' hD1 hD2 hD3
  generalize u8 fr0 = U at *
  have hM' : VC P fM [] (.agg [.int .i64 1, .int .i64 16]) := hM
  have hz : VC P fZ [.list 3 [.int .u8 0, .int .u8 0, .int .u8 0]] (.list 7 U) := hZ'
  have hs : VC P fS [.agg [.int .i64 1, .int .i64 16], .agg [.int .i32 0, .int .i32 0, .int .i32 0, .int .i32 0, .int .i32 0, .int .i32 0, .int .i32 0, .int .i32 0, .int .i32 0, .int .i32 0, .int .i32 0, .int .i32 0, .int .i32 0, .int .i32 0, .int .i32 0, .int .i32 0], .list 2 [.int .u32 2, .int .u32 1]] (.tup [.list 2 [.int .i32 1, .int .i32 (-1)], .int .i64 0]) := hS'
  have h2 : VC P fD [.agg [.int .i64 1, .int .i64 16], .agg [.int .i32 0, .int .i32 0, .int .i32 0, .int .i32 0, .int .i32 0, .int .i32 0, .int .i32 0, .int .i32 0, .int .i32 0, .int .i32 0, .int .i32 0, .int .i32 0, .int .i32 0, .int .i32 0, .int .i32 0, .int .i32 0], .int .i64 2, .list 7 U] (.tup [.list 2 [.int .i32 0, .int .i32 0], .int .i64 0]) := hD2
  have h1 : VC P fD [.agg [.int .i64 1, .int .i64 16], .agg [.int .i32 0, .int .i32 0, .int .i32 0, .int .i32 0, .int .i32 0, .int .i32 0, .int .i32 0, .int .i32 0, .int .i32 0, .int .i32 0, .int .i32 0, .int .i32 0, .int .i32 0, .int .i32 0, .int .i32 0, .int .i32 0], .int .i64 1, .list 7 U] (.tup [.list 0 [], .int .i64 12]) := hD1
  have h3 : VC P fD [.agg [.int .i64 1, .int .i64 16], .agg [.int .i32 0, .int .i32 0, .int .i32 0, .int .i32 0, .int .i32 0, .int .i32 0, .int .i32 0, .int .i32 0, .int .i32 0, .int .i32 0, .int .i32 0, .int .i32 0, .int .i32 0, .int .i32 0, .int .i32 0, .int .i32 0], .int .i64 3, .list 7 U] (.tup [.list 0 [], .int .i64 24]) := hD3
  have hE1' : VC P fE [.list 2 [.int .i32 1, .int .i32 (-1)], .list 2 [.int .i32 1, .int .i32 (-1)]] (.bool true) := hE1
  have hE2' : VC P fE [.list 2 [.int .i32 0, .int .i32 0], .list 2 [.int .i32 0, .int .i32 0]] (.bool true) := hE2
  clear hM hS hZ hD hE hS' hZ' hD1 hD2 hD3 hE1 hE2
  simp (maxSteps := 4000000) (disch := omega) only [step, stepv, ev, wl, wn, wp, wz, aop, cV, cV1, AV.one, partCells, okW, onlyFr, app, sliceCells, cellsAt, srcA, subA, eqFs, Int.cast_ofNat_Int, simprocAttr, ac_cadenzalaw21_alive]
  refine callD.vc hM' ?_
  simp (maxSteps := 4000000) (disch := omega) only [step, stepv, ev, wl, wn, wp, wz, aop, cV, cV1, AV.one, partCells, okW, onlyFr, app, sliceCells, cellsAt, srcA, subA, eqFs, Int.cast_ofNat_Int, simprocAttr, sealw, isDL, isD]
  refine callD.vc hs ?_
  simp (maxSteps := 4000000) (disch := omega) only [step, stepv, ev, wl, wn, wp, wz, aop, cV, cV1, AV.one, partCells, okW, onlyFr, app, sliceCells, cellsAt, srcA, subA, eqFs, Int.cast_ofNat_Int, simprocAttr]
  refine callQ.still 1 [2] hz ?_ ?_
  · simp [frzN, frzK, frzL, frzV]
  simp (maxSteps := 4000000) (disch := omega) only [step, stepv, ev, wl, wn, wp, wz, aop, cV, cV1, AV.one, partCells, okW, onlyFr, app, sliceCells, cellsAt, srcA, subA, eqFs, Int.cast_ofNat_Int, simprocAttr, stillAt]
  refine callD.vc hM' ?_
  simp (maxSteps := 4000000) (disch := omega) only [step, stepv, ev, wl, wn, wp, wz, aop, cV, cV1, AV.one, partCells, okW, onlyFr, app, sliceCells, cellsAt, srcA, subA, eqFs, Int.cast_ofNat_Int, simprocAttr]
  refine callD.vc h2 ?_
  simp (maxSteps := 4000000) (disch := omega) only [step, stepv, ev, wl, wn, wp, wz, aop, cV, cV1, AV.one, partCells, okW, onlyFr, app, sliceCells, cellsAt, srcA, subA, eqFs, Int.cast_ofNat_Int, simprocAttr]
  refine callD.vc hM' ?_
  simp (maxSteps := 4000000) (disch := omega) only [step, stepv, ev, wl, wn, wp, wz, aop, cV, cV1, AV.one, partCells, okW, onlyFr, app, sliceCells, cellsAt, srcA, subA, eqFs, Int.cast_ofNat_Int, simprocAttr]
  refine callD.vc h1 ?_
  simp (maxSteps := 4000000) (disch := omega) only [step, stepv, ev, wl, wn, wp, wz, aop, cV, cV1, AV.one, partCells, okW, onlyFr, app, sliceCells, cellsAt, srcA, subA, eqFs, Int.cast_ofNat_Int, simprocAttr]
  refine callD.vc hM' ?_
  simp (maxSteps := 4000000) (disch := omega) only [step, stepv, ev, wl, wn, wp, wz, aop, cV, cV1, AV.one, partCells, okW, onlyFr, app, sliceCells, cellsAt, srcA, subA, eqFs, Int.cast_ofNat_Int, simprocAttr]
  refine callD.vc h3 ?_
  simp (maxSteps := 4000000) (disch := omega) only [step, stepv, ev, wl, wn, wp, wz, aop, cV, cV1, AV.one, partCells, okW, onlyFr, app, sliceCells, cellsAt, srcA, subA, eqFs, Int.cast_ofNat_Int, simprocAttr]
  refine callQ.still 1 [3] hE1' ?_ ?_
  · simp [frzN, frzK, frzL, frzV]
  simp (maxSteps := 4000000) (disch := omega) only [step, stepv, ev, wl, wn, wp, wz, aop, cV, cV1, AV.one, partCells, okW, onlyFr, app, sliceCells, cellsAt, srcA, subA, eqFs, Int.cast_ofNat_Int, simprocAttr, stillAt]
  refine callQ.still 1 [4] hE2' ?_ ?_
  · simp [frzN, frzK, frzL, frzV]
  simp (maxSteps := 4000000) (disch := omega) only [step, stepv, ev, wl, wn, wp, wz, aop, cV, cV1, AV.one, partCells, okW, onlyFr, app, sliceCells, cellsAt, srcA, subA, eqFs, Int.cast_ofNat_Int, simprocAttr, stillAt]

end Go.Am

namespace Go.Am
open Go.RowKit

/-! ### chain.Undo -/

def S_Chchk (P : Prg) (f : Nat) : Prop := ∀ (c : Chan) (l : List Int), okCh c → VC P f [.agg (chanL c), il l] (.int .i64 (if 4000 < l.length then 4 else 0))
theorem chain_check {P : Prg} {f fC t0 : Nat} (bd : Body P f 14 [.tmp 4] (ac_chain_check fC t0)) (hC : S_CCheck P fC) : S_Chchk P f := by
  intro c l hc
  have ot := chan_one c
  have lc := chan_len hc.2.2.1
  have tc : (chanL c).take 35 = chanL c := take_all (by omega)
  refine VC.of_acall (by simp [isDL, isD, isD_il, isDL_chan]) rfl (ACall.of_body bd (by simp) ?_)
  have hC' := hC c hc
  simp (maxSteps := 4000000) (disch := omega) only [step, stepv, ev, wl, wn, wp, wz, aop, cV, cV1, AV.one, partCells, okW, onlyFr, app, sliceCells, cellsAt, srcA, subA, eqFs, Int.cast_ofNat_Int, simprocAttr, ac_chain_check, il, lc, ot, tc]
  refine callQ.vc hC' ?_
  by_cases h : 4000 < l.length
  · simp (maxSteps := 4000000) (disch := omega) only [step, stepv, ev, wl, wn, wp, wz, aop, cV, cV1, AV.one, partCells, okW, onlyFr, app, sliceCells, cellsAt, srcA, subA, eqFs, Int.cast_ofNat_Int, simprocAttr, h, if_pos h]
  · simp (maxSteps := 4000000) (disch := omega) only [step, stepv, ev, wl, wn, wp, wz, aop, cV, cV1, AV.one, partCells, okW, onlyFr, app, sliceCells, cellsAt, srcA, subA, eqFs, Int.cast_ofNat_Int, simprocAttr, h, if_neg h]

def S_Undo1 (P : Prg) (f : Nat) : Prop := ∀ (z : Chan) (L : List Int), okCh z → L.length ≤ 4000 → VC P f [.agg (chanL z), il L] (.tup [il (bacT 1 L z L.length), .agg (chanL (stB 1 L z 0 L.length)), .int .i64 0])
theorem bacV_one (L : List Int) (z : Chan) (j : Nat) : bacV 1 L z j = cbckX (stB 1 L z 0 j) (L.getD j 0) := by
  rw [bacV, Nat.mod_one, Nat.div_one]
set_option maxHeartbeats 1000000 in
theorem chain_Undo {P : Prg} {f fC fB t0 t1 : Nat} (bd : Body P f 39 [.tmp 4, .cell 5 t0, .tmp 6] (ac_chain_Undo fC fB t0 t1)) (hC : S_Chchk P fC) (hB : S_CBack P fB) (ht : aggO P t0 = some (some 35)) : S_Undo1 P f := by
  intro z L hz hL
  have ot := chan_one z
  have lc := chan_len hz.2.2.1
  have tc : (chanL z).take 35 = chanL z := take_all (by omega)
  have lz := chan_len ok_zeroC
  have oz := chan_one zeroC
  have dz : (chanL zeroC).drop 35 = [] := List.drop_eq_nil_of_le (by omega)
  refine VC.of_walk 1 (by simp [isDL, isD, isD_il, isDL_chan]) (by simp [isD, isDL, isD_il, isDL_chan]) (ACall.of_body bd (by simp) ?_)
  have hC' := hC z L hz
  rw [if_neg (by omega)] at hC'
  unfold ac_chain_Undo
  rw [← zeroC_eq]
  simp only [il] at hC' ⊢
  simp (maxSteps := 4000000) (disch := omega) only [step, stepv, ev, wl, wn, wp, wz, aop, cV, cV1, AV.one, partCells, okW, onlyFr, app, sliceCells, cellsAt, srcA, subA, eqFs, Int.cast_ofNat_Int, simprocAttr, lc, ot, tc, lz, oz]
  refine callQ.vc hC' ?_
  simp (maxSteps := 4000000) (disch := omega) only [step, stepv, ev, wl, wn, wp, wz, aop, cV, cV1, AV.one, partCells, okW, onlyFr, app, sliceCells, cellsAt, srcA, subA, eqFs, Int.cast_ofNat_Int, simprocAttr]
  refine ALoop.by (ι := Nat) (fun i => ⟨[(21, .int .i64 i), (20, .int .i64 L.length), (19, .list L.length (ks .i32 L)), (8, .own 2 i), (5, .ref 1 1 0), (2, .ref 0 1 0)],
      [⟨t0, 35, 1, chanL (stB 1 L z 0 i), 0⟩, ⟨t0, 35, 1, chanL zeroC, 0⟩, ⟨t1, 1, i, ks .i32 (bacT 1 L z i), 0⟩]⟩) (fun i => i ≤ L.length) (fun i => L.length - i) 0
    (Le.trans (Le.virt 8 t1 1 (by decide) rfl) (Le.slots (by simp [Am.look]))) (Nat.zero_le _) ?_
  intro i hi
  have lo := bacT_len 1 L z i
  have hok := ok_stB (c := 1) (L := L) hz 0 i
  have l1 := chan_len hok.2.2.1
  have o1 := chan_one (stB 1 L z 0 i)
  have t1' : (chanL (stB 1 L z 0 i)).take 35 = chanL (stB 1 L z 0 i) := take_all (by omega)
  have d1 : (chanL (stB 1 L z 0 i)).drop 35 = [] := List.drop_eq_nil_of_le (by omega)
  by_cases hlt : i < L.length
  · have e2 := ks_at (K := .i32) (l := L) (i := i) hlt
    have hB' := hB _ (L.getD i 0) hok
    have hs : stB 1 L z 0 (i + 1) = cbckC (stB 1 L z 0 i) (L.getD i 0) := by rw [stB, Nat.mul_one, Nat.zero_add]
    have hb : cbckX (stB 1 L z 0 i) (L.getD i 0) = bacV 1 L z i := (bacV_one L z i).symm
    have e3 : ks .i32 (bacT 1 L z i) ++ [.int .i32 (bacV 1 L z i)] = ks .i32 (bacT 1 L z (i + 1)) := by rw [ks_snoc, ← bacT_succ]
    rw [← hs, hb] at hB'
    have hok2 := ok_stB (c := 1) (L := L) hz 0 (i + 1)
    have l2 := chan_len hok2.2.2.1
    have o2 := chan_one (stB 1 L z 0 (i + 1))
    have t2 : (chanL (stB 1 L z 0 (i + 1))).take 35 = chanL (stB 1 L z 0 (i + 1)) := take_all (by omega)
    simp (maxSteps := 4000000) (disch := omega) only [step, stepv, ev, wl, wn, wp, wz, aop, cV, cV1, AV.one, partCells, okW, onlyFr, app, sliceCells, cellsAt, srcA, subA, eqFs, Int.cast_ofNat_Int, simprocAttr, e2, l1, o1, t1']
    refine callQ.vc hB' ?_
    simp (maxSteps := 4000000) (disch := omega) only [step, stepv, ev, wl, wn, wp, wz, aop, cV, cV1, AV.one, partCells, okW, onlyFr, app, sliceCells, cellsAt, srcA, subA, eqFs, Int.cast_ofNat_Int, simprocAttr, l1, o1, t1', d1, l2, o2, t2, e3, lo, List.append_nil, List.take_zero, List.nil_append]
    exact ⟨i + 1, by omega, by omega, Le.dropT [_, _, _] (by simp [isTL_chan, isTL_ks]) (by simp [Am.look, frzK, frzL, frzV, frzL_T _ (isTL_ks _ _)])⟩
  · obtain rfl : i = L.length := by omega
    simp (maxSteps := 4000000) (disch := omega) only [step, stepv, ev, wl, wn, wp, wz, aop, cV, cV1, AV.one, partCells, okW, onlyFr, app, sliceCells, cellsAt, srcA, subA, eqFs, Int.cast_ofNat_Int, simprocAttr, l1, o1, t1', lz, oz, dz, resA, ht, oneOf, List.append_nil, List.take_zero, List.nil_append]
    simp [frzN, frzK, frzL, frzV, il, lo, frzL_T _ (isTL_ks _ _), frzL_T _ (isTL_chan _)]

end Go.Am

namespace Go.Am
open Go.RowKit

/-! ### The law DeframeParts -/

theorem ud_one (l : List Int) (b : Nat) : ud l b 1 0 = l.getD b 0 := by simp [ud]
theorem undAll_one (l : List Int) : undAll 1 l = l := by
  apply getD_ext (undAll_len _ _)
  intro j hj
  rw [undAll_len] at hj
  rw [undAll, undT, map_getD hj, undV, Nat.mod_one, Nat.div_one, Nat.one_mul]
  exact ud_one l j
theorem unB_one (x : Int) (t v : List Int) : unB 1 x t v = bacT 1 (v.map backN) (newC x t) v.length := by rw [unB, undAll_one]
theorem inR_iff {x y : Int} : inR x y = true ↔ -half x ≤ y ∧ y < half x := by simp [inR]

def S_LawParts (P : Prg) (f : Nat) : Prop := ∀ (x : Int) (t v : List Int), t.length = 16 → I32 t → U32 v → VC P f [.int .i64 x, .agg (ks .i32 t), u32L v] (.bool true)
set_option maxHeartbeats 2000000 in
set_option maxRecDepth 20000 in
theorem law21_DeframeParts {P : Prg} {f fA fC fS fN fB fU fE t0 t1 t2 t3 : Nat} (bd : Body P f 128 [.tmp 6] (ac_cadenzalaw21_DeframeParts fA fC fS fN fB fU fE t0 t1 t2 t3)) (hA : S_alive21 P fA) (hC : S_ECheck P fC) (hS : S_DSamples P fS) (hN : S_CNew P fN) (hB : S_UBack P fB) (hU : S_Undo1 P fU) (hE : S_ISame P fE) : S_LawParts P f := by
  intro x t v ht hI hV
  have hk : (ks .i32 t).length = 16 := by simp [ks_length, ht]
  have tt : (ks .i32 t).take 16 = ks .i32 t := take_all (by omega)
  have ot := ks_one .i32 t
  refine VC.of_acall (by simp [isDL, isD, isD_u32L, isDL_ks]) rfl (ACall.of_body bd (by simp) ?_)
  have hA' : VC P fA [] (.bool true) := hA
  have hC' := hC 1 x
  have hS' := hS 1 x t v ht hI hV
  have hN' := hN x t ht hI
  simp only [shA, u32L] at hC' hS' ⊢
  unfold ac_cadenzalaw21_DeframeParts
  rw [← zeroC_eq]
  by_cases h1 : v.length < 1
  · simp (maxSteps := 4000000) (disch := omega) only [step, stepv, ev, wl, wn, wp, wz, aop, cV, cV1, AV.one, partCells, okW, onlyFr, app, sliceCells, cellsAt, srcA, subA, eqFs, Int.cast_ofNat_Int, simprocAttr, hk, ot, tt]
    refine callQ.vc hA' ?_
    simp (maxSteps := 4000000) (disch := omega) only [step, stepv, ev, wl, wn, wp, wz, aop, cV, cV1, AV.one, partCells, okW, onlyFr, app, sliceCells, cellsAt, srcA, subA, eqFs, Int.cast_ofNat_Int, simprocAttr, h1]
  by_cases h2 : 600 < v.length
  · simp (maxSteps := 4000000) (disch := omega) only [step, stepv, ev, wl, wn, wp, wz, aop, cV, cV1, AV.one, partCells, okW, onlyFr, app, sliceCells, cellsAt, srcA, subA, eqFs, Int.cast_ofNat_Int, simprocAttr, hk, ot, tt]
    refine callQ.vc hA' ?_
    simp (maxSteps := 4000000) (disch := omega) only [step, stepv, ev, wl, wn, wp, wz, aop, cV, cV1, AV.one, partCells, okW, onlyFr, app, sliceCells, cellsAt, srcA, subA, eqFs, Int.cast_ofNat_Int, simprocAttr, h1, h2]
  rcases eCheck_cases 1 x with h3 | ⟨h3, hx, _, _⟩
  · rw [h3] at hC'
    simp (maxSteps := 4000000) (disch := omega) only [step, stepv, ev, wl, wn, wp, wz, aop, cV, cV1, AV.one, partCells, okW, onlyFr, app, sliceCells, cellsAt, srcA, subA, eqFs, Int.cast_ofNat_Int, simprocAttr, hk, ot, tt]
    refine callQ.vc hA' ?_
    simp (maxSteps := 4000000) (disch := omega) only [step, stepv, ev, wl, wn, wp, wz, aop, cV, cV1, AV.one, partCells, okW, onlyFr, app, sliceCells, cellsAt, srcA, subA, eqFs, Int.cast_ofNat_Int, simprocAttr, h1, h2]
    refine callQ.vc hC' ?_
    simp (maxSteps := 4000000) (disch := omega) only [step, stepv, ev, wl, wn, wp, wz, aop, cV, cV1, AV.one, partCells, okW, onlyFr, app, sliceCells, cellsAt, srcA, subA, eqFs, Int.cast_ofNat_Int, simprocAttr]
  rw [h3] at hC'
  have hz : v.length % 1 = 0 := Nat.mod_one _
  have e1 : dfA 1 x t v = rngA x (unB 1 x t v) := df_ok (k := 1) h3 (by omega) (by omega)
  rw [e1, unB_one] at hS'
  rw [cnewA, if_neg hx] at hN'
  have hokc := ok_newC hx ht hI
  have hU' := hU (newC x t) (v.map backN) hokc (by rw [List.length_map]; omega)
  rw [List.length_map] at hU'
  have lz' := bacT_len 1 (v.map backN) (newC x t) v.length
  have hIz := I32_bacT 1 (v.map backN) (newC x t) v.length
  have hok2 := ok_stB (c := 1) (L := v.map backN) hokc 0 v.length
  generalize stB 1 (v.map backN) (newC x t) 0 v.length = st at *
  generalize bacT 1 (v.map backN) (newC x t) v.length = z at *
  have l1 := chan_len hokc.2.2.1
  have o1 := chan_one (newC x t)
  have t1' : (chanL (newC x t)).take 35 = chanL (newC x t) := take_all (by omega)
  have l2 := chan_len hok2.2.2.1
  have o2 := chan_one st
  have t2' : (chanL st).take 35 = chanL st := take_all (by omega)
  have lz := chan_len ok_zeroC
  have oz := chan_one zeroC
  have dz : (chanL zeroC).drop 35 = [] := List.drop_eq_nil_of_le (by omega)
  have hE' := hE z (by omega)
  simp only [il, List.length_map, lz'] at hU' hE'
  obtain ⟨m, er, hm, hml⟩ : ∃ (m : List Int) (er : Int), rngA x z = .tup [il m, .int .i64 er] ∧ (if z.all (inR x) then m = z ∧ er = 0 else er = 16) := by
    unfold rngA
    rw [chk_all hx (by omega)]
    by_cases ha : z.all (inR x) = true
    · simp only [ha, if_true]
      exact ⟨z, 0, rfl, rfl, rfl⟩
    · simp only [ha, if_false]
      exact ⟨[], 16, rfl, rfl⟩
  rw [hm, il] at hS'
  simp (maxSteps := 4000000) (disch := omega) only [step, stepv, ev, wl, wn, wp, wz, aop, cV, cV1, AV.one, partCells, okW, onlyFr, app, sliceCells, cellsAt, srcA, subA, eqFs, Int.cast_ofNat_Int, simprocAttr, hk, ot, tt, lz, oz]
  refine callQ.vc hA' ?_
  simp (maxSteps := 4000000) (disch := omega) only [step, stepv, ev, wl, wn, wp, wz, aop, cV, cV1, AV.one, partCells, okW, onlyFr, app, sliceCells, cellsAt, srcA, subA, eqFs, Int.cast_ofNat_Int, simprocAttr, h1, h2]
  refine callQ.vc hC' ?_
  simp (maxSteps := 4000000) (disch := omega) only [step, stepv, ev, wl, wn, wp, wz, aop, cV, cV1, AV.one, partCells, okW, onlyFr, app, sliceCells, cellsAt, srcA, subA, eqFs, Int.cast_ofNat_Int, simprocAttr, hk, ot, tt]
  refine callQ.vc hS' ?_
  simp (maxSteps := 4000000) (disch := omega) only [step, stepv, ev, wl, wn, wp, wz, aop, cV, cV1, AV.one, partCells, okW, onlyFr, app, sliceCells, cellsAt, srcA, subA, eqFs, Int.cast_ofNat_Int, simprocAttr, hk, ot, tt]
  refine callQ.vc hN' ?_
  simp (maxSteps := 4000000) (disch := omega) only [step, stepv, ev, wl, wn, wp, wz, aop, cV, cV1, AV.one, partCells, okW, onlyFr, app, sliceCells, cellsAt, srcA, subA, eqFs, Int.cast_ofNat_Int, simprocAttr, lz, oz, dz, l1, o1, t1', List.append_nil, List.take_zero, List.nil_append]
  refine ALoop.by (ι := Nat) (fun i => ⟨[(14, .int .i64 i), (13, .own 3 i), (12, .int .i64 0), (11, .ref 2 1 0), (10, .int .i64 er), (9, .list m.length (ks .i32 m)), (7, .bool true), (2, .list v.length (ks .u32 v)), (0, .int .i64 x)],
      [⟨t0, 16, 1, ks .i32 t, 0⟩, ⟨t1, 2, 1, [.int .i64 1, .int .i64 x], 0⟩, ⟨t2, 35, 1, chanL (newC x t), 0⟩, ⟨t3, 1, i, ks .i32 ((v.take i).map backN), 0⟩]⟩) (fun i => i ≤ v.length) (fun i => v.length - i) 0
    (Le.trans (Le.virt 13 t3 1 (by decide) rfl) (Le.slots (by simp [Am.look]))) (Nat.zero_le _) ?_
  intro i hi
  have li : ((v.take i).map backN).length = i := by simp; omega
  by_cases hlt : i < v.length
  · have hB' := hB (v.getD i 0) (U32_getD hV i)
    have e2 := ks_at (K := .u32) (l := v) (i := i) hlt
    have e3 : ks .i32 ((v.take i).map backN) ++ [.int .i32 (backN (v.getD i 0))] = ks .i32 ((v.take (i + 1)).map backN) := by
      rw [ks_snoc, List.take_succ_eq_append_getElem hlt, List.map_append]
      congr 2
      simp [List.getD_eq_getElem?_getD, List.getElem?_eq_getElem hlt]
    simp (maxSteps := 4000000) (disch := omega) only [step, stepv, ev, wl, wn, wp, wz, aop, cV, cV1, AV.one, partCells, okW, onlyFr, app, sliceCells, cellsAt, srcA, subA, eqFs, Int.cast_ofNat_Int, simprocAttr, e2, li]
    refine callQ.vc hB' ?_
    simp (maxSteps := 4000000) (disch := omega) only [step, stepv, ev, wl, wn, wp, wz, aop, cV, cV1, AV.one, partCells, okW, onlyFr, app, sliceCells, cellsAt, srcA, subA, eqFs, Int.cast_ofNat_Int, simprocAttr, e3, li]
    exact ⟨i + 1, by omega, by omega, Le.dropT [_, _, _, _] (by simp [isTL_chan, isTL_ks, isTL, isT]) (by simp [Am.look, frzK, frzL, frzV, frzL_T _ (isTL_ks _ _)])⟩
  · obtain rfl : i = v.length := by omega
    rw [List.take_of_length_le (Nat.le_refl _)] at li ⊢
    have hxx : x = 8 ∨ x = 16 ∨ x = 24 := by
      unfold half at hx
      split at hx
      · exact .inl (by assumption)
      split at hx
      · exact .inr (.inl (by assumption))
      split at hx
      · exact .inr (.inr (by assumption))
      · omega
    have e7 : ∃ s : Int, x - 1 = s ∧ shiftA true .i32 1 s = some (.int .i32 (half x)) ∧ 0 ≤ s ∧ s < 64 := by
      rcases hxx with rfl | rfl | rfl
      · exact ⟨7, rfl, rfl, by omega, by omega⟩
      · exact ⟨15, rfl, rfl, by omega, by omega⟩
      · exact ⟨23, rfl, rfl, by omega, by omega⟩
    obtain ⟨s, es, esh, hs0, hs1⟩ := e7
    have hh : 1 ≤ half x ∧ half x ≤ 8388608 := by
      rcases hxx with rfl | rfl | rfl <;> decide
    have hxb : 8 ≤ x ∧ x ≤ 24 := by omega
    have hall : z.all (inR x) = true ↔ ∀ j, j < z.length → inR x (z.getD j 0) = true := by
      rw [List.all_eq_true]
      constructor
      · intro h j hj
        refine h _ ?_
        rw [List.getD_eq_getElem?_getD, List.getElem?_eq_getElem hj]
        exact List.getElem_mem hj
      · intro h y hy
        obtain ⟨j, hj, rfl⟩ := List.mem_iff_getElem.1 hy
        have := h j hj
        rwa [List.getD_eq_getElem?_getD, List.getElem?_eq_getElem hj] at this
    have hin : ∀ y, inR x y = true ↔ -half x ≤ y ∧ y < half x := fun y => inR_iff
    generalize half x = H at *
    simp (maxSteps := 4000000) (disch := omega) only [step, stepv, ev, wl, wn, wp, wz, aop, cV, cV1, AV.one, partCells, okW, onlyFr, app, sliceCells, cellsAt, srcA, subA, eqFs, Int.cast_ofNat_Int, simprocAttr, cuts]
    refine callQ.still 1 [3] hU' ?_ ?_
    · simp [frzN, frzK, frzL, frzV, li, frzL_T _ (isTL_ks _ _), frzL_T _ (isTL_chan _), l1, o1, t1']
    simp (maxSteps := 4000000) (disch := omega) only [step, stepv, ev, wl, wn, wp, wz, aop, cV, cV1, AV.one, partCells, okW, onlyFr, app, sliceCells, cellsAt, srcA, subA, eqFs, Int.cast_ofNat_Int, simprocAttr, stillAt, l2, o2, t2', lz, oz, dz, List.append_nil, List.take_zero, List.nil_append, es, esh, lz']
    refine ALoop.by (ι := Nat) (fun i => ⟨[(19, .int .i64 i), (18, .int .i32 H), (15, .list v.length (ks .i32 z)), (10, .int .i64 er), (9, .list m.length (ks .i32 m)), (7, .bool true)], _⟩)
      (fun i => i ≤ v.length ∧ ∀ j, j < i → inR x (z.getD j 0) = true) (fun i => v.length - i) 0 (Le.slots (by simp [Am.look])) ⟨Nat.zero_le _, fun j hj => absurd hj (Nat.not_lt_zero j)⟩ ?_
    rintro i ⟨hi, hin2⟩
    by_cases hlt : i < v.length
    · have e2 := ks_at (K := .i32) (l := z) (i := i) (by omega)
      have hb := getD_mem hIz i
      have hiy := hin (z.getD i 0)
      have hna : ¬ (-H ≤ z.getD i 0 ∧ z.getD i 0 < H) → er = 16 := fun h => by
        have : ¬ z.all (inR x) = true := fun ha => h (hiy.1 (hall.1 ha i (by omega)))
        rw [if_neg this] at hml
        exact hml
      have hok : (-H ≤ z.getD i 0 ∧ z.getD i 0 < H) → inR x (z.getD i 0) = true := hiy.2
      generalize hy0 : z.getD i 0 = y at *
      by_cases c1 : y < -H
      · have her := hna (by omega)
        subst her
        simp (maxSteps := 4000000) (disch := omega) only [step, stepv, ev, wl, wn, wp, wz, aop, cV, cV1, AV.one, partCells, okW, onlyFr, app, sliceCells, cellsAt, srcA, subA, eqFs, Int.cast_ofNat_Int, simprocAttr, e2]
      · by_cases c2 : H ≤ y
        · have her := hna (by omega)
          subst her
          simp (maxSteps := 4000000) (disch := omega) only [step, stepv, ev, wl, wn, wp, wz, aop, cV, cV1, AV.one, partCells, okW, onlyFr, app, sliceCells, cellsAt, srcA, subA, eqFs, Int.cast_ofNat_Int, simprocAttr, e2]
        · have hy := hok (by omega)
          simp (maxSteps := 4000000) (disch := omega) only [step, stepv, ev, wl, wn, wp, wz, aop, cV, cV1, AV.one, partCells, okW, onlyFr, app, sliceCells, cellsAt, srcA, subA, eqFs, Int.cast_ofNat_Int, simprocAttr, e2]
          refine ⟨i + 1, ⟨by omega, fun j hj => ?_⟩, by omega, Le.slots (by simp [Am.look])⟩
          rcases Nat.lt_or_ge j i with h | h
          · exact hin2 j h
          · obtain rfl : j = i := by omega
            rw [hy0]
            exact hy
    · obtain rfl : i = v.length := by omega
      have ha : z.all (inR x) = true := hall.2 (by rw [lz']; exact hin2)
      rw [if_pos ha] at hml
      obtain ⟨rfl, rfl⟩ := hml
      rw [lz']
      simp (maxSteps := 4000000) (disch := omega) only [step, stepv, ev, wl, wn, wp, wz, aop, cV, cV1, AV.one, partCells, okW, onlyFr, app, sliceCells, cellsAt, srcA, subA, eqFs, Int.cast_ofNat_Int, simprocAttr]
      refine callQ.vc hE' ?_
      simp (maxSteps := 4000000) (disch := omega) only [step, stepv, ev, wl, wn, wp, wz, aop, cV, cV1, AV.one, partCells, okW, onlyFr, app, sliceCells, cellsAt, srcA, subA, eqFs, Int.cast_ofNat_Int, simprocAttr]

end Go.Am
