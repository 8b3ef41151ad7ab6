/- What the functions that the law reaches return, for every program that has their code; the conditions stand in each statement. -/
import Derived.Test.YtkngajpinabacaaGreatDoorVerdictJudgesL2
set_option linter.unusedSectionVars false
set_option linter.unusedSimpArgs false
set_option linter.unusedVariables false
namespace Go.Am
open Go.RowKit

/-! ### verdict.values -/

def vlsM : (Nat × List Nat) ⊕ (List Nat × Nat) → List Nat
  | .inl (_, o) => o
  | .inr (o, _) => o
def allV (b : List UInt8) (c n : Nat) : (Nat × List Nat) ⊕ (List Nat × Nat) := valsM (leN (b.take (b.length - 4))) (8 * (b.take (b.length - 4)).length) c (n * c) [] 0
def S_vVals (P : Prg) (f : Nat) : Prop := ∀ (b : List UInt8) (c n : Nat), 5 ≤ b.length → b.length ≤ 41254 → 1 ≤ c → c ≤ 6 → n * c ≤ 4000 → VC P f [.int .i64 c, .int .i64 n, bs b] (n32A (vlsM (allV b c n)))
set_option maxHeartbeats 2000000 in
theorem verdict_values {P : Prg} {f fS fO fC fR t0 t1 t2 t3 : Nat} (bd : Body P f 86 [.tmp 6] (ac_verdict_values fS fO fC fR t0 t1 t2 t3)) (hS : S_Start P fS) (hO : S_bOf P fO) (hC : S_Cut P fC) (hR : S_dRead P fR) : S_vVals P f := by
  intro b c n hb5 hb hc hc6 hnc
  refine VC.of_walk 1 (by simp [isDL, isD_bs, isD]) (isD_n32A _) (ACall.of_body bd (by simp) ?_)
  simp only [S_Start, startM, dlA, dlC] at hS
  have hn4 : n ≤ 4000 := by
    have : n * 1 ≤ n * c := Nat.mul_le_mul_left _ hc
    omega
  unfold allV
  have hpl : (b.take (b.length - 4)).length = b.length - 4 := by simp
  have hO' := hO (b.take (b.length - 4)) (by omega)
  have hVlt := leN_lt' (b.take (b.length - 4))
  have hbA := bA_of (b.take (b.length - 4))
  rw [ofA, if_neg (by omega)] at hO'
  have tkb : (u8 b).take (b.length - 4) = u8 (b.take (b.length - 4)) := by simp [u8, List.map_take]
  have n5 : b.length - 4 - 0 = b.length - 4 := by omega
  obtain ⟨N, hN0⟩ : ∃ N, N = 8 * (b.take (b.length - 4)).length := ⟨_, rfl⟩
  rw [← hN0] at hO' hVlt hbA ⊢
  rw [bs, hpl] at hO'
  have hN : N ≤ 330000 := by omega
  generalize hp : b.take (b.length - 4) = p at *
  generalize leN p = V at *
  have hV : V < 2 ^ N := hVlt
  have tu : isTL (u8 (leB V (nB N))) = true := isT_u8 _
  obtain ⟨T, hT⟩ : ∃ T, T = n * c := ⟨_, rfl⟩
  obtain ⟨R, hR0⟩ : ∃ R, R = valsM V N c (n * c) [] 0 := ⟨_, rfl⟩
  have eT : (n : Int) * c = (T : Int) := by rw [hT]; simp
  rw [← hR0]
  rw [bA] at hO'
  simp (maxSteps := 4000000) (disch := omega) only [step, stepv, ev, wl, wn, wp, wz, aop, cV, cV1, AV.one, partCells, okW, onlyFr, app, sliceCells, cellsAt, srcA, subA, eqFs, Int.cast_ofNat_Int, simprocAttr, ac_verdict_values, bs]
  refine ALoop.by (ι := Nat) (fun i => ⟨[(19, .int .i64 i), (7, .ref 0 1 0), (6, .emp true), (0, .int .i64 c), (1, .int .i64 n), (2, .list b.length (u8 b))],
      [⟨t0, 24, 1, sixD (fun j => if j < i then startM else ⟨0, 0, 0, 0⟩), 0⟩]⟩) (fun i => i ≤ 6) (fun i => 6 - i) 0 (Le.slots (by simp [Am.look])) (by omega) ?_
  intro i hi
  by_cases hlt : i < 6
  · have e1 := sixD_set (fun j => if j < i then startM else ⟨0, 0, 0, 0⟩) hlt startM
    have e2 : updD (fun j => if j < i then startM else ⟨0, 0, 0, 0⟩) i startM = fun j => if j < i + 1 then startM else ⟨0, 0, 0, 0⟩ := by
      funext j
      unfold updD
      by_cases h1 : j = i
      · subst h1; simp
      · by_cases h2 : j < i
        · simp [h1, h2, show j < i + 1 by omega]
        · simp [h1, h2, show ¬ j < i + 1 by omega]
    rw [e2] at e1
    have e3 := sixD_len (fun j => if j < i then startM else ⟨0, 0, 0, 0⟩)
    simp (maxSteps := 4000000) (disch := omega) only [step, stepv, ev, wl, wn, wp, wz, aop, cV, cV1, AV.one, partCells, okW, onlyFr, app, sliceCells, cellsAt, srcA, subA, eqFs, Int.cast_ofNat_Int, simprocAttr]
    refine callQ.vc hS ?_
    generalize hF : sixD (fun j => if j < i then startM else ⟨0, 0, 0, 0⟩) = F at *
    have e1' : F.take (i * 4) ++ [.int .i64 10, .int .i64 10, .int .u64 16384, .int .u64 16384] ++ F.drop (i * 4 + 4) = sixD fun j => if j < i + 1 then startM else ⟨0, 0, 0, 0⟩ := e1
    simp (maxSteps := 4000000) (disch := omega) only [step, stepv, ev, wl, wn, wp, wz, aop, cV, cV1, AV.one, partCells, okW, onlyFr, app, sliceCells, cellsAt, srcA, subA, eqFs, Int.cast_ofNat_Int, simprocAttr, e3]
    refine ⟨i + 1, by omega, by omega, ?_⟩
    rw [e1']
    exact Le.slots (by simp [Am.look])
  obtain rfl : i = 6 := by omega
  have hk0 : ∀ o : List Nat, (ks .u32 (o.map fun n : Nat => (n : Int))).length = o.length := fun o => by simp [ks]
  simp (maxSteps := 4000000) (disch := omega) only [step, stepv, ev, wl, wn, wp, wz, aop, cV, cV1, AV.one, partCells, okW, onlyFr, app, sliceCells, cellsAt, srcA, subA, eqFs, Int.cast_ofNat_Int, simprocAttr, tkb, n5]
  refine callQ.vc hO' ?_
  simp (maxSteps := 4000000) (disch := omega) only [step, stepv, ev, wl, wn, wp, wz, aop, cV, cV1, AV.one, partCells, okW, onlyFr, app, sliceCells, cellsAt, srcA, subA, eqFs, Int.cast_ofNat_Int, simprocAttr, eT]
  refine ALoop.byP [0, 0, 1, 2, 0, 0, 0, 0, 0] (ι := Nat × List Nat × Nat) (fun s => ⟨[(40, .int .i64 s.1), (39, .int .i64 T), (12, .int .i64 s.2.2), (11, .own 2 s.2.1.length), (9, .ref 1 1 0), (7, .ref 0 1 0), (0, .int .i64 c)],
      [⟨t0, 24, 1, sixD (fun j => if j < c then chanM c j s.2.1 else startM), 0⟩, ⟨t1, 2, 1, [.list (nB N) (u8 (leB V (nB N))), .int .i64 N], 0⟩, ⟨t3, 1, s.2.1.length, ks .u32 (s.2.1.map fun n : Nat => (n : Int)), 0⟩]⟩)
    (fun s => s.1 ≤ T ∧ s.2.1.length = s.1 ∧ s.2.2 ≤ N ∧ N32 s.2.1 ∧ valsM V N c (T - s.1) s.2.1 s.2.2 = R) (fun s => T - s.1) (0, [], 0) ?_ ⟨Nat.zero_le _, rfl, Nat.zero_le _, fun x hx => (by simp at hx), (by rw [hR0, hT]; rfl)⟩ ?_
  · have z1 : sixD (fun j => if j < 6 then startM else ⟨0, 0, 0, 0⟩) = sixD (fun _ => startM) := rfl
    have z2 : (fun j => if j < c then chanM c j [] else startM) = fun _ => startM := by
      funext j
      split <;> rfl
    simp only [z2]
    rw [z1]
    exact Le.trans (Le.virt 11 t3 1 (by decide) rfl) (Le.slots (by simp [Am.look]))
  rintro ⟨k, out, a⟩ ⟨h1, h2, h3, h4, h5⟩
  simp only at h1 h2 h3 h4 h5 ⊢
  by_cases hlt : k < T
  · obtain ⟨r, hr⟩ : ∃ r, r = k % c := ⟨_, rfl⟩
    have hrc : r < c := by rw [hr]; exact Nat.mod_lt _ (by omega)
    have e1 : (k : Int) % c = (r : Int) := by rw [hr]; simp [Int.natCast_emod]
    have e1' : ((k : Int)).tmod (c : Int) = (r : Int) := by rw [Int.tmod_eq_emod_of_nonneg (by omega), e1]
    have hc0 : (c : Int) ≠ 0 := by omega
    obtain ⟨b', hb'⟩ : ∃ b, b = min (a + 81) N := ⟨_, rfl⟩
    have e2 : (if (N : Int) < (a : Int) + 81 then (N : Int) else (a : Int) + 81) = (b' : Int) := by split <;> omega
    have hpn : b' - a = prtN N a := by rw [hb']; rfl
    have hC' : VC P fC [bA N V, .int .i64 a, .int .i64 b'] (.tup [bA (prtN N a) (prtV V N a), .int .i64 0]) := by
      have := hC N V a b' hV hN (by omega) (by omega)
      rw [hpn] at this
      exact this
    have hpl' : prtN N a ≤ 81 := by unfold prtN; omega
    have hd := chan_ok (c := c) (r := r) h4
    have hR' := hR (prtN N a) (prtV V N a) 0 (chanM c r out) (prtV_lt V N a) (by omega) (by omega) hd
    obtain ⟨rest, hg⟩ := sixD_get (fun j => if j < c then chanM c j out else startM) (j := r) (by omega)
    simp only [hrc, if_true] at hg
    have hst := fun d => sixD_set (fun j => if j < c then chanM c j out else startM) (j := r) (by omega) d
    have hln := sixD_len (fun j => if j < c then chanM c j out else startM)
    have hupd : ∀ v : Nat, updD (fun j => if j < c then chanM c j out else startM) r (learnM (chanM c r out) v) = fun j => if j < c then chanM c j (out ++ [v]) else startM := by
      intro v
      funext j
      unfold updD
      by_cases hj : j = r
      · subst hj
        rw [if_pos rfl, if_pos hrc, chan_snoc, if_pos (by rw [h2, hr])]
      · rw [if_neg hj]
        by_cases hjc : j < c
        · simp only [hjc, if_true]
          rw [chan_snoc, if_neg (by rw [h2, ← hr]; exact fun e => hj e.symm)]
        · simp only [hjc, if_false]
    have hkT : T - k = (T - k - 1) + 1 := by omega
    rw [hkT, valsM, h2, ← hr] at h5
    have hgl := fun v nx (h : gotM (prtV V N a) (prtN N a) 0 (chanM c r out) = .inr (v, nx)) => got_lt hd h
    have hge := fun e (h : gotM (prtV V N a) (prtN N a) 0 (chanM c r out) = .inl e) => got_err h
    have hpN : prtN N a ≤ N - a := by unfold prtN; omega
    simp only [bA] at hC' hR'
    have hk1 := hk0 out
    have tk : isTL (ks .u32 (out.map fun n : Nat => (n : Int))) = true := isTL_ks _ _
    cases hgm : gotM (prtV V N a) (prtN N a) 0 (chanM c r out) with
    | inl e =>
      have he := hge e hgm
      rw [hgm] at hR' h5
      simp only at h5
      have he0 : (e : Int) ≠ 0 := by omega
      rw [← h5, vlsM, n32A, u32L, List.length_map]
      generalize sixD (fun j => if j < c then chanM c j out else startM) = F at *
      generalize chanM c r out = d at *
      obtain ⟨d0, d1, d2, d3⟩ := d
      simp only [dlA, dlC, drA] at hR'
      simp only at hg
      simp (maxSteps := 4000000) (disch := omega) only [step, stepv, ev, wl, wn, wp, wz, aop, cV, cV1, AV.one, partCells, okW, onlyFr, app, sliceCells, cellsAt, srcA, subA, eqFs, Int.cast_ofNat_Int, simprocAttr, cutp, e2]
      refine callQ.vc hC' ?_
      simp (maxSteps := 4000000) (disch := omega) only [step, stepv, ev, wl, wn, wp, wz, aop, cV, cV1, AV.one, partCells, okW, onlyFr, app, sliceCells, cellsAt, srcA, subA, eqFs, Int.cast_ofNat_Int, simprocAttr, cutp, e1, e1', hc0, hg, hln]
      refine callD.vc hR' ?_
      simp (maxSteps := 4000000) (disch := omega) only [step, stepv, ev, wl, wn, wp, wz, aop, cV, cV1, AV.one, partCells, okW, onlyFr, app, sliceCells, cellsAt, srcA, subA, eqFs, Int.cast_ofNat_Int, simprocAttr, cutp, h2]
      simp [frzN, frzK, frzL, frzV, h2, frzL_T _ tk]
    | inr w =>
      obtain ⟨v, nx⟩ := w
      obtain ⟨v1, v2⟩ := hgl v nx hgm
      rw [hgm] at hR' h5
      simp only at h5
      have hset := hst (learnM (chanM c r out) v)
      rw [hupd v] at hset
      have tF := isTL_sixD (fun j => if j < c then chanM c j out else startM)
      generalize hFF : sixD (fun j => if j < c then chanM c j out else startM) = F at *
      generalize chanM c r out = d at *
      obtain ⟨d0, d1, d2, d3⟩ := d
      simp only [drA] at hR'
      generalize learnM ⟨d0, d1, d2, d3⟩ v = d' at *
      obtain ⟨m0, m1, m2, m3⟩ := d'
      simp only [dlA, dlC] at hR'
      simp only at hg hset
      simp (maxSteps := 4000000) (disch := omega) only [step, stepv, ev, wl, wn, wp, wz, aop, cV, cV1, AV.one, partCells, okW, onlyFr, app, sliceCells, cellsAt, srcA, subA, eqFs, Int.cast_ofNat_Int, simprocAttr, cutp, e2]
      refine callQ.vc hC' ?_
      simp (maxSteps := 4000000) (disch := omega) only [step, stepv, ev, wl, wn, wp, wz, aop, cV, cV1, AV.one, partCells, okW, onlyFr, app, sliceCells, cellsAt, srcA, subA, eqFs, Int.cast_ofNat_Int, simprocAttr, cutp, e1, e1', hc0, hg, hln]
      refine callD.vc hR' ?_
      simp (maxSteps := 4000000) (disch := omega) only [step, stepv, ev, wl, wn, wp, wz, aop, cV, cV1, AV.one, partCells, okW, onlyFr, app, sliceCells, cellsAt, srcA, subA, eqFs, Int.cast_ofNat_Int, simprocAttr, cutp, e1, e1', hc0, hg, hln, hk1, h2]
      refine ⟨⟨[(13, .int .i64 k), (0, .int .i64 c), (11, .own 2 k), (16, .int .u32 v), (12, .int .i64 a), (17, .int .i64 nx), (18, .cell [.int .i64 m0, .int .i64 m1, .int .u64 m2, .int .u64 m3]), (7, .ref 0 1 0), (9, .ref 1 1 0), (39, .int .i64 T), (40, .int .i64 k)],
        [⟨t0, 24, 1, F, 0⟩, ⟨t1, 2, 1, [.list (nB N) (u8 (leB V (nB N))), .int .i64 N], 0⟩, ⟨t3, 1, k, ks .u32 (out.map fun n : Nat => (n : Int)), 0⟩]⟩,
        Le.dropT [_, _, _] (by simp [tF, isTL_ks, isTL, isT, isT_u8]) (by simp [Am.look, frzK, frzL, frzV]), ?_⟩
      simp (maxSteps := 4000000) (disch := omega) only [step, stepv, ev, wl, wn, wp, wz, aop, cV, cV1, AV.one, partCells, okW, onlyFr, app, sliceCells, cellsAt, srcA, subA, eqFs, Int.cast_ofNat_Int, simprocAttr, e1, e1', hc0, hg, hln, hk1, h2]
      have hap : ks .u32 (out.map fun n : Nat => (n : Int)) ++ [.int .u32 (v : Int)] = ks .u32 ((out ++ [v]).map fun n : Nat => (n : Int)) := by simp [ks]
      have hol : (out ++ [v]).length = k + 1 := by simp [h2]
      refine ⟨(k + 1, out ++ [v], a + nx), ⟨by omega, hol, by simp only; omega, fun x hx => ?_, ?_⟩, by simp only; omega, ?_⟩
      · rcases List.mem_append.1 hx with h | h
        · exact h4 x h
        · simp at h; subst h; exact v1
      · simp only
        rw [show T - (k + 1) = T - k - 1 by omega]
        exact h5
      · simp only [hol]
        rw [hset, hap]
        exact Le.dropT [_, _, _] (by simp [isTL_sixD, isTL_ks, isTL, isT, isT_u8]) (by simp [Am.look, frzK, frzL, frzV])
  · obtain rfl : k = T := by omega
    rw [Nat.sub_self, valsM] at h5
    rw [← h5, vlsM, n32A, u32L, List.length_map]
    simp (maxSteps := 4000000) (disch := omega) only [step, stepv, ev, wl, wn, wp, wz, aop, cV, cV1, AV.one, partCells, okW, onlyFr, app, sliceCells, cellsAt, srcA, subA, eqFs, Int.cast_ofNat_Int, simprocAttr, cutp]
    simp [frzN, frzK, frzL, frzV, frzL_T _ (isTL_ks _ _)]

end Go.Am

namespace Go.Am
open Go.RowKit

/-! ### verdict.good -/

theorem U32_take {v : List Int} (h : U32 v) (k : Nat) : U32 (v.take k) := fun x hx => h x (List.mem_of_mem_take hx)
theorem mod_mul (m c : Nat) : (m * c) % c = 0 := Nat.mul_mod_left m c
theorem okV_take {c k : Nat} {v : List Int} (hc : 1 ≤ c) (hc6 : c ≤ 6) (hk : 1 ≤ k) (hkl : k * c ≤ v.length) (hl : v.length ≤ 4000) (hV : U32 v) : okV c (v.take (k * c)) := by
  have h0 : 0 < k * c := Nat.mul_pos hk hc
  have h1 : (v.take (k * c)).length = k * c := by simp; omega
  exact ⟨hc, hc6, by omega, by omega, by rw [h1, mod_mul], U32_take hV _⟩
theorem df_take {c k : Nat} {x : Int} {t v : List Int} (hc : 1 ≤ c) (hc6 : c ≤ 6) (hx : half x ≠ 0) (hk : 1 ≤ k) (hkl : k ≤ v.length / c) (hl : v.length ≤ 4000) :
    ∃ m : List Int, dfA c x t (v.take (k * c)) = .tup [il m, .int .i64 (if okP c x (unB c x t (v.take (v.length / c * c))) k then 0 else 16)] := by
  have h2 : v.length / c * c ≤ v.length := Nat.div_mul_le_self _ _
  have h3 : k * c ≤ v.length / c * c := Nat.mul_le_mul_right c hkl
  have h0 : 0 < k * c := Nat.mul_pos hk hc
  have h1 : (v.take (k * c)).length = k * c := by simp; omega
  have hE : eCheck c x = 0 := by unfold eCheck; rw [if_neg (by omega)]
  have e1 : v.take (k * c) = (v.take (v.length / c * c)).take (k * c) := by rw [List.take_take, Nat.min_eq_left h3]
  have e2 : unB c x t (v.take (k * c)) = (unB c x t (v.take (v.length / c * c))).take (k * c) := by
    rw [e1]; exact unB_take hc (by simp; omega)
  have hz : ((v.take (k * c)).length : Int) % (c : Int) = 0 := by
    rw [h1, ← Int.natCast_emod, mod_mul]; rfl
  rw [df_ok hE (by omega) (by omega), rngA, chk_all hx (by rw [unB_len]; omega), e2]
  unfold okP
  split
  · rename_i h
    exact ⟨_, rfl⟩
  · rename_i h
    exact ⟨[], rfl⟩

def S_vGood (P : Prg) (f : Nat) : Prop := ∀ (c : Nat) (x : Int) (t v : List Int), 1 ≤ c → c ≤ 6 → half x ≠ 0 → t.length = 16 → I32 t → v.length ≤ 4000 → U32 v → VC P f [shA c x, .agg (ks .i32 t), u32L v] (.int .i64 (goodM c x t v : Nat))
set_option maxHeartbeats 1000000 in
theorem verdict_good {P : Prg} {f fS t0 t1 : Nat} (bd : Body P f 46 [.tmp 6] (ac_verdict_good fS t0 t1)) (hS : S_DSamples P fS) : S_vGood P f := by
  intro c x t v hc hc6 hx ht hI hl hV
  refine VC.of_acall (by simp [isDL, isD, isD_u32L, isDL_ks, shA]) rfl (ACall.of_body bd (by simp) ?_)
  have hk : (ks .i32 t).length = 16 := by simp [ks_length, ht]
  have tt : (ks .i32 t).take 16 = ks .i32 t := take_all (by omega)
  have ot := ks_one .i32 t
  have hc0 : (c : Int) ≠ 0 := by omega
  obtain ⟨G, hG⟩ : ∃ G, G = goodK c x (unB c x t (v.take (v.length / c * c))) (v.length / c) := ⟨_, rfl⟩
  obtain ⟨g1, g2, g3⟩ := goodK_spec c x (unB c x t (v.take (v.length / c * c))) (v.length / c)
  rw [← hG] at g1 g2 g3
  have hgm : goodM c x t v = G * c := by rw [goodM, ← hG]
  rw [hgm]
  have hdf := fun k (h1 : 1 ≤ k) (h2 : k ≤ v.length / c) => df_take (t := t) hc hc6 hx h1 h2 hl
  have hmon := fun j k (h : okP c x (unB c x t (v.take (v.length / c * c))) k = true) (hj : j ≤ k) => okP_mono h hj
  have hml : ∀ k, k ≤ v.length / c → k * c ≤ v.length := fun k hkl => Nat.le_trans (Nat.mul_le_mul_right c hkl) (Nat.div_mul_le_self _ _)
  have hm4 : v.length / c ≤ v.length := Nat.div_le_self _ _
  have eM : (v.length : Int) / (c : Int) = ((v.length / c : Nat) : Int) := by simp
  have eM2 : (v.length : Int).tdiv (c : Int) = ((v.length / c : Nat) : Int) := by rw [Int.tdiv_eq_ediv_of_nonneg (by omega), eM]
  obtain ⟨M, hM⟩ : ∃ M, M = v.length / c := ⟨_, rfl⟩
  rw [← hM] at g1 g2 g3 hdf hml hm4 eM eM2 hmon hG
  generalize unB c x t (v.take (M * c)) = z at *
  clear hM hG hgm
  simp (maxSteps := 4000000) (disch := omega) only [step, stepv, ev, wl, wn, wp, wz, aop, cV, cV1, AV.one, partCells, okW, onlyFr, app, sliceCells, cellsAt, srcA, subA, eqFs, Int.cast_ofNat_Int, simprocAttr, ac_verdict_good, shA, u32L, hk, tt, ot, hc0, eM, eM2]
  refine ALoop.by (ι := Nat × Nat) (fun s => ⟨[(7, .int .i64 s.1), (8, .int .i64 s.2), (4, .ref 1 1 0), (3, .ref 0 1 0), (2, .list v.length (ks .u32 v))], [⟨t0, 2, 1, [.int .i64 c, .int .i64 x], 0⟩, ⟨t1, 16, 1, ks .i32 t, 0⟩]⟩)
    (fun s => s.1 ≤ G ∧ G ≤ s.2 ∧ s.2 ≤ M) (fun s => s.2 - s.1) (0, M) (Le.slots (by simp [Am.look])) ⟨Nat.zero_le _, g1, Nat.le_refl _⟩ ?_
  rintro ⟨lo, hi⟩ ⟨h1, h2, h3⟩
  simp only at h1 h2 h3 ⊢
  by_cases hlt : lo < hi
  · obtain ⟨k, hk0⟩ : ∃ k, k = (lo + hi + 1) / 2 := ⟨_, rfl⟩
    have e0 : ((lo : Int) + hi + 1) / 2 = (k : Int) := by omega
    have e0' : ((lo : Int) + hi + 1).tdiv 2 = (k : Int) := by rw [Int.tdiv_eq_ediv_of_nonneg (by omega), e0]
    obtain ⟨m, hm⟩ := hdf k (by omega) (by omega)
    have hkc := hml k (by omega)
    have hS' := hS c x t (v.take (k * c)) ht hI (U32_take hV _)
    rw [hm, shA, u32L] at hS'
    have hl1 : (v.take (k * c)).length = k * c := by simp; omega
    rw [hl1] at hS'
    obtain ⟨K, hK⟩ : ∃ K, K = k * c := ⟨_, rfl⟩
    have eK : (k : Int) * c = (K : Int) := by rw [hK]; simp
    rw [← hK] at hS' hkc hl1
    have tk : (ks .u32 v).take K = ks .u32 (v.take K) := ks_take _ _ _
    have hlv : (ks .u32 v).length = v.length := ks_length _ _
    have n0 : K - 0 = K := by omega
    simp only [il] at hS'
    cases hok : okP c x z k with
    | true =>
      rw [hok] at hS'
      simp only [if_true] at hS'
      have hG' := g3 k (by omega) hok
      simp (maxSteps := 4000000) (disch := omega) only [step, stepv, ev, wl, wn, wp, wz, aop, cV, cV1, AV.one, partCells, okW, onlyFr, app, sliceCells, cellsAt, srcA, subA, eqFs, Int.cast_ofNat_Int, simprocAttr, e0, e0', eK, hk, tt, ot, tk, hlv, n0]
      refine callD.vc hS' ?_
      simp (maxSteps := 4000000) (disch := omega) only [step, stepv, ev, wl, wn, wp, wz, aop, cV, cV1, AV.one, partCells, okW, onlyFr, app, sliceCells, cellsAt, srcA, subA, eqFs, Int.cast_ofNat_Int, simprocAttr]
      exact ⟨(k, hi), ⟨hG', h2, h3⟩, by simp only; omega, Le.slots (by simp [Am.look])⟩
    | false =>
      rw [hok] at hS'
      simp only [Bool.false_eq_true, if_false] at hS'
      have hG' : G ≤ k - 1 := by
        rcases Nat.lt_or_ge G k with h | h
        · omega
        · have := hmon k G g2 h
          rw [hok] at this; cases this
      simp (maxSteps := 4000000) (disch := omega) only [step, stepv, ev, wl, wn, wp, wz, aop, cV, cV1, AV.one, partCells, okW, onlyFr, app, sliceCells, cellsAt, srcA, subA, eqFs, Int.cast_ofNat_Int, simprocAttr, e0, e0', eK, hk, tt, ot, tk, hlv, n0]
      refine callD.vc hS' ?_
      simp (maxSteps := 4000000) (disch := omega) only [step, stepv, ev, wl, wn, wp, wz, aop, cV, cV1, AV.one, partCells, okW, onlyFr, app, sliceCells, cellsAt, srcA, subA, eqFs, Int.cast_ofNat_Int, simprocAttr]
      exact ⟨(lo, k - 1), ⟨h1, hG', by simp only; omega⟩, by simp only; omega, Le.slots (by simp [Am.look]; omega)⟩
  · obtain rfl : lo = G := by omega
    have hkc := hml lo g1
    have eK : (lo : Int) * c = ((lo * c : Nat) : Int) := by simp
    obtain ⟨K, hK⟩ : ∃ K, K = lo * c := ⟨_, rfl⟩
    rw [← hK] at eK hkc ⊢
    simp (maxSteps := 4000000) (disch := omega) only [step, stepv, ev, wl, wn, wp, wz, aop, cV, cV1, AV.one, partCells, okW, onlyFr, app, sliceCells, cellsAt, srcA, subA, eqFs, Int.cast_ofNat_Int, simprocAttr, eK]

/-! ### verdict.Judge -/

def errV (V N c : Nat) (x : Int) (t : List Int) (w : (Nat × List Nat) ⊕ (List Nat × Nat)) : Int :=
  match w with
  | .inl (e, _) => e
  | .inr (o, a) => if restM V N a ≠ 0 then 12 else checkN x (unB c x t (iL o))
def errD (c x : Int) (t : List Int) (n : Int) (b : List UInt8) : Int :=
  if ask21 c x n ≠ 0 then 2 else if openM b ≠ 0 then (openM b : Nat) else
    errV (leN (b.take (b.length - 4))) (8 * (b.take (b.length - 4)).length) c.toNat x t (allV b c.toNat n.toNat)
theorem dec_form2 (c x n : Int) (t : List Int) (b : List UInt8) : ∃ m : List Int, decA c x t n b = .tup [il m, .int .i64 (errD c x t n b)] ∧ m.length ≤ 4000 := by
  unfold decA errD allV
  by_cases h1 : ask21 c x n = 0
  case neg => simp only [if_pos h1]; exact ⟨[], rfl, by simp⟩
  have a1 : ¬ (ask21 c x n ≠ 0) := by omega
  simp only [if_neg a1]
  by_cases h2 : openM b = 0
  case neg => simp only [if_pos h2]; exact ⟨[], rfl, by simp⟩
  have a2 : ¬ (openM b ≠ 0) := by omega
  simp only [if_neg a2]
  obtain ⟨_, c', n', rfl, rfl, q1, q2, q3, q4, q5⟩ := ask21_cases h1
  simp only [Int.toNat_natCast]
  generalize leN (b.take (b.length - 4)) = V
  generalize 8 * (b.take (b.length - 4)).length = N
  cases hw : valsM V N c' (n' * c') [] 0 with
  | inl w => exact ⟨[], rfl, by simp⟩
  | inr w =>
    obtain ⟨o, a⟩ := w
    obtain ⟨hv, ha, hol⟩ := okV_of q1 q2 q3 q4 hw
    simp only [decV, errV]
    by_cases h3 : restM V N a = 0
    · rw [if_neg (by omega), if_neg (by omega)]
      unfold rngA
      by_cases h4 : checkN x (unB c' x t (iL o)) = 0
      · rw [if_neg (by omega), h4]
        exact ⟨_, rfl, by rw [unB_len]; simp only [iL, List.length_map]; omega⟩
      · rw [if_pos h4]
        exact ⟨[], rfl, by simp⟩
    · rw [if_pos h3, if_pos h3]; exact ⟨[], rfl, by simp⟩
def judG (c x : Int) (t : List Int) (n : Int) (b : List UInt8) : Int :=
  if errD c x t n b = 0 then n * c else if openM b = 0 then (goodM c.toNat x t (iL (vlsM (allV b c.toNat n.toNat))) : Nat) else 0
def judA (c x : Int) (t : List Int) (n : Int) (b : List UInt8) : AV :=
  if ask21 c x n ≠ 0 then .tup [.agg [.int .i64 0, .int .i64 0], .int .i64 2] else .tup [.agg [.int .i64 (errD c x t n b), .int .i64 (judG c x t n b)], .int .i64 0]
theorem allV_ok {b : List UInt8} {c n : Nat} (hn : n * c ≤ 4000) : N32 (vlsM (allV b c n)) ∧ (vlsM (allV b c n)).length ≤ 4000 := by
  have hs := vals_spec (V := leN (b.take (b.length - 4))) (N := 8 * (b.take (b.length - 4)).length) (c := c) (n * c) [] 0 (Nat.zero_le _) (fun x hx => by simp at hx)
  unfold allV
  cases hw : valsM (leN (b.take (b.length - 4))) (8 * (b.take (b.length - 4)).length) c (n * c) [] 0 with
  | inl w =>
    obtain ⟨e, o⟩ := w
    obtain ⟨_, h2, h3⟩ := hs.1 e o hw
    rw [List.length_nil, Nat.zero_add] at h3
    exact ⟨h2, by simp only [vlsM]; omega⟩
  | inr w =>
    obtain ⟨o, a⟩ := w
    obtain ⟨h2, _, h3⟩ := hs.2 o a hw
    rw [List.length_nil, Nat.zero_add] at h3
    exact ⟨h2, by simp only [vlsM]; omega⟩
theorem U32_iL {o : List Nat} (h : N32 o) : U32 (iL o) := by
  intro x hx
  simp only [iL, List.mem_map] at hx
  obtain ⟨y, hy, rfl⟩ := hx
  have := h y hy
  omega
theorem errD_ask {c x n : Int} {t : List Int} {b : List UInt8} (h : ask21 c x n = 0) (h2 : errD c x t n b = 0) : openM b = 0 := by
  unfold errD at h2
  rw [if_neg (by omega)] at h2
  split at h2
  · omega
  · omega
def S_Judge (P : Prg) (f : Nat) : Prop := ∀ (c x n : Int) (t : List Int) (b : List UInt8), t.length = 16 → I32 t → b.length ≤ 1000000 → VC P f [shA c x, .agg (ks .i32 t), .int .i64 n, bs b] (judA c x t n b)
theorem isD_judA (c x : Int) (t : List Int) (n : Int) (b : List UInt8) : isD (judA c x t n b) = true := by unfold judA; split <;> rfl
set_option maxHeartbeats 1000000 in
theorem verdict_Judge {P : Prg} {f fC fD fS fV fG t0 t1 t2 : Nat} (bd : Body P f 52 [.cell 8 t2, .tmp 9] (ac_verdict_Judge fC fD fS fV fG t0 t1 t2)) (hC : S_Ask21 P fC) (hD : S_Decode P fD) (hS : S_Sound P fS) (hV : S_vVals P fV) (hG : S_vGood P fG) (ha : aggO P t2 = some (some 2)) : S_Judge P f := by
  intro c x n t b ht hI hb
  refine VC.of_acall (by simp [isDL, isD_bs, isDL_ks, isD, shA]) (isD_judA _ _ _ _ _) (ACall.of_body bd (by simp) ?_)
  have hC' := hC c x n
  have hD' := hD c x n t b ht hI hb
  have hS' := hS b hb
  have hk : (ks .i32 t).length = 16 := by simp [ks_length, ht]
  have tt : (ks .i32 t).take 16 = ks .i32 t := take_all (by omega)
  have ot := ks_one .i32 t
  rw [shA] at hC' hD'
  unfold judA
  by_cases h1 : ask21 c x n = 0
  case neg =>
    have h2 : ask21 c x n = 2 := by unfold ask21 at h1 ⊢; split <;> (try rfl); rename_i q; rw [if_neg q] at h1; split <;> (try rfl); rename_i q; rw [if_neg q] at h1; split <;> (try rfl); rename_i q; rw [if_neg q] at h1; omega
    rw [h2] at hC' ⊢
    simp only [bs]
    simp (maxSteps := 4000000) (disch := omega) only [step, stepv, ev, wl, wn, wp, wz, aop, cV, cV1, AV.one, partCells, okW, onlyFr, app, sliceCells, cellsAt, srcA, subA, eqFs, Int.cast_ofNat_Int, simprocAttr, ac_verdict_Judge, shA, hk, tt, ot]
    refine callQ.vc hC' ?_
    simp (maxSteps := 4000000) (disch := omega) only [step, stepv, ev, wl, wn, wp, wz, aop, cV, cV1, AV.one, partCells, okW, onlyFr, app, sliceCells, cellsAt, srcA, subA, eqFs, Int.cast_ofNat_Int, simprocAttr, resA, ha, oneOf]
  rw [if_neg (by omega)]
  obtain ⟨hE, c', n', rfl, rfl, q1, q2, q3, q4, q5⟩ := ask21_cases h1
  rw [h1] at hC'
  obtain ⟨m, hm, _⟩ := dec_form2 (c' : Int) x (n' : Int) t b
  rw [hm] at hD'
  have h0 := errD_ask (c := (c' : Int)) (n := (n' : Int)) (x := x) (t := t) (b := b) h1
  unfold judG
  simp only [bs, il, Int.toNat_natCast] at hD' hS' ⊢
  have eT : (n' : Int) * c' = ((n' * c' : Nat) : Int) := by simp
  obtain ⟨T, hT⟩ : ∃ T, T = n' * c' := ⟨_, rfl⟩
  rw [← hT] at eT
  by_cases h2 : errD c' x t n' b = 0
  · rw [if_pos h2, h2]
    rw [h2] at hD'
    rw [eT]
    simp (maxSteps := 4000000) (disch := omega) only [step, stepv, ev, wl, wn, wp, wz, aop, cV, cV1, AV.one, partCells, okW, onlyFr, app, sliceCells, cellsAt, srcA, subA, eqFs, Int.cast_ofNat_Int, simprocAttr, ac_verdict_Judge, shA, hk, tt, ot]
    refine callQ.vc hC' ?_
    simp (maxSteps := 4000000) (disch := omega) only [step, stepv, ev, wl, wn, wp, wz, aop, cV, cV1, AV.one, partCells, okW, onlyFr, app, sliceCells, cellsAt, srcA, subA, eqFs, Int.cast_ofNat_Int, simprocAttr, hk, tt, ot]
    refine callQ.vc hD' ?_
    simp (maxSteps := 4000000) (disch := omega) only [step, stepv, ev, wl, wn, wp, wz, aop, cV, cV1, AV.one, partCells, okW, onlyFr, app, sliceCells, cellsAt, srcA, subA, eqFs, Int.cast_ofNat_Int, simprocAttr, eT, resA, ha, oneOf]
  rw [if_neg h2]
  by_cases h3 : openM b = 0
  · rw [if_pos h3]
    have hbl : 5 ≤ b.length ∧ b.length ≤ 41254 := by
      unfold openM at h3
      split at h3
      · omega
      split at h3
      · omega
      · omega
    rw [h3] at hS'
    have hV' := hV b c' n' hbl.1 hbl.2 q1 q2 q4
    obtain ⟨a1, a2⟩ := allV_ok (b := b) (c := c') (n := n') q4
    have hG' := hG c' x t (iL (vlsM (allV b c' n'))) q1 q2 q5 ht hI (by simp only [iL, List.length_map]; exact a2) (U32_iL a1)
    have hgl := goodM_le (c := c') (x := x) (t := t) (v := iL (vlsM (allV b c' n')))
    rw [n32A] at hV'
    simp only [iL] at hG' hgl ⊢
    simp only [List.length_map] at hgl
    generalize vlsM (allV b c' n') = o at *
    generalize goodM c' x t (o.map fun n : Nat => (n : Int)) = g at *
    generalize errD c' x t n' b = e at *
    simp only [bs, u32L, shA, List.length_map] at hV' hG'
    simp (maxSteps := 4000000) (disch := omega) only [step, stepv, ev, wl, wn, wp, wz, aop, cV, cV1, AV.one, partCells, okW, onlyFr, app, sliceCells, cellsAt, srcA, subA, eqFs, Int.cast_ofNat_Int, simprocAttr, ac_verdict_Judge, shA, hk, tt, ot]
    refine callQ.vc hC' ?_
    simp (maxSteps := 4000000) (disch := omega) only [step, stepv, ev, wl, wn, wp, wz, aop, cV, cV1, AV.one, partCells, okW, onlyFr, app, sliceCells, cellsAt, srcA, subA, eqFs, Int.cast_ofNat_Int, simprocAttr, hk, tt, ot]
    refine callQ.vc hD' ?_
    simp (maxSteps := 4000000) (disch := omega) only [step, stepv, ev, wl, wn, wp, wz, aop, cV, cV1, AV.one, partCells, okW, onlyFr, app, sliceCells, cellsAt, srcA, subA, eqFs, Int.cast_ofNat_Int, simprocAttr]
    refine callQ.vc hS' ?_
    simp (maxSteps := 4000000) (disch := omega) only [step, stepv, ev, wl, wn, wp, wz, aop, cV, cV1, AV.one, partCells, okW, onlyFr, app, sliceCells, cellsAt, srcA, subA, eqFs, Int.cast_ofNat_Int, simprocAttr, hk, tt, ot]
    refine callD.vc hV' ?_
    simp (maxSteps := 4000000) (disch := omega) only [step, stepv, ev, wl, wn, wp, wz, aop, cV, cV1, AV.one, partCells, okW, onlyFr, app, sliceCells, cellsAt, srcA, subA, eqFs, Int.cast_ofNat_Int, simprocAttr, hk, tt, ot]
    refine callD.vc hG' ?_
    simp (maxSteps := 4000000) (disch := omega) only [step, stepv, ev, wl, wn, wp, wz, aop, cV, cV1, AV.one, partCells, okW, onlyFr, app, sliceCells, cellsAt, srcA, subA, eqFs, Int.cast_ofNat_Int, simprocAttr, resA, ha, oneOf]
  · rw [if_neg h3]
    have hS'' : VC P fS [.list b.length (u8 b)] (.bool false) := by
      rw [decide_eq_false h3] at hS'; exact hS'
    generalize errD c' x t n' b = e at *
    simp (maxSteps := 4000000) (disch := omega) only [step, stepv, ev, wl, wn, wp, wz, aop, cV, cV1, AV.one, partCells, okW, onlyFr, app, sliceCells, cellsAt, srcA, subA, eqFs, Int.cast_ofNat_Int, simprocAttr, ac_verdict_Judge, shA, hk, tt, ot]
    refine callQ.vc hC' ?_
    simp (maxSteps := 4000000) (disch := omega) only [step, stepv, ev, wl, wn, wp, wz, aop, cV, cV1, AV.one, partCells, okW, onlyFr, app, sliceCells, cellsAt, srcA, subA, eqFs, Int.cast_ofNat_Int, simprocAttr, hk, tt, ot]
    refine callQ.vc hD' ?_
    simp (maxSteps := 4000000) (disch := omega) only [step, stepv, ev, wl, wn, wp, wz, aop, cV, cV1, AV.one, partCells, okW, onlyFr, app, sliceCells, cellsAt, srcA, subA, eqFs, Int.cast_ofNat_Int, simprocAttr]
    refine callQ.vc hS'' ?_
    simp (maxSteps := 4000000) (disch := omega) only [step, stepv, ev, wl, wn, wp, wz, aop, cV, cV1, AV.one, partCells, okW, onlyFr, app, sliceCells, cellsAt, srcA, subA, eqFs, Int.cast_ofNat_Int, simprocAttr, resA, ha, oneOf]

end Go.Am

namespace Go.Am
open Go.RowKit

/-! ### The reference of verdict -/

theorem okP_succ {c : Nat} {x : Int} {l : List Int} {k : Nat} : okP c x l (k + 1) = (okP c x l k && ((l.drop (k * c)).take c).all (inR x)) := by
  unfold okP
  rw [Nat.add_mul, Nat.one_mul, List.take_add, List.all_append]

def S_RGood (P : Prg) (f : Nat) : Prop := ∀ (c n : Nat) (x : Int) (t : List Int) (b : List UInt8), 1 ≤ c → c ≤ 6 → half x ≠ 0 → n * c ≤ 4000 → t.length = 16 → I32 t → 5 ≤ b.length → b.length ≤ 41254 →
  VC P f [shA c x, .agg (ks .i32 t), .int .i64 n, bs b] (.int .i64 (goodM c x t (iL (vlsM (allV b c n))) : Nat))
set_option maxHeartbeats 1000000 in
theorem ref23_Good {P : Prg} {f fR fU fC t0 t1 : Nat} (bd : Body P f 63 [.tmp 8] (ac_cadenzaref23_Good fR fU fC t0 t1)) (hR : S_RRead P fR) (hU : S_RUndone P fU) (hW : S_WCheck P fC) : S_RGood P f := by
  intro c n x t b hc hc6 hx hnc ht hI hb5 hb
  refine VC.of_acall (by simp [isDL, isD, isD_bs, isDL_ks, shA]) rfl (ACall.of_body bd (by simp) ?_)
  have hk : (ks .i32 t).length = 16 := by simp [ks_length, ht]
  have tt : (ks .i32 t).take 16 = ks .i32 t := take_all (by omega)
  have ot := ks_one .i32 t
  have hc0 : (c : Int) ≠ 0 := by omega
  have hpl : (b.take (b.length - 4)).length = b.length - 4 := by simp
  have hn4 : n ≤ 4000 := by
    have : n * 1 ≤ n * c := Nat.mul_le_mul_left _ hc
    omega
  have hR' : ∃ e : Int, VC P fR [.int .i64 c, .int .i64 n, bs (b.take (b.length - 4))] (.tup [n32A (vlsM (allV b c n)), .int .i64 e]) := by
    have h := hR (b.take (b.length - 4)) c n (by omega) hc hc6 hnc
    unfold allV
    cases hw : valsM (leN (b.take (b.length - 4))) (8 * (b.take (b.length - 4)).length) c (n * c) [] 0 with
    | inl w => obtain ⟨e, o⟩ := w; rw [hw] at h; exact ⟨_, h⟩
    | inr w => obtain ⟨o, a⟩ := w; rw [hw] at h; exact ⟨_, h⟩
  obtain ⟨e, hR'⟩ := hR'
  obtain ⟨a1, a2⟩ := allV_ok (b := b) (c := c) (n := n) hnc
  generalize vlsM (allV b c n) = o at *
  have tk : (u8 b).take (b.length - 4) = u8 (b.take (b.length - 4)) := by simp [u8, List.map_take]
  have n5 : b.length - 4 - 0 = b.length - 4 := by omega
  have hol : (iL o).length = o.length := by simp [iL]
  have hVU := U32_iL a1
  rw [n32A, ← iL, u32L, hol] at hR'
  generalize iL o = v at *
  simp only [bs, hpl] at hR' ⊢
  obtain ⟨L, hL⟩ : ∃ L, L = o.length := ⟨_, rfl⟩
  rw [← hL] at hR' hol a2
  rw [goodM, hol]
  have eM : (L : Int) / (c : Int) = ((L / c : Nat) : Int) := by simp
  have eM2 : (L : Int).tdiv (c : Int) = ((L / c : Nat) : Int) := by rw [Int.tdiv_eq_ediv_of_nonneg (by omega), eM]
  have hWl : L / c * c ≤ L := Nat.div_mul_le_self _ _
  have hm4 : L / c ≤ L := Nat.div_le_self _ _
  obtain ⟨M, hM⟩ : ∃ M, M = L / c := ⟨_, rfl⟩
  rw [← hM] at eM eM2 hWl hm4 ⊢
  have eW : (M : Int) * c = ((M * c : Nat) : Int) := by simp
  obtain ⟨W, hW0⟩ : ∃ W, W = M * c := ⟨_, rfl⟩
  rw [← hW0] at eW hWl ⊢
  by_cases h0 : W = 0
  · have hM0 : M = 0 := by
      rcases Nat.eq_zero_or_pos M with h | h
      · exact h
      · have := Nat.mul_pos h hc
        omega
    subst hM0
    rw [goodK, Nat.zero_mul]
    subst h0
    simp (maxSteps := 4000000) (disch := omega) only [step, stepv, ev, wl, wn, wp, wz, aop, cV, cV1, AV.one, partCells, okW, onlyFr, app, sliceCells, cellsAt, srcA, subA, eqFs, Int.cast_ofNat_Int, simprocAttr, ac_cadenzaref23_Good, shA, hk, tt, ot, tk, n5]
    refine callD.vc hR' ?_
    simp (maxSteps := 4000000) (disch := omega) only [step, stepv, ev, wl, wn, wp, wz, aop, cV, cV1, AV.one, partCells, okW, onlyFr, app, sliceCells, cellsAt, srcA, subA, eqFs, Int.cast_ofNat_Int, simprocAttr, hc0, eM, eM2, eW]
  have hM1 : 1 ≤ M := by
    rcases Nat.eq_zero_or_pos M with h | h
    · subst h; omega
    · exact h
  have hokv : okV c (v.take W) := by rw [hW0]; exact okV_take hc hc6 hM1 (by omega) (by omega) hVU
  have hU' := hU c x t (v.take W) ht hI hokv hx
  have hz : (unB c x t (v.take W)).length = W := by rw [unB_len]; simp; omega
  have hI2 : I32 (unB c x t (v.take W)) := by
    unfold unB
    exact I32_undAll (I32_bacT _ _ _ _)
  have hwl : (v.take W).length = W := by simp; omega
  rw [shA, u32L, hwl, il, hz] at hU'
  have tkv : (ks .u32 v).take W = ks .u32 (v.take W) := ks_take _ _ _
  have hlv : (ks .u32 v).length = L := by rw [ks_length, hol]
  have n0 : W - 0 = W := by omega
  generalize unB c x t (v.take W) = z at *
  simp (maxSteps := 4000000) (disch := omega) only [step, stepv, ev, wl, wn, wp, wz, aop, cV, cV1, AV.one, partCells, okW, onlyFr, app, sliceCells, cellsAt, srcA, subA, eqFs, Int.cast_ofNat_Int, simprocAttr, ac_cadenzaref23_Good, shA, hk, tt, ot, tk, n5]
  refine callD.vc hR' ?_
  simp (maxSteps := 4000000) (disch := omega) only [step, stepv, ev, wl, wn, wp, wz, aop, cV, cV1, AV.one, partCells, okW, onlyFr, app, sliceCells, cellsAt, srcA, subA, eqFs, Int.cast_ofNat_Int, simprocAttr, hc0, eM, eM2, eW, hk, tt, ot, tkv, hlv, n0]
  refine callD.vc hU' ?_
  simp (maxSteps := 4000000) (disch := omega) only [step, stepv, ev, wl, wn, wp, wz, aop, cV, cV1, AV.one, partCells, okW, onlyFr, app, sliceCells, cellsAt, srcA, subA, eqFs, Int.cast_ofNat_Int, simprocAttr]
  refine ALoop.by (ι := Nat) (fun k => ⟨[(13, .int .i64 ((k * c : Nat) : Int)), (12, .list W (ks .i32 z)), (11, .int .i64 W), (4, .ref 0 1 0)], [⟨t0, 2, 1, [.int .i64 c, .int .i64 x], 0⟩, ⟨t1, 16, 1, ks .i32 t, 0⟩]⟩)
    (fun k => k ≤ M ∧ okP c x z k = true) (fun k => M - k) 0 (by rw [Nat.zero_mul]; exact Le.slots (by simp [Am.look])) ⟨Nat.zero_le _, okP_zero _ _ _⟩ ?_
  rintro k ⟨h1, h2⟩
  have hs := okP_succ (c := c) (x := x) (l := z) (k := k)
  rw [h2, Bool.true_and] at hs
  have hkc : k * c ≤ W := by rw [hW0]; exact Nat.mul_le_mul_right c h1
  have hk1 : (k + 1) * c = k * c + c := by rw [Nat.add_mul, Nat.one_mul]
  by_cases hlt : k < M
  · have hkc1 : k * c + c ≤ W := by rw [hW0, ← hk1]; exact Nat.mul_le_mul_right c hlt
    have hsl : ((z.drop (k * c)).take c).length = c := by simp; omega
    have hI3 : I32 ((z.drop (k * c)).take c) := fun y hy => hI2 y (List.mem_of_mem_drop (List.mem_of_mem_take hy))
    have hW' := hW x ((z.drop (k * c)).take c) hI3
    rw [il, hsl, chk_all hx (by omega), ← hs] at hW'
    have edt : ((ks .i32 z).drop (k * c)).take c = ks .i32 ((z.drop (k * c)).take c) := by rw [ks_drop, ks_take]
    have hlz : (ks .i32 z).length = W := by rw [ks_length, hz]
    have eK1 : (((k + 1) * c : Nat) : Int) = ((k * c : Nat) : Int) + c := by rw [hk1]; simp
    obtain ⟨K, hK⟩ : ∃ K, K = k * c := ⟨_, rfl⟩
    rw [← hK] at hkc1 hW' edt eK1 ⊢
    have nk : K + c - K = c := by omega
    cases hok : okP c x z (k + 1) with
    | true =>
      rw [hok, if_pos rfl] at hW'
      simp (maxSteps := 4000000) (disch := omega) only [step, stepv, ev, wl, wn, wp, wz, aop, cV, cV1, AV.one, partCells, okW, onlyFr, app, sliceCells, cellsAt, srcA, subA, eqFs, Int.cast_ofNat_Int, simprocAttr, edt, hlz, nk]
      refine callD.vc hW' ?_
      simp (maxSteps := 4000000) (disch := omega) only [step, stepv, ev, wl, wn, wp, wz, aop, cV, cV1, AV.one, partCells, okW, onlyFr, app, sliceCells, cellsAt, srcA, subA, eqFs, Int.cast_ofNat_Int, simprocAttr]
      exact ⟨k + 1, ⟨hlt, hok⟩, by omega, Le.slots (by simp [Am.look, eK1])⟩
    | false =>
      rw [hok] at hW'
      have hG := goodK_eq (c := c) (x := x) (l := z) h1 h2 (.inr hok)
      rw [hG, ← hK]
      simp (maxSteps := 4000000) (disch := omega) only [step, stepv, ev, wl, wn, wp, wz, aop, cV, cV1, AV.one, partCells, okW, onlyFr, app, sliceCells, cellsAt, srcA, subA, eqFs, Int.cast_ofNat_Int, simprocAttr, edt, hlz, nk]
      refine callD.vc hW' ?_
      simp (maxSteps := 4000000) (disch := omega) only [step, stepv, ev, wl, wn, wp, wz, aop, cV, cV1, AV.one, partCells, okW, onlyFr, app, sliceCells, cellsAt, srcA, subA, eqFs, Int.cast_ofNat_Int, simprocAttr]
  · obtain rfl : k = M := by omega
    have hG := goodK_eq (c := c) (x := x) (l := z) h1 h2 (.inl rfl)
    rw [hG, ← hW0]
    simp (maxSteps := 4000000) (disch := omega) only [step, stepv, ev, wl, wn, wp, wz, aop, cV, cV1, AV.one, partCells, okW, onlyFr, app, sliceCells, cellsAt, srcA, subA, eqFs, Int.cast_ofNat_Int, simprocAttr]

end Go.Am

namespace Go.Am
open Go.RowKit

theorem ask_two {c x n : Int} (h1 : ask21 c x n ≠ 0) : ask21 c x n = 2 := by
  unfold ask21 at h1 ⊢
  split
  · rfl
  rename_i q
  rw [if_neg q] at h1
  split
  · rfl
  rename_i q
  rw [if_neg q] at h1
  split
  · rfl
  rename_i q
  rw [if_neg q] at h1
  omega

set_option maxHeartbeats 1000000 in
theorem ref23_Judge {P : Prg} {f fA fD fO fG t0 t1 t2 : Nat} (bd : Body P f 45 [.cell 8 t2, .tmp 9] (ac_cadenzaref23_Judge fA fD fO fG t0 t1 t2)) (hC : S_Ask21 P fA) (hD : S_Decode P fD) (hO : S_Opened P fO) (hG : S_RGood P fG) (ha : aggO P t2 = some (some 2)) : S_Judge P f := by
  intro c x n t b ht hI hb
  refine VC.of_acall (by simp [isDL, isD_bs, isDL_ks, isD, shA]) (isD_judA _ _ _ _ _) (ACall.of_body bd (by simp) ?_)
  have hC' := hC c x n
  have hD' := hD c x n t b ht hI hb
  have hO' := hO b hb
  have hk : (ks .i32 t).length = 16 := by simp [ks_length, ht]
  have tt : (ks .i32 t).take 16 = ks .i32 t := take_all (by omega)
  have ot := ks_one .i32 t
  rw [shA] at hC' hD'
  unfold judA
  by_cases h1 : ask21 c x n = 0
  case neg =>
    rw [if_pos h1]
    rw [ask_two h1] at hC'
    simp only [bs]
    simp (maxSteps := 4000000) (disch := omega) only [step, stepv, ev, wl, wn, wp, wz, aop, cV, cV1, AV.one, partCells, okW, onlyFr, app, sliceCells, cellsAt, srcA, subA, eqFs, Int.cast_ofNat_Int, simprocAttr, ac_cadenzaref23_Judge, shA, hk, tt, ot]
    refine callQ.vc hC' ?_
    simp (maxSteps := 4000000) (disch := omega) only [step, stepv, ev, wl, wn, wp, wz, aop, cV, cV1, AV.one, partCells, okW, onlyFr, app, sliceCells, cellsAt, srcA, subA, eqFs, Int.cast_ofNat_Int, simprocAttr, resA, ha, oneOf]
  rw [if_neg (by omega)]
  obtain ⟨hE, c', n', rfl, rfl, q1, q2, q3, q4, q5⟩ := ask21_cases h1
  rw [h1] at hC'
  obtain ⟨m, hm, _⟩ := dec_form2 (c' : Int) x (n' : Int) t b
  rw [hm] at hD'
  unfold judG
  simp only [bs, il, Int.toNat_natCast] at hD' hO' ⊢
  have eT : (n' : Int) * c' = ((n' * c' : Nat) : Int) := by simp
  obtain ⟨T, hT⟩ : ∃ T, T = n' * c' := ⟨_, rfl⟩
  rw [← hT] at eT
  by_cases h2 : errD c' x t n' b = 0
  · rw [if_pos h2, h2]
    rw [h2] at hD'
    rw [eT]
    simp (maxSteps := 4000000) (disch := omega) only [step, stepv, ev, wl, wn, wp, wz, aop, cV, cV1, AV.one, partCells, okW, onlyFr, app, sliceCells, cellsAt, srcA, subA, eqFs, Int.cast_ofNat_Int, simprocAttr, ac_cadenzaref23_Judge, shA, hk, tt, ot]
    refine callQ.vc hC' ?_
    simp (maxSteps := 4000000) (disch := omega) only [step, stepv, ev, wl, wn, wp, wz, aop, cV, cV1, AV.one, partCells, okW, onlyFr, app, sliceCells, cellsAt, srcA, subA, eqFs, Int.cast_ofNat_Int, simprocAttr, hk, tt, ot]
    refine callQ.vc hD' ?_
    simp (maxSteps := 4000000) (disch := omega) only [step, stepv, ev, wl, wn, wp, wz, aop, cV, cV1, AV.one, partCells, okW, onlyFr, app, sliceCells, cellsAt, srcA, subA, eqFs, Int.cast_ofNat_Int, simprocAttr, eT, resA, ha, oneOf]
  rw [if_neg h2]
  by_cases h3 : openM b = 0
  · rw [if_pos h3]
    have hbl : 5 ≤ b.length ∧ b.length ≤ 41254 := by
      unfold openM at h3
      split at h3
      · omega
      split at h3
      · omega
      · omega
    rw [h3] at hO'
    have hG' := hG c' n' x t b q1 q2 q5 q4 ht hI hbl.1 hbl.2
    generalize goodM c' x t (iL (vlsM (allV b c' n'))) = g at *
    generalize errD c' x t n' b = e at *
    simp only [bs, shA] at hG'
    simp (maxSteps := 4000000) (disch := omega) only [step, stepv, ev, wl, wn, wp, wz, aop, cV, cV1, AV.one, partCells, okW, onlyFr, app, sliceCells, cellsAt, srcA, subA, eqFs, Int.cast_ofNat_Int, simprocAttr, ac_cadenzaref23_Judge, shA, hk, tt, ot]
    refine callQ.vc hC' ?_
    simp (maxSteps := 4000000) (disch := omega) only [step, stepv, ev, wl, wn, wp, wz, aop, cV, cV1, AV.one, partCells, okW, onlyFr, app, sliceCells, cellsAt, srcA, subA, eqFs, Int.cast_ofNat_Int, simprocAttr, hk, tt, ot]
    refine callQ.vc hD' ?_
    simp (maxSteps := 4000000) (disch := omega) only [step, stepv, ev, wl, wn, wp, wz, aop, cV, cV1, AV.one, partCells, okW, onlyFr, app, sliceCells, cellsAt, srcA, subA, eqFs, Int.cast_ofNat_Int, simprocAttr]
    refine callQ.vc hO' ?_
    simp (maxSteps := 4000000) (disch := omega) only [step, stepv, ev, wl, wn, wp, wz, aop, cV, cV1, AV.one, partCells, okW, onlyFr, app, sliceCells, cellsAt, srcA, subA, eqFs, Int.cast_ofNat_Int, simprocAttr, hk, tt, ot]
    refine callQ.vc hG' ?_
    simp (maxSteps := 4000000) (disch := omega) only [step, stepv, ev, wl, wn, wp, wz, aop, cV, cV1, AV.one, partCells, okW, onlyFr, app, sliceCells, cellsAt, srcA, subA, eqFs, Int.cast_ofNat_Int, simprocAttr, resA, ha, oneOf]
  · rw [if_neg h3]
    have h3' : ((openM b : Nat) : Int) ≠ 0 := by omega
    generalize errD c' x t n' b = e at *
    generalize openM b = op at *
    simp (maxSteps := 4000000) (disch := omega) only [step, stepv, ev, wl, wn, wp, wz, aop, cV, cV1, AV.one, partCells, okW, onlyFr, app, sliceCells, cellsAt, srcA, subA, eqFs, Int.cast_ofNat_Int, simprocAttr, ac_cadenzaref23_Judge, shA, hk, tt, ot]
    refine callQ.vc hC' ?_
    simp (maxSteps := 4000000) (disch := omega) only [step, stepv, ev, wl, wn, wp, wz, aop, cV, cV1, AV.one, partCells, okW, onlyFr, app, sliceCells, cellsAt, srcA, subA, eqFs, Int.cast_ofNat_Int, simprocAttr, hk, tt, ot]
    refine callQ.vc hD' ?_
    simp (maxSteps := 4000000) (disch := omega) only [step, stepv, ev, wl, wn, wp, wz, aop, cV, cV1, AV.one, partCells, okW, onlyFr, app, sliceCells, cellsAt, srcA, subA, eqFs, Int.cast_ofNat_Int, simprocAttr]
    refine callQ.vc hO' ?_
    simp (maxSteps := 4000000) (disch := omega) only [step, stepv, ev, wl, wn, wp, wz, aop, cV, cV1, AV.one, partCells, okW, onlyFr, app, sliceCells, cellsAt, srcA, subA, eqFs, Int.cast_ofNat_Int, simprocAttr, resA, ha, oneOf]

/-! ### Silence, Heal -/

end Go.Am

namespace Go.Am
open Go.RowKit

/-! ### The laws VerdictJudges, VerdictHeals -/

def S_LawJudges (P : Prg) (f : Nat) : Prop := ∀ (c x : Int) (t : List Int) (n : Int) (b : List UInt8), t.length = 16 → I32 t → VC P f [shA c x, .agg (ks .i32 t), .int .i64 n, bs b] (.bool true)
theorem jud_form (c x n : Int) (t : List Int) (b : List UInt8) : ∃ e g r : Int, judA c x t n b = .tup [.agg [.int .i64 e, .int .i64 g], .int .i64 r] := by
  unfold judA; split
  · exact ⟨_, _, _, rfl⟩
  · exact ⟨_, _, _, rfl⟩
theorem gr_len {b : List UInt8} (h : (decide (1500 < b.length) && decide (b.length ≤ 41254) || decide (41300 < b.length)) = false) : b.length ≤ 1000000 := by simp at h; omega
set_option maxRecDepth 20000 in
theorem law23_VerdictJudges {P : Prg} {f fG fD fR t0 t1 t2 : Nat} (bd : Body P f 49 [.tmp 8] (ac_cadenzalaw23_VerdictJudges fG fD fR t0 t1 t2)) (hG : S_Great21 P fG) (hD : S_Judge P fD) (hR : S_Judge P fR) : S_LawJudges P f := by
  intro c x t n b ht hI
  refine VC.of_acall (by simp [isDL, isD_bs, isDL_ks, isD, shA]) rfl (ACall.of_body bd (by simp) ?_)
  have hk : (ks .i32 t).length = 16 := by simp [ks_length, ht]
  have tt : (ks .i32 t).take 16 = ks .i32 t := take_all (by omega)
  have ot := ks_one .i32 t
  have hG' := hG b
  simp only [bs] at hG'
  have e0 : (b == b) = true := by simp
  simp (maxSteps := 4000000) (disch := omega) only [step, stepv, ev, wl, wn, wp, wz, aop, cV, cV1, AV.one, partCells, okW, onlyFr, app, sliceCells, cellsAt, srcA, subA, eqFs, Int.cast_ofNat_Int, simprocAttr, ac_cadenzalaw23_VerdictJudges, shA, bs, hk, tt, ot]
  refine callQ.vc hG' ?_
  cases hg : (decide (1500 < b.length) && decide (b.length ≤ 41254) || decide (41300 < b.length)) with
  | true => simp (maxSteps := 4000000) (disch := omega) only [step, stepv, ev, wl, wn, wp, wz, aop, cV, cV1, AV.one, partCells, okW, onlyFr, app, sliceCells, cellsAt, srcA, subA, eqFs, Int.cast_ofNat_Int, simprocAttr]
  | false =>
    have hb := gr_len hg
    have hD' := hD c x n t b ht hI hb
    have hR' := hR c x n t b ht hI hb
    obtain ⟨e, g, r, e9⟩ := jud_form c x n t b
    rw [e9] at hD' hR'
    simp only [shA, bs] at hD' hR'
    simp (maxSteps := 4000000) (disch := omega) only [step, stepv, ev, wl, wn, wp, wz, aop, cV, cV1, AV.one, partCells, okW, onlyFr, app, sliceCells, cellsAt, srcA, subA, eqFs, Int.cast_ofNat_Int, simprocAttr, hk, tt, ot]
    refine callQ.vc hD' ?_
    simp (maxSteps := 4000000) (disch := omega) only [step, stepv, ev, wl, wn, wp, wz, aop, cV, cV1, AV.one, partCells, okW, onlyFr, app, sliceCells, cellsAt, srcA, subA, eqFs, Int.cast_ofNat_Int, simprocAttr, hk, tt, ot]
    refine callQ.still 2 [] hR' ?_ ?_
    · simp [frzN, frzK, frzL, frzV, frzL_T _ (isT_u8 _), frzL_T _ (isTL_ks _ _)]
    simp (maxSteps := 4000000) (disch := omega) only [step, stepv, ev, wl, wn, wp, wz, aop, cV, cV1, AV.one, partCells, okW, onlyFr, app, sliceCells, cellsAt, srcA, subA, eqFs, Int.cast_ofNat_Int, simprocAttr, stillAt]
    simp (maxSteps := 4000000) (disch := omega) only [step, stepv, ev, wl, wn, wp, wz, aop, cV, cV1, AV.one, partCells, okW, onlyFr, app, sliceCells, cellsAt, srcA, subA, eqFs, Int.cast_ofNat_Int, simprocAttr, strA, e0]

end Go.Am
