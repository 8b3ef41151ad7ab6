/- Contracts of the library, at what their callers hold; the conditions stand in each statement. -/
import Derived.Shelf.LaysM
import Derived.Shelf.Bytes.GrowSliceCatch
import Derived.Lib.ByteType
import Derived.Lib.Walk
import Derived.Lib.Buffer
import Derived.Lib.AppendZeros
import Derived.Lib.Hide
import Derived.Laws.CopyRow
import Derived.Laws.IdiomCopy
import Derived.WalkKit
import Derived.OwnWalk
import Derived.Defers
import Derived.Recover
import Derived.Shelf.RegionOpenPlain
import Derived.Shelf.Bytes.LenAt
import Derived.Shelf.Bytes.TryGrowAt
import Derived.Shelf.Bytes.GrowSlice
import Derived.Shelf.Bytes.GrowRow0At
import Derived.Lib.BufferAt
import Derived.Lib.BufferOwn
import Derived.Lib.BufferMore
import Derived.Lib.BufferGrow
import Derived.RegionTactic
import Derived.Deep.RegionWith
import Derived.Deep.Draws
import Derived.BigCall
import Derived.BigGuard
import Derived.Shelf.Spec.SlicesGrow
import Derived.Test.YtpipccfcpeemfacGreatDoorEncodeSameA3
set_option linter.unusedSectionVars false
set_option linter.unusedSimpArgs false
set_option linter.unusedVariables false
/- (*bytes.Buffer).grow on a row without room: the world behind it, told. (Two proofs of the kit's shelf, turned: the new row's cells and the world are said.) -/
namespace Go.Am
open Go.Proofs Go.Shelf Go.RowKit
variable {P : Program} {ρ : Ren}
set_option maxHeartbeats 6400000 in
set_option maxRecDepth 100000 in
/-- growSlice at a row: the new row, each of whose cells holds one cell's value. -/
theorem growSlice_row (L : LaysM.n290 P ρ) (g l c n : Nat) (cur : Array Value) (w : World) (hg : w.heap[g]? = some (.cells cur (ρ.t 5) (0, 0))) (hcs : cur.size = c) (hlc : l ≤ c) (hn : 1 ≤ n)
  (hlim : l + n ≤ 140737488355328) (hc2 : c ≤ 140737488355328) (h1 : ∀ v ∈ cur.toList.take l, v.oneCell' = true) :
  Calls P (ρ.f 290) #[.slice (some ⟨g, 0, none⟩) l c, .int .i64 n] w fun e w' => ∃ cap2 cells, e = .returned (.slice (some ⟨w.heap.size, 0, none⟩) l cap2) ∧ w'.heap[w.heap.size]? = some (.cells cells (ρ.t 5) (0, 0)) ∧
   cells.size = cap2 ∧ cells.toList.take l = cur.toList.take l ∧ l + n ≤ cap2 ∧ cap2 ≤ maxLen ∧ Below w.heap.size w w' ∧ ∀ v ∈ cells.toList, v.oneCell' = true := by
 have mixed := L.mixed
 have t5 := L.t5; have a5 := L.a5; have z5 := L.z5; have v5 := L.v5
 have t37 := L.t37; have a37 := L.a37; have z37 := L.z37; have v37 := L.v37
 have t3 := L.t3; have a3 := L.a3; have z3 := L.z3; have v3 := L.v3
 have t0 := L.t0; have a0 := L.a0; have z0 := L.z0; have v0 := L.v0
 have t4 := L.t4; have a4 := L.a4; have z4 := L.z4; have v4 := L.v4
 obtain ⟨i0, hi, hz0, hz1, hz2⟩ := info_parts L.i5
 have hsz1 : (P.info? (ρ.t 5)).map (·.size) = some 1 := by rw [hi]; simp [hz1]
 by_cases hC : l + n < 2 * c
 · -- the new array's length: C = 2 * c
  have happ := Lib.run_append_nil_zeros (P := P) w (ρ.t 37) (ρ.t 3) (ρ.t 37) (ρ.t 5) i0 (.int .u8 0) .i64 .i64 L.t37 L.t3 hi hz0 (2 * c) (by omega) (by omega) (by omega) (by rw [hz2]; omega)
  rw [show (((2 * c : Nat)) : Int) = 2 * (c : Int) by omega] at happ
  generalize hcap : grownCap w (2 * c) 0 (ρ.t 5) = cap2 at happ
  have hcapge : 2 * c ≤ cap2 := by rw [← hcap]; exact grownCap_ge w _ 0 (ρ.t 5)
  have hcaple : cap2 ≤ maxLen := by rw [← hcap]; exact grownCap_le_maxLen w _ 0 (ρ.t 5) (by unfold maxLen; omega)
  generalize hZ : (Builtin.zeroCells (Value.int .u8 0).cells (2 * c) ++ Builtin.zeroCells (Value.int .u8 0).cells (cap2 - (2 * c))) = Z at happ
  have hZs : Z.size = cap2 := by rw [← hZ]; simp [size_zeroCells, Value.cells]; omega
  have hZ1 : ∀ v ∈ Z.toList, v.oneCell' = true := by
   rw [← hZ]
   intro v hv
   simp only [Array.toList_append, List.mem_append] at hv
   rcases hv with hv | hv <;> exact zc_one (cells := (Value.int .u8 0).cells) (fun u hu => by simp [Value.cells] at hu; subst hu; rfl) v hv
  clear hcap hZ
  have hgl := Lib.lt_of_heap hg
  have hg1 : (w.alloc (.cells Z (ρ.t 5))).drew.heap[g]? = some (.cells cur (ρ.t 5) (0, 0)) := by show (w.alloc (.cells Z (ρ.t 5))).heap[g]? = _; rw [RowKit.Below.heap_alloc w _ g hgl]; exact hg
  have hxl : (cur.toList.take l).length = l := by rw [List.length_take, Array.length_toList]; omega
  have hcopy := run_copy_row (P := P) (w.alloc (.cells Z (ρ.t 5))).drew (ρ.t 37) (ρ.t 37) (ρ.t 3) (ρ.t 5) w.heap.size 0 (2 * c) cap2 ⟨g, 0, none⟩ l c Z (ρ.t 5) (cur.toList.take l) L.t37 hsz1 (heap_alloc_new w _) (by rw [hxl]; exact (Nat.min_eq_left (by omega)).symm) (Lib.cells_of_row hg1 l) (by rw [hxl]; omega) h1
  rw [hxl] at hcopy
  generalize hY : (Z.toList.take 0 ++ cur.toList.take l ++ Z.toList.drop (0 + l)).toArray = Y at hcopy
  go_enter_defers L.f290, Body.n290_ntmps ρ
  go_wp2_with (at_builtin; refine Lib.wpList_append_run _ rfl _ _ _ _ rfl _ _ rfl rfl _ _ happ ?_)
  refine leaves_cons (f := (ρ.f 324)) (args := #[]) (by simp) (enters_of L.f324 (by kernel_rfl) rfl _ _) ?_
  refine (Any.growSlice_catch_idle { L with } _).mono ?_
  rintro e u' w'' ⟨rfl, rfl, rfl⟩
  refine ⟨_, results_tmp rfl _ _ _, ?_⟩
  have hYl : Y.toList = cur.toList.take l ++ Z.toList.drop l := by rw [← hY]; simp
  refine ⟨cap2, Y, rfl, setRow_heap _ _ Z Y (ρ.t 5) (0, 0) (heap_alloc_new w _), ?_, ?_, by omega, hcaple, ?_⟩
  ·have : Y.toList.length = cap2 := by rw [hYl, List.length_append, hxl, List.length_drop, Array.length_toList, hZs]; omega
   simpa using this
  ·rw [hYl, List.take_append_of_le_length (by rw [hxl]; exact Nat.le_refl _), List.take_of_length_le (by rw [hxl]; exact Nat.le_refl _)]
  ·refine ⟨⟨rfl, rfl, rfl, by simp, fun k hk => by rw [setRow_other _ _ _ _ (by omega)]; exact Below.heap_alloc w _ k hk⟩, ?_⟩
   intro v hv
   rw [hYl] at hv
   rcases List.mem_append.1 hv with hv | hv
   ·exact h1 v hv
   ·exact hZ1 v (List.mem_of_mem_drop hv)
 · -- the new array's length: C = l + n
  have happ := Lib.run_append_nil_zeros (P := P) w (ρ.t 37) (ρ.t 3) (ρ.t 37) (ρ.t 5) i0 (.int .u8 0) .i64 .i64 L.t37 L.t3 hi hz0 (l + n) (by omega) (by omega) (by omega) (by rw [hz2]; omega)
  rw [show (((l + n : Nat)) : Int) = (l : Int) + (n : Int) by omega] at happ
  generalize hcap : grownCap w (l + n) 0 (ρ.t 5) = cap2 at happ
  have hcapge : l + n ≤ cap2 := by rw [← hcap]; exact grownCap_ge w _ 0 (ρ.t 5)
  have hcaple : cap2 ≤ maxLen := by rw [← hcap]; exact grownCap_le_maxLen w _ 0 (ρ.t 5) (by unfold maxLen; omega)
  generalize hZ : (Builtin.zeroCells (Value.int .u8 0).cells (l + n) ++ Builtin.zeroCells (Value.int .u8 0).cells (cap2 - (l + n))) = Z at happ
  have hZs : Z.size = cap2 := by rw [← hZ]; simp [size_zeroCells, Value.cells]; omega
  have hZ1 : ∀ v ∈ Z.toList, v.oneCell' = true := by
   rw [← hZ]
   intro v hv
   simp only [Array.toList_append, List.mem_append] at hv
   rcases hv with hv | hv <;> exact zc_one (cells := (Value.int .u8 0).cells) (fun u hu => by simp [Value.cells] at hu; subst hu; rfl) v hv
  clear hcap hZ
  have hgl := Lib.lt_of_heap hg
  have hg1 : (w.alloc (.cells Z (ρ.t 5))).drew.heap[g]? = some (.cells cur (ρ.t 5) (0, 0)) := by show (w.alloc (.cells Z (ρ.t 5))).heap[g]? = _; rw [RowKit.Below.heap_alloc w _ g hgl]; exact hg
  have hxl : (cur.toList.take l).length = l := by rw [List.length_take, Array.length_toList]; omega
  have hcopy := run_copy_row (P := P) (w.alloc (.cells Z (ρ.t 5))).drew (ρ.t 37) (ρ.t 37) (ρ.t 3) (ρ.t 5) w.heap.size 0 (l + n) cap2 ⟨g, 0, none⟩ l c Z (ρ.t 5) (cur.toList.take l) L.t37 hsz1 (heap_alloc_new w _) (by rw [hxl]; exact (Nat.min_eq_left (by omega)).symm) (Lib.cells_of_row hg1 l) (by rw [hxl]; omega) h1
  rw [hxl] at hcopy
  generalize hY : (Z.toList.take 0 ++ cur.toList.take l ++ Z.toList.drop (0 + l)).toArray = Y at hcopy
  go_enter_defers L.f290, Body.n290_ntmps ρ
  go_wp2_with (at_builtin; refine Lib.wpList_append_run _ rfl _ _ _ _ rfl _ _ rfl rfl _ _ happ ?_)
  refine leaves_cons (f := (ρ.f 324)) (args := #[]) (by simp) (enters_of L.f324 (by kernel_rfl) rfl _ _) ?_
  refine (Any.growSlice_catch_idle { L with } _).mono ?_
  rintro e u' w'' ⟨rfl, rfl, rfl⟩
  refine ⟨_, results_tmp rfl _ _ _, ?_⟩
  have hYl : Y.toList = cur.toList.take l ++ Z.toList.drop l := by rw [← hY]; simp
  refine ⟨cap2, Y, rfl, setRow_heap _ _ Z Y (ρ.t 5) (0, 0) (heap_alloc_new w _), ?_, ?_, by omega, hcaple, ?_⟩
  ·have : Y.toList.length = cap2 := by rw [hYl, List.length_append, hxl, List.length_drop, Array.length_toList, hZs]; omega
   simpa using this
  ·rw [hYl, List.take_append_of_le_length (by rw [hxl]; exact Nat.le_refl _), List.take_of_length_le (by rw [hxl]; exact Nat.le_refl _)]
  ·refine ⟨⟨rfl, rfl, rfl, by simp, fun k hk => by rw [setRow_other _ _ _ _ (by omega)]; exact Below.heap_alloc w _ k hk⟩, ?_⟩
   intro v hv
   rw [hYl] at hv
   rcases List.mem_append.1 hv with hv | hv
   ·exact h1 v hv
   ·exact hZ1 v (List.mem_of_mem_drop hv)
set_option maxHeartbeats 12800000 in
set_option maxRecDepth 100000 in
/-- grow, where the buffer holds a row that has no room: the world behind it, told. -/
theorem grow_row_told (L : LaysM.n252 P ρ) (T : TypeId) (R : Nat → Option Value) (B b q g l cap n : Nat) (lr : Int) (cur : Array Value) (bs : List Value) (w : World) (hB : B ≤ b) (hBw : B ≤ w.heap.size)
  (hbk : LibA.Three w b q T R (.slice (some ⟨g, 0, none⟩) l cap) (.int .i64 0) (.int .i8 lr))
  (hl : bs.length = l) (hBg : B ≤ g) (hg : w.heap[g]? = some (.cells cur (ρ.t 5) (0, 0))) (hlc : l ≤ cap) (hcm : cap ≤ maxLen) (hcs : cur.size = cap) (htake : cur.toList.take l = bs) (hgb : g ≠ b)
  (h1 : ∀ v ∈ bs, v.oneCell' = true) (hn : 1 ≤ n) (hl0 : l ≠ 0) (hroom : cap - l < n) (hlim : l + n ≤ 140737488355328) :
  Calls P (ρ.f 252) #[.pointer (some ⟨b, q, none⟩), .int .i64 n] w fun e w' => e = .returned (.int .i64 l) ∧ ∃ cap2 cells w2 v1, Below w.heap.size w w2 ∧ w2.heap[w.heap.size]? = some (.cells cells (ρ.t 5) (0, 0)) ∧ cells.size = cap2 ∧ cells.toList.take l = cur.toList.take l ∧ (∀ v ∈ cells.toList, v.oneCell' = true) ∧ l + n ≤ cap2 ∧ cap2 ≤ maxLen ∧
   w' = ((w2.setCell ⟨b, q, none⟩ v1).setCell ⟨b, q + 1, none⟩ (.int .i64 0)).setCell ⟨b, q, none⟩ (.slice (some ⟨w.heap.size, 0, none⟩) (l + n) cap2) := by
 have mixed := L.mixed
 have t5 := L.t5; have a5 := L.a5; have z5 := L.z5; have v5 := L.v5
 have t130 := L.t130; have a130 := L.a130; have z130 := L.z130; have v130 := L.v130
 have t3 := L.t3; have a3 := L.a3; have z3 := L.z3; have v3 := L.v3
 have t4 := L.t4; have a4 := L.a4; have z4 := L.z4; have v4 := L.v4
 have t0 := L.t0; have a0 := L.a0; have z0 := L.z0; have v0 := L.v0
 have t93 := L.t93; have u93 := run_underlying L.t93; have a93 := L.a93; have z93 := L.z93; have v93 := L.v93
 have t131 := L.t131; have a131 := L.a131; have z131 := L.z131; have v131 := L.v131
 have t37 := L.t37; have a37 := L.a37; have z37 := L.z37; have v37 := L.v37
 have t75 := L.t75; have a75 := L.a75; have z75 := L.z75; have v75 := L.v75
 have e181 : ∀ args w, (callFunc (ρ.f 181) args).run P w = .ok (.enter (ρ.f 181) args) w := enters_of L.f181 (by kernel_rfl) rfl
 have e251 : ∀ args w, (callFunc (ρ.f 251) args).run P w = .ok (.enter (ρ.f 251) args) w := enters_of L.f251 (by kernel_rfl) rfl
 have e290 : ∀ args w, (callFunc (ρ.f 290) args).run P w = .ok (.enter (ρ.f 290) args) w := enters_of L.f290 (by kernel_rfl) rfl
 have hIs : LibA.IsBuffer T R (ρ.t 5) B b q bs w := ⟨hB, _, _, hbk, ⟨by rw [hl, Nat.mul_one], .inr ⟨g, cap, cur, by rw [hl], hBg, hg, by omega, hcm, by omega, by rw [hl, Nat.mul_one]; exact htake⟩⟩, by simp [Value.ownBlock]; exact hgb⟩
 have hnil : ∀ W, (binOp .eql (ρ.t 37) (.slice (some ⟨g, 0, none⟩) l cap) (.slice none 0 0)).run P W = .ok (.bool false) W := fun W => Lib.run_eql_slice_some_nil W _ _ _ L.t37
 go_enter L.f252, Body.n252_ntmps ρ
 go_wp2_with (go_at_fn (ρ.f 181); refine (Any.Buffer_Len_at { L with } T R B b q bs _ hIs).mono ?_)
 rintro e W0 ⟨rfl, k, hW0⟩
 rw [hl]
 have hbk0 : LibA.Three W0 b q T R (.slice (some ⟨g, 0, none⟩) l cap) (.int .i64 0) (.int .i8 lr) := by rw [hW0]; exact hbk
 have hg0 : W0.heap[g]? = some (.cells cur (ρ.t 5) (0, 0)) := by rw [hW0]; exact hg
 have c0 : W0.cell? ⟨b, q, none⟩ = some (.slice (some ⟨g, 0, none⟩) l cap) := hbk0.c0
 have c1 : W0.cell? ⟨b, q + 1, none⟩ = some (.int .i64 0) := hbk0.c1
 have f0 : W0.frozen? ⟨b, q, none⟩ = false := hbk0.f q
 have f1 : W0.frozen? ⟨b, q + 1, none⟩ = false := hbk0.f (q + 1)
 have HW0 := Lib.hid hW0
 clear hW0 hIs
 have hcm' := hcm
 unfold maxLen at hcm'
 go_wp2_with (go_at_fn (ρ.f 251); refine (Any.Buffer_tryGrow_none_at { L with } b q _ l cap n _ c0 hlc hcm hroom).mono ?_; rintro e w' ⟨rfl, rfl⟩)
 have hc2 : cap ≤ 140737488355328 := by omega
 have h1' : ∀ v ∈ cur.toList.take l, v.oneCell' = true := by rw [htake]; exact h1
 have hbW := hbk0.lt
 have hwn : IntKind.i64.wrap (n : Int) = n := by rw [IntKind.wrap_i64]; omega
 go_region_with_o (
   go_at_fn (ρ.f 290)
   refine (growSlice_row { L with } g l cap n cur _ ?_ hcs hlc hn hlim hc2 h1').mono ?_
   exact hg0      -- (✋ THE WORLD IS LEFT OPEN AND THIS SIDE GOAL PROVED BEHIND: RegionWith.lean's head: given in place it settles the world as W0, and the call is made in 'W0.drew': 20 minutes of processor, and no end)
   rintro e w2 ⟨cap2, cells, rfl, hN, hcsz, htk, hcap2, hcm2, hbel, hone⟩
   have hbk2 : LibA.Three w2 b q T R (.slice (some ⟨g, 0, none⟩) l cap) (.int .i64 0) (.int .i8 lr) := hbk0.of_heap (hbel.block b hbW)
   have d0 : w2.cell? ⟨b, q, none⟩ = some (.slice (some ⟨g, 0, none⟩) l cap) := hbk2.c0
   have d1 : w2.cell? ⟨b, q + 1, none⟩ = some (.int .i64 0) := hbk2.c1
   have e0 : w2.frozen? ⟨b, q, none⟩ = false := hbk2.f q
   have e1 : w2.frozen? ⟨b, q + 1, none⟩ = false := hbk2.f (q + 1))
 all_goals (
  go_wp2
  go_ret
  have hsz0 : w'.heap.size = w.heap.size := by rw [HW0.out]; rfl
  have hbw : Below w.heap.size w w'.drew := by rw [HW0.out]; exact ⟨rfl, rfl, rfl, Nat.le_refl _, fun _ _ => rfl⟩
  have hsz1 : w'.drew.heap.size = w.heap.size := hsz0
  refine ⟨rfl, cap2, cells, w2, .slice (some ⟨w'.heap.size, 0, none⟩) l cap2, hbw.trans (hsz1 ▸ hbel), by rw [← hsz0]; exact hN, hcsz, htk, hone, hcap2, hcm2, ?_⟩
  rw [← hsz0])
end Go.Am
/- A call of (*bytes.Buffer).grow where the row has no room, in the abstract machine. -/
namespace Go.Am
open Go.Proofs Go.Shelf Go.RowKit
theorem setCell_row {w : World} {b : Nat} {cs : Array Value} {t : TypeId} {fr : Nat × Nat} (h : w.heap[b]? = some (.cells cs t fr)) (i : Nat) (v : Value) : w.setCell ⟨b, i, none⟩ v = w.setRow b (cs.setIfInBounds i v) := by
 have hlt : b < w.heap.size := (Array.getElem?_eq_some_iff.1 h).1
 have he : w.heap[b] = .cells cs t fr := (Array.getElem?_eq_some_iff.1 h).2
 unfold World.setCell World.setRow
 congr 1
 apply Array.ext
 ·simp
 ·intro j h1 h2
  by_cases hj : b = j
  ·subst hj
   rw [Array.getElem_modify, Array.getElem_modify]
   simp [he]
  ·rw [Array.getElem_modify, Array.getElem_modify]
   simp [hj]
theorem ACall.grow_row {P : Prg} {ρ : Ren} (L : LaysM.n252 P.prog ρ) (hE : Enters P (ρ.f 252)) {ob : List Ob} {p o n c m tB : Nat} {lr : Int} {cs : List AV} (hp : ob[p]? = some ⟨tB, 3, 1, [.ownc o n c, .int .i64 0, .int .i8 lr], 0⟩)
  (ho : ob[o]? = some ⟨ρ.t 5, 1, n, cs, 0⟩) (hpo : p ≠ o) (hn : 0 < n) (hm : c < n + m) (hlim : n + m ≤ 140737488355328) {K : AV → List Ob → Prop}
  (hK : K (.int .i64 n) ((ob.set o ⟨ρ.t 5, 1, n + m, cs ++ List.replicate m .any, 0⟩).set p ⟨tB, 3, 1, [.own o (n + m), .int .i64 0, .int .i8 lr], 0⟩)) : ACall P (ρ.f 252) [.ref p 1 0, .int .i64 m] ob K := by
 refine ⟨hE, fun B w be C vs g hG hr => ?_⟩
 simp only [RepL, Rep] at hr
 obtain ⟨v0, _, rfl, ⟨⟨x, hx, _, _, hxp⟩, _⟩, v1, _, rfl, rfl, rfl⟩ := hr
 have hx' : ob[p]? = some x := hx
 rw [hp] at hx'
 cases hx'
 obtain ⟨b, cb, hbe, rfl⟩ := hxp rfl
 obtain ⟨e, he, hok⟩ := g.get hp
 rw [hbe] at he
 cases he
 obtain ⟨curp, ⟨fr, a1, hfr⟩, a2, a3, a4, a5, a6, a7⟩ := hok
 obtain rfl : fr = (0, 0) := by rcases hfr with h | h; exact h; exact absurd h.2 (Nat.lt_irrefl 0)
 simp only [List.length_cons, List.length_nil, RepL, Rep] at a6
 obtain ⟨u0, r0, e0, ⟨hcur, _⟩, u1, r1, rfl, rfl, u2, r2, rfl, rfl, rfl⟩ := a6
 obtain ⟨y, hy, _, _, hyp⟩ := hcur
 have hy' : ob[o]? = some y := hy
 rw [ho] at hy'
 cases hy'
 obtain ⟨h2, hcap⟩ := hyp rfl
 obtain ⟨e, he, hok⟩ := g.get ho
 cases e with
 | none =>
  have : n = 0 := hok.1
  omega
 | some q =>
  obtain ⟨gb, cap⟩ := q
  obtain ⟨cur, ⟨fr, q1, hfr⟩, q2, q3, q4, q5, q6, q7⟩ := hok
  obtain rfl : fr = (0, 0) := by rcases hfr with h | h; exact h; exact absurd h.2 (Nat.lt_irrefl 0)
  simp only [he, OwnV] at h2
  simp only [he, capE] at hcap
  subst hcap
  subst h2
  have q2 : cur.size = cap := by have := q2; simpa using this
  have q5 : cs.length = n := by have := q5; simpa using this
  have q3 : n ≤ cap := q3
  have a3 : 1 ≤ cb := a3
  have a2 : curp.size = cb * 3 := a2
  have hgb : gb ≠ b := fun e => hpo (g.inj p o b cb cap hbe (by rw [← e]; exact he))
  have hbs : b < w.heap.size := g.block_lt hp hbe
  have hgs : gb < w.heap.size := g.block_lt ho he
  have t0 : curp.toList[0]? = some (.slice (some ⟨gb, 0, none⟩) n cap) := by
   have := congrArg (·[0]?) e0
   simpa using this
  have t1 : curp.toList[1]? = some (.int .i64 0) := by
   have := congrArg (·[1]?) e0
   simpa using this
  have t2 : curp.toList[2]? = some (.int .i8 lr) := by
   have := congrArg (·[2]?) e0
   simpa using this
  have h3 : LibA.Three w b 0 tB (fun i => curp[i]?) (.slice (some ⟨gb, 0, none⟩) n cap) (.int .i64 0) (.int .i8 lr) :=
   ⟨curp, a1, by simpa using t0, by simpa using t1, by simpa using t2, fun _ _ => rfl⟩
  have hbl : (cur.toList.take n).length = n := by
   have : n ≤ cap := q3
   simp; omega
  refine (grow_row_told L tB _ 0 b 0 gb n cap m lr cur (cur.toList.take n) w (Nat.zero_le _) (Nat.zero_le _) h3 hbl (Nat.zero_le _) q1 q3 q4 q2 rfl hgb (fun v hv => q7 v (List.mem_of_mem_take hv)) (by omega) (by omega) (by have : n ≤ cap := q3; omega) hlim).mono ?_
  rintro e w' ⟨rfl, cap2, cells, w2, v1, hbel, hN, hcs, htk, hone, hc2, hcm2, rfl⟩
  let x' : Ob := ⟨ρ.t 5, 1, n + m, cs ++ List.replicate m .any, 0⟩
  have hlen : x'.cs.length = n + m := by simp only [x', List.length_append, List.length_replicate]; omega
  obtain ⟨g1, m1⟩ := g.adopt (o := o) ho (w2 := w2) hbel (Nat.le_refl _) cells x' cap2 hN (by simp [x']) (by simp only [x']; omega) (by simp [x', hcs]) (by simp only [x']; exact hc2) hcm2 (by simp only [x', Nat.mul_one]; exact hlen)
   (by
    rw [hlen]
    have e1 : cells.toList.take (n + m) = cur.toList.take n ++ (cells.toList.take (n + m)).drop n := by
     have := (List.take_append_drop n (cells.toList.take (n + m))).symm
     rwa [List.take_take, Nat.min_eq_left (by omega), htk] at this
    rw [e1]
    rw [q5] at q6
    refine RepL.append q6 (RepL.of_get _ _ (by simp; omega) fun i d v hc _ => ?_)
    have : d = .any := by
     rw [List.getElem?_replicate] at hc
     split at hc <;> cases hc
     rfl
    subst this
    simp only [Rep]) hone
  have hol : o < ob.length := (List.getElem?_eq_some_iff.1 ho).1
  have hpl : p < ob.length := (List.getElem?_eq_some_iff.1 hp).1
  have hp1 : (ob.set o x')[p]? = some ⟨tB, 3, 1, [.ownc o n cap, .int .i64 0, .int .i8 lr], 0⟩ := by rw [List.getElem?_set_ne (fun h => hpo h.symm)]; exact hp
  have hbe1 : (be.set o (some (w.heap.size, cap2)))[p]? = some (some (b, cb)) := by rw [List.getElem?_set_ne (fun h => hpo h.symm)]; exact hbe
  have hb2 : w2.heap[b]? = some (.cells curp tB (0, 0)) := by rw [hbel.block b hbs]; exact a1
  have hsz3 : 3 ≤ curp.size := by omega
  let nv : Value := .slice (some ⟨w.heap.size, 0, none⟩) (n + m) cap2
  have hw : ((w2.setCell ⟨b, 0, none⟩ v1).setCell ⟨b, 0 + 1, none⟩ (.int .i64 0)).setCell ⟨b, 0, none⟩ nv = w2.setRow b (curp.setIfInBounds 0 nv) := by
   rw [setCell_row hb2, setCell_row (setRow_heap _ _ _ _ _ _ hb2), setRow_setRow, setCell_row (setRow_heap _ _ _ _ _ _ hb2), setRow_setRow]
   congr 1
   apply Array.ext'
   simp only [Array.toList_setIfInBounds, Nat.zero_add]
   apply List.ext_getElem?
   intro j
   simp only [List.getElem?_set, List.length_set]
   match j with
   | 0 => simp
   | 1 => simp only [Nat.reduceEqDiff, if_false, if_true, Nat.zero_ne_one, t1]; simp; omega
   | j + 2 => simp
  have hrep : ∀ Z : Cx, Z.ob = ob.set o x' → Z.be = be.set o (some (w.heap.size, cap2)) → Rep Z (.own o (n + m)) nv := fun Z hz1 hz2 => by
   simp only [Rep]
   exact ⟨⟨x', by rw [hz1]; simp [hol], by simp [x'], by simp [x'], fun _ => by
    have hlb : o < be.length := by have : be.length = ob.length := g.len; omega
    rw [hz2]; simp [hlb, OwnV, nv]⟩, rfl⟩
  have h3l : (curp.setIfInBounds 0 nv).toList.take 3 = [nv, .int .i64 0, .int .i8 lr] := by
   apply List.ext_getElem?
   intro j
   match j with
   | 0 => rw [List.getElem?_take_of_lt (by omega), Array.toList_setIfInBounds, List.getElem?_set_self (by simp; omega)]; rfl
   | 1 => simpa using t1
   | 2 => simpa using t2
   | j + 3 => simp; omega
  obtain ⟨g2, m2, b2⟩ := g1.rewrite hp1 hbe1 hb2 (.inl rfl) (curp.setIfInBounds 0 nv) ⟨tB, 3, 1, [.own o (n + m), .int .i64 0, .int .i8 lr], 0⟩ rfl rfl (Nat.le_refl _) (Nat.le_refl _) a3 (by simp) (fun k hk => by simp at hk) rfl
   (by
    show RepL _ [.own o (n + m), .int .i64 0, .int .i8 lr] (List.take 3 _)
    rw [h3l]
    simp only [RepL]
    exact ⟨_, _, rfl, hrep _ rfl rfl, _, _, rfl, by simp only [Rep], _, _, rfl, by simp only [Rep], rfl⟩)
   (by
    intro v hv
    obtain ⟨i, hi⟩ := List.mem_iff_getElem?.1 hv
    simp only [Array.toList_setIfInBounds, List.getElem?_set] at hi
    split at hi
    ·split at hi <;> cases hi; rfl
    ·exact a7 v (List.mem_of_getElem? hi))
  refine ⟨.int .i64 n, .int .i64 n, _, be.set o (some (w.heap.size, cap2)), rfl, ?_, ?_, ?_, by simp only [Rep], hK⟩
  ·show Below B w (((w2.setCell ⟨b, 0, none⟩ v1).setCell ⟨b, 0 + 1, none⟩ (.int .i64 0)).setCell ⟨b, 0, none⟩ nv)
   rw [hw]
   exact (hbel.mono g.size).trans b2
  ·show Held B ⟨((w2.setCell ⟨b, 0, none⟩ v1).setCell ⟨b, 0 + 1, none⟩ (.int .i64 0)).setCell ⟨b, 0, none⟩ nv, _, _, _⟩
   rw [hw]
   exact g2
  ·show Moves _ ⟨((w2.setCell ⟨b, 0, none⟩ v1).setCell ⟨b, 0 + 1, none⟩ (.int .i64 0)).setCell ⟨b, 0, none⟩ nv, _, _, _⟩
   rw [hw]
   exact m1.trans m2
end Go.Am
/- slices.Grow of a nil slice of bytes, in the abstract machine. -/
namespace Go.Am
open Go.Proofs Go.Shelf Go.RowKit
theorem one_zero {n : Nat} : ∀ v ∈ (Builtin.zeroCells (Value.int .u8 0).cells n).toList, v.oneCell' = true :=
 fun v hv => zc_one (cells := (Value.int .u8 0).cells) (fun u hu => by simp [Value.cells] at hu; subst hu; rfl) v hv
theorem ACall.grow_nil {P : Prg} {ρ : Ren} (L : Lays8.n4 P.prog ρ) (h25 : (P.prog.info? (ρ.t 25)).map (fun i => (i.zero, i.size, i.bytes)) = some (some (.int .u8 0), 1, 1)) {ob : List Ob} {n : Nat} (hn : 0 < n) (hlim : n ≤ 140737488355328) {z : Bool} {K : AV → List Ob → Prop}
  (hK : K (.own ob.length 0) (ob ++ [⟨ρ.t 25, 1, 0, [], 0⟩])) : ACall P (ρ.f 4) [.emp z, .int .i64 n] ob K := by
 obtain ⟨i0, hi, hz0, hz1, hz2⟩ := info_parts h25
 refine ⟨?_, fun B w be C vs g hG hr => ?_⟩
 ·obtain ⟨nm, hnm, hf⟩ := L.f4
  exact ⟨_, hf, hnm, rfl⟩
 simp only [RepL, Rep] at hr
 obtain ⟨v0, _, rfl, ⟨a, rfl, hz⟩, v1, _, rfl, rfl, rfl⟩ := hr
 refine (Any8.slices_Grow_grow L i0 (.int .u8 0) hi hz0 (by omega) a 0 0 n [] w (Nat.le_refl _) (by omega) (by rw [hz2]; omega) (by omega) (by simp) (fun _ => rfl) (fun a _ j v hj => by simp at hj)).mono ?_
 rintro e w' ⟨rfl, rfl⟩
 have hsize : grownCap w (0 + n) 0 (ρ.t 25) ≤ maxLen := grownCap_le_maxLen w (0 + n) 0 (ρ.t 25) (by unfold maxLen; omega)
 have hge : 0 + n ≤ grownCap w (0 + n) 0 (ρ.t 25) := grownCap_ge w _ _ _
 generalize grownCap w (0 + n) 0 (ρ.t 25) = G at *
 have g1 : Held B ⟨w.drew, ob, be, C⟩ := g.below ((Below.refl _ _).drew)
 have m1 : Moves ⟨w, ob, be, C⟩ ⟨w.drew, ob, be, C⟩ := Moves.below ((Below.refl _ _).drew)
 obtain ⟨g2, m2, b2⟩ := g1.alloc ((#[] : Array Value) ++ Builtin.zeroCells (Value.int .u8 0).cells (0 + n - 0) ++ Builtin.zeroCells (Value.int .u8 0).cells (G - (0 + n))) ⟨ρ.t 25, 1, 0, [], 0⟩ G
  (by simp [size_zeroCells, Value.cells]; omega) (Nat.zero_le _) hsize rfl (by simp only [RepL, List.length_nil, List.take_zero]) (by
   intro v hv
   simp only [Array.toList_append, List.mem_append, List.not_mem_nil, false_or] at hv
   rcases hv with hv | hv
   ·exact one_zero v hv
   ·exact one_zero v hv)
 refine ⟨_, .own ob.length 0, _, _, rfl, ((Below.refl _ _).drew).trans b2, g2, m1.trans m2, ?_, hK⟩
 simp only [Rep]
 have hl : be.length = ob.length := g.len
 refine ⟨⟨⟨ρ.t 25, 1, 0, [], 0⟩, by simp, by simp, Nat.le_refl _, fun _ => ?_⟩, rfl⟩
 rw [← hl]
 simp [OwnV]
end Go.Am
/- slices.Grow of a nil slice of integers, in the abstract machine. -/
namespace Go.Am
open Go.Proofs Go.Shelf Go.RowKit
theorem one_zeroI {k : IntKind} {n : Nat} : ∀ v ∈ (Builtin.zeroCells (Value.int k 0).cells n).toList, v.oneCell' = true :=
 fun v hv => zc_one (cells := (Value.int k 0).cells) (fun u hu => by simp [Value.cells] at hu; subst hu; rfl) v hv
theorem ACall.grow_nilI {P : Prg} {ρ : Ren} {k : IntKind} {m : Nat} (hm : m ≤ 8) (L : Lays8.n4 P.prog ρ) (h25 : (P.prog.info? (ρ.t 25)).map (fun i => (i.zero, i.size, i.bytes)) = some (some (.int k 0), 1, m)) {ob : List Ob} {n : Nat} (hn : 0 < n) (hlim : n ≤ 17592186044416) {z : Bool} {K : AV → List Ob → Prop}
  (hK : K (.own ob.length 0) (ob ++ [⟨ρ.t 25, 1, 0, [], 0⟩])) : ACall P (ρ.f 4) [.emp z, .int .i64 n] ob K := by
 obtain ⟨i0, hi, hz0, hz1, hz2⟩ := info_parts h25
 refine ⟨?_, fun B w be C vs g hG hr => ?_⟩
 ·obtain ⟨nm, hnm, hf⟩ := L.f4
  exact ⟨_, hf, hnm, rfl⟩
 simp only [RepL, Rep] at hr
 obtain ⟨v0, _, rfl, ⟨a, rfl, hz⟩, v1, _, rfl, rfl, rfl⟩ := hr
 refine (Any8.slices_Grow_grow L i0 (.int k 0) hi hz0 (by omega) a 0 0 n [] w (Nat.le_refl _) (by omega) (by rw [hz2]; have := Nat.mul_le_mul_left (0 + n) hm; omega) (by omega) (by simp) (fun _ => rfl) (fun a _ j v hj => by simp at hj)).mono ?_
 rintro e w' ⟨rfl, rfl⟩
 have hsize : grownCap w (0 + n) 0 (ρ.t 25) ≤ maxLen := grownCap_le_maxLen w (0 + n) 0 (ρ.t 25) (by unfold maxLen; omega)
 have hge : 0 + n ≤ grownCap w (0 + n) 0 (ρ.t 25) := grownCap_ge w _ _ _
 generalize grownCap w (0 + n) 0 (ρ.t 25) = G at *
 have g1 : Held B ⟨w.drew, ob, be, C⟩ := g.below ((Below.refl _ _).drew)
 have m1 : Moves ⟨w, ob, be, C⟩ ⟨w.drew, ob, be, C⟩ := Moves.below ((Below.refl _ _).drew)
 obtain ⟨g2, m2, b2⟩ := g1.alloc ((#[] : Array Value) ++ Builtin.zeroCells (Value.int k 0).cells (0 + n - 0) ++ Builtin.zeroCells (Value.int k 0).cells (G - (0 + n))) ⟨ρ.t 25, 1, 0, [], 0⟩ G
  (by simp [size_zeroCells, Value.cells]; omega) (Nat.zero_le _) hsize rfl (by simp only [RepL, List.length_nil, List.take_zero]) (by
   intro v hv
   simp only [Array.toList_append, List.mem_append, List.not_mem_nil, false_or] at hv
   rcases hv with hv | hv
   ·exact one_zeroI v hv
   ·exact one_zeroI v hv)
 refine ⟨_, .own ob.length 0, _, _, rfl, ((Below.refl _ _).drew).trans b2, g2, m1.trans m2, ?_, hK⟩
 simp only [Rep]
 have hl : be.length = ob.length := g.len
 refine ⟨⟨⟨ρ.t 25, 1, 0, [], 0⟩, by simp, by simp, Nat.le_refl _, fun _ => ?_⟩, rfl⟩
 rw [← hl]
 simp [OwnV]
end Go.Am
