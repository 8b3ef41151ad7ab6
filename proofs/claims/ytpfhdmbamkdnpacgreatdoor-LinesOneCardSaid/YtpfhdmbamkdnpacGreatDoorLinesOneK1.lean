/- Contracts of the library, at what their callers hold; the conditions stand in each statement. -/
import Derived.Shelf.Spec.SlicesGrow
import Derived.Shelf.LaysM
import Derived.Shelf.Strconv.Itoa1
import Derived.Shelf.Strconv.Itoa2
import Derived.Lib.Walk
import Derived.Lib.ItoaMem
import Derived.Lib.ItoaWalk
import Derived.Lib.Hide
import Derived.WalkKit
import Derived.BigCall
import Derived.BigGuard
import Derived.Shelf.Strconv.AtoiAll
import Derived.Shelf.Strings.Split
import Derived.Shelf.Strings.Cut
import Derived.Shelf.Strings.Search3
import Derived.Shelf.Strings.Builder1
import Derived.Test.YtpfhdmbamkdnpacGreatDoorLinesOneA4
set_option linter.unusedSectionVars false
set_option linter.unusedSimpArgs false
set_option linter.unusedVariables false
/- slices.Grow of a nil slice of bytes, in the abstract machine. -/
namespace Go.Am
open Go.Proofs Go.Shelf Go.RowKit
theorem one_zero {n : Nat} : ∀ v ∈ (Builtin.zeroCells (Value.int .u8 0).cells n).toList, v.oneCell' = true :=
 fun v hv => zc_one (cells := (Value.int .u8 0).cells) (fun u hu => by simp [Value.cells] at hu; subst hu; rfl) v hv
theorem ACall.grow_nil {P : Prg} {ρ : Ren} (L : Lays8.n4 P.prog ρ) (h25 : (P.prog.info? (ρ.t 25)).map (fun i => (i.zero, i.size, i.bytes)) = some (some (.int .u8 0), 1, 1)) {ob : List Ob} {n : Nat} (hn : 0 < n) (hlim : n ≤ 140737488355328) {z : Bool} {K : AV → List Ob → Prop}
  (hK : K (.own ob.length 0) (ob ++ [⟨ρ.t 25, 1, 0, [], 0⟩])) : ACall P (ρ.f 4) [.emp z, .int .i64 n] ob K := by
 obtain ⟨i0, hi, hz0, hz1, hz2⟩ := info_parts h25
 refine ⟨?_, fun B w be C vs g hG hr => ?_⟩
 ·obtain ⟨nm, hnm, hf⟩ := L.f4
  exact ⟨_, hf, hnm, rfl⟩
 simp only [RepL, Rep] at hr
 obtain ⟨v0, _, rfl, ⟨a, rfl, hz⟩, v1, _, rfl, rfl, rfl⟩ := hr
 refine (Any8.slices_Grow_grow L i0 (.int .u8 0) hi hz0 (by omega) a 0 0 n [] w (Nat.le_refl _) (by omega) (by rw [hz2]; omega) (by omega) (by simp) (fun _ => rfl) (fun a _ j v hj => by simp at hj)).mono ?_
 rintro e w' ⟨rfl, rfl⟩
 have hsize : grownCap w (0 + n) 0 (ρ.t 25) ≤ maxLen := grownCap_le_maxLen w (0 + n) 0 (ρ.t 25) (by unfold maxLen; omega)
 have hge : 0 + n ≤ grownCap w (0 + n) 0 (ρ.t 25) := grownCap_ge w _ _ _
 generalize grownCap w (0 + n) 0 (ρ.t 25) = G at *
 have g1 : Held B ⟨w.drew, ob, be, C⟩ := g.below ((Below.refl _ _).drew)
 have m1 : Moves ⟨w, ob, be, C⟩ ⟨w.drew, ob, be, C⟩ := Moves.below ((Below.refl _ _).drew)
 obtain ⟨g2, m2, b2⟩ := g1.alloc ((#[] : Array Value) ++ Builtin.zeroCells (Value.int .u8 0).cells (0 + n - 0) ++ Builtin.zeroCells (Value.int .u8 0).cells (G - (0 + n))) ⟨ρ.t 25, 1, 0, [], 0⟩ G
  (by simp [size_zeroCells, Value.cells]; omega) (Nat.zero_le _) hsize rfl (by simp only [RepL, List.length_nil, List.take_zero]) (by
   intro v hv
   simp only [Array.toList_append, List.mem_append, List.not_mem_nil, false_or] at hv
   rcases hv with hv | hv
   ·exact one_zero v hv
   ·exact one_zero v hv)
 refine ⟨_, .own ob.length 0, _, _, rfl, ((Below.refl _ _).drew).trans b2, g2, m1.trans m2, ?_, hK⟩
 simp only [Rep]
 have hl : be.length = ob.length := g.len
 refine ⟨⟨⟨ρ.t 25, 1, 0, [], 0⟩, by simp, by simp, Nat.le_refl _, fun _ => ?_⟩, rfl⟩
 rw [← hl]
 simp [OwnV]
end Go.Am
/- slices.Grow of a nil slice of integers, in the abstract machine. -/
namespace Go.Am
open Go.Proofs Go.Shelf Go.RowKit
theorem one_zeroI {k : IntKind} {n : Nat} : ∀ v ∈ (Builtin.zeroCells (Value.int k 0).cells n).toList, v.oneCell' = true :=
 fun v hv => zc_one (cells := (Value.int k 0).cells) (fun u hu => by simp [Value.cells] at hu; subst hu; rfl) v hv
theorem ACall.grow_nilI {P : Prg} {ρ : Ren} {k : IntKind} {m : Nat} (hm : m ≤ 8) (L : Lays8.n4 P.prog ρ) (h25 : (P.prog.info? (ρ.t 25)).map (fun i => (i.zero, i.size, i.bytes)) = some (some (.int k 0), 1, m)) {ob : List Ob} {n : Nat} (hn : 0 < n) (hlim : n ≤ 17592186044416) {z : Bool} {K : AV → List Ob → Prop}
  (hK : K (.own ob.length 0) (ob ++ [⟨ρ.t 25, 1, 0, [], 0⟩])) : ACall P (ρ.f 4) [.emp z, .int .i64 n] ob K := by
 obtain ⟨i0, hi, hz0, hz1, hz2⟩ := info_parts h25
 refine ⟨?_, fun B w be C vs g hG hr => ?_⟩
 ·obtain ⟨nm, hnm, hf⟩ := L.f4
  exact ⟨_, hf, hnm, rfl⟩
 simp only [RepL, Rep] at hr
 obtain ⟨v0, _, rfl, ⟨a, rfl, hz⟩, v1, _, rfl, rfl, rfl⟩ := hr
 refine (Any8.slices_Grow_grow L i0 (.int k 0) hi hz0 (by omega) a 0 0 n [] w (Nat.le_refl _) (by omega) (by rw [hz2]; have := Nat.mul_le_mul_left (0 + n) hm; omega) (by omega) (by simp) (fun _ => rfl) (fun a _ j v hj => by simp at hj)).mono ?_
 rintro e w' ⟨rfl, rfl⟩
 have hsize : grownCap w (0 + n) 0 (ρ.t 25) ≤ maxLen := grownCap_le_maxLen w (0 + n) 0 (ρ.t 25) (by unfold maxLen; omega)
 have hge : 0 + n ≤ grownCap w (0 + n) 0 (ρ.t 25) := grownCap_ge w _ _ _
 generalize grownCap w (0 + n) 0 (ρ.t 25) = G at *
 have g1 : Held B ⟨w.drew, ob, be, C⟩ := g.below ((Below.refl _ _).drew)
 have m1 : Moves ⟨w, ob, be, C⟩ ⟨w.drew, ob, be, C⟩ := Moves.below ((Below.refl _ _).drew)
 obtain ⟨g2, m2, b2⟩ := g1.alloc ((#[] : Array Value) ++ Builtin.zeroCells (Value.int k 0).cells (0 + n - 0) ++ Builtin.zeroCells (Value.int k 0).cells (G - (0 + n))) ⟨ρ.t 25, 1, 0, [], 0⟩ G
  (by simp [size_zeroCells, Value.cells]; omega) (Nat.zero_le _) hsize rfl (by simp only [RepL, List.length_nil, List.take_zero]) (by
   intro v hv
   simp only [Array.toList_append, List.mem_append, List.not_mem_nil, false_or] at hv
   rcases hv with hv | hv
   ·exact one_zeroI v hv
   ·exact one_zeroI v hv)
 refine ⟨_, .own ob.length 0, _, _, rfl, ((Below.refl _ _).drew).trans b2, g2, m1.trans m2, ?_, hK⟩
 simp only [Rep]
 have hl : be.length = ob.length := g.len
 refine ⟨⟨⟨ρ.t 25, 1, 0, [], 0⟩, by simp, by simp, Nat.le_refl _, fun _ => ?_⟩, rfl⟩
 rw [← hl]
 simp [OwnV]
end Go.Am
/- strconv.Itoa of the library, its table of powers of ten told cell by cell: the kit's proofs, turned. -/
namespace Go.Proofs
open Go.Shelf Go.RowKit Go.Sort Go.Lib
variable {P : Program} {ρ : Ren}
def TabC (w : World) (g : Nat) : Prop := ∀ i, i < 20 → w.cell? ⟨g, i, none⟩ = some (.int .u64 (Lib.pow10Tab.getD i 0))
theorem TabC.alloc {w : World} {g : Nat} (h : TabC w g) (o : Obj) : TabC (w.alloc o) g := fun i hi => by
 have h1 := h i hi
 rw [World.cell?_alloc_old w o _ (Nat.ne_of_lt (World.block_lt_of_cell? w _ h1))]
 exact h1
set_option maxHeartbeats 2000000 in
set_option maxRecDepth 100000 in
theorem Cel.internal_strconv_numDigits (L : LaysM.n284 P ρ) (u : Nat) (h1 : 1 ≤ u) (h2 : u < 18446744073709551616) (w : World)
  (htab : TabC w (ρ.g 17)) :
  Calls P (ρ.f 284) #[.int .u64 u] w fun e w' => e = .returned (.int .i64 (Lib.nDigits u)) ∧ w' = w := by
 have mixed := L.mixed
 have t53 := L.t53; have a53 := L.a53; have z53 := L.z53; have v53 := L.v53
 have t3 := L.t3; have a3 := L.a3; have z3 := L.z3; have v3 := L.v3
 have t212 := L.t212; have a212 := L.a212; have z212 := L.z212; have v212 := L.v212
 have t0 := L.t0; have a0 := L.a0; have z0 := L.z0; have v0 := L.v0
 have t4 := L.t4; have a4 := L.a4; have z4 := L.z4; have v4 := L.v4
 have e129 : ∀ args w, (callFunc (ρ.f 129) args).run P w = .ok (.enter (ρ.f 129) args) w := enters_of L.f129 (by kernel_rfl) rfl
 have e317 : ∀ args w, (callFunc (ρ.f 317) args).run P w = .ok (.enter (ρ.f 317) args) w := enters_of L.f317 (by kernel_rfl) rfl
 have e318 : ∀ args w, (callFunc (ρ.f 318) args).run P w = .ok (.enter (ρ.f 318) args) w := enters_of L.f318 (by kernel_rfl) rfl
 obtain ⟨hnd, h19⟩ := Lib.numDigits_eq u h1 h2
 have hL : Lib.bitLen u ≤ 64 := Lib.bitLen_le u 64 (Nat.le_refl _) h2
 have hcell : w.cell? ⟨(ρ.g 17), Lib.l10 (Lib.bitLen u), none⟩ = some (.int .u64 ((10 ^ Lib.l10 (Lib.bitLen u) : Nat) : Int)) := by
  rw [htab _ (by omega), Lib.pow10Tab_at _ (by omega)]
 have hto : ((u : Int)).toNat = u := by omega
 generalize hq : Lib.l10 (Lib.bitLen u) = q at hnd h19 hcell
 generalize hT : 10 ^ q = T at hnd hcell
 have h20 : q < 20 := by omega
 have Hnd := Lib.hid hnd
 clear hnd htab
 go_enter L.f284, Body.n284_ntmps ρ
 go_wp2_with (first
  | (go_at_fn (ρ.f 129); refine (Any.bits_Len64 { L with } _ _ (by omega) (by omega)).mono ?_; rintro e w' ⟨rfl, rfl⟩)
  | (go_at_fn (ρ.f 317); refine (Any.internal_strconv_log10Pow2 { L with } _ (by first | exact hL | (rw [hto]; exact hL)) _).mono ?_; rintro e w' ⟨rfl, rfl⟩)
  | (go_at_fn (ρ.f 318); refine (Any.internal_strconv_bool2_int { L with } _ _).mono ?_; rintro e w' ⟨rfl, rfl⟩))
 all_goals go_ret
 all_goals (
  refine ⟨?_, rfl⟩
  have hnd := Hnd.out
  congr 2
  split at hnd <;> simp_all <;> omega)
set_option maxHeartbeats 6400000 in
set_option maxRecDepth 100000 in
theorem Cel.internal_strconv_FormatInt_10 (L : LaysM.n246 P ρ) (n : Int) (h0 : -9223372036854775808 ≤ n) (h1 : n ≤ 9223372036854775807) (w : World)
  (htab : TabC w (ρ.g 17)) :
  Calls P (ρ.f 246) #[.int .i64 n, .int .i64 10] w fun e w' => e = .returned (.string ⟨(Lib.itoa n).toArray⟩) ∧ ∃ k os, w' = grow (w.drewN k) os := by
 have mixed := L.mixed
 have t2 := L.t2; have a2 := L.a2; have z2 := L.z2; have v2 := L.v2
 have t3 := L.t3; have a3 := L.a3; have z3 := L.z3; have v3 := L.v3
 have t9 := L.t9; have a9 := L.a9; have z9 := L.z9; have v9 := L.v9
 have t4 := L.t4; have a4 := L.a4; have z4 := L.z4; have v4 := L.v4
 have t171 := L.t171; have a171 := L.a171; have z171 := L.z171; have v171 := L.v171
 have t0 := L.t0; have a0 := L.a0; have z0 := L.z0; have v0 := L.v0
 have t53 := L.t53; have a53 := L.a53; have z53 := L.z53; have v53 := L.v53
 have t37 := L.t37; have a37 := L.a37; have z37 := L.z37; have v37 := L.v37
 have t5 := L.t5; have a5 := L.a5; have z5 := L.z5; have v5 := L.v5
 have t173 := L.t173; have a173 := L.a173; have z173 := L.z173; have v173 := L.v173
 have e283 : ∀ args w, (callFunc (ρ.f 283) args).run P w = .ok (.enter (ρ.f 283) args) w := enters_of L.f283 (by kernel_rfl) rfl
 have e284 : ∀ args w, (callFunc (ρ.f 284) args).run P w = .ok (.enter (ρ.f 284) args) w := enters_of L.f284 (by kernel_rfl) rfl
 have e285 : ∀ args w, (callFunc (ρ.f 285) args).run P w = .ok (.enter (ρ.f 285) args) w := enters_of L.f285 (by kernel_rfl) rfl
 by_cases hs : 0 ≤ n ∧ n < 100
 · -- 0 .. 99: two constants
  obtain ⟨i, rfl⟩ : ∃ i : Nat, n = i := ⟨n.toNat, by omega⟩
  have hi : i < 100 := by omega
  go_enter L.f246, Body.n246_ntmps ρ
  go_wp2_with (go_at_fn (ρ.f 283); refine (Any.internal_strconv_small { L with } i hi _).mono ?_; rintro e w' ⟨rfl, rfl⟩)
  go_ret
  refine ⟨?_, 0, #[], by simp [World.drewN_zero]⟩
  rw [Lib.itoa_nonneg]
  rfl
 ·by_cases hneg : n < 0
  ·obtain ⟨u, rfl⟩ : ∃ u : Nat, n = -(u : Int) := ⟨n.natAbs, by omega⟩
   have hu1 : 1 ≤ u := by omega
   have hu64 : u < 18446744073709551616 := by omega
   have hnd20 : Lib.nDigits u ≤ 20 := by have := Lib.numDigits_eq u hu1 hu64; split at this <;> omega
   have hwr : IntKind.u64.wrap (-IntKind.u64.wrap (-(u : Int))) = (u : Int) := by rw [IntKind.wrap_u64, IntKind.wrap_u64]; omega
   have hb3 : Lib.nDigits u ≤ 23 := by omega
   have hal : P.arrayLen (ρ.t 171) = 24 := by simp [Program.arrayLen, L.t171]
   have hsl1 : ∀ W, (Instr.sliceAt (ρ.t 171) (.pointer (some ⟨w.heap.size, 0, none⟩)) (some (.int .i64 1)) (some (.int .i64 (1 + (Lib.nDigits u : Int)))) none).run P W = .ok (.slice (some ⟨w.heap.size, 1, none⟩) (Lib.nDigits u) 23) W := fun W => by
    rw [run_sliceAt_array_lh W (ρ.t 171) ⟨w.heap.size, 0, none⟩ (by simp [Program.arrayLen, Program.elem, L.t171]) .i64 .i64 1 (1 + (Lib.nDigits u : Int)) (by omega) (by omega) (by rw [hal]; omega)]
    go_simp
    omega
   have hH0 := Lib.holds_zero w (ρ.t 171) (Lib.nDigits u) (by omega)
   have hfmt := Any.internal_strconv_formatBase10 { L with } w.heap.size 1 23 u (Array.replicate (Lib.nDigits u) 0) (w.alloc (.cells Lib.zeros24 (ρ.t 171))) hH0 (by rw [Array.size_replicate]; exact Lib.lt_pow_nDigits u) hu64 (by rw [Array.size_replicate]; omega)
   rw [Array.size_replicate] at hfmt
   have HH0 := Lib.hid hH0
   clear hH0 hal
   go_enter L.f246, Body.n246_ntmps ρ
   go_wp2_with (first
    | (go_at_fn (ρ.f 284); refine (Cel.internal_strconv_numDigits { L with } u hu1 hu64 _ (htab.alloc _)).mono ?_; rintro e w' ⟨rfl, rfl⟩))
   go_at_fn (ρ.f 285)
   refine hfmt.mono ?_
   rintro e w' ⟨rfl, k, v', dk, rfl, hF⟩
   have hc0 : ((putRow (fun (b : UInt8) => Value.int .u8 (b.toNat : Int)) (w.alloc (.cells Lib.zeros24 (ρ.t 171))) w.heap.size 1 dk).drewN k).cell? ⟨w.heap.size, 0, none⟩ = some (.int .u8 0) := by
    rw [World.cell?_drewN, cell?_putRow_other _ _ _ _ _ _ (Or.inr (Or.inl (Nat.zero_lt_one))), World.cell?_alloc_new]
    exact Lib.zeros24_at 0 (by omega)
   have hf0 : ((putRow (fun (b : UInt8) => Value.int .u8 (b.toNat : Int)) (w.alloc (.cells Lib.zeros24 (ρ.t 171))) w.heap.size 1 dk).drewN k).frozen? ⟨w.heap.size, 0, none⟩ = false := by
    rw [World.frozen?_drewN, frozen?_putRow]
    exact World.frozen?_alloc_new _ _ _ _
   have hal : P.arrayLen (ρ.t 171) = 24 := by simp [Program.arrayLen, L.t171]
   have hsl2 : ∀ W, (Instr.sliceAt (ρ.t 171) (.pointer (some ⟨w.heap.size, 0, none⟩)) none (some (.int .i64 (1 + (Lib.nDigits u : Int)))) none).run P W = .ok (.slice (some ⟨w.heap.size, 0, none⟩) (1 + Lib.nDigits u) 24) W := fun W => by
    rw [run_sliceAt_array_h W (ρ.t 171) ⟨w.heap.size, 0, none⟩ (by simp [Program.arrayLen, Program.elem, L.t171]) .i64 (1 + (Lib.nDigits u : Int)) (by omega) (by rw [hal]; omega)]
    go_simp
    omega
   clear hal
   have hcv : (convert (ρ.t 37) (ρ.t 9) (.slice (some ⟨w.heap.size, 0, none⟩) (1 + Lib.nDigits u) 24)).run P (((putRow (fun (b : UInt8) => Value.int .u8 (b.toNat : Int)) (w.alloc (.cells Lib.zeros24 (ρ.t 171))) w.heap.size 1 dk).drewN k).setCell ⟨w.heap.size, 0, none⟩ (.int .u8 45)) = .ok (.string ⟨(45 :: Lib.decDigits u).toArray⟩) (((putRow (fun (b : UInt8) => Value.int .u8 (b.toNat : Int)) (w.alloc (.cells Lib.zeros24 (ρ.t 171))) w.heap.size 1 dk).drewN k).setCell ⟨w.heap.size, 0, none⟩ (.int .u8 45)) := by
    have h := run_convert_bytes_back (P := P) (((putRow (fun (b : UInt8) => Value.int .u8 (b.toNat : Int)) (w.alloc (.cells Lib.zeros24 (ρ.t 171))) w.heap.size 1 dk).drewN k).setCell ⟨w.heap.size, 0, none⟩ (.int .u8 45)) (ρ.t 37) (ρ.t 9) (ρ.t 5) ⟨w.heap.size, 0, none⟩ 24 (45 :: Lib.decDigits u) L.t37 L.t5 L.t9 (fun j hj => by
     rw [Lib.add_plain]
     cases j with
     | zero => exact World.cell?_setCell_same _ _ _ hc0
     | succ i =>
      have hi : i < (Lib.decDigits u).length := by simpa using hj
      rw [World.cell?_setCell_other _ _ _ _ (by simp), List.getElem_cons_succ, Lib.row_is_numeral hF i hi, World.cell?_drewN, show 0 + (i + 1) = 1 + i by omega]
      exact cell?_putRow (fun (b : UInt8) => Value.int .u8 (b.toNat : Int)) _ w.heap.size 1 _ dk HH0.out (by rw [hF.size, Array.size_replicate]) i (by rw [hF.size]; rw [Lib.decDigits_length] at hi; exact hi))
    rw [List.length_cons, Lib.decDigits_length, Nat.add_comm] at h
    exact h
   go_wp2
   go_ret
   obtain ⟨os, eo⟩ := Lib.fin_neg w (.cells Lib.zeros24 (ρ.t 171)) dk k (.int .u8 45)
   refine ⟨?_, k, os, eo⟩
   rw [Lib.itoa_neg u hu1]
   rfl
  ·obtain ⟨u, rfl⟩ : ∃ u : Nat, n = u := ⟨n.toNat, by omega⟩
   have hu1 : 1 ≤ u := by omega
   have hu64 : u < 18446744073709551616 := by omega
   have hnd20 : Lib.nDigits u ≤ 20 := by have := Lib.numDigits_eq u hu1 hu64; split at this <;> omega
   have hb3 : Lib.nDigits u ≤ 23 := by omega
   have hal : P.arrayLen (ρ.t 171) = 24 := by simp [Program.arrayLen, L.t171]
   have hsl1 : ∀ W, (Instr.sliceAt (ρ.t 171) (.pointer (some ⟨w.heap.size, 0, none⟩)) (some (.int .i64 1)) (some (.int .i64 (1 + (Lib.nDigits u : Int)))) none).run P W = .ok (.slice (some ⟨w.heap.size, 1, none⟩) (Lib.nDigits u) 23) W := fun W => by
    rw [run_sliceAt_array_lh W (ρ.t 171) ⟨w.heap.size, 0, none⟩ (by simp [Program.arrayLen, Program.elem, L.t171]) .i64 .i64 1 (1 + (Lib.nDigits u : Int)) (by omega) (by omega) (by rw [hal]; omega)]
    go_simp
    omega
   have hH0 := Lib.holds_zero w (ρ.t 171) (Lib.nDigits u) (by omega)
   have hfmt := Any.internal_strconv_formatBase10 { L with } w.heap.size 1 23 u (Array.replicate (Lib.nDigits u) 0) (w.alloc (.cells Lib.zeros24 (ρ.t 171))) hH0 (by rw [Array.size_replicate]; exact Lib.lt_pow_nDigits u) hu64 (by rw [Array.size_replicate]; omega)
   rw [Array.size_replicate] at hfmt
   have HH0 := Lib.hid hH0
   clear hH0 hal
   go_enter L.f246, Body.n246_ntmps ρ
   go_wp2_with (first
    | (go_at_fn (ρ.f 284); refine (Cel.internal_strconv_numDigits { L with } u hu1 hu64 _ (htab.alloc _)).mono ?_; rintro e w' ⟨rfl, rfl⟩))
   go_at_fn (ρ.f 285)
   refine hfmt.mono ?_
   rintro e w' ⟨rfl, k, v', dk, rfl, hF⟩
   have hcv : (convert (ρ.t 37) (ρ.t 9) (.slice (some ⟨w.heap.size, 1, none⟩) (Lib.nDigits u) 23)).run P ((putRow (fun (b : UInt8) => Value.int .u8 (b.toNat : Int)) (w.alloc (.cells Lib.zeros24 (ρ.t 171))) w.heap.size 1 dk).drewN k) = .ok (.string ⟨(Lib.decDigits u).toArray⟩) ((putRow (fun (b : UInt8) => Value.int .u8 (b.toNat : Int)) (w.alloc (.cells Lib.zeros24 (ρ.t 171))) w.heap.size 1 dk).drewN k) := by
    have h := run_convert_bytes_back (P := P) ((putRow (fun (b : UInt8) => Value.int .u8 (b.toNat : Int)) (w.alloc (.cells Lib.zeros24 (ρ.t 171))) w.heap.size 1 dk).drewN k) (ρ.t 37) (ρ.t 9) (ρ.t 5) ⟨w.heap.size, 1, none⟩ 23 (Lib.decDigits u) L.t37 L.t5 L.t9 (fun j hj => by
     rw [Lib.row_is_numeral hF j hj, Lib.add_plain, World.cell?_drewN]
     exact cell?_putRow (fun (b : UInt8) => Value.int .u8 (b.toNat : Int)) _ w.heap.size 1 _ dk HH0.out (by rw [hF.size, Array.size_replicate]) j (by rw [hF.size]; rw [Lib.decDigits_length] at hj; exact hj))
    rw [Lib.decDigits_length] at h
    exact h
   go_wp2
   go_ret
   obtain ⟨os, eo⟩ := Lib.fin_pos w (.cells Lib.zeros24 (ρ.t 171)) dk k
   refine ⟨?_, k, os, eo⟩
   rw [Lib.itoa_nonneg]
   rfl
set_option maxRecDepth 100000 in
theorem Cel.internal_strconv_Itoa (L : LaysM.n243 P ρ) (n : Int) (h0 : -9223372036854775808 ≤ n) (h1 : n ≤ 9223372036854775807) (w : World)
  (htab : TabC w (ρ.g 17)) :
  Calls P (ρ.f 243) #[.int .i64 n] w fun e w' => e = .returned (.string ⟨(Lib.itoa n).toArray⟩) ∧ ∃ k os, w' = grow (w.drewN k) os := by
 have mixed := L.mixed
 have t3 := L.t3; have a3 := L.a3; have z3 := L.z3; have v3 := L.v3
 have t9 := L.t9; have a9 := L.a9; have z9 := L.z9; have v9 := L.v9
 have t2 := L.t2; have a2 := L.a2; have z2 := L.z2; have v2 := L.v2
 have e246 : ∀ args w, (callFunc (ρ.f 246) args).run P w = .ok (.enter (ρ.f 246) args) w := enters_of L.f246 (by kernel_rfl) rfl
 go_enter L.f243, Body.n243_ntmps ρ
 go_wp2_with (go_at_fn (ρ.f 246); refine (Cel.internal_strconv_FormatInt_10 { L with } n h0 h1 _ htab).mono ?_; rintro e w' ⟨rfl, k, os, rfl⟩)
 go_ret
 exact ⟨rfl, k, os, rfl⟩
set_option maxRecDepth 100000 in
theorem Cel.strconv_Itoa (L : LaysM.n171 P ρ) (n : Int) (h0 : -9223372036854775808 ≤ n) (h1 : n ≤ 9223372036854775807) (w : World)
  (htab : TabC w (ρ.g 17)) :
  Calls P (ρ.f 171) #[.int .i64 n] w fun e w' => e = .returned (.string ⟨(Lib.itoa n).toArray⟩) ∧ ∃ k os, w' = grow (w.drewN k) os := by
 have mixed := L.mixed
 have t3 := L.t3; have a3 := L.a3; have z3 := L.z3; have v3 := L.v3
 have t9 := L.t9; have a9 := L.a9; have z9 := L.z9; have v9 := L.v9
 have e243 : ∀ args w, (callFunc (ρ.f 243) args).run P w = .ok (.enter (ρ.f 243) args) w := enters_of L.f243 (by kernel_rfl) rfl
 go_enter L.f171, Body.n171_ntmps ρ
 go_wp2_with (go_at_fn (ρ.f 243); refine (Cel.internal_strconv_Itoa { L with } n h0 h1 _ htab).mono ?_; rintro e w' ⟨rfl, k, os, rfl⟩)
 go_ret
 exact ⟨rfl, k, os, rfl⟩
end Go.Proofs
/- strings and strconv of the library, as contracts of the abstract machine. -/
namespace Go.Am
open Go.RowKit Go.Shelf Go.Proofs
theorem VC.of_calls {P : Prg} {f : FuncId} {ds : List AV} {r : AV} (hE : Enters P f) (h1 : isDL ds = true) (h2 : isD r = true)
  (h : ∀ (w : World) (C : Nat → Nat → Prop) (vs : List Value), (∀ b k, C b k → b < w.heap.size) → GOk P.G ⟨w, [], [], C⟩ → RepL ⟨w, [], [], C⟩ ds vs → Calls P f vs.toArray w fun e w' => ∃ v, e = .returned v ∧ Below w.heap.size w w' ∧ Rep ⟨w', [], [], C⟩ r v) : VC P f ds r := ⟨hE, h1, h2, h⟩
theorem ACall.of_calls {P : Prg} {f : FuncId} {avs : List AV} {ob : List Ob} {K : AV → List Ob → Prop} (hE : Enters P f)
  (h : ∀ (X : Cx) (vs : List Value), GOk P.G X → RepL X avs vs → Calls P f vs.toArray X.w fun e w' => ∃ v r, e = .returned v ∧ Below X.w.heap.size X.w w' ∧ (∀ Y, Rep Y r v) ∧ K r ob) : ACall P f avs ob K := by
 refine ⟨hE, fun B w be C vs g hG hr => (h ⟨w, ob, be, C⟩ vs hG hr).mono ?_⟩
 rintro e w' ⟨v, r, rfl, hb, hv, hK⟩
 exact ⟨v, r, ob, be, rfl, hb.mono g.size, g.below hb, Moves.below (X := ⟨w, ob, be, C⟩) hb, hv _, hK⟩
/-- A known package variable's cell. -/
theorem gok_cell {P : Prg} {X : Cx} (h : GOk P.G X) {g : Nat} {cs : List AV} (hg : P.G.lookup g = some cs) (i : Nat) {c : AV} (hc : cs[i]? = some c) : ∃ v, X.w.cell? ⟨g, i, none⟩ = some v ∧ Rep X c v := by
 have h1 := h g cs hg
 simp only [Rep] at h1
 obtain ⟨b, k, vs, e, hat, hvs⟩ := h1
 cases e
 obtain ⟨v, hv, hr⟩ := hvs.get i c hc
 have := (hat i v hv).1.1
 rw [Nat.zero_add] at this
 exact ⟨v, this, hr⟩
def powG : List AV := Lib.pow10Tab.map fun z => AV.int .u64 z
theorem tabC_of {P : Prg} {X : Cx} (h : GOk P.G X) {g : Nat} (hg : P.G.lookup g = some powG) : TabC X.w g := fun i hi => by
 have hl : i < Lib.pow10Tab.length := by rw [Lib.pow10Tab_length]; exact hi
 obtain ⟨v, hv, hr⟩ := gok_cell h hg i (c := .int .u64 Lib.pow10Tab[i]) (by simp [powG, hl])
 simp only [Rep] at hr
 rw [hv, hr]
 simp [hl]
def S_Itoa (P : Prg) (f : Nat) : Prop := ∀ n : Int, -9223372036854775808 ≤ n → n ≤ 9223372036854775807 → VC P f [.int .i64 n] (.str (Lib.itoa n))
theorem k_itoa {P : Prg} {ρ : Ren} (L : LaysM.n171 P.prog ρ) (hE : Enters P (ρ.f 171)) (hg : P.G.lookup (ρ.g 17) = some powG) : S_Itoa P (ρ.f 171) := fun n h0 h1 => by
 refine VC.of_calls hE rfl rfl fun w C vs hC hG hr => ?_
 simp only [RepL, Rep] at hr
 obtain ⟨v, _, rfl, rfl, rfl⟩ := hr
 refine (Cel.strconv_Itoa L n h0 h1 w (tabC_of hG hg)).mono ?_
 rintro e w' ⟨rfl, k, os, rfl⟩
 exact ⟨_, rfl, ⟨rfl, rfl, rfl, by simp [Go.Sort.grow, World.drewN], fun k hk => by simp [Go.Sort.grow, World.drewN, Array.getElem?_append_left hk]⟩, by simp only [Rep]⟩
def isIf (v : Value) : Prop := v = .nilIface ∨ ∃ t p, v = .iface t p
def S_Atoi (P : Prg) (f : Nat) : Prop := ∀ (s : List UInt8) (ob : List Ob) (K : AV → List Ob → Prop), s.length ≤ 1000000 → (∀ v, Lib.atoiAll s = .ok v → K (.tup [.int .i64 v, .lit .nilIface]) ob) →
 (∀ t p, Lib.atoiAll s = Lib.NumEnd.syntax → K (.tup [.int .i64 0, .lit (.iface t p)]) ob) → (∀ t p, Lib.atoiAll s = .range → K (.tup [.int .i64 (Lib.atoiSat s), .lit (.iface t p)]) ob) → ACall P f [.str s] ob K
theorem k_atoi {P : Prg} {ρ : Ren} (L : LaysC.n172 P.prog ρ) (hE : Enters P (ρ.f 172)) {u1 u2 : Value} (hS : P.G.lookup (ρ.g 15) = some [.lit u1]) (hR : P.G.lookup (ρ.g 16) = some [.lit u2]) (h1 : isIf u1) (h2 : isIf u2) : S_Atoi P (ρ.f 172) := fun s ob K hl k1 k2 k3 => by
 refine ACall.of_calls hE fun X vs hG hr => ?_
 simp only [RepL, Rep] at hr
 obtain ⟨v, _, rfl, rfl, rfl⟩ := hr
 have e0 : (⟨s.toArray⟩ : ByteArray).data.toList = s := by simp
 have e1 : (⟨s.toArray⟩ : ByteArray).size = s.length := by simp [ByteArray.size]
 rcases h : Lib.atoiAll s with v | _ | _
 ·refine (Any.strconv_Atoi_ok L ⟨s.toArray⟩ (by rw [e1]; omega) v (by rw [e0]; exact h) X.w).mono ?_
  rintro e w' ⟨rfl, hw⟩
  refine ⟨_, _, rfl, ?_, fun Y => ?_, k1 v h⟩
  ·rcases hw with rfl | ⟨t, rfl⟩
   ·exact Below.refl _ _
   ·exact Lib.bytesWorld_below _ _ _
  ·simp only [Rep, RepL]
   exact ⟨_, rfl, _, _, rfl, rfl, _, _, rfl, rfl, rfl⟩
 ·obtain ⟨x, hv, hx⟩ := gok_cell hG hS 0 (c := .lit u1) rfl
  simp only [Rep] at hx
  subst hx
  refine (Any.strconv_Atoi_syntax L ⟨s.toArray⟩ (by rw [e1]; omega) (by rw [e0]; exact h) x X.w hv h1).mono ?_
  rintro e w' ⟨N, rfl, _, _, hb⟩
  refine ⟨_, _, rfl, hb, fun Y => ?_, k2 (ρ.t 168) (.pointer (some ⟨N, 0, none⟩)) h⟩
  simp only [Rep, RepL]
  exact ⟨_, rfl, _, _, rfl, rfl, _, _, rfl, rfl, rfl⟩
 ·obtain ⟨x, hv, hx⟩ := gok_cell hG hR 0 (c := .lit u2) rfl
  simp only [Rep] at hx
  subst hx
  refine (Any.strconv_Atoi_range L ⟨s.toArray⟩ (by rw [e1]; omega) (by rw [e0]; exact h) x X.w hv h2).mono ?_
  rintro e w' ⟨N, rfl, _, _, hb⟩
  refine ⟨_, _, rfl, hb, fun Y => ?_, k3 (ρ.t 168) (.pointer (some ⟨N, 0, none⟩)) h⟩
  simp only [Rep, RepL, e0]
  exact ⟨_, rfl, _, _, rfl, rfl, _, _, rfl, rfl, rfl⟩
def S_StrIndex (P : Prg) (f : Nat) : Prop := ∀ s t : List UInt8, s.length ≤ 1000000 → VC P f [.str s, .str t] (.int .i64 (Lib.index s t))
theorem k_index {P : Prg} {ρ : Ren} (L : Lays.n143 P.prog ρ) (hE : Enters P (ρ.f 143)) {m : Int} (hm : P.G.lookup (ρ.g 1) = some [.int .i64 m]) : S_StrIndex P (ρ.f 143) := fun s t hl => by
 refine VC.of_calls hE rfl rfl fun w C vs hC hG hr => ?_
 simp only [RepL, Rep] at hr
 obtain ⟨_, _, rfl, rfl, _, _, rfl, rfl, rfl⟩ := hr
 obtain ⟨x, hv, hx⟩ := gok_cell hG hm 0 (c := .int .i64 m) rfl
 simp only [Rep] at hx
 subst hx
 refine (Any.strings_Index L ⟨s.toArray⟩ ⟨t.toArray⟩ m w (by simp only [ByteArray.size, List.size_toArray]; omega) hv).mono ?_
 rintro e w' ⟨rfl, rfl⟩
 exact ⟨_, rfl, Below.refl _ _, by simp only [Rep]⟩
def S_StrCut (P : Prg) (f : Nat) : Prop := ∀ s t : List UInt8, s.length ≤ 1000000 → VC P f [.str s, .str t] (.tup [.str (Lib.cut s t).1, .str (Lib.cut s t).2.1, .bool (Lib.cut s t).2.2])
theorem k_strcut {P : Prg} {ρ : Ren} (L : Lays.n145 P.prog ρ) (hE : Enters P (ρ.f 145)) {m : Int} (hm : P.G.lookup (ρ.g 1) = some [.int .i64 m]) : S_StrCut P (ρ.f 145) := fun s t hl => by
 refine VC.of_calls hE rfl rfl fun w C vs hC hG hr => ?_
 simp only [RepL, Rep] at hr
 obtain ⟨_, _, rfl, rfl, _, _, rfl, rfl, rfl⟩ := hr
 obtain ⟨x, hv, hx⟩ := gok_cell hG hm 0 (c := .int .i64 m) rfl
 simp only [Rep] at hx
 subst hx
 refine (Any.strings_Cut L ⟨s.toArray⟩ ⟨t.toArray⟩ m w (by simp only [ByteArray.size, List.size_toArray]; omega) hv).mono ?_
 rintro e w' ⟨rfl, n, rfl⟩
 refine ⟨_, rfl, ⟨rfl, rfl, rfl, Nat.le_refl _, fun _ _ => rfl⟩, ?_⟩
 simp only [Rep, RepL]
 exact ⟨_, rfl, _, _, rfl, rfl, _, _, rfl, rfl, _, _, rfl, rfl, rfl⟩
def strL (l : List (List UInt8)) : AV := .list l.length (l.map AV.str)
theorem rep_strs {X : Cx} : ∀ l : List (List UInt8), RepL X (l.map AV.str) (l.map fun s => Value.string ⟨s.toArray⟩)
 | [] => by simp only [List.map_nil, RepL]
 | a :: l => by simp only [List.map_cons, RepL]; exact ⟨_, _, rfl, by simp only [Rep], rep_strs l⟩
theorem splitB_len {sep : ByteArray} {sv : Nat} (h1 : 1 ≤ sep.size) : ∀ (k : Nat) (s : ByteArray), k = Lib.countB s sep → (Lib.splitB sep sv k s).length = k + 1
 | 0, _, _ => rfl
 | k + 1, s, h => by
  rcases Lib.indexB_cases s sep with h2 | ⟨i, h2, _⟩
  ·rw [Lib.countB_miss s sep h2] at h; cases h
  ·rw [Lib.countB_hit s sep i h1 h2] at h
   rw [Lib.splitB_hit _ _ _ _ i h2, List.length_cons, splitB_len h1 k _ (by omega)]
def S_SplitS (P : Prg) (f : Nat) : Prop := ∀ (s t : List UInt8), s.length ≤ 1000000 → 1 ≤ t.length → VC P f [.str s, .str t] (strL (Lib.split s t))
theorem k_split {P : Prg} {ρ : Ren} (L : Lays.n146 P.prog ρ) (hi9 : (P.prog.info? (ρ.t 9)).map (fun i => (i.zero, i.size, i.bytes)) = some (some (.string ByteArray.empty), 1, 16)) (hE : Enters P (ρ.f 146)) {m : Int} (hm : P.G.lookup (ρ.g 1) = some [.int .i64 m]) : S_SplitS P (ρ.f 146) := fun s t hl h1 => by
 have hD : ∀ l : List (List UInt8), isDL (l.map AV.str) = true := fun l => by induction l with | nil => rfl | cons a l ih => simp only [List.map_cons, isDL, isD, ih]; rfl
 refine VC.of_calls hE rfl (by simp only [strL, isD]; exact hD _) fun w C vs hC hG hr => ?_
 simp only [RepL, Rep] at hr
 obtain ⟨_, _, rfl, rfl, _, _, rfl, rfl, rfl⟩ := hr
 obtain ⟨x, hv, hx⟩ := gok_cell hG hm 0 (c := .int .i64 m) rfl
 simp only [Rep] at hx
 subst hx
 have ht : (⟨t.toArray⟩ : ByteArray).size = t.length := by simp [ByteArray.size]
 refine (Any.strings_Split L hi9 ⟨s.toArray⟩ ⟨t.toArray⟩ m w (by simp only [ByteArray.size, List.size_toArray]; omega) hv (by rw [ht]; exact h1)).mono ?_
 rintro e w' ⟨rfl, rfl⟩
 have hlen := splitB_len (sv := 0) (by rw [ht]; exact h1) (Lib.countB ⟨s.toArray⟩ ⟨t.toArray⟩) ⟨s.toArray⟩ rfl
 have hdat := Lib.splitB_data ⟨t.toArray⟩ 0 (Lib.countB ⟨s.toArray⟩ ⟨t.toArray⟩) ⟨s.toArray⟩
 generalize hL : Lib.splitB ⟨t.toArray⟩ 0 (Lib.countB ⟨s.toArray⟩ ⟨t.toArray⟩) ⟨s.toArray⟩ = l at hlen hdat ⊢
 have hsp : Lib.split s t = l.map (·.data.toList) := by rw [hdat]; rfl
 refine ⟨_, rfl, (Below.refl _ _).alloc (Nat.le_refl _) _, ?_⟩
 simp only [strL, Rep]
 have hcl : Lib.countB ⟨s.toArray⟩ ⟨t.toArray⟩ + 1 = (Lib.split s t).length := by rw [hsp, List.length_map, hlen]
 rw [hcl]
 refine ⟨some ⟨w.heap.size, 0, none⟩, (Lib.split s t).length, (Lib.split s t).map fun s => Value.string ⟨s.toArray⟩, rfl, Nat.le_refl _, .inr ⟨w.heap.size, 0, rfl, ?_⟩, rep_strs _⟩
 ·intro i v hv
  have e : (Lib.split s t).map (fun s => Value.string ⟨s.toArray⟩) = l.map Value.string := by rw [hsp, List.map_map]; exact List.map_congr_left fun a _ => by simp
  rw [e] at hv
  refine ⟨⟨?_, ?_⟩, ?_⟩
  ·rw [Nat.zero_add, World.cell?_alloc_new]
   simpa using hv
  ·rintro (h | ⟨o, x, c, h, _⟩)
   ·exact absurd (hC _ _ h) (Nat.lt_irrefl _)
   ·simp at h
  ·obtain ⟨b, _, rfl⟩ := List.mem_map.1 (List.mem_of_getElem? hv)
   rfl
end Go.Am
/- strings.Builder of the library, as contracts of the abstract machine. -/
set_option linter.unusedVariables false
namespace Go.Proofs
open Go.Shelf Go.RowKit
variable {P : Program} {ρ : Ren}
theorem rowAt_mono (p : Program) (fits : TypeId → Bool) : ∀ (d : Nat) (e : TypeId) (c c' off n : Nat), c ≤ c' → rowAt p fits d e c off n = true → rowAt p fits d e c' off n = true
 | 0, _, _, _, _, _, _, h => by simp [rowAt] at h
 | d + 1, e, c, c', off, n, hc, h => by
  simp only [rowAt] at h ⊢
  split at h
  ·cases h
  ·rename_i hs
   rw [if_neg hs]
   simp only [Bool.or_eq_true, Bool.and_eq_true, decide_eq_true_eq] at h ⊢
   rcases h with ⟨⟨h1, h2⟩, h3⟩ | ⟨h1, h2⟩
   ·exact .inl ⟨⟨h1, by omega⟩, h3⟩
   ·exact .inr ⟨by omega, h2⟩
theorem liesAt_mono (p : Program) : ∀ (d : Nat) (e : TypeId) (c c' off : Nat) (u : TypeId) (n : Nat), c ≤ c' → liesAt p d e c off u n = true → liesAt p d e c' off u n = true
 | 0, _, _, _, _, _, _, _, h => by simp [liesAt] at h
 | d + 1, e, c, c', off, u, n, hc, h => by
  simp only [liesAt, Bool.or_eq_true] at h ⊢
  rcases h with h | h
  ·exact .inl (rowAt_mono _ _ _ _ _ _ _ _ hc h)
  ·right
   split at h
   ·exact liesAt_mono p d e c c' off _ _ hc h
   ·cases h
/-- copyCheck at a fresh builder: it stores its own address. -/
def CopyNew (P : Program) (tB f : Nat) : Prop := ∀ (b cap : Nat), 1 ≤ cap → ∀ w : World, w.cell? ⟨b, 0, none⟩ = some (.pointer none) → w.shape? b = some (tB, cap * 2) → w.frozen? ⟨b, 0, none⟩ = false →
  Calls P f #[.pointer (some ⟨b, 0, none⟩)] w fun e w' => e = .returned (.tuple #[]) ∧ w' = w.setCell ⟨b, 0, none⟩ (.pointer (some ⟨b, 0, none⟩))
/-- copyCheck at a used builder. -/
def CopyOld (P : Program) (f : Nat) : Prop := ∀ (b : Nat) (w : World), w.cell? ⟨b, 0, none⟩ = some (.pointer (some ⟨b, 0, none⟩)) →
  Calls P f #[.pointer (some ⟨b, 0, none⟩)] w fun e w' => e = .returned (.tuple #[]) ∧ w' = w
set_option maxHeartbeats 1000000 in
set_option maxRecDepth 100000 in
theorem Cel.Builder_String (L : Lays.n169 P ρ) (X : Builder.Extra P ρ) (b g cap : Nat) (cur : Array Value) (l : List UInt8) (w : World) (h0 : l ≠ []) (hc : w.cell? ⟨b, 1, none⟩ = some (.slice (some ⟨g, 0, none⟩) l.length cap)) (hg : w.heap[g]? = some (.cells cur (ρ.t 5) (0, 0))) (hcs : cur.size = cap) (hnc : l.length ≤ cap) (hcm : cap ≤ maxLen)
  (hcell : ∀ j x, l[j]? = some x → w.cell? ⟨g, j, none⟩ = some (.int .u8 x.toNat)) :
  Calls P (ρ.f 169) #[.pointer (some ⟨b, 0, none⟩)] w fun e w' => e = .returned (.string ⟨l.toArray⟩) ∧ w' = w.drew.freeze ⟨g, 0, none⟩ l.length := by
 have hl0 : l.length ≠ 0 := by simpa using h0
 have c1 : w.drew.cell? ⟨b, 1, none⟩ = some (.slice (some ⟨g, 0, none⟩) l.length cap) := hc
 have hSD : (Builtin.unsafeSliceData_ #[(ρ.t 37)] (ρ.t 127) #[.slice (some ⟨g, 0, none⟩) l.length cap]).run P w.drew = .ok (.pointer (some ⟨g, 0, none⟩)) w.drew :=
  Lib.run_unsafeSliceData_row _ _ _ _ _ _ (by omega)
 have hUS : (Builtin.unsafeString_ #[(ρ.t 127), (ρ.t 3)] (ρ.t 9) #[.pointer (some ⟨g, 0, none⟩), .int .i64 l.length]).run P w.drew = .ok (.string ⟨l.toArray⟩) (w.drew.freeze ⟨g, 0, none⟩ l.length) := by
  refine Lib.run_unsafeString_row w.drew (ρ.t 127) (ρ.t 3) (ρ.t 9) (ρ.t 5) L.t127 X.cellsByte g cur.size (by have hg' : w.drew.heap[g]? = some (.cells cur (ρ.t 5) (0, 0)) := hg; simp [World.shape?, hg']) l h0 (by omega) (by unfold maxLen at hcm; omega) ?_
  intro j x hx
  rw [Lib.add_plain, Nat.zero_add]
  exact hcell j x hx
 have mixed := L.mixed
 have t72 := L.t72; have a72 := L.a72; have z72 := L.z72; have v72 := L.v72; have u72 := run_underlying L.t72
 have t70 := L.t70; have a70 := L.a70; have z70 := L.z70; have v70 := L.v70; have u70 := run_underlying L.t70
 have t37 := L.t37; have a37 := L.a37; have z37 := L.z37; have v37 := L.v37; have u37 := run_underlying L.t37
 have t127 := L.t127; have a127 := L.a127; have z127 := L.z127; have v127 := L.v127; have u127 := run_underlying L.t127
 have t3 := L.t3; have a3 := L.a3; have z3 := L.z3; have v3 := L.v3; have u3 := run_underlying L.t3
 have t9 := L.t9; have a9 := L.a9; have z9 := L.z9; have v9 := L.v9; have u9 := run_underlying L.t9
 have t5 := X.t5; have a5 := X.a5; have z5 := X.z5; have v5 := X.v5; have u5 := run_underlying X.t5
 go_enter L.f169, Body.n169_ntmps ρ
 go_wp2
 go_region_o
 all_goals (go_wp2; go_ret; exact ⟨rfl, rfl⟩)
end Go.Proofs
namespace Go.Am
open Go.RowKit Go.Shelf Go.Proofs
theorem ACall.copy_fresh {P : Prg} {tB fC : Nat} (hN : CopyNew P.prog tB fC) (hE : Enters P fC) {ob : List Ob} {p : Nat} {c : AV} (hp : ob[p]? = some ⟨tB, 2, 1, [.lit (.pointer none), c], 0⟩) {K : AV → List Ob → Prop}
  (hK : K (.tup []) (ob.set p ⟨tB, 2, 1, [.ref p 1 0, c], 0⟩)) : ACall P fC [.ref p 1 0] ob K := by
 refine ⟨hE, fun B w be C vs g hG hr => ?_⟩
 simp only [RepL, Rep] at hr
 obtain ⟨v0, _, rfl, ⟨⟨x, hx, _, _, hxp⟩, _⟩, rfl⟩ := hr
 have hx' : ob[p]? = some x := hx
 rw [hp] at hx'
 cases hx'
 obtain ⟨b, cb, hbe, rfl⟩ := hxp rfl
 obtain ⟨e, he, hok⟩ := g.get hp
 rw [hbe] at he
 cases he
 obtain ⟨curp, ⟨fr, a1, hfr⟩, a2, a3, a4, a5, a6, a7⟩ := hok
 obtain rfl : fr = (0, 0) := FrOk.zero hfr
 have a3 : 1 ≤ cb := a3
 have a2 : curp.size = cb * 2 := a2
 have a6' := a6
 simp only [List.length_cons, List.length_nil, RepL] at a6
 obtain ⟨u0, r0, e0, hu0, u1, r1, rfl, hu1, rfl⟩ := a6
 simp only [Rep] at hu0
 subst hu0
 have t0 : curp.toList[0]? = some (.pointer none) := by
  have := congrArg (·[0]?) e0
  simpa using this
 have t1 : curp.toList[1]? = some u1 := by
  have := congrArg (·[1]?) e0
  simpa using this
 have a1 : w.heap[b]? = some (.cells curp tB (0, 0)) := a1
 have hs : 2 ≤ curp.size := by omega
 refine (hN b cb a3 w (by rw [cell_of_row _ _ _ _ _ _ a1]; simpa using t0) (by simp [World.shape?, a1, a2]) (by simp [World.frozen?, a1])).mono ?_
 rintro e w' ⟨rfl, rfl⟩
 let nv : Value := .pointer (some ⟨b, 0, none⟩)
 have hw : w.setCell ⟨b, 0, none⟩ nv = w.setRow b (curp.setIfInBounds 0 nv) := setCell_eq_setRow w b 0 curp tB (0, 0) nv a1
 have hpl : p < ob.length := (List.getElem?_eq_some_iff.1 hp).1
 let x' : Ob := ⟨tB, 2, 1, [.ref p 1 0, c], 0⟩
 have h2l : (curp.setIfInBounds 0 nv).toList.take 2 = [nv, u1] := by
  apply List.ext_getElem?
  intro j
  match j with
  | 0 => rw [List.getElem?_take_of_lt (by omega), Array.toList_setIfInBounds, List.getElem?_set_self (by simp; omega)]; rfl
  | 1 => simpa using t1
  | j + 2 => rw [List.getElem?_eq_none (by rw [List.length_take]; omega), List.getElem?_eq_none (by simp)]
 have hbl : p < be.length := by have : be.length = ob.length := g.len; omega
 obtain ⟨g2, m2, b2⟩ := g.rewrite hp hbe a1 (.inl rfl) (curp.setIfInBounds 0 nv) ⟨tB, 2, 1, [.any, c], 0⟩ rfl rfl (Nat.le_refl _) (Nat.le_refl _) a3 (by simp) (fun k hk => by simp at hk) rfl
  (by
   show RepL _ [.any, c] (List.take 2 _)
   rw [h2l]
   simp only [RepL, Rep]
   exact ⟨_, _, rfl, trivial, _, _, rfl, hu1, rfl⟩)
  (by
   intro v hv
   obtain ⟨i, hi⟩ := List.mem_iff_getElem?.1 hv
   simp only [Array.toList_setIfInBounds, List.getElem?_set] at hi
   split at hi
   ·split at hi <;> cases hi; rfl
   ·exact a7 v (List.mem_of_getElem? hi))
 have hp2 : (ob.set p ⟨tB, 2, 1, [.any, c], 0⟩)[p]? = some ⟨tB, 2, 1, [.any, c], 0⟩ := by simp [hpl]
 have hh2 : (w.setRow b (curp.setIfInBounds 0 nv)).heap[b]? = some (.cells (curp.setIfInBounds 0 nv) tB (0, 0)) := setRow_heap _ _ _ _ _ _ a1
 obtain ⟨g3, m3, b3⟩ := g2.rewrite hp2 hbe hh2 (.inl rfl) (curp.setIfInBounds 0 nv) x' rfl rfl (Nat.le_refl _) (Nat.le_refl _) a3 (by simp) (fun k hk => by simp at hk) rfl
  (by
   show RepL _ [.ref p 1 0, c] (List.take 2 _)
   rw [h2l]
   simp only [RepL, Rep]
   refine ⟨_, _, rfl, ⟨⟨⟨tB, 2, 1, [.any, c], 0⟩, hp2, by simp, Nat.le_refl _, fun _ => ⟨b, cb, hbe, rfl⟩⟩, rfl⟩, _, _, rfl, Rep.move m2 _ _ hu1, rfl⟩)
  (by
   intro v hv
   obtain ⟨i, hi⟩ := List.mem_iff_getElem?.1 hv
   simp only [Array.toList_setIfInBounds, List.getElem?_set] at hi
   split at hi
   ·split at hi <;> cases hi; rfl
   ·exact a7 v (List.mem_of_getElem? hi))
 have hself : (w.setRow b (curp.setIfInBounds 0 nv)).setRow b (curp.setIfInBounds 0 nv) = w.setRow b (curp.setIfInBounds 0 nv) := setRow_self _ _ _ _ _ hh2
 have hob : (ob.set p ⟨tB, 2, 1, [.any, c], 0⟩).set p x' = ob.set p x' := by simp
 simp only [hself, hob] at g3 m3 b3
 refine ⟨.tuple #[], .tup [], ob.set p x', be, rfl, ?_, ?_, ?_, by simp only [Rep, RepL]; exact ⟨[], rfl, rfl⟩, hK⟩
 ·show Below B w (w.setCell ⟨b, 0, none⟩ nv)
  rw [hw]; exact b2
 ·show Held B ⟨w.setCell ⟨b, 0, none⟩ nv, _, _, _⟩
  rw [hw]; exact g3
 ·show Moves _ ⟨w.setCell ⟨b, 0, none⟩ nv, _, _, _⟩
  rw [hw]; exact m2.trans m3
theorem ACall.copy_used {P : Prg} {tB fC : Nat} (hN : CopyOld P.prog fC) (hE : Enters P fC) {ob : List Ob} {p : Nat} {c : AV} (hp : ob[p]? = some ⟨tB, 2, 1, [.ref p 1 0, c], 0⟩) {K : AV → List Ob → Prop}
  (hK : K (.tup []) ob) : ACall P fC [.ref p 1 0] ob K := by
 refine ⟨hE, fun B w be C vs g hG hr => ?_⟩
 simp only [RepL, Rep] at hr
 obtain ⟨v0, _, rfl, ⟨⟨x, hx, _, _, hxp⟩, _⟩, rfl⟩ := hr
 have hx' : ob[p]? = some x := hx
 rw [hp] at hx'
 cases hx'
 obtain ⟨b, cb, hbe, rfl⟩ := hxp rfl
 obtain ⟨e, he, hok⟩ := g.get hp
 rw [hbe] at he
 cases he
 obtain ⟨curp, ⟨fr, a1, hfr⟩, a2, a3, a4, a5, a6, a7⟩ := hok
 have a6' := a6
 simp only [List.length_cons, List.length_nil, RepL] at a6
 obtain ⟨u0, r0, e0, hu0, u1, r1, rfl, hu1, rfl⟩ := a6
 simp only [Rep] at hu0
 obtain ⟨⟨y, hy, _, _, hyp⟩, _⟩ := hu0
 have hy' : ob[p]? = some y := hy
 rw [hp] at hy'
 cases hy'
 obtain ⟨b', cb', hbe', rfl⟩ := hyp rfl
 have hbe'' : be[p]? = some (some (b', cb')) := hbe'
 rw [hbe] at hbe''
 cases hbe''
 have t0 : curp.toList[0]? = some (.pointer (some ⟨b, 0, none⟩)) := by
  have := congrArg (·[0]?) e0
  simpa using this
 have a1 : w.heap[b]? = some (.cells curp tB fr) := a1
 refine (hN b w (by rw [cell_of_row _ _ _ _ _ _ a1]; simpa using t0)).mono ?_
 rintro e w' ⟨rfl, rfl⟩
 exact ⟨.tuple #[], .tup [], ob, be, rfl, Below.refl _ _, g, Moves.refl _, by simp only [Rep, RepL]; exact ⟨[], rfl, rfl⟩, hK⟩
/-- The front of an object's block is frozen for good. -/
theorem Held.front {B : Nat} {X : Cx} (g : Held B X) {o b cap : Nat} {x : Ob} {cur : Array Value} (hx : X.ob[o]? = some x) (he : X.be[o]? = some (some (b, cap))) (q1 : X.w.heap[b]? = some (.cells cur x.ty (0, 0))) (m : Nat) (hm : m ≠ 0) (hz : x.fz ≤ m) :
  let Y : Cx := ⟨X.w.freeze ⟨b, 0, none⟩ m, X.ob.set o { x with fz := fzAll + m }, X.be, X.C⟩
  Held B Y ∧ Moves X Y ∧ Below B X.w Y.w := by
 intro Y
 have hol : o < X.ob.length := (List.getElem?_eq_some_iff.1 hx).1
 have hbs := g.block_lt hx he
 have hsz : Y.w.heap.size = X.w.heap.size := by simp [Y, World.freeze, hm]
 have hblk : ∀ k, k ≠ b → Y.w.heap[k]? = X.w.heap[k]? := fun k hk => by
  simp only [Y, World.freeze]
  simp [hm, Array.getElem?_modify, Ne.symm hk]
 have hbb : Y.w.heap[b]? = some (.cells cur x.ty (0, m)) := by
  have hq := (Array.getElem?_eq_some_iff.1 q1).2
  simp only [Y, World.freeze]
  rw [if_neg hm, Array.getElem?_eq_getElem (by simpa using hbs), Array.getElem_modify]
  simp [hq]
 have hcell : ∀ b' k, Y.w.cell? ⟨b', k, none⟩ = X.w.cell? ⟨b', k, none⟩ := fun b' k => by
  by_cases e1 : b' = b
  ·subst e1
   rw [cell_of_row _ _ _ _ _ _ hbb, cell_of_row _ _ _ _ _ _ q1]
  ·exact World.cell?_of_block (w := X.w) (hblk b' e1)
 have hbel : Below B X.w Y.w := ⟨by simp [Y, World.freeze, hm], by simp [Y, World.freeze, hm], by simp [Y, World.freeze, hm], by rw [hsz]; exact Nat.le_refl _, fun k hk => hblk k (by have := g.base o b cap he; omega)⟩
 let x' : Ob := { x with fz := fzAll + m }
 have hobY : ∀ (o2 : Nat) (x2 : Ob), Y.ob[o2]? = some x2 → (o2 = o ∧ x2 = x') ∨ (o2 ≠ o ∧ X.ob[o2]? = some x2) := by
  intro o2 x2 h2
  simp only [Y, List.getElem?_set] at h2
  by_cases e : o = o2
  ·subst e; simp [hol] at h2; exact .inl ⟨rfl, h2.symm⟩
  ·simp [e] at h2; exact .inr ⟨fun h => e h.symm, h2⟩
 have hav : ∀ b' k, Y.av b' k → X.av b' k := by
  rintro b' k (h | ⟨o2, x2, c2, h1, h2, h3⟩)
  ·exact .inl h
  ·rcases hobY o2 x2 h1 with ⟨rfl, rfl⟩ | ⟨_, h4⟩
   ·exact .inr ⟨o2, x, c2, hx, h2, by simp only [x'] at h3; omega⟩
   ·exact .inr ⟨o2, x2, c2, h4, h2, h3⟩
 have hmv : Moves X Y := by
  refine ⟨fun b' k v hc ha => ⟨by show Y.w.cell? _ = _; rw [hcell]; exact hc, fun h => ha (hav b' k h)⟩, fun o2 x2 h2 => ?_, fun b' _ hf => ⟨hblk b' fun e => hf o cap (by rw [e]; exact he), hf⟩⟩
  by_cases e : o2 = o
  ·subst e
   rw [hx] at h2; cases h2
   exact ⟨x', by simp [Y, hol, x'], Nat.le_refl _, fun h => ⟨h, fun _ => rfl⟩⟩
  ·exact ⟨x2, by simp only [Y]; rw [List.getElem?_set_ne (fun h => e h.symm)]; exact h2, Nat.le_refl _, fun h => ⟨h, fun _ => rfl⟩⟩
 refine ⟨⟨by simp [Y, g.len], fun o2 x2 e2 h2 h3 => ?_, g.inj, g.base, g.bnd, by rw [hsz]; exact g.size⟩, hmv, hbel⟩
 rcases hobY o2 x2 h2 with ⟨rfl, rfl⟩ | ⟨hne, h4⟩
 ·have h3' : X.be[o2]? = some e2 := h3
  rw [he] at h3'
  cases h3'
  obtain ⟨e, he', hok⟩ := g.get hx
  rw [he] at he'
  cases he'
  obtain ⟨cur', ⟨fr, q1', hfr⟩, q2, q3, q4, q5, q6, q7⟩ := hok
  rw [q1] at q1'
  cases q1'
  exact ⟨cur, ⟨_, hbb, .inr (.inr ⟨rfl, by simp only [x']; omega, by simp only [x']; omega⟩)⟩, q2, q3, q4, q5, RepL.move hmv _ _ q6, q7⟩
 ·refine (g.ok o2 x2 e2 h4 h3).move hmv fun b2 c2 hbc => ?_
  subst hbc
  exact hblk b2 fun e => hne (by subst e; exact g.inj o2 o b2 c2 cap h3 he)
theorem ACall.bld_string {P : Prg} {ρ : Ren} (L : Lays.n169 P.prog ρ) (X5 : Builder.Extra P.prog ρ) (hE : Enters P (ρ.f 169)) {ob : List Ob} {p o : Nat} {c : AV} {l : List UInt8} (hp : ob[p]? = some ⟨ρ.t 72, 2, 1, [c, .own o l.length], 0⟩)
  (ho : ob[o]? = some ⟨ρ.t 5, 1, l.length, u8 l, 0⟩) (h0 : l ≠ []) {K : AV → List Ob → Prop} (hK : K (.str l) (ob.set o ⟨ρ.t 5, 1, l.length, u8 l, fzAll + l.length⟩)) : ACall P (ρ.f 169) [.ref p 1 0] ob K := by
 refine ⟨hE, fun B w be C vs g hG hr => ?_⟩
 simp only [RepL, Rep] at hr
 obtain ⟨v0, _, rfl, ⟨⟨x, hx, _, _, hxp⟩, _⟩, rfl⟩ := hr
 have hx' : ob[p]? = some x := hx
 rw [hp] at hx'
 cases hx'
 obtain ⟨b, cb, hbe, rfl⟩ := hxp rfl
 obtain ⟨e, he, hok⟩ := g.get hp
 rw [hbe] at he
 cases he
 obtain ⟨curp, ⟨fr, a1, hfr⟩, a2, a3, a4, a5, a6, a7⟩ := hok
 simp only [List.length_cons, List.length_nil, RepL, Rep] at a6
 obtain ⟨u0, r0, e0, hu0, u1, r1, rfl, ⟨⟨y, hy, _, _, hyp⟩, _⟩, rfl⟩ := a6
 have hy' : ob[o]? = some y := hy
 rw [ho] at hy'
 cases hy'
 have hl0 : l.length ≠ 0 := by simpa using h0
 have h2 := hyp rfl
 obtain ⟨e, heo, hoko⟩ := g.get ho
 rw [heo] at h2
 cases e with
 | none => exact absurd hoko.1 hl0
 | some q =>
  obtain ⟨gb, cap⟩ := q
  simp only [OwnV] at h2
  subst h2
  obtain ⟨cur, ⟨fr2, q1, hfr2⟩, q2, q3, q4, q5, q6, q7⟩ := hoko
  obtain rfl : fr2 = (0, 0) := FrOk.zero hfr2
  have q1 : w.heap[gb]? = some (.cells cur (ρ.t 5) (0, 0)) := q1
  have q2 : cur.size = cap := by have := q2; simpa using this
  have t1 : curp.toList[1]? = some (.slice (some ⟨gb, 0, none⟩) l.length cap) := by
   have := congrArg (·[1]?) e0
   simpa using this
  have a1 : w.heap[b]? = some (.cells curp (ρ.t 72) fr) := a1
  have q3 : l.length ≤ cap := q3
  have hu8 : (u8 l).length = l.length := by simp [u8]
  refine (Cel.Builder_String L X5 b gb cap cur l w h0 (by rw [cell_of_row _ _ _ _ _ _ a1]; simpa using t1) q1 q2 q3 q4 (fun j x hj => by
   rw [cell_of_row _ _ _ _ _ _ q1]
   have q6 : RepL _ (u8 l) (cur.toList.take (u8 l).length) := q6
   obtain ⟨v, hv, hr⟩ := q6.get j (.int .u8 x.toNat) (by simp [u8, hj])
   simp only [Rep] at hr
   subst hr
   have hjl : j < l.length := (List.getElem?_eq_some_iff.1 hj).1
   rw [List.getElem?_take_of_lt (by omega)] at hv
   simpa using hv)).mono ?_
  rintro e w' ⟨rfl, rfl⟩
  have hb1 : Below w.heap.size w w.drew := Below.drew (Below.refl _ _)
  have g1 := g.below (X := ⟨w, ob, be, C⟩) hb1
  have m1 := Moves.below (X := ⟨w, ob, be, C⟩) hb1
  obtain ⟨g2, m2, b2⟩ := Held.front g1 (x := ⟨ρ.t 5, 1, l.length, u8 l, 0⟩) ho heo q1 l.length hl0 (Nat.zero_le _)
  exact ⟨_, .str l, _, be, rfl, (hb1.mono g.size).trans b2, g2, m1.trans m2, by simp only [Rep], hK⟩
end Go.Am
