/- Contracts of the library, at what their callers hold; the conditions stand in each statement. -/
import Derived.Shelf.Spec.SlicesGrow
import Derived.Test.YtpipccfcpeemfaaGreatDoorEncodeWavsA3
set_option linter.unusedSectionVars false
set_option linter.unusedSimpArgs false
set_option linter.unusedVariables false
/- slices.Grow of a nil slice of bytes, in the abstract machine. -/
namespace Go.Am
open Go.Proofs Go.Shelf Go.RowKit
theorem one_zero {n : Nat} : ∀ v ∈ (Builtin.zeroCells (Value.int .u8 0).cells n).toList, v.oneCell' = true :=
 fun v hv => zc_one (cells := (Value.int .u8 0).cells) (fun u hu => by simp [Value.cells] at hu; subst hu; rfl) v hv
theorem ACall.grow_nil {P : Prg} {ρ : Ren} (L : Lays8.n4 P.prog ρ) (h25 : (P.prog.info? (ρ.t 25)).map (fun i => (i.zero, i.size, i.bytes)) = some (some (.int .u8 0), 1, 1)) {ob : List Ob} {n : Nat} (hn : 0 < n) (hlim : n ≤ 140737488355328) {z : Bool} {K : AV → List Ob → Prop}
  (hK : K (.own ob.length 0) (ob ++ [⟨ρ.t 25, 1, 0, [], 0⟩])) : ACall P (ρ.f 4) [.emp z, .int .i64 n] ob K := by
 obtain ⟨i0, hi, hz0, hz1, hz2⟩ := info_parts h25
 refine ⟨?_, fun B w be C vs g hG hr => ?_⟩
 ·obtain ⟨nm, hnm, hf⟩ := L.f4
  exact ⟨_, hf, hnm, rfl⟩
 simp only [RepL, Rep] at hr
 obtain ⟨v0, _, rfl, ⟨a, rfl, hz⟩, v1, _, rfl, rfl, rfl⟩ := hr
 refine (Any8.slices_Grow_grow L i0 (.int .u8 0) hi hz0 (by omega) a 0 0 n [] w (Nat.le_refl _) (by omega) (by rw [hz2]; omega) (by omega) (by simp) (fun _ => rfl) (fun a _ j v hj => by simp at hj)).mono ?_
 rintro e w' ⟨rfl, rfl⟩
 have hsize : grownCap w (0 + n) 0 (ρ.t 25) ≤ maxLen := grownCap_le_maxLen w (0 + n) 0 (ρ.t 25) (by unfold maxLen; omega)
 have hge : 0 + n ≤ grownCap w (0 + n) 0 (ρ.t 25) := grownCap_ge w _ _ _
 generalize grownCap w (0 + n) 0 (ρ.t 25) = G at *
 have g1 : Held B ⟨w.drew, ob, be, C⟩ := g.below ((Below.refl _ _).drew)
 have m1 : Moves ⟨w, ob, be, C⟩ ⟨w.drew, ob, be, C⟩ := Moves.below ((Below.refl _ _).drew)
 obtain ⟨g2, m2, b2⟩ := g1.alloc ((#[] : Array Value) ++ Builtin.zeroCells (Value.int .u8 0).cells (0 + n - 0) ++ Builtin.zeroCells (Value.int .u8 0).cells (G - (0 + n))) ⟨ρ.t 25, 1, 0, [], 0⟩ G
  (by simp [size_zeroCells, Value.cells]; omega) (Nat.zero_le _) hsize rfl (by simp only [RepL, List.length_nil, List.take_zero]) (by
   intro v hv
   simp only [Array.toList_append, List.mem_append, List.not_mem_nil, false_or] at hv
   rcases hv with hv | hv
   ·exact one_zero v hv
   ·exact one_zero v hv)
 refine ⟨_, .own ob.length 0, _, _, rfl, ((Below.refl _ _).drew).trans b2, g2, m1.trans m2, ?_, hK⟩
 simp only [Rep]
 have hl : be.length = ob.length := g.len
 refine ⟨⟨⟨ρ.t 25, 1, 0, [], 0⟩, by simp, by simp, Nat.le_refl _, fun _ => ?_⟩, rfl⟩
 rw [← hl]
 simp [OwnV]
end Go.Am
/- slices.Grow of a nil slice of integers, in the abstract machine. -/
namespace Go.Am
open Go.Proofs Go.Shelf Go.RowKit
theorem one_zeroI {k : IntKind} {n : Nat} : ∀ v ∈ (Builtin.zeroCells (Value.int k 0).cells n).toList, v.oneCell' = true :=
 fun v hv => zc_one (cells := (Value.int k 0).cells) (fun u hu => by simp [Value.cells] at hu; subst hu; rfl) v hv
theorem ACall.grow_nilI {P : Prg} {ρ : Ren} {k : IntKind} {m : Nat} (hm : m ≤ 8) (L : Lays8.n4 P.prog ρ) (h25 : (P.prog.info? (ρ.t 25)).map (fun i => (i.zero, i.size, i.bytes)) = some (some (.int k 0), 1, m)) {ob : List Ob} {n : Nat} (hn : 0 < n) (hlim : n ≤ 17592186044416) {z : Bool} {K : AV → List Ob → Prop}
  (hK : K (.own ob.length 0) (ob ++ [⟨ρ.t 25, 1, 0, [], 0⟩])) : ACall P (ρ.f 4) [.emp z, .int .i64 n] ob K := by
 obtain ⟨i0, hi, hz0, hz1, hz2⟩ := info_parts h25
 refine ⟨?_, fun B w be C vs g hG hr => ?_⟩
 ·obtain ⟨nm, hnm, hf⟩ := L.f4
  exact ⟨_, hf, hnm, rfl⟩
 simp only [RepL, Rep] at hr
 obtain ⟨v0, _, rfl, ⟨a, rfl, hz⟩, v1, _, rfl, rfl, rfl⟩ := hr
 refine (Any8.slices_Grow_grow L i0 (.int k 0) hi hz0 (by omega) a 0 0 n [] w (Nat.le_refl _) (by omega) (by rw [hz2]; have := Nat.mul_le_mul_left (0 + n) hm; omega) (by omega) (by simp) (fun _ => rfl) (fun a _ j v hj => by simp at hj)).mono ?_
 rintro e w' ⟨rfl, rfl⟩
 have hsize : grownCap w (0 + n) 0 (ρ.t 25) ≤ maxLen := grownCap_le_maxLen w (0 + n) 0 (ρ.t 25) (by unfold maxLen; omega)
 have hge : 0 + n ≤ grownCap w (0 + n) 0 (ρ.t 25) := grownCap_ge w _ _ _
 generalize grownCap w (0 + n) 0 (ρ.t 25) = G at *
 have g1 : Held B ⟨w.drew, ob, be, C⟩ := g.below ((Below.refl _ _).drew)
 have m1 : Moves ⟨w, ob, be, C⟩ ⟨w.drew, ob, be, C⟩ := Moves.below ((Below.refl _ _).drew)
 obtain ⟨g2, m2, b2⟩ := g1.alloc ((#[] : Array Value) ++ Builtin.zeroCells (Value.int k 0).cells (0 + n - 0) ++ Builtin.zeroCells (Value.int k 0).cells (G - (0 + n))) ⟨ρ.t 25, 1, 0, [], 0⟩ G
  (by simp [size_zeroCells, Value.cells]; omega) (Nat.zero_le _) hsize rfl (by simp only [RepL, List.length_nil, List.take_zero]) (by
   intro v hv
   simp only [Array.toList_append, List.mem_append, List.not_mem_nil, false_or] at hv
   rcases hv with hv | hv
   ·exact one_zeroI v hv
   ·exact one_zeroI v hv)
 refine ⟨_, .own ob.length 0, _, _, rfl, ((Below.refl _ _).drew).trans b2, g2, m1.trans m2, ?_, hK⟩
 simp only [Rep]
 have hl : be.length = ob.length := g.len
 refine ⟨⟨⟨ρ.t 25, 1, 0, [], 0⟩, by simp, by simp, Nat.le_refl _, fun _ => ?_⟩, rfl⟩
 rw [← hl]
 simp [OwnV]
end Go.Am
