/- For every clip and password cadenzalaw34.EncodeSame returns true and leaves its arguments as they were. No conditions. -/
import Derived.Test.YtpipccfcpeemfacGreatDoorRows
import Derived.Test.YtpipccfcpeemfacGreatDoorCards
import Derived.Test.YtpipccfcpeemfacGreatDoorTie
import Derived.Test.YtpipccfcpeemfacGreatDoorEncodeSameJ3
import Derived.ChangeSame
import Derived.ChangeVars
import Derived.JoinedOf
import Derived.RowKit
import Derived.RowKitTokens
import Derived.LaidLaws
import Derived.Stop.Joined
import Derived.SevenTiedAt
set_option linter.unusedSectionVars false
set_option linter.unusedSimpArgs false
set_option linter.unusedVariables false
namespace Go.Proofs.YtpipccfcpeemfacGreatDoor.encodeSame
open Go.Am Go.ChangeShapes Go.WideShapes Go.ChangeAt Go.RowKit

theorem own : ownKnob Tryz.prog.godebug = none := by kernel_rfl
theorem laid : laidOutB Tryz.prog = true := by kernel_rfl

set_option maxRecDepth 100000 in
theorem gok {W : World} (hl : laidMet Tryz.prog Rows.encodeSameRow.laid W) : GOk pg.G (X0 W) := by
  intro q cs h
  have h1 : List.lookup q [(1, [.int .i64 2, .int .i64 2, .int .i64 4, .int .i64 4, .int .i64 2, .int .i64 2, .int .i64 2, .int .i64 2, .int .i64 4]), (2, [.int .u8 1, .int .u8 0, .int .u8 0, .int .u8 0, .int .u8 0, .int .u8 0, .int .u8 16, .int .u8 0, .int .u8 128, .int .u8 0, .int .u8 0, .int .u8 170, .int .u8 0, .int .u8 56, .int .u8 155, .int .u8 113]), (0, [.int .i64 2, .int .i64 2, .int .i64 2, .int .i64 4, .int .i64 4])] = some cs := h
  simp only [List.lookup] at h1
  split at h1
  · rename_i e
    obtain rfl := eq_of_beq e
    cases h1
    exact QdR hl (name := "cadenza/fmtchunk.widths") (k := .i64) [2, 2, 4, 4, 2, 2, 2, 2, 4] (by kernel_rfl) (List.Mem.tail _ (List.Mem.head _))
  split at h1
  · rename_i e
    obtain rfl := eq_of_beq e
    cases h1
    exact QdR hl (name := "cadenza/fmtchunk.guid") (k := .u8) [1, 0, 0, 0, 0, 0, 16, 0, 128, 0, 0, 170, 0, 56, 155, 113] (by kernel_rfl) (List.Mem.tail _ (List.Mem.tail _ (List.Mem.head _)))
  split at h1
  · rename_i e
    obtain rfl := eq_of_beq e
    cases h1
    exact QdR hl (name := "cadenza/header.widths") (k := .i64) [2, 2, 2, 4, 4] (by kernel_rfl) (List.Mem.tail _ (List.Mem.tail _ (List.Mem.tail _ (List.Mem.head _))))
  cases h1

set_option maxRecDepth 100000 in
theorem contract (H : Type) (enc : TypeId × Value → H) (W : World) (base : Nat) (args : Array Value) (ds gs : List (DataW H)) (before : List MemPlace) (hlaid : laidMet Tryz.prog Rows.encodeSameRow.laid W)
    (hval : ∀ (j : Nat) t v, Tryz.f3.params[j]? = some t → args[j]? = some v → Value.okWide Tryz.prog W .any base t v)
    (hW : DataW.Whole enc Tryz.prog Tryz.f3.params.toList Rows.encodeSameSpec.vars false W args.toList ds gs before) :
    Calls Tryz.prog 3 args W fun e W' => ∃ v, e = .returned v ∧ Rows.encodeSameSpec.post enc Tryz.prog Tryz.f3 false true false false W args v W' := by
  have hW' := hW
  obtain ⟨p, q, hA0, hV, rfl, hfz, hnd⟩ := hW
  have hA : DataW.TrodAll enc Tryz.prog W 0 (fun _ => true) true Tryz.f3.params.toList args.toList ds p := hA0
  rw [Tryz.params3] at hA hval
  obtain ⟨v0, vs0, d0, ds0, p0, q0, hargs, rfl, rfl, h0, r0⟩ := trodAll_cons hA
  obtain ⟨v1, vs1, d1, ds1, p1, q1, rfl, rfl, rfl, h1, r1⟩ := trodAll_cons r0
  obtain ⟨rfl, rfl, rfl⟩ := trodAll_nil r1
  obtain rfl : args = #[v0, v1] := by cases args; simp_all
  obtain ⟨rfl, rfl⟩ := trodVars_none hV
  obtain ⟨as0, r0, q0⟩ := Qwp (P := Tryz.prog) (k := 8) (s := QxZ) (by kernel_rfl) (Que (by kernel_rfl)) (hval 0 _ v0 rfl rfl) h0
  obtain ⟨c0, x0, t0, l0, rfl, g0⟩ := Qr4 q0
  obtain ⟨s1, l1, r1⟩ := Qp9 (P := Tryz.prog) (by kernel_rfl) (hval 1 _ v1 rfl rfl) h1
  refine (QpW (P := pg) (Qdb c0 x0 t0 l0 s1 g0) (gok hlaid) (args := #[v0, v1]) (by simp only [RepL]; exact ⟨v0, _, rfl, r0, v1, _, rfl, r1, rfl⟩)).mono fun e W' ⟨he, hb⟩ => ?_
  subst he
  exact ⟨_, rfl, Qrq laid (by kernel_rfl) (by rfl) (by kernel_rfl) rfl ⟨rfl, rfl, rfl⟩ hW' hb⟩

noncomputable def low : Nat := (World.holding Tryz.prog default ⟨#[], #[], []⟩).heap.size
/-- A world in which the listed variables lie as the text lays them. -/
noncomputable def Qkx (os : Os) : World :=
  let w0 := World.holding Tryz.prog os ⟨#[.cells #[.string { data := #[98, 121, 116, 101, 115, 46, 66, 117, 102, 102, 101, 114, 58, 32, 116, 111, 111, 32, 108, 97, 114, 103, 101] }] 245], #[], []⟩
  { w0 with heap := ((((w0.heap.modify 3 fun
      | .cells _ t frozen => .cells #[.iface 229 (.pointer (some ⟨low + 0, 0, none⟩))] t frozen
      | o => o).modify 1 fun
      | .cells _ t frozen => .cells #[.int .i64 2, .int .i64 2, .int .i64 4, .int .i64 4, .int .i64 2, .int .i64 2, .int .i64 2, .int .i64 2, .int .i64 4] t frozen
      | o => o).modify 2 fun
      | .cells _ t frozen => .cells #[.int .u8 1, .int .u8 0, .int .u8 0, .int .u8 0, .int .u8 0, .int .u8 0, .int .u8 16, .int .u8 0, .int .u8 128, .int .u8 0, .int .u8 0, .int .u8 170, .int .u8 0, .int .u8 56, .int .u8 155, .int .u8 113] t frozen
      | o => o).modify 0 fun
      | .cells _ t frozen => .cells #[.int .i64 2, .int .i64 2, .int .i64 2, .int .i64 4, .int .i64 4] t frozen
      | o => o) }
theorem Qim (os : Os) (args : Array Value) : laidMet Tryz.prog Rows.encodeSameRow.laid ((Qkx os).forCall (fun _ _ => 0) ⟨#[], args, []⟩).memory :=
  laidMet_of_run' 8 (by kernel_rfl) (by kernel_rfl)

set_option maxRecDepth 100000 in
theorem lifted (os : Os) (started : os.Started) (H : Type) (enc : TypeId × Value → H) :
    ReturnsInHanded {} Tryz.checked os 3 .any (fun w args => (Rows.encodeSameSpec.pre enc Tryz.prog Tryz.f3 [] false w args ∧ laidMet Tryz.prog Rows.encodeSameRow.laid w) ∧ sizedMet enc Tryz.prog Tryz.f3 (OpenSpec.ofChange Rows.encodeSameSpec) false w args)
      (Rows.encodeSameSpec.post enc Tryz.prog Tryz.f3 false true false false) := by
  refine returnsInHanded_of_change_and (C := Tryz.checked) (X := fun w _ => laidMet Tryz.prog Rows.encodeSameRow.laid w) (fun _ _ _ hh h => h.of_heap hh) own started (by kernel_rfl) Tryz.func3
    (ChangeSpec.witness_at (enc := enc) (C := Tryz.checked) (os := os) (X := fun w _ => laidMet Tryz.prog Rows.encodeSameRow.laid w) false (Qkx os) #[.agg #[.int .i64 0, .int .i64 0, .int .i64 0, .slice none 0 0], .string ⟨#[]⟩] 8 rfl (by kernel_rfl) (by kernel_rfl) (by kernel_rfl) (by kernel_rfl) (by kernel_rfl) (Qim os _)) ?_
  intro W base args ds gs before hval hW _ _ hL _
  exact contract H enc W base args ds gs before hL hval hW

theorem row_holds : Rows.EncodeSameSaid :=
  OpenClaim.holds_of_wide 3 Tryz.f3 rfl rfl rfl rfl rfl rfl rfl ⟨rfl, rfl, rfl, rfl, rfl⟩ rfl rfl rfl rfl rfl (by kernel_rfl) Tryz.func3 closed
    (of_decide_eq_true (by kernel_rfl)) (by unfold Func.isWrapper; first | (rw [if_pos (by decide +kernel)]; kernel_rfl) | (rw [if_neg (by decide +kernel)]; exact ⟨rfl, rfl⟩))
    (fun os started H enc _ => lifted os started H enc)

theorem proved : Rows.EncodeSameCardSaid :=
  Claim7.holds_tied_plain_at .later [] [.sentinel, .data, .widerDeep, .data] true (true, "76dd1052dc4aa3b84939bdb71a78c45b584e27d8941692ea9d8840a0715fe54d") false
    row_holds (fun _ h => by cases h) kc0 (fun _ h => by cases h) encodeSame_row_tie rfl ⟨rfl, rfl⟩ kc1 rfl
    (fun f fn hf hfn => by
      obtain rfl : f = 3 := Option.some.inj (kc5.symm.trans hf) |>.symm
      obtain rfl : fn = Tryz.f3 := (Option.some.inj (Tryz.func3.symm.trans hfn)).symm
      exact ⟨kc2, fun j t ht => by
        have hm : t ∈ Tryz.f3.params.toList := by simpa using Array.mem_of_getElem? ht
        have h2 : Tryz.prog.wantsStandIn t = false := by simpa using List.all_eq_true.1 kc4 t hm
        exact h2⟩)
    kc3

end Go.Proofs.YtpipccfcpeemfacGreatDoor.encodeSame
