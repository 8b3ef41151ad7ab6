/- For every shape, rate, password, list of bytes and list of numbers cadenzalaw36.PushencPieces returns true and leaves its arguments as they were. No conditions. -/
import Derived.Test.YtghngklehkkecacGreatDoorRows
import Derived.Test.YtghngklehkkecacGreatDoorCards
import Derived.Test.YtghngklehkkecacGreatDoorTie
import Derived.Test.YtghngklehkkecacGreatDoorPushencPiecesJ3
import Derived.ChangeSame
import Derived.ChangeVars
import Derived.JoinedOf
import Derived.RowKit
import Derived.RowKitTokens
import Derived.LaidLaws
import Derived.Stop.Joined
import Derived.SevenTiedAt
set_option linter.unusedSectionVars false
set_option linter.unusedSimpArgs false
set_option linter.unusedVariables false
namespace Go.Proofs.YtghngklehkkecacGreatDoor.pushencPieces
open Go.Am Go.ChangeShapes Go.WideShapes Go.ChangeAt Go.RowKit

theorem own : ownKnob Tryz.prog.godebug = none := by kernel_rfl
theorem laid : laidOutB Tryz.prog = true := by kernel_rfl

set_option maxRecDepth 100000 in
theorem gok {W : World} (hl : laidMet Tryz.prog Rows.pushencPiecesRow.laid W) : GOk pg.G (X0 W) := by
  intro q cs h
  have h1 : List.lookup q [(0, [.int .i64 2, .int .i64 2, .int .i64 2, .int .i64 4, .int .i64 4])] = some cs := h
  simp only [List.lookup] at h1
  split at h1
  · rename_i e
    obtain rfl := eq_of_beq e
    cases h1
    exact QnT hl (name := "cadenza/header.widths") (k := .i64) [2, 2, 2, 4, 4] (by kernel_rfl) (List.Mem.head _)
  cases h1

set_option maxRecDepth 100000 in
theorem contract (H : Type) (enc : TypeId × Value → H) (W : World) (base : Nat) (args : Array Value) (ds gs : List (DataW H)) (before : List MemPlace) (hlaid : laidMet Tryz.prog Rows.pushencPiecesRow.laid W)
    (hval : ∀ (j : Nat) t v, Tryz.f3.params[j]? = some t → args[j]? = some v → Value.okWide Tryz.prog W .any base t v)
    (hW : DataW.Whole enc Tryz.prog Tryz.f3.params.toList Rows.pushencPiecesSpec.vars false W args.toList ds gs before) :
    Calls Tryz.prog 3 args W fun e W' => ∃ v, e = .returned v ∧ Rows.pushencPiecesSpec.post enc Tryz.prog Tryz.f3 false true false false W args v W' := by
  have hW' := hW
  obtain ⟨p, q, hA0, hV, rfl, hfz, hnd⟩ := hW
  have hA : DataW.TrodAll enc Tryz.prog W 0 (fun _ => true) true Tryz.f3.params.toList args.toList ds p := hA0
  rw [Tryz.params3] at hA hval
  obtain ⟨v0, vs0, d0, ds0, p0, q0, hargs, rfl, rfl, h0, r0⟩ := trodAll_cons hA
  obtain ⟨v1, vs1, d1, ds1, p1, q1, rfl, rfl, rfl, h1, r1⟩ := trodAll_cons r0
  obtain ⟨v2, vs2, d2, ds2, p2, q2, rfl, rfl, rfl, h2, r2⟩ := trodAll_cons r1
  obtain ⟨v3, vs3, d3, ds3, p3, q3, rfl, rfl, rfl, h3, r3⟩ := trodAll_cons r2
  obtain ⟨v4, vs4, d4, ds4, p4, q4, rfl, rfl, rfl, h4, r4⟩ := trodAll_cons r3
  obtain ⟨rfl, rfl, rfl⟩ := trodAll_nil r4
  obtain rfl : args = #[v0, v1, v2, v3, v4] := by cases args; simp_all
  obtain ⟨rfl, rfl⟩ := trodVars_none hV
  obtain ⟨as0, r0, q0⟩ := Qux (P := Tryz.prog) (k := 8) (s := Qvw) (by kernel_rfl) (Qsq (by kernel_rfl)) (hval 0 _ v0 rfl rfl) h0
  obtain ⟨c0, b0, rfl⟩ := QgT q0
  obtain ⟨n1, w1, r1⟩ := Quw (P := Tryz.prog) (k := .i64) (by kernel_rfl) (hval 1 _ v1 rfl rfl) h1
  obtain ⟨s2, l2, r2⟩ := QoF (P := Tryz.prog) (by kernel_rfl) (hval 2 _ v2 rfl rfl) h2
  obtain ⟨L3, r3, m3, q3⟩ := QkN (P := Tryz.prog) (k := 8) (s := .int .u8) (by kernel_rfl) (Qp3 (by kernel_rfl)) (hval 3 _ v3 rfl rfl) h3
  obtain ⟨x3, z3, y3⟩ := QeS q3
  rw [y3] at r3
  obtain ⟨L4, r4, m4, q4⟩ := QkN (P := Tryz.prog) (k := 8) (s := .int .i64) (by kernel_rfl) (Qp3 (by kernel_rfl)) (hval 4 _ v4 rfl rfl) h4
  obtain ⟨x4, z4, y4⟩ := Qqk q4
  rw [y4] at r4
  refine (Qou (P := pg) (QbE c0 b0 n1 s2 x3 x4) (gok hlaid) (args := #[v0, v1, v2, v3, v4]) (by simp only [RepL]; exact ⟨v0, _, rfl, r0, v1, _, rfl, r1, v2, _, rfl, r2, v3, _, rfl, r3, v4, _, rfl, r4, rfl⟩)).mono fun e W' ⟨he, hb⟩ => ?_
  subst he
  exact ⟨_, rfl, QpI laid (by kernel_rfl) (by rfl) (by kernel_rfl) rfl ⟨rfl, rfl, rfl⟩ hW' hb⟩

noncomputable def low : Nat := (World.holding Tryz.prog default ⟨#[], #[], []⟩).heap.size
/-- A world in which the listed variables lie as the text lays them. -/
noncomputable def QjS (os : Os) : World :=
  let w0 := World.holding Tryz.prog os ⟨#[], #[], []⟩
  { w0 with heap := (w0.heap.modify 0 fun
      | .cells _ t frozen => .cells #[.int .i64 2, .int .i64 2, .int .i64 2, .int .i64 4, .int .i64 4] t frozen
      | o => o) }
theorem QhS (os : Os) (args : Array Value) : laidMet Tryz.prog Rows.pushencPiecesRow.laid ((QjS os).forCall (fun _ _ => 0) ⟨#[], args, []⟩).memory :=
  laidMet_of_run' 8 (by kernel_rfl) (by kernel_rfl)

set_option maxRecDepth 100000 in
theorem lifted (os : Os) (started : os.Started) (H : Type) (enc : TypeId × Value → H) :
    ReturnsInHanded {} Tryz.checked os 3 .any (fun w args => (Rows.pushencPiecesSpec.pre enc Tryz.prog Tryz.f3 [] false w args ∧ laidMet Tryz.prog Rows.pushencPiecesRow.laid w) ∧ sizedMet enc Tryz.prog Tryz.f3 (OpenSpec.ofChange Rows.pushencPiecesSpec) false w args)
      (Rows.pushencPiecesSpec.post enc Tryz.prog Tryz.f3 false true false false) := by
  refine returnsInHanded_of_change_and (C := Tryz.checked) (X := fun w _ => laidMet Tryz.prog Rows.pushencPiecesRow.laid w) (fun _ _ _ hh h => h.of_heap hh) own started (by kernel_rfl) Tryz.func3
    (ChangeSpec.witness_at (enc := enc) (C := Tryz.checked) (os := os) (X := fun w _ => laidMet Tryz.prog Rows.pushencPiecesRow.laid w) false (QjS os) #[.agg #[.int .i64 0, .int .i64 0], .int .i64 0, .string ⟨#[]⟩, .slice none 0 0, .slice none 0 0] 8 rfl (by kernel_rfl) (by kernel_rfl) (by kernel_rfl) (by kernel_rfl) (by kernel_rfl) (QhS os _)) ?_
  intro W base args ds gs before hval hW _ _ hL _
  exact contract H enc W base args ds gs before hL hval hW

theorem row_holds : Rows.PushencPiecesSaid :=
  OpenClaim.holds_of_wide 3 Tryz.f3 rfl rfl rfl rfl rfl rfl rfl ⟨rfl, rfl, rfl, rfl, rfl⟩ rfl rfl rfl rfl rfl (by kernel_rfl) Tryz.func3 closed
    (of_decide_eq_true (by kernel_rfl)) (by unfold Func.isWrapper; first | (rw [if_pos (by decide +kernel)]; kernel_rfl) | (rw [if_neg (by decide +kernel)]; exact ⟨rfl, rfl⟩))
    (fun os started H enc _ => lifted os started H enc)

theorem proved : Rows.PushencPiecesCardSaid :=
  Claim7.holds_tied_plain_at .later [] [.data] true (true, "4b6af446ad682972d07fe6975e99101b19be155135e98b1120f8acb5766ce77e") false
    row_holds (fun _ h => by cases h) kc0 (fun _ h => by cases h) pushencPieces_row_tie rfl ⟨rfl, rfl⟩ kc1 rfl
    (fun f fn hf hfn => by
      obtain rfl : f = 3 := Option.some.inj (kc5.symm.trans hf) |>.symm
      obtain rfl : fn = Tryz.f3 := (Option.some.inj (Tryz.func3.symm.trans hfn)).symm
      exact ⟨kc2, fun j t ht => by
        have hm : t ∈ Tryz.f3.params.toList := by simpa using Array.mem_of_getElem? ht
        have h2 : Tryz.prog.wantsStandIn t = false := by simpa using List.all_eq_true.1 kc4 t hm
        exact h2⟩)
    kc3

end Go.Proofs.YtghngklehkkecacGreatDoor.pushencPieces
