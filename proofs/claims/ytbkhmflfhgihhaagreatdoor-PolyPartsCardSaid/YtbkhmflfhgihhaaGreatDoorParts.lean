/-
  The law PolyParts of arithmancy/arithmancylaw02.PolyParts: the call returns true for every input that the row lets in; each argument reads afterwards as it read before.
  Conditions: those of the given row: the listed package-level variables hold what the program's text lays in them (tied by the card).
-/
import Derived.Test.YtbkhmflfhgihhaaGreatDoorB5
import Derived.Test.YtbkhmflfhgihhaaGreatDoorA4
import Derived.Test.YtbkhmflfhgihhaaGreatDoorRows
import Derived.Test.YtbkhmflfhgihhaaGreatDoorCards
import Derived.Test.YtbkhmflfhgihhaaGreatDoorTie
import Derived.ProofKit
import Derived.Lay
import Derived.LaidOnce
import Derived.OpenShut
import Derived.Stop.Joined
import Derived.SevenTiedAt
set_option linter.all false

set_option maxRecDepth 100000
namespace Go.Proofs.YtbkhmflfhgihhaaGreatDoor
open Go.ChangeShapes Go.WideShapes Go.ChangeAt Go.RowKit Go.AM

theorem polyParts_own : ownKnob Tryz.prog.godebug = none := by kernel_rfl
theorem polyParts_out : laidOutB Tryz.prog = true := by kernel_rfl

theorem polyParts_met (os : Os) (args : Array Value) : laidMetH Tryz.prog Rows.polyPartsRow.laid ((World.laidAll Tryz.prog os Rows.polyPartsRow.laid).forCall (fun _ _ => 0) ⟨#[], args, []⟩).memory := by
  rw [MakeChecks.laidMetH_plain _ _ _ (by kernel_rfl)]; exact laidMet_laidAll _ (by kernel_rfl) (by kernel_rfl)

def polyPartsTypes : List TD := [R1.polyT, R1.intT, .int .i64, .int .i64]

theorem polyParts_lifted (os : Os) (started : os.Started) (H : Type) (enc : TypeId × Value → H) :
    ReturnsInHanded {} Tryz.checked os 3 .any (fun w args => (Rows.polyPartsSpec.pre enc Tryz.prog Tryz.f3 [] false w args ∧ laidMetH Tryz.prog Rows.polyPartsRow.laid w) ∧ sizedMet enc Tryz.prog Tryz.f3 (OpenSpec.ofChange Rows.polyPartsSpec) false w args)
      (Rows.polyPartsSpec.post enc Tryz.prog Tryz.f3 false true false false) := by
  refine returnsInHanded_of_change_and (C := Tryz.checked) (X := fun w _ => laidMetH Tryz.prog Rows.polyPartsRow.laid w) (fun _ _ _ hh h => h.of_heap hh) polyParts_own started (by kernel_rfl) Tryz.func3
    (ChangeSpec.witness_shaped (enc := enc) (C := Tryz.checked) (os := os) (X := fun w _ => laidMetH Tryz.prog Rows.polyPartsRow.laid w) false (World.laidAll Tryz.prog os Rows.polyPartsRow.laid) #[.agg #[.int .i64 0, .slice none 0 0], .agg #[.bool false, .slice none 0 0], .int .i64 0, .int .i64 0] 8 (World.laidAll_os _ _ _) (World.shaped_of_ZipB (by kernel_rfl) (by kernel_rfl)) (by kernel_rfl) (by kernel_rfl) (by kernel_rfl) (polyParts_met os _)) ?_
  intro W base args ds gs before hval hW _ hsz hL _
  obtain ⟨avs, ha1, ha2⟩ := args_trod (tds := polyPartsTypes) (b0 := base) (by kernel_rfl) rfl hW.choose_spec.choose_spec.1 (fun j t v ht hv => hval j t v (by simpa using ht) (by simpa using hv)) (by
    intro m hm
    have := List.all_eq_true.1 hsz m ?_
    · simpa using this
    · obtain ⟨p, q, hA, hV, _⟩ := hW
      obtain ⟨rfl, rfl⟩ := trodVars_none hV
      simpa [ChangeSpec.plain, DataSpec.varTypes, Rows.polyPartsSpec] using hm)
  refine law_close rfl rfl polyParts_out (by kernel_rfl) (tb := 4) rfl Tryz.underlying4 hW ?_ (G := fun _ => none) (fun n cells h => by cases h) ha2 (R1.parts_main avs ha1)
  obtain ⟨p, q, hA, hV, _⟩ := hW
  obtain ⟨rfl, rfl⟩ := trodVars_none hV
  have hA' : DataW.TrodAll enc Tryz.prog W 0 (fun _ => true) true Tryz.f3.params.toList args.toList ds p := hA
  rw [Tryz.params3] at hA'
  obtain ⟨_, _, _, _, _, _, _, rfl, _, _, h0⟩ := trodAll_cons hA'
  obtain ⟨_, _, _, _, _, _, _, rfl, _, _, h1⟩ := trodAll_cons h0
  obtain ⟨_, _, _, _, _, _, _, rfl, _, _, h2⟩ := trodAll_cons h1
  obtain ⟨_, _, _, _, _, _, _, rfl, _, _, h3⟩ := trodAll_cons h2
  obtain ⟨_, rfl, _⟩ := trodAll_nil h3
  rfl

theorem polyParts_row : Rows.polyPartsRow.holds Tryz.pinned (OpenSpec.ofChange Rows.polyPartsSpec) :=
  OpenClaim.holds_of_wide 3 Tryz.f3 rfl rfl rfl rfl rfl rfl rfl ⟨rfl, rfl, rfl, rfl, rfl⟩ rfl rfl rfl rfl rfl (by kernel_rfl) Tryz.func3 (by kernel_rfl)
    (of_decide_eq_true (by kernel_rfl)) (by unfold Func.isWrapper; first | (rw [if_pos (by decide +kernel)]; kernel_rfl) | (rw [if_neg (by decide +kernel)]; exact ⟨rfl, rfl⟩))
    (fun os started H enc _ => polyParts_lifted os started H enc)


theorem polyParts_holds : Rows.PolyPartsCardSaid :=
  Claim7.holds_tied_plain_at .later [] [.data, .data, .data, .data, .sentinel, .sentinel, .pinned] true (true, "18cee0e2597100d74543019d416136d9d722b722972087bf6043bfc422a1bfc8") true
    polyParts_row (fun _ h => by cases h) (by kernel_rfl) (fun _ h => by cases h) polyParts_row_tie rfl ⟨rfl, rfl⟩ (by kernel_rfl) rfl
    (fun f fn hf hfn => by
      obtain rfl : f = 3 := Option.some.inj ((show Tryz.prog.funcNamed "arithmancy/arithmancylaw02.PolyParts" = some 3 by kernel_rfl).symm.trans hf) |>.symm
      obtain rfl : fn = Tryz.f3 := (Option.some.inj (Tryz.func3.symm.trans hfn)).symm
      exact ⟨by kernel_rfl, fun j t ht => by
        rw [Tryz.params3] at ht
        have hm : t ∈ [24, 27, 3, 3] := by simpa using Array.mem_of_getElem? ht
        have hall : ([24, 27, 3, 3].all fun u => !Tryz.prog.wantsStandIn u) = true := by kernel_rfl
        exact (show Tryz.prog.wantsStandIn t = false by simpa using List.all_eq_true.1 hall t hm)⟩)
    (by kernel_rfl)
#print axioms polyParts_holds
end Go.Proofs.YtbkhmflfhgihhaaGreatDoor
