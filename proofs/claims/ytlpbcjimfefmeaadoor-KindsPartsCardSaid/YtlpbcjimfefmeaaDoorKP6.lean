/- spindlelaw12.KindsParts answers true, whatever the input; the listed variable reads as the program's text lays it. -/
import Derived.Test.YtlpbcjimfefmeaaDoorKP5
set_option linter.all false
section
set_option linter.unusedVariables false
set_option maxRecDepth 100000
namespace Go.Proofs.YtlpbcjimfefmeaaDoor
open Go Go.Ae Go.ChangeShapes Go.WideShapes Go.RowKit

theorem kindsParts_lifted (os : Os) (started : os.Started) (H : Type) (enc : TypeId × Value → H) :
    ReturnsInHanded {} Tryd.checked os 3 .any (fun w args => (Rows.kindsPartsSpec.pre enc Tryd.prog Tryd.f3 [] false w args ∧ laidMetH Tryd.prog laidQ w) ∧ sizedMet enc Tryd.prog Tryd.f3 (OpenSpec.ofChange Rows.kindsPartsSpec) false w args)
      (Rows.kindsPartsSpec.post enc Tryd.prog Tryd.f3 false true false false) := by
  refine returnsInHanded_of_change_and (C := Tryd.checked) (X := fun w _ => laidMetH Tryd.prog laidQ w) (fun _ _ _ hh h => h.of_heap hh) ownPR started (by kernel_rfl) Tryd.func3
    (ChangeSpec.witness_shaped (enc := enc) (C := Tryd.checked) (os := os) (X := fun w _ => laidMetH Tryd.prog laidQ w) false (World.doorLaid Tryd.prog 27 os) #[.int .u8 0, .agg #[.int .u8 0, .int .u8 0, .int .u8 0, .int .u8 0], .int .i64 0] 8 rfl (World.shaped_of_RefB (by kernel_rfl) (by kernel_rfl)) (by kernel_rfl) (by kernel_rfl) (by kernel_rfl) (door_met os _)) ?_
  intro W base args ds gs before hval hW _ _ hL _
  refine law_post kidsPR slicesPR (m := 10) (τs := [.int .u8, .arr 4 (.int .u8), .int .i64]) (fn := Tryd.f3) (fun t ht => ?_) (by kernel_rfl) rfl (by kernel_rfl) Tryd.underlying4 (fun ds hd => ?_) hval hW (simStart (laid_conc hL)) kindsParts_call
  · have h : (Tryd.f3.params.toList.all fun t => decide (t < Tryd.prog.types.size)) = true := by kernel_rfl
    simpa using List.all_eq_true.1 h t ht
  · have hs : Tryd.f3.params.size = 3 := by kernel_rfl
    rw [hs] at hd
    match ds, hd with
    | [a0, a1, a2], _ => rfl

theorem kindsParts_holds : Rows.KindsPartsSaid :=
  OpenClaim.holds_of_wide 3 Tryd.f3 rfl rfl rfl rfl rfl rfl rfl ⟨rfl, rfl, rfl, rfl, rfl⟩ rfl rfl rfl rfl rfl (by kernel_rfl) Tryd.func3 (by kernel_rfl)
    (of_decide_eq_true (by kernel_rfl)) (by unfold Func.isWrapper; first | (rw [if_pos (by decide +kernel)]; kernel_rfl) | (rw [if_neg (by decide +kernel)]; exact ⟨rfl, rfl⟩))
    (fun os started H enc _ => kindsParts_lifted os started H enc)

theorem kindsParts_card : Rows.KindsPartsCardSaid :=
  Claim7.holds_tied_plain_at .later [] [.data] true (true, "cf42731a651e014d08acccc7a6b7226b91d302eb31de3bc321540593b0e7289b") false
    kindsParts_holds (fun _ h => by cases h) (by kernel_rfl) (fun _ h => by cases h) kindsParts_row_tie rfl ⟨rfl, rfl⟩ (by kernel_rfl) rfl
    (fun f fn hf hfn => by
      obtain rfl : f = 3 := Option.some.inj ((show Tryd.prog.funcNamed "spindle/spindlelaw12.KindsParts" = some 3 by kernel_rfl).symm.trans hf) |>.symm
      obtain rfl : fn = Tryd.f3 := (Option.some.inj (Tryd.func3.symm.trans hfn)).symm
      exact ⟨by kernel_rfl, fun j t ht => by
        have hall : (Tryd.f3.params.toList.all fun u => !Tryd.prog.wantsStandIn u) = true := by kernel_rfl
        have hm : t ∈ Tryd.f3.params.toList := Array.mem_toList_iff.2 (Array.mem_of_getElem? ht)
        exact (show Tryd.prog.wantsStandIn t = false by simpa using List.all_eq_true.1 hall t hm)⟩)
    (by kernel_rfl)
#print axioms kindsParts_card
end Go.Proofs.YtlpbcjimfefmeaaDoor
end
