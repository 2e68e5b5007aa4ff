/- Without a works every call returns ErrUnusable, or nothing: the law WorksNobody answers true for every act and line, and leaves them as they were; the listed package-level variables are tied to the program's text (the given card). No further condition. -/
import Derived.Test.YtildmcfekimjjaaGreatDoorWalk
import Derived.Test.YtildmcfekimjjaaGreatDoorFacts
namespace Go.Proofs.YtildmcfekimjjaaGreatDoor
open Go Go.Proofs Go.AX Go.RowKit
set_option maxRecDepth 100000
theorem named3 : Tryz.prog.funcNamed "guilloche/guillochelaw11.WorksNobody" = some 3 := by kernel_rfl
theorem inst3 : Tryz.f3.isInstance Tryz.prog Rows.worksNobodyRow.origin Rows.worksNobodyRow.targs := of_decide_eq_true (by kernel_rfl)
theorem wrap3 : Tryz.f3.isWrapper Tryz.prog Rows.worksNobodyRow.wrapper Rows.worksNobodyRow.mainSum := by
  unfold Func.isWrapper; first | (rw [if_pos (by decide +kernel)]; kernel_rfl) | (rw [if_neg (by decide +kernel)]; exact ⟨rfl, rfl⟩)
theorem worksNobody_holds : Rows.WorksNobodySaid :=
  OpenClaim.holds_of_wide 3 Tryz.f3 rfl rfl rfl rfl rfl rfl rfl ⟨rfl, rfl, rfl, rfl, rfl⟩ rfl rfl rfl rfl rfl named3 Tryz.func3 joined
    inst3 wrap3
    (fun os started H enc _ => lifted os started H enc)


theorem card1 : Rows.worksNobodyRow.wfByText (OpenSpec.ofChange Rows.worksNobodySpec) = true := by kernel_rfl
theorem card2 : Tryz.prog.mainIs = some (true, "58b6a43eeb849e9cb63832cbcacccf80f1c652b3283b8b701a228fca3b6c5c24".toList) := by kernel_rfl
theorem card3 : true = Tryz.prog.looks [] := by kernel_rfl
theorem card4 : ([24, 9].all fun u => !Tryz.prog.wantsStandIn u) = true := by kernel_rfl
theorem noGoes : Tryz.prog.funcs.any Func.goes = false := by kernel_rfl
theorem card5 : false = Rows.worksNobodyRow.goesBy Tryz.prog := goesBy_not noGoes rfl

theorem worksNobody_card : Rows.WorksNobodyCardSaid :=
  Claim7.holds_tied_plain_at .later [] [.data, .data, .data, .data, .data, .sentinel, .sentinel, .widerDeep, .widerDeep, .pinned] true (true, "58b6a43eeb849e9cb63832cbcacccf80f1c652b3283b8b701a228fca3b6c5c24") true worksNobody_holds (fun _ h => by cases h) card1 (fun _ h => by cases h) worksNobody_row_tie rfl ⟨rfl, rfl⟩ card2 rfl
    (fun f fn hf hfn => by
      obtain rfl : f = 3 := Option.some.inj (named3.symm.trans hf) |>.symm
      obtain rfl : fn = Tryz.f3 := (Option.some.inj (Tryz.func3.symm.trans hfn)).symm
      exact ⟨card3, fun j t ht => by
        rw [Tryz.params3] at ht
        have hm : t ∈ [24, 9] := by simpa using Array.mem_of_getElem? ht
        exact (show Tryz.prog.wantsStandIn t = false by simpa using List.all_eq_true.1 card4 t hm)⟩)
    card5
#print axioms worksNobody_card
end Go.Proofs.YtildmcfekimjjaaGreatDoor
