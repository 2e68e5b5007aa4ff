/-
  DERIVED. GIVEN WITH THE SEED: THE CARDS: each row of YtildmcfekimjjaaGreatDoorRows.lean that lists a variable, with what it lists TIED to the program's text (the seventh form; the later family's looks); each row that meets fmt, with fmt's text TOLD by the authors' own Lean function (tested against real Go, not proved from fmt's source: count such statements apart). THE CARD IS WHAT COUNTS. Prove the row's statement (the work); the ties are given (YtildmcfekimjjaaGreatDoorTie.lean); close each card by the builder's one call (the guide's Derived/Test/ToyasCard.lean, 'card_holds'). Laid BY PROGRAM, IN A SANDBOX (cutbox-door.mjs). By AI agents, Wed Nov 11 2026. No macro, syntax, notation, axiom, sorry.
-/
import Derived.Test.YtildmcfekimjjaaGreatDoorRows
import GoSem.ClaimSeven
namespace Go.Proofs.YtildmcfekimjjaaGreatDoor
namespace Rows

/-- THE TIED CARD OF 'guillochelaw11.WorksNobody'. -/
def worksNobodyCard : Claim7 := { stood := { row := worksNobodyRow, standIns := [], harness := (true, "58b6a43eeb849e9cb63832cbcacccf80f1c652b3283b8b701a228fca3b6c5c24"), looks := true }, kinds := [], alts := [], laidByText := true, laidKinds := [.data, .data, .data, .data, .data, .sentinel, .sentinel, .widerDeep, .widerDeep, .pinned], laidTests := true, laidLooks := .later }
def WorksNobodyCardSaid : Prop := Claim7.holds Tryz.pinned (.plain (OpenSpec.ofChange worksNobodySpec)) worksNobodyCard

/-- THE SECOND FORM's CARD OF 'guillochelaw11.WorksNobody'. -/
def worksNobodyUptoCard : Claim7 := { stood := { row := worksNobodyUptoRow, standIns := [], harness := (true, "58b6a43eeb849e9cb63832cbcacccf80f1c652b3283b8b701a228fca3b6c5c24"), looks := true }, kinds := [], alts := [], laidByText := true, laidKinds := [.data, .data, .data, .data, .data, .sentinel, .sentinel, .widerDeep, .widerDeep, .pinned], laidTests := true, laidLooks := .later }
def WorksNobodyUptoCardSaid : Prop := Claim7.holds Tryz.pinned (.plain (OpenSpec.upto worksNobodySpec)) worksNobodyUptoCard
end Rows
end Go.Proofs.YtildmcfekimjjaaGreatDoor
