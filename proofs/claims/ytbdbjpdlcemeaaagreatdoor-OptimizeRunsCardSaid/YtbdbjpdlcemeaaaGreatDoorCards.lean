/-
  DERIVED. GIVEN WITH THE SEED: THE CARDS: each row of YtbdbjpdlcemeaaaGreatDoorRows.lean that lists a variable, with what it lists TIED to the program's text (the seventh form; the later family's looks); each row that meets fmt, with fmt's text TOLD by the authors' own Lean function (tested against real Go, not proved from fmt's source: count such statements apart). THE CARD IS WHAT COUNTS. Prove the row's statement (the work); the ties are given (YtbdbjpdlcemeaaaGreatDoorTie.lean); close each card by the builder's one call (the guide's Derived/Test/ToyasCard.lean, 'card_holds'). Laid BY PROGRAM, IN A SANDBOX (cutbox-door.mjs). By AI agents, Wed Nov 11 2026. No macro, syntax, notation, axiom, sorry.
-/
import Derived.Test.YtbdbjpdlcemeaaaGreatDoorRows
import GoSem.ClaimSeven
namespace Go.Proofs.YtbdbjpdlcemeaaaGreatDoor
namespace Rows

/-- THE TIED CARD OF 'taplinelaw17.OptimizeChecks'. -/
def optimizeChecksCard : Claim7 := { stood := { row := optimizeChecksRow, standIns := [], harness := (true, "61bfb8283b9a72f07156c8e127925989529e4aa32f394f4184c5b5ae0ffda857"), looks := false }, kinds := [], alts := [], laidByText := true, laidKinds := [.data, .widerDeep], laidTests := true, laidLooks := .later }
def OptimizeChecksCardSaid : Prop := Claim7.holds Tryz.pinned (.plain (OpenSpec.ofChange optimizeChecksSpec)) optimizeChecksCard

/-- THE TIED CARD OF 'taplinelaw17.OptimizeSteps'. -/
def optimizeStepsCard : Claim7 := { stood := { row := optimizeStepsRow, standIns := [], harness := (true, "61bfb8283b9a72f07156c8e127925989529e4aa32f394f4184c5b5ae0ffda857"), looks := false }, kinds := [], alts := [], laidByText := true, laidKinds := [.data, .widerDeep], laidTests := true, laidLooks := .later }
def OptimizeStepsCardSaid : Prop := Claim7.holds Tryz.pinned (.plain (OpenSpec.ofChange optimizeStepsSpec)) optimizeStepsCard

/-- THE TIED CARD OF 'taplinelaw17.OptimizeKeeps'. -/
def optimizeKeepsCard : Claim7 := { stood := { row := optimizeKeepsRow, standIns := [], harness := (true, "61bfb8283b9a72f07156c8e127925989529e4aa32f394f4184c5b5ae0ffda857"), looks := false }, kinds := [], alts := [], laidByText := true, laidKinds := [.widerDeep], laidTests := true, laidLooks := .later }
def OptimizeKeepsCardSaid : Prop := Claim7.holds Tryz.pinned (.plain (OpenSpec.ofChange optimizeKeepsSpec)) optimizeKeepsCard

/-- THE TIED CARD OF 'taplinelaw17.OptimizeRuns'. -/
def optimizeRunsCard : Claim7 := { stood := { row := optimizeRunsRow, standIns := [], harness := (true, "61bfb8283b9a72f07156c8e127925989529e4aa32f394f4184c5b5ae0ffda857"), looks := false }, kinds := [], alts := [], laidByText := true, laidKinds := [.data, .widerDeep], laidTests := true, laidLooks := .later }
def OptimizeRunsCardSaid : Prop := Claim7.holds Tryz.pinned (.plain (OpenSpec.ofChange optimizeRunsSpec)) optimizeRunsCard

/-- THE TIED CARD OF 'taplinelaw17.OptimizeKnows'. -/
def optimizeKnowsCard : Claim7 := { stood := { row := optimizeKnowsRow, standIns := [], harness := (true, "61bfb8283b9a72f07156c8e127925989529e4aa32f394f4184c5b5ae0ffda857"), looks := false }, kinds := [], alts := [], laidByText := true, laidKinds := [.widerDeep], laidTests := true, laidLooks := .later }
def OptimizeKnowsCardSaid : Prop := Claim7.holds Tryz.pinned (.plain (OpenSpec.ofChange optimizeKnowsSpec)) optimizeKnowsCard

/-- THE SECOND FORM's CARD OF 'taplinelaw17.OptimizeChecks'. -/
def optimizeChecksUptoCard : Claim7 := { stood := { row := optimizeChecksUptoRow, standIns := [], harness := (true, "61bfb8283b9a72f07156c8e127925989529e4aa32f394f4184c5b5ae0ffda857"), looks := false }, kinds := [], alts := [], laidByText := true, laidKinds := [.data, .widerDeep], laidTests := true, laidLooks := .later }
def OptimizeChecksUptoCardSaid : Prop := Claim7.holds Tryz.pinned (.plain (OpenSpec.upto optimizeChecksSpec)) optimizeChecksUptoCard

/-- THE SECOND FORM's CARD OF 'taplinelaw17.OptimizeSteps'. -/
def optimizeStepsUptoCard : Claim7 := { stood := { row := optimizeStepsUptoRow, standIns := [], harness := (true, "61bfb8283b9a72f07156c8e127925989529e4aa32f394f4184c5b5ae0ffda857"), looks := false }, kinds := [], alts := [], laidByText := true, laidKinds := [.data, .widerDeep], laidTests := true, laidLooks := .later }
def OptimizeStepsUptoCardSaid : Prop := Claim7.holds Tryz.pinned (.plain (OpenSpec.upto optimizeStepsSpec)) optimizeStepsUptoCard

/-- THE SECOND FORM's CARD OF 'taplinelaw17.OptimizeKeeps'. -/
def optimizeKeepsUptoCard : Claim7 := { stood := { row := optimizeKeepsUptoRow, standIns := [], harness := (true, "61bfb8283b9a72f07156c8e127925989529e4aa32f394f4184c5b5ae0ffda857"), looks := false }, kinds := [], alts := [], laidByText := true, laidKinds := [.widerDeep], laidTests := true, laidLooks := .later }
def OptimizeKeepsUptoCardSaid : Prop := Claim7.holds Tryz.pinned (.plain (OpenSpec.upto optimizeKeepsSpec)) optimizeKeepsUptoCard

/-- THE SECOND FORM's CARD OF 'taplinelaw17.OptimizeRuns'. -/
def optimizeRunsUptoCard : Claim7 := { stood := { row := optimizeRunsUptoRow, standIns := [], harness := (true, "61bfb8283b9a72f07156c8e127925989529e4aa32f394f4184c5b5ae0ffda857"), looks := false }, kinds := [], alts := [], laidByText := true, laidKinds := [.data, .widerDeep], laidTests := true, laidLooks := .later }
def OptimizeRunsUptoCardSaid : Prop := Claim7.holds Tryz.pinned (.plain (OpenSpec.upto optimizeRunsSpec)) optimizeRunsUptoCard

/-- THE SECOND FORM's CARD OF 'taplinelaw17.OptimizeKnows'. -/
def optimizeKnowsUptoCard : Claim7 := { stood := { row := optimizeKnowsUptoRow, standIns := [], harness := (true, "61bfb8283b9a72f07156c8e127925989529e4aa32f394f4184c5b5ae0ffda857"), looks := false }, kinds := [], alts := [], laidByText := true, laidKinds := [.widerDeep], laidTests := true, laidLooks := .later }
def OptimizeKnowsUptoCardSaid : Prop := Claim7.holds Tryz.pinned (.plain (OpenSpec.upto optimizeKnowsSpec)) optimizeKnowsUptoCard
end Rows
end Go.Proofs.YtbdbjpdlcemeaaaGreatDoor
