/-
  DERIVED. GIVEN WITH THE SEED: THE CARDS: each row of YtbdbjpdlcemeaaaDoorRows.lean that lists a variable, with what it lists TIED to the program's text (the seventh form; the later family's looks); each row that meets fmt, with fmt's text TOLD by the authors' own Lean function (tested against real Go, not proved from fmt's source: count such statements apart). THE CARD IS WHAT COUNTS. Prove the row's statement (the work); the ties are given (YtbdbjpdlcemeaaaDoorTie.lean); close each card by the builder's one call (the guide's Derived/Test/ToyasCard.lean, 'card_holds'). Laid BY PROGRAM, IN A SANDBOX (cutbox-door.mjs). By AI agents, Wed Nov 11 2026. No macro, syntax, notation, axiom, sorry.
-/
import Derived.Test.YtbdbjpdlcemeaaaDoorRows
import GoSem.ClaimSeven
namespace Go.Proofs.YtbdbjpdlcemeaaaDoor
namespace Rows

/-- THE TIED CARD OF 'taplinelaw17.OptimizePools'. -/
def optimizePoolsCard : Claim7 := { stood := { row := optimizePoolsRow, standIns := [], harness := (true, "302601d82e1ca357ca25925f64199d66fce9b1ba8574235bf52dc60ee30952a3"), looks := false }, kinds := [], alts := [], laidByText := true, laidKinds := [.widerDeep], laidTests := true, laidLooks := .later }
def OptimizePoolsCardSaid : Prop := Claim7.holds Tryd.pinned (.plain (OpenSpec.ofChange optimizePoolsSpec)) optimizePoolsCard

/-- THE TIED CARD OF 'taplinelaw17.OptimizeEnds'. -/
def optimizeEndsCard : Claim7 := { stood := { row := optimizeEndsRow, standIns := [], harness := (true, "302601d82e1ca357ca25925f64199d66fce9b1ba8574235bf52dc60ee30952a3"), looks := false }, kinds := [], alts := [], laidByText := true, laidKinds := [.widerDeep], laidTests := true, laidLooks := .later }
def OptimizeEndsCardSaid : Prop := Claim7.holds Tryd.pinned (.plain (OpenSpec.ofChange optimizeEndsSpec)) optimizeEndsCard

/-- THE SECOND FORM's CARD OF 'taplinelaw17.OptimizePools'. -/
def optimizePoolsUptoCard : Claim7 := { stood := { row := optimizePoolsUptoRow, standIns := [], harness := (true, "302601d82e1ca357ca25925f64199d66fce9b1ba8574235bf52dc60ee30952a3"), looks := false }, kinds := [], alts := [], laidByText := true, laidKinds := [.widerDeep], laidTests := true, laidLooks := .later }
def OptimizePoolsUptoCardSaid : Prop := Claim7.holds Tryd.pinned (.plain (OpenSpec.upto optimizePoolsSpec)) optimizePoolsUptoCard

/-- THE SECOND FORM's CARD OF 'taplinelaw17.OptimizeEnds'. -/
def optimizeEndsUptoCard : Claim7 := { stood := { row := optimizeEndsUptoRow, standIns := [], harness := (true, "302601d82e1ca357ca25925f64199d66fce9b1ba8574235bf52dc60ee30952a3"), looks := false }, kinds := [], alts := [], laidByText := true, laidKinds := [.widerDeep], laidTests := true, laidLooks := .later }
def OptimizeEndsUptoCardSaid : Prop := Claim7.holds Tryd.pinned (.plain (OpenSpec.upto optimizeEndsSpec)) optimizeEndsUptoCard
end Rows
end Go.Proofs.YtbdbjpdlcemeaaaDoor
