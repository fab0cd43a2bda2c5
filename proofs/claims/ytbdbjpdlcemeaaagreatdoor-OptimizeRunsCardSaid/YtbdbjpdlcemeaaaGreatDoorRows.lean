/-
  NARROWER THAN 'FOR EVERY INPUT', by the rows' own cells (each row's printed sentence says how): OptimizeChecks: laid · OptimizeSteps: laid · OptimizeKeeps: laid · OptimizeRuns: laid · OptimizeKnows: laid.
  DERIVED. THE GIVEN ROWS OF THIS SEAT. 5 by the template 'for every input the law returns true; each argument reads behind the call as it read before'; 0 by the template 'total and deterministic' (their statements: YtbdbjpdlcemeaaaGreatDoorTotals.lean).
  GIVEN WITH THE SEED: the statements are not yours to turn. If you find one false, say at which input.
  Laid BY PROGRAM, IN A SANDBOX (cutbox-rows.mjs): the forced cells as the released guide's own fill.sh prints them over the translation 9e171a29076c5ff9… (all of the seat's roots in one cut). By AI agents, Wed Nov 11 2026. No macro, syntax, notation, axiom, sorry.
-/
import Derived.Test.YtbdbjpdlcemeaaaGreatDoorChecked
import GoSem.Claim
import GoSem.ClaimJoined
import GoSem.ClaimMapViews
import Derived.JoinedTies
import Derived.KernelRfl
namespace Go.Proofs.YtbdbjpdlcemeaaaGreatDoor
/- THE CELL 'sum', in the pinned program and in every row, IS THE sha256 OF THE DUMP (.gsa) THAT YtbdbjpdlcemeaaaGreatDoorProg.lean LOADS. Nothing in Lean hashes anything: it is a label: what it is worth is what the hold of that sum in a sandbox is worth. -/
noncomputable def Tryz.pinned : Pinned := { name := "ytbdbjpdlcemeaaagreatdoor", sum := "9e171a29076c5ff95f58ea37fdb3921286efdacc0646f26bc4bc622bd6bcb9b8", checked := Tryz.checked }
namespace Rows
def none {H : Type} : Left H := { results := [], args := [] }

/- WHAT THE LISTED PACKAGE-LEVEL VARIABLES READ AS WHEN THE CALL BEGINS. Each datum BY PROGRAM (the guide's laid-datum.mjs) off the statement by which the dump's own 'gosem.cut.vars' lays the variable. In a bare row this is a premise. The card (YtbdbjpdlcemeaaaGreatDoorCards.lean) ties it to the program's text. -/
def laid_tapline_taplineref01_promoted {H : Type} : DataW H := .agg [.agg [.lit (.int .i64 4), .lit (.bool true)], .agg [.lit (.int .i64 4), .lit (.bool false)], .agg [.lit (.int .i64 8), .lit (.bool true)], .agg [.lit (.int .i64 8), .lit (.bool false)]]
def laid_tapline_code_forms {H : Type} : DataW H := .agg [.agg [.lit (.string []), .lit (.bool false), .lit (.bool false), .lit (.bool false), .lit (.bool false)], .agg [.lit (.string [108, 100, 105]), .lit (.bool true), .lit (.bool false), .lit (.bool false), .lit (.bool true)], .agg [.lit (.string [108, 100, 115]), .lit (.bool true), .lit (.bool false), .lit (.bool false), .lit (.bool true)], .agg [.lit (.string [109, 111, 118]), .lit (.bool true), .lit (.bool true), .lit (.bool false), .lit (.bool false)], .agg [.lit (.string [97, 100, 100]), .lit (.bool true), .lit (.bool true), .lit (.bool true), .lit (.bool false)], .agg [.lit (.string [115, 117, 98]), .lit (.bool true), .lit (.bool true), .lit (.bool true), .lit (.bool false)], .agg [.lit (.string [109, 117, 108]), .lit (.bool true), .lit (.bool true), .lit (.bool true), .lit (.bool false)], .agg [.lit (.string [100, 105, 118]), .lit (.bool true), .lit (.bool true), .lit (.bool true), .lit (.bool false)], .agg [.lit (.string [100, 105, 118, 117]), .lit (.bool true), .lit (.bool true), .lit (.bool true), .lit (.bool false)], .agg [.lit (.string [109, 111, 100]), .lit (.bool true), .lit (.bool true), .lit (.bool true), .lit (.bool false)], .agg [.lit (.string [109, 111, 100, 117]), .lit (.bool true), .lit (.bool true), .lit (.bool true), .lit (.bool false)], .agg [.lit (.string [97, 110, 100]), .lit (.bool true), .lit (.bool true), .lit (.bool true), .lit (.bool false)], .agg [.lit (.string [111, 114]), .lit (.bool true), .lit (.bool true), .lit (.bool true), .lit (.bool false)], .agg [.lit (.string [120, 111, 114]), .lit (.bool true), .lit (.bool true), .lit (.bool true), .lit (.bool false)], .agg [.lit (.string [115, 104, 108]), .lit (.bool true), .lit (.bool true), .lit (.bool true), .lit (.bool false)], .agg [.lit (.string [115, 104, 114]), .lit (.bool true), .lit (.bool true), .lit (.bool true), .lit (.bool false)], .agg [.lit (.string [115, 97, 114]), .lit (.bool true), .lit (.bool true), .lit (.bool true), .lit (.bool false)], .agg [.lit (.string [110, 101, 103]), .lit (.bool true), .lit (.bool true), .lit (.bool false), .lit (.bool false)], .agg [.lit (.string [110, 111, 116]), .lit (.bool true), .lit (.bool true), .lit (.bool false), .lit (.bool false)], .agg [.lit (.string [119, 114, 97, 112]), .lit (.bool true), .lit (.bool true), .lit (.bool false), .lit (.bool true)], .agg [.lit (.string [108, 116]), .lit (.bool true), .lit (.bool true), .lit (.bool true), .lit (.bool false)], .agg [.lit (.string [108, 116, 117]), .lit (.bool true), .lit (.bool true), .lit (.bool true), .lit (.bool false)], .agg [.lit (.string [101, 113]), .lit (.bool true), .lit (.bool true), .lit (.bool true), .lit (.bool false)], .agg [.lit (.string [99, 109, 112]), .lit (.bool true), .lit (.bool true), .lit (.bool true), .lit (.bool false)], .agg [.lit (.string [106, 109, 112]), .lit (.bool false), .lit (.bool false), .lit (.bool false), .lit (.bool true)], .agg [.lit (.string [106, 122]), .lit (.bool false), .lit (.bool true), .lit (.bool false), .lit (.bool true)], .agg [.lit (.string [108, 111, 97, 100]), .lit (.bool true), .lit (.bool true), .lit (.bool false), .lit (.bool true)], .agg [.lit (.string [117, 108, 111, 97, 100]), .lit (.bool true), .lit (.bool true), .lit (.bool false), .lit (.bool true)], .agg [.lit (.string [98, 117, 105]), .lit (.bool true), .lit (.bool false), .lit (.bool false), .lit (.bool true)], .agg [.lit (.string [97, 114, 103]), .lit (.bool true), .lit (.bool false), .lit (.bool false), .lit (.bool true)], .agg [.lit (.string [103, 108, 111]), .lit (.bool true), .lit (.bool false), .lit (.bool false), .lit (.bool true)], .agg [.lit (.string [115, 101, 116, 103, 108, 111]), .lit (.bool false), .lit (.bool true), .lit (.bool false), .lit (.bool true)], .agg [.lit (.string [116, 104, 114]), .lit (.bool true), .lit (.bool false), .lit (.bool false), .lit (.bool true)], .agg [.lit (.string [115, 101, 116, 116, 104, 114]), .lit (.bool false), .lit (.bool true), .lit (.bool false), .lit (.bool true)], .agg [.lit (.string [108, 111, 99]), .lit (.bool true), .lit (.bool false), .lit (.bool false), .lit (.bool true)], .agg [.lit (.string [115, 101, 116, 108, 111, 99]), .lit (.bool false), .lit (.bool true), .lit (.bool false), .lit (.bool true)], .agg [.lit (.string [112, 117, 115, 104]), .lit (.bool false), .lit (.bool true), .lit (.bool false), .lit (.bool false)], .agg [.lit (.string [97, 115, 99]), .lit (.bool true), .lit (.bool false), .lit (.bool false), .lit (.bool true)], .agg [.lit (.string [115, 101, 116, 97, 115, 99]), .lit (.bool false), .lit (.bool true), .lit (.bool false), .lit (.bool true)], .agg [.lit (.string [99, 97, 108, 108]), .lit (.bool true), .lit (.bool false), .lit (.bool false), .lit (.bool true)], .agg [.lit (.string [114, 101, 116]), .lit (.bool false), .lit (.bool true), .lit (.bool false), .lit (.bool false)]]

/-- 'taplinelaw17.OptimizeChecks': WHATEVER THE INPUT: true; the input reads as it did. -/
def optimizeChecksSpec : ChangeSpec := { name := "optimizeChecks", fn := fun _ => fun
  | [d1, d2] => { results := [.lit (.bool true)], args := [d1, d2] }
  | _ => none }
def optimizeChecksRow : OpenClaim := { program := "ytbdbjpdlcemeaaagreatdoor", sum := "9e171a29076c5ff95f58ea37fdb3921286efdacc0646f26bc4bc622bd6bcb9b8", func := "tapline/taplinelaw17.OptimizeChecks", spec := "optimizeChecks", inPlace := ["internal/bytealg.IndexByteString"], unfollowed := true, recurses := true, named := ["tapline/code.forms", "tapline/taplineref01.promoted"], plainKeys := false, apart := false, laid := [("tapline/taplineref01.promoted", laid_tapline_taplineref01_promoted), ("tapline/code.forms", laid_tapline_code_forms)] }
def OptimizeChecksSaid : Prop := optimizeChecksRow.holds Tryz.pinned (OpenSpec.ofChange optimizeChecksSpec)

/-- ITS FALSE NEIGHBOUR: 'it returns false'. Refute it at one input. -/
def optimizeChecksWrong : ChangeSpec := { name := "optimizeChecks", fn := fun _ => fun
  | [d1, d2] => { results := [.lit (.bool false)], args := [d1, d2] }
  | _ => none }
def OptimizeChecksWrongFalsely : Prop := optimizeChecksRow.holds Tryz.pinned (OpenSpec.ofChange optimizeChecksWrong)

/-- 'taplinelaw17.OptimizeSteps': WHATEVER THE INPUT: true; the input reads as it did. -/
def optimizeStepsSpec : ChangeSpec := { name := "optimizeSteps", fn := fun _ => fun
  | [d] => { results := [.lit (.bool true)], args := [d] }
  | _ => none }
def optimizeStepsRow : OpenClaim := { program := "ytbdbjpdlcemeaaagreatdoor", sum := "9e171a29076c5ff95f58ea37fdb3921286efdacc0646f26bc4bc622bd6bcb9b8", func := "tapline/taplinelaw17.OptimizeSteps", spec := "optimizeSteps", inPlace := ["internal/bytealg.IndexByteString"], unfollowed := true, recurses := true, named := ["tapline/code.forms", "tapline/taplineref01.promoted"], plainKeys := false, apart := false, laid := [("tapline/taplineref01.promoted", laid_tapline_taplineref01_promoted), ("tapline/code.forms", laid_tapline_code_forms)] }
def OptimizeStepsSaid : Prop := optimizeStepsRow.holds Tryz.pinned (OpenSpec.ofChange optimizeStepsSpec)

/-- ITS FALSE NEIGHBOUR: 'it returns false'. Refute it at one input. -/
def optimizeStepsWrong : ChangeSpec := { name := "optimizeSteps", fn := fun _ => fun
  | [d] => { results := [.lit (.bool false)], args := [d] }
  | _ => none }
def OptimizeStepsWrongFalsely : Prop := optimizeStepsRow.holds Tryz.pinned (OpenSpec.ofChange optimizeStepsWrong)

/-- 'taplinelaw17.OptimizeKeeps': WHATEVER THE INPUT: true; the input reads as it did. -/
def optimizeKeepsSpec : ChangeSpec := { name := "optimizeKeeps", fn := fun _ => fun
  | [d1, d2] => { results := [.lit (.bool true)], args := [d1, d2] }
  | _ => none }
def optimizeKeepsRow : OpenClaim := { program := "ytbdbjpdlcemeaaagreatdoor", sum := "9e171a29076c5ff95f58ea37fdb3921286efdacc0646f26bc4bc622bd6bcb9b8", func := "tapline/taplinelaw17.OptimizeKeeps", spec := "optimizeKeeps", inPlace := ["internal/bytealg.IndexByteString"], unfollowed := true, recurses := true, named := ["tapline/code.forms"], plainKeys := false, apart := false, laid := [("tapline/code.forms", laid_tapline_code_forms)] }
def OptimizeKeepsSaid : Prop := optimizeKeepsRow.holds Tryz.pinned (OpenSpec.ofChange optimizeKeepsSpec)

/-- ITS FALSE NEIGHBOUR: 'it returns false'. Refute it at one input. -/
def optimizeKeepsWrong : ChangeSpec := { name := "optimizeKeeps", fn := fun _ => fun
  | [d1, d2] => { results := [.lit (.bool false)], args := [d1, d2] }
  | _ => none }
def OptimizeKeepsWrongFalsely : Prop := optimizeKeepsRow.holds Tryz.pinned (OpenSpec.ofChange optimizeKeepsWrong)

/-- 'taplinelaw17.OptimizeRuns': WHATEVER THE INPUT: true; the input reads as it did. -/
def optimizeRunsSpec : ChangeSpec := { name := "optimizeRuns", fn := fun _ => fun
  | [d1, d2] => { results := [.lit (.bool true)], args := [d1, d2] }
  | _ => none }
def optimizeRunsRow : OpenClaim := { program := "ytbdbjpdlcemeaaagreatdoor", sum := "9e171a29076c5ff95f58ea37fdb3921286efdacc0646f26bc4bc622bd6bcb9b8", func := "tapline/taplinelaw17.OptimizeRuns", spec := "optimizeRuns", inPlace := ["internal/bytealg.IndexByteString"], unfollowed := true, recurses := true, named := ["tapline/code.forms", "tapline/taplineref01.promoted"], plainKeys := false, apart := false, laid := [("tapline/taplineref01.promoted", laid_tapline_taplineref01_promoted), ("tapline/code.forms", laid_tapline_code_forms)] }
def OptimizeRunsSaid : Prop := optimizeRunsRow.holds Tryz.pinned (OpenSpec.ofChange optimizeRunsSpec)

/-- ITS FALSE NEIGHBOUR: 'it returns false'. Refute it at one input. -/
def optimizeRunsWrong : ChangeSpec := { name := "optimizeRuns", fn := fun _ => fun
  | [d1, d2] => { results := [.lit (.bool false)], args := [d1, d2] }
  | _ => none }
def OptimizeRunsWrongFalsely : Prop := optimizeRunsRow.holds Tryz.pinned (OpenSpec.ofChange optimizeRunsWrong)

/-- 'taplinelaw17.OptimizeKnows': WHATEVER THE INPUT: true; the input reads as it did. -/
def optimizeKnowsSpec : ChangeSpec := { name := "optimizeKnows", fn := fun _ => fun
  | [d1, d2] => { results := [.lit (.bool true)], args := [d1, d2] }
  | _ => none }
def optimizeKnowsRow : OpenClaim := { program := "ytbdbjpdlcemeaaagreatdoor", sum := "9e171a29076c5ff95f58ea37fdb3921286efdacc0646f26bc4bc622bd6bcb9b8", func := "tapline/taplinelaw17.OptimizeKnows", spec := "optimizeKnows", inPlace := ["internal/bytealg.IndexByteString"], unfollowed := true, recurses := true, named := ["tapline/code.forms"], plainKeys := false, apart := false, laid := [("tapline/code.forms", laid_tapline_code_forms)] }
def OptimizeKnowsSaid : Prop := optimizeKnowsRow.holds Tryz.pinned (OpenSpec.ofChange optimizeKnowsSpec)

/-- ITS FALSE NEIGHBOUR: 'it returns false'. Refute it at one input. -/
def optimizeKnowsWrong : ChangeSpec := { name := "optimizeKnows", fn := fun _ => fun
  | [d1, d2] => { results := [.lit (.bool false)], args := [d1, d2] }
  | _ => none }
def OptimizeKnowsWrongFalsely : Prop := optimizeKnowsRow.holds Tryz.pinned (OpenSpec.ofChange optimizeKnowsWrong)

/- THE SECOND FORM. 'bulk': how many values and letters a reading holds, each counted each time it is reached (what is shared counts as often as it is met; a slice's spare places count too). A statement '..UptoSaid' is the law's where the arguments, and the package variables that the reading takes, are together of bulk at most 1048576: NARROWER than '..Said'. Prove '..Said' where nothing that the law and all that it calls make is longer than what came in: it says more and counts as full. Else prove '..UptoSaid'. A law counts once. -/
mutual
def uptoBulk {H : Type} : DataW H → Nat
  | .lit (.string bytes) => bytes.length + 1
  | .lit _ => 1
  | .nil => 1
  | .ptr d => uptoBulk d + 1
  | .slice elems spare => uptoBulkAll elems + uptoBulkAll spare + 1
  | .agg parts => uptoBulkAll parts + 1
  | .iface _ d => uptoBulk d + 1
  | .map entries => uptoBulkEntries entries + 1
  | .held _ => 1
def uptoBulkAll {H : Type} : List (DataW H) → Nat
  | [] => 0
  | d :: r => uptoBulk d + uptoBulkAll r
def uptoBulkEntries {H : Type} : List (Lit × DataW H) → Nat
  | [] => 0
  | x :: r => uptoBulkEntry x + uptoBulkEntries r
def uptoBulkEntry {H : Type} : Lit × DataW H → Nat
  | (.string bytes, d) => bytes.length + uptoBulk d + 1
  | (_, d) => uptoBulk d + 1
 end
def uptoSmall : (H : Type) → List (DataW H) → Bool := fun _ ds => decide (uptoBulkAll ds ≤ 1048576)
def OpenSpec.upto (s : _root_.Go.ChangeSpec) : _root_.Go.OpenSpec := { _root_.Go.OpenSpec.ofChange s with cond := some uptoSmall }

/-- 'taplinelaw17.OptimizeChecks', WHERE WHAT IT READS IS OF BULK AT MOST 1048576: true; the input reads as it did. -/
def optimizeChecksUptoRow : OpenClaim := { program := "ytbdbjpdlcemeaaagreatdoor", sum := "9e171a29076c5ff95f58ea37fdb3921286efdacc0646f26bc4bc622bd6bcb9b8", func := "tapline/taplinelaw17.OptimizeChecks", spec := "optimizeChecks", inPlace := ["internal/bytealg.IndexByteString"], unfollowed := true, recurses := true, named := ["tapline/code.forms", "tapline/taplineref01.promoted"], plainKeys := false, apart := false, laid := [("tapline/taplineref01.promoted", laid_tapline_taplineref01_promoted), ("tapline/code.forms", laid_tapline_code_forms)], narrowed := true }
def OptimizeChecksUptoSaid : Prop := optimizeChecksUptoRow.holds Tryz.pinned (OpenSpec.upto optimizeChecksSpec)

/-- 'taplinelaw17.OptimizeSteps', WHERE WHAT IT READS IS OF BULK AT MOST 1048576: true; the input reads as it did. -/
def optimizeStepsUptoRow : OpenClaim := { program := "ytbdbjpdlcemeaaagreatdoor", sum := "9e171a29076c5ff95f58ea37fdb3921286efdacc0646f26bc4bc622bd6bcb9b8", func := "tapline/taplinelaw17.OptimizeSteps", spec := "optimizeSteps", inPlace := ["internal/bytealg.IndexByteString"], unfollowed := true, recurses := true, named := ["tapline/code.forms", "tapline/taplineref01.promoted"], plainKeys := false, apart := false, laid := [("tapline/taplineref01.promoted", laid_tapline_taplineref01_promoted), ("tapline/code.forms", laid_tapline_code_forms)], narrowed := true }
def OptimizeStepsUptoSaid : Prop := optimizeStepsUptoRow.holds Tryz.pinned (OpenSpec.upto optimizeStepsSpec)

/-- 'taplinelaw17.OptimizeKeeps', WHERE WHAT IT READS IS OF BULK AT MOST 1048576: true; the input reads as it did. -/
def optimizeKeepsUptoRow : OpenClaim := { program := "ytbdbjpdlcemeaaagreatdoor", sum := "9e171a29076c5ff95f58ea37fdb3921286efdacc0646f26bc4bc622bd6bcb9b8", func := "tapline/taplinelaw17.OptimizeKeeps", spec := "optimizeKeeps", inPlace := ["internal/bytealg.IndexByteString"], unfollowed := true, recurses := true, named := ["tapline/code.forms"], plainKeys := false, apart := false, laid := [("tapline/code.forms", laid_tapline_code_forms)], narrowed := true }
def OptimizeKeepsUptoSaid : Prop := optimizeKeepsUptoRow.holds Tryz.pinned (OpenSpec.upto optimizeKeepsSpec)

/-- 'taplinelaw17.OptimizeRuns', WHERE WHAT IT READS IS OF BULK AT MOST 1048576: true; the input reads as it did. -/
def optimizeRunsUptoRow : OpenClaim := { program := "ytbdbjpdlcemeaaagreatdoor", sum := "9e171a29076c5ff95f58ea37fdb3921286efdacc0646f26bc4bc622bd6bcb9b8", func := "tapline/taplinelaw17.OptimizeRuns", spec := "optimizeRuns", inPlace := ["internal/bytealg.IndexByteString"], unfollowed := true, recurses := true, named := ["tapline/code.forms", "tapline/taplineref01.promoted"], plainKeys := false, apart := false, laid := [("tapline/taplineref01.promoted", laid_tapline_taplineref01_promoted), ("tapline/code.forms", laid_tapline_code_forms)], narrowed := true }
def OptimizeRunsUptoSaid : Prop := optimizeRunsUptoRow.holds Tryz.pinned (OpenSpec.upto optimizeRunsSpec)

/-- 'taplinelaw17.OptimizeKnows', WHERE WHAT IT READS IS OF BULK AT MOST 1048576: true; the input reads as it did. -/
def optimizeKnowsUptoRow : OpenClaim := { program := "ytbdbjpdlcemeaaagreatdoor", sum := "9e171a29076c5ff95f58ea37fdb3921286efdacc0646f26bc4bc622bd6bcb9b8", func := "tapline/taplinelaw17.OptimizeKnows", spec := "optimizeKnows", inPlace := ["internal/bytealg.IndexByteString"], unfollowed := true, recurses := true, named := ["tapline/code.forms"], plainKeys := false, apart := false, laid := [("tapline/code.forms", laid_tapline_code_forms)], narrowed := true }
def OptimizeKnowsUptoSaid : Prop := optimizeKnowsUptoRow.holds Tryz.pinned (OpenSpec.upto optimizeKnowsSpec)

end Rows
end Go.Proofs.YtbdbjpdlcemeaaaGreatDoor
