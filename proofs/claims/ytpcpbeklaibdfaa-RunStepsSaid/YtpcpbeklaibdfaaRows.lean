/-
  No cell of these rows narrows 'for every input' (looked for: loops, veiled, ifaces, maps, wideKeys, modest, calm, conditions, laid).
  DERIVED. THE GIVEN ROWS OF THIS SEAT. 3 by the template 'for every input the law returns true; each argument reads behind the call as it read before'; 0 by the template 'total and deterministic' (their statements: YtpcpbeklaibdfaaTotals.lean).
  GIVEN WITH THE SEED: the statements are not yours to turn. If you find one false, say at which input.
  Laid BY PROGRAM, IN A SANDBOX (cutbox-rows.mjs): the forced cells as the released guide's own fill.sh prints them over the translation 45dff73854039cd0… (all of the seat's roots in one cut). By AI agents, Wed Nov 11 2026. No macro, syntax, notation, axiom, sorry.
-/
import Derived.Test.YtpcpbeklaibdfaaChecked
import GoSem.Claim
import GoSem.ClaimJoined
import GoSem.ClaimMapViews
import Derived.JoinedTies
import Derived.KernelRfl
namespace Go.Proofs.Ytpcpbeklaibdfaa
/- THE CELL 'sum', in the pinned program and in every row, IS THE sha256 OF THE DUMP (.gsa) THAT YtpcpbeklaibdfaaProg.lean LOADS. Nothing in Lean hashes anything: it is a label: what it is worth is what the hold of that sum in a sandbox is worth. -/
noncomputable def Try.pinned : Pinned := { name := "ytpcpbeklaibdfaa", sum := "45dff73854039cd0f9cfbfcda4a5dcf103a9de2808d576ebb8551d4b3c8515db", checked := Try.checked }
namespace Rows
def none {H : Type} : Left H := { results := [], args := [] }

/-- 'warrantorlaw13.RunSteps': WHATEVER THE INPUT: true; the input reads as it did. -/
def runStepsSpec : ChangeSpec := { name := "runSteps", fn := fun _ => fun
  | [d1, d2, d3, d4] => { results := [.lit (.bool true)], args := [d1, d2, d3, d4] }
  | _ => none }
def runStepsRow : OpenClaim := { program := "ytpcpbeklaibdfaa", sum := "45dff73854039cd0f9cfbfcda4a5dcf103a9de2808d576ebb8551d4b3c8515db", func := "warrantor/warrantorlaw13.RunSteps", spec := "runSteps", unfollowed := true, recurses := true, apart := false }
def RunStepsSaid : Prop := runStepsRow.holds Try.pinned (OpenSpec.ofChange runStepsSpec)

/-- ITS FALSE NEIGHBOUR: 'it returns false'. Refute it at one input. -/
def runStepsWrong : ChangeSpec := { name := "runSteps", fn := fun _ => fun
  | [d1, d2, d3, d4] => { results := [.lit (.bool false)], args := [d1, d2, d3, d4] }
  | _ => none }
def RunStepsWrongFalsely : Prop := runStepsRow.holds Try.pinned (OpenSpec.ofChange runStepsWrong)

/-- 'warrantorlaw13.RunRuns': WHATEVER THE INPUT: true; the input reads as it did. -/
def runRunsSpec : ChangeSpec := { name := "runRuns", fn := fun _ => fun
  | [d1, d2, d3] => { results := [.lit (.bool true)], args := [d1, d2, d3] }
  | _ => none }
def runRunsRow : OpenClaim := { program := "ytpcpbeklaibdfaa", sum := "45dff73854039cd0f9cfbfcda4a5dcf103a9de2808d576ebb8551d4b3c8515db", func := "warrantor/warrantorlaw13.RunRuns", spec := "runRuns", unfollowed := true, recurses := true, apart := false }
def RunRunsSaid : Prop := runRunsRow.holds Try.pinned (OpenSpec.ofChange runRunsSpec)

/-- ITS FALSE NEIGHBOUR: 'it returns false'. Refute it at one input. -/
def runRunsWrong : ChangeSpec := { name := "runRuns", fn := fun _ => fun
  | [d1, d2, d3] => { results := [.lit (.bool false)], args := [d1, d2, d3] }
  | _ => none }
def RunRunsWrongFalsely : Prop := runRunsRow.holds Try.pinned (OpenSpec.ofChange runRunsWrong)

/-- 'warrantorlaw13.RunComes': WHATEVER THE INPUT: true; the input reads as it did. -/
def runComesSpec : ChangeSpec := { name := "runComes", fn := fun _ => fun
  | [d1, d2, d3] => { results := [.lit (.bool true)], args := [d1, d2, d3] }
  | _ => none }
def runComesRow : OpenClaim := { program := "ytpcpbeklaibdfaa", sum := "45dff73854039cd0f9cfbfcda4a5dcf103a9de2808d576ebb8551d4b3c8515db", func := "warrantor/warrantorlaw13.RunComes", spec := "runComes", unfollowed := true, recurses := true, apart := false }
def RunComesSaid : Prop := runComesRow.holds Try.pinned (OpenSpec.ofChange runComesSpec)

/-- ITS FALSE NEIGHBOUR: 'it returns false'. Refute it at one input. -/
def runComesWrong : ChangeSpec := { name := "runComes", fn := fun _ => fun
  | [d1, d2, d3] => { results := [.lit (.bool false)], args := [d1, d2, d3] }
  | _ => none }
def RunComesWrongFalsely : Prop := runComesRow.holds Try.pinned (OpenSpec.ofChange runComesWrong)

/- THE SECOND FORM. 'bulk': how many values and letters a reading holds, each counted each time it is reached (what is shared counts as often as it is met; a slice's spare places count too). A statement '..UptoSaid' is the law's where the arguments, and the package variables that the reading takes, are together of bulk at most 1048576: NARROWER than '..Said'. Prove '..Said' where nothing that the law and all that it calls make is longer than what came in: it says more and counts as full. Else prove '..UptoSaid'. A law counts once. -/
mutual
def uptoBulk {H : Type} : DataW H → Nat
  | .lit (.string bytes) => bytes.length + 1
  | .lit _ => 1
  | .nil => 1
  | .ptr d => uptoBulk d + 1
  | .slice elems spare => uptoBulkAll elems + uptoBulkAll spare + 1
  | .agg parts => uptoBulkAll parts + 1
  | .iface _ d => uptoBulk d + 1
  | .map entries => uptoBulkEntries entries + 1
  | .held _ => 1
def uptoBulkAll {H : Type} : List (DataW H) → Nat
  | [] => 0
  | d :: r => uptoBulk d + uptoBulkAll r
def uptoBulkEntries {H : Type} : List (Lit × DataW H) → Nat
  | [] => 0
  | x :: r => uptoBulkEntry x + uptoBulkEntries r
def uptoBulkEntry {H : Type} : Lit × DataW H → Nat
  | (.string bytes, d) => bytes.length + uptoBulk d + 1
  | (_, d) => uptoBulk d + 1
 end
def uptoSmall : (H : Type) → List (DataW H) → Bool := fun _ ds => decide (uptoBulkAll ds ≤ 1048576)
def OpenSpec.upto (s : _root_.Go.ChangeSpec) : _root_.Go.OpenSpec := { _root_.Go.OpenSpec.ofChange s with cond := some uptoSmall }

/-- 'warrantorlaw13.RunSteps', WHERE WHAT IT READS IS OF BULK AT MOST 1048576: true; the input reads as it did. -/
def runStepsUptoRow : OpenClaim := { program := "ytpcpbeklaibdfaa", sum := "45dff73854039cd0f9cfbfcda4a5dcf103a9de2808d576ebb8551d4b3c8515db", func := "warrantor/warrantorlaw13.RunSteps", spec := "runSteps", unfollowed := true, recurses := true, apart := false, narrowed := true }
def RunStepsUptoSaid : Prop := runStepsUptoRow.holds Try.pinned (OpenSpec.upto runStepsSpec)

/-- 'warrantorlaw13.RunRuns', WHERE WHAT IT READS IS OF BULK AT MOST 1048576: true; the input reads as it did. -/
def runRunsUptoRow : OpenClaim := { program := "ytpcpbeklaibdfaa", sum := "45dff73854039cd0f9cfbfcda4a5dcf103a9de2808d576ebb8551d4b3c8515db", func := "warrantor/warrantorlaw13.RunRuns", spec := "runRuns", unfollowed := true, recurses := true, apart := false, narrowed := true }
def RunRunsUptoSaid : Prop := runRunsUptoRow.holds Try.pinned (OpenSpec.upto runRunsSpec)

/-- 'warrantorlaw13.RunComes', WHERE WHAT IT READS IS OF BULK AT MOST 1048576: true; the input reads as it did. -/
def runComesUptoRow : OpenClaim := { program := "ytpcpbeklaibdfaa", sum := "45dff73854039cd0f9cfbfcda4a5dcf103a9de2808d576ebb8551d4b3c8515db", func := "warrantor/warrantorlaw13.RunComes", spec := "runComes", unfollowed := true, recurses := true, apart := false, narrowed := true }
def RunComesUptoSaid : Prop := runComesUptoRow.holds Try.pinned (OpenSpec.upto runComesSpec)

end Rows
end Go.Proofs.Ytpcpbeklaibdfaa
