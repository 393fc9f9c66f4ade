/-
  No cell of these rows narrows 'for every input' (looked for: loops, veiled, ifaces, maps, wideKeys, modest, calm, conditions, laid).
  DERIVED. THE GIVEN ROWS OF THIS SEAT. 8 by the template 'for every input the law returns true; each argument reads behind the call as it read before'; 0 by the template 'total and deterministic' (their statements: YtgbndakiiblhmaaTotals.lean).
  GIVEN WITH THE SEED: the statements are not yours to turn. If you find one false, say at which input.
  Laid BY PROGRAM, IN A SANDBOX (cutbox-rows.mjs): the forced cells as the released guide's own fill.sh prints them over the translation 5bf4a38faf571b0f… (all of the seat's roots in one cut). By AI agents, Wed Nov 11 2026. No macro, syntax, notation, axiom, sorry.
-/
import Derived.Test.YtgbndakiiblhmaaChecked
import GoSem.Claim
import GoSem.ClaimJoined
import GoSem.ClaimMapViews
import Derived.JoinedTies
import Derived.KernelRfl
namespace Go.Proofs.Ytgbndakiiblhmaa
/- THE CELL 'sum', in the pinned program and in every row, IS THE sha256 OF THE DUMP (.gsa) THAT YtgbndakiiblhmaaProg.lean LOADS. Nothing in Lean hashes anything: it is a label: what it is worth is what the hold of that sum in a sandbox is worth. -/
noncomputable def Try.pinned : Pinned := { name := "ytgbndakiiblhmaa", sum := "5bf4a38faf571b0ff508911249ec9559efd2dc252dac46e515a6b777f010137f", checked := Try.checked }
namespace Rows
def none {H : Type} : Left H := { results := [], args := [] }

/-- 'warrantorlaw19.FnvSums': WHATEVER THE INPUT: true; the input reads as it did. -/
def fnvSumsSpec : ChangeSpec := { name := "fnvSums", fn := fun _ => fun
  | [d1, d2, d3] => { results := [.lit (.bool true)], args := [d1, d2, d3] }
  | _ => none }
def fnvSumsRow : OpenClaim := { program := "ytgbndakiiblhmaa", sum := "5bf4a38faf571b0ff508911249ec9559efd2dc252dac46e515a6b777f010137f", func := "warrantor/warrantorlaw19.FnvSums", spec := "fnvSums", inPlace := ["internal/bytealg.IndexByteString"], unfollowed := true, recurses := true, apart := false }
def FnvSumsSaid : Prop := fnvSumsRow.holds Try.pinned (OpenSpec.ofChange fnvSumsSpec)

/-- ITS FALSE NEIGHBOUR: 'it returns false'. Refute it at one input. -/
def fnvSumsWrong : ChangeSpec := { name := "fnvSums", fn := fun _ => fun
  | [d1, d2, d3] => { results := [.lit (.bool false)], args := [d1, d2, d3] }
  | _ => none }
def FnvSumsWrongFalsely : Prop := fnvSumsRow.holds Try.pinned (OpenSpec.ofChange fnvSumsWrong)

/-- 'warrantorlaw19.FnvLess': WHATEVER THE INPUT: true; the input reads as it did. -/
def fnvLessSpec : ChangeSpec := { name := "fnvLess", fn := fun _ => fun
  | [d1, d2, d3] => { results := [.lit (.bool true)], args := [d1, d2, d3] }
  | _ => none }
def fnvLessRow : OpenClaim := { program := "ytgbndakiiblhmaa", sum := "5bf4a38faf571b0ff508911249ec9559efd2dc252dac46e515a6b777f010137f", func := "warrantor/warrantorlaw19.FnvLess", spec := "fnvLess", inPlace := ["internal/bytealg.IndexByteString"], unfollowed := true, recurses := true, apart := false }
def FnvLessSaid : Prop := fnvLessRow.holds Try.pinned (OpenSpec.ofChange fnvLessSpec)

/-- ITS FALSE NEIGHBOUR: 'it returns false'. Refute it at one input. -/
def fnvLessWrong : ChangeSpec := { name := "fnvLess", fn := fun _ => fun
  | [d1, d2, d3] => { results := [.lit (.bool false)], args := [d1, d2, d3] }
  | _ => none }
def FnvLessWrongFalsely : Prop := fnvLessRow.holds Try.pinned (OpenSpec.ofChange fnvLessWrong)

/-- 'warrantorlaw19.FnvOne': WHATEVER THE INPUT: true; the input reads as it did. -/
def fnvOneSpec : ChangeSpec := { name := "fnvOne", fn := fun _ => fun
  | [d1, d2, d3] => { results := [.lit (.bool true)], args := [d1, d2, d3] }
  | _ => none }
def fnvOneRow : OpenClaim := { program := "ytgbndakiiblhmaa", sum := "5bf4a38faf571b0ff508911249ec9559efd2dc252dac46e515a6b777f010137f", func := "warrantor/warrantorlaw19.FnvOne", spec := "fnvOne", inPlace := ["internal/bytealg.IndexByteString"], unfollowed := true, recurses := true, apart := false }
def FnvOneSaid : Prop := fnvOneRow.holds Try.pinned (OpenSpec.ofChange fnvOneSpec)

/-- ITS FALSE NEIGHBOUR: 'it returns false'. Refute it at one input. -/
def fnvOneWrong : ChangeSpec := { name := "fnvOne", fn := fun _ => fun
  | [d1, d2, d3] => { results := [.lit (.bool false)], args := [d1, d2, d3] }
  | _ => none }
def FnvOneWrongFalsely : Prop := fnvOneRow.holds Try.pinned (OpenSpec.ofChange fnvOneWrong)

/-- 'warrantorlaw19.FnvTexts': WHATEVER THE INPUT: true; the input reads as it did. -/
def fnvTextsSpec : ChangeSpec := { name := "fnvTexts", fn := fun _ => fun
  | [d1, d2] => { results := [.lit (.bool true)], args := [d1, d2] }
  | _ => none }
def fnvTextsRow : OpenClaim := { program := "ytgbndakiiblhmaa", sum := "5bf4a38faf571b0ff508911249ec9559efd2dc252dac46e515a6b777f010137f", func := "warrantor/warrantorlaw19.FnvTexts", spec := "fnvTexts", inPlace := ["internal/bytealg.IndexByteString"], unfollowed := true, recurses := true, apart := false }
def FnvTextsSaid : Prop := fnvTextsRow.holds Try.pinned (OpenSpec.ofChange fnvTextsSpec)

/-- ITS FALSE NEIGHBOUR: 'it returns false'. Refute it at one input. -/
def fnvTextsWrong : ChangeSpec := { name := "fnvTexts", fn := fun _ => fun
  | [d1, d2] => { results := [.lit (.bool false)], args := [d1, d2] }
  | _ => none }
def FnvTextsWrongFalsely : Prop := fnvTextsRow.holds Try.pinned (OpenSpec.ofChange fnvTextsWrong)

/-- 'warrantorlaw08.DbmCloses': WHATEVER THE INPUT: true; the input reads as it did. -/
def dbmClosesSpec : ChangeSpec := { name := "dbmCloses", fn := fun _ => fun
  | [d1, d2] => { results := [.lit (.bool true)], args := [d1, d2] }
  | _ => none }
def dbmClosesRow : OpenClaim := { program := "ytgbndakiiblhmaa", sum := "5bf4a38faf571b0ff508911249ec9559efd2dc252dac46e515a6b777f010137f", func := "warrantor/warrantorlaw08.DbmCloses", spec := "dbmCloses", inPlace := ["slices.overlaps[int]"], unfollowed := true, recurses := true, apart := false }
def DbmClosesSaid : Prop := dbmClosesRow.holds Try.pinned (OpenSpec.ofChange dbmClosesSpec)

/-- ITS FALSE NEIGHBOUR: 'it returns false'. Refute it at one input. -/
def dbmClosesWrong : ChangeSpec := { name := "dbmCloses", fn := fun _ => fun
  | [d1, d2] => { results := [.lit (.bool false)], args := [d1, d2] }
  | _ => none }
def DbmClosesWrongFalsely : Prop := dbmClosesRow.holds Try.pinned (OpenSpec.ofChange dbmClosesWrong)

/-- 'warrantorlaw08.DbmChecks': WHATEVER THE INPUT: true; the input reads as it did. -/
def dbmChecksSpec : ChangeSpec := { name := "dbmChecks", fn := fun _ => fun
  | [d1, d2, d3, d4, d5] => { results := [.lit (.bool true)], args := [d1, d2, d3, d4, d5] }
  | _ => none }
def dbmChecksRow : OpenClaim := { program := "ytgbndakiiblhmaa", sum := "5bf4a38faf571b0ff508911249ec9559efd2dc252dac46e515a6b777f010137f", func := "warrantor/warrantorlaw08.DbmChecks", spec := "dbmChecks", inPlace := ["slices.overlaps[int]"], unfollowed := true, recurses := true, apart := false }
def DbmChecksSaid : Prop := dbmChecksRow.holds Try.pinned (OpenSpec.ofChange dbmChecksSpec)

/-- ITS FALSE NEIGHBOUR: 'it returns false'. Refute it at one input. -/
def dbmChecksWrong : ChangeSpec := { name := "dbmChecks", fn := fun _ => fun
  | [d1, d2, d3, d4, d5] => { results := [.lit (.bool false)], args := [d1, d2, d3, d4, d5] }
  | _ => none }
def DbmChecksWrongFalsely : Prop := dbmChecksRow.holds Try.pinned (OpenSpec.ofChange dbmChecksWrong)

/-- 'warrantorlaw08.DbmHas': WHATEVER THE INPUT: true; the input reads as it did. -/
def dbmHasSpec : ChangeSpec := { name := "dbmHas", fn := fun _ => fun
  | [d1, d2] => { results := [.lit (.bool true)], args := [d1, d2] }
  | _ => none }
def dbmHasRow : OpenClaim := { program := "ytgbndakiiblhmaa", sum := "5bf4a38faf571b0ff508911249ec9559efd2dc252dac46e515a6b777f010137f", func := "warrantor/warrantorlaw08.DbmHas", spec := "dbmHas", inPlace := ["slices.overlaps[int]"], unfollowed := true, recurses := true, apart := false }
def DbmHasSaid : Prop := dbmHasRow.holds Try.pinned (OpenSpec.ofChange dbmHasSpec)

/-- ITS FALSE NEIGHBOUR: 'it returns false'. Refute it at one input. -/
def dbmHasWrong : ChangeSpec := { name := "dbmHas", fn := fun _ => fun
  | [d1, d2] => { results := [.lit (.bool false)], args := [d1, d2] }
  | _ => none }
def DbmHasWrongFalsely : Prop := dbmHasRow.holds Try.pinned (OpenSpec.ofChange dbmHasWrong)

/-- 'warrantorlaw08.DbmTight': WHATEVER THE INPUT: true; the input reads as it did. -/
def dbmTightSpec : ChangeSpec := { name := "dbmTight", fn := fun _ => fun
  | [d1, d2, d3] => { results := [.lit (.bool true)], args := [d1, d2, d3] }
  | _ => none }
def dbmTightRow : OpenClaim := { program := "ytgbndakiiblhmaa", sum := "5bf4a38faf571b0ff508911249ec9559efd2dc252dac46e515a6b777f010137f", func := "warrantor/warrantorlaw08.DbmTight", spec := "dbmTight", inPlace := ["slices.overlaps[int]"], unfollowed := true, recurses := true, apart := false }
def DbmTightSaid : Prop := dbmTightRow.holds Try.pinned (OpenSpec.ofChange dbmTightSpec)

/-- ITS FALSE NEIGHBOUR: 'it returns false'. Refute it at one input. -/
def dbmTightWrong : ChangeSpec := { name := "dbmTight", fn := fun _ => fun
  | [d1, d2, d3] => { results := [.lit (.bool false)], args := [d1, d2, d3] }
  | _ => none }
def DbmTightWrongFalsely : Prop := dbmTightRow.holds Try.pinned (OpenSpec.ofChange dbmTightWrong)

/- THE SECOND FORM. 'bulk': how many values and letters a reading holds, each counted each time it is reached (what is shared counts as often as it is met; a slice's spare places count too). A statement '..UptoSaid' is the law's where the arguments, and the package variables that the reading takes, are together of bulk at most 1048576: NARROWER than '..Said'. Prove '..Said' where nothing that the law and all that it calls make is longer than what came in: it says more and counts as full. Else prove '..UptoSaid'. A law counts once. -/
mutual
def uptoBulk {H : Type} : DataW H → Nat
  | .lit (.string bytes) => bytes.length + 1
  | .lit _ => 1
  | .nil => 1
  | .ptr d => uptoBulk d + 1
  | .slice elems spare => uptoBulkAll elems + uptoBulkAll spare + 1
  | .agg parts => uptoBulkAll parts + 1
  | .iface _ d => uptoBulk d + 1
  | .map entries => uptoBulkEntries entries + 1
  | .held _ => 1
def uptoBulkAll {H : Type} : List (DataW H) → Nat
  | [] => 0
  | d :: r => uptoBulk d + uptoBulkAll r
def uptoBulkEntries {H : Type} : List (Lit × DataW H) → Nat
  | [] => 0
  | x :: r => uptoBulkEntry x + uptoBulkEntries r
def uptoBulkEntry {H : Type} : Lit × DataW H → Nat
  | (.string bytes, d) => bytes.length + uptoBulk d + 1
  | (_, d) => uptoBulk d + 1
 end
def uptoSmall : (H : Type) → List (DataW H) → Bool := fun _ ds => decide (uptoBulkAll ds ≤ 1048576)
def OpenSpec.upto (s : _root_.Go.ChangeSpec) : _root_.Go.OpenSpec := { _root_.Go.OpenSpec.ofChange s with cond := some uptoSmall }

/-- 'warrantorlaw19.FnvSums', WHERE WHAT IT READS IS OF BULK AT MOST 1048576: true; the input reads as it did. -/
def fnvSumsUptoRow : OpenClaim := { program := "ytgbndakiiblhmaa", sum := "5bf4a38faf571b0ff508911249ec9559efd2dc252dac46e515a6b777f010137f", func := "warrantor/warrantorlaw19.FnvSums", spec := "fnvSums", inPlace := ["internal/bytealg.IndexByteString"], unfollowed := true, recurses := true, apart := false, narrowed := true }
def FnvSumsUptoSaid : Prop := fnvSumsUptoRow.holds Try.pinned (OpenSpec.upto fnvSumsSpec)

/-- 'warrantorlaw19.FnvLess', WHERE WHAT IT READS IS OF BULK AT MOST 1048576: true; the input reads as it did. -/
def fnvLessUptoRow : OpenClaim := { program := "ytgbndakiiblhmaa", sum := "5bf4a38faf571b0ff508911249ec9559efd2dc252dac46e515a6b777f010137f", func := "warrantor/warrantorlaw19.FnvLess", spec := "fnvLess", inPlace := ["internal/bytealg.IndexByteString"], unfollowed := true, recurses := true, apart := false, narrowed := true }
def FnvLessUptoSaid : Prop := fnvLessUptoRow.holds Try.pinned (OpenSpec.upto fnvLessSpec)

/-- 'warrantorlaw19.FnvOne', WHERE WHAT IT READS IS OF BULK AT MOST 1048576: true; the input reads as it did. -/
def fnvOneUptoRow : OpenClaim := { program := "ytgbndakiiblhmaa", sum := "5bf4a38faf571b0ff508911249ec9559efd2dc252dac46e515a6b777f010137f", func := "warrantor/warrantorlaw19.FnvOne", spec := "fnvOne", inPlace := ["internal/bytealg.IndexByteString"], unfollowed := true, recurses := true, apart := false, narrowed := true }
def FnvOneUptoSaid : Prop := fnvOneUptoRow.holds Try.pinned (OpenSpec.upto fnvOneSpec)

/-- 'warrantorlaw19.FnvTexts', WHERE WHAT IT READS IS OF BULK AT MOST 1048576: true; the input reads as it did. -/
def fnvTextsUptoRow : OpenClaim := { program := "ytgbndakiiblhmaa", sum := "5bf4a38faf571b0ff508911249ec9559efd2dc252dac46e515a6b777f010137f", func := "warrantor/warrantorlaw19.FnvTexts", spec := "fnvTexts", inPlace := ["internal/bytealg.IndexByteString"], unfollowed := true, recurses := true, apart := false, narrowed := true }
def FnvTextsUptoSaid : Prop := fnvTextsUptoRow.holds Try.pinned (OpenSpec.upto fnvTextsSpec)

/-- 'warrantorlaw08.DbmCloses', WHERE WHAT IT READS IS OF BULK AT MOST 1048576: true; the input reads as it did. -/
def dbmClosesUptoRow : OpenClaim := { program := "ytgbndakiiblhmaa", sum := "5bf4a38faf571b0ff508911249ec9559efd2dc252dac46e515a6b777f010137f", func := "warrantor/warrantorlaw08.DbmCloses", spec := "dbmCloses", inPlace := ["slices.overlaps[int]"], unfollowed := true, recurses := true, apart := false, narrowed := true }
def DbmClosesUptoSaid : Prop := dbmClosesUptoRow.holds Try.pinned (OpenSpec.upto dbmClosesSpec)

/-- 'warrantorlaw08.DbmChecks', WHERE WHAT IT READS IS OF BULK AT MOST 1048576: true; the input reads as it did. -/
def dbmChecksUptoRow : OpenClaim := { program := "ytgbndakiiblhmaa", sum := "5bf4a38faf571b0ff508911249ec9559efd2dc252dac46e515a6b777f010137f", func := "warrantor/warrantorlaw08.DbmChecks", spec := "dbmChecks", inPlace := ["slices.overlaps[int]"], unfollowed := true, recurses := true, apart := false, narrowed := true }
def DbmChecksUptoSaid : Prop := dbmChecksUptoRow.holds Try.pinned (OpenSpec.upto dbmChecksSpec)

/-- 'warrantorlaw08.DbmHas', WHERE WHAT IT READS IS OF BULK AT MOST 1048576: true; the input reads as it did. -/
def dbmHasUptoRow : OpenClaim := { program := "ytgbndakiiblhmaa", sum := "5bf4a38faf571b0ff508911249ec9559efd2dc252dac46e515a6b777f010137f", func := "warrantor/warrantorlaw08.DbmHas", spec := "dbmHas", inPlace := ["slices.overlaps[int]"], unfollowed := true, recurses := true, apart := false, narrowed := true }
def DbmHasUptoSaid : Prop := dbmHasUptoRow.holds Try.pinned (OpenSpec.upto dbmHasSpec)

/-- 'warrantorlaw08.DbmTight', WHERE WHAT IT READS IS OF BULK AT MOST 1048576: true; the input reads as it did. -/
def dbmTightUptoRow : OpenClaim := { program := "ytgbndakiiblhmaa", sum := "5bf4a38faf571b0ff508911249ec9559efd2dc252dac46e515a6b777f010137f", func := "warrantor/warrantorlaw08.DbmTight", spec := "dbmTight", inPlace := ["slices.overlaps[int]"], unfollowed := true, recurses := true, apart := false, narrowed := true }
def DbmTightUptoSaid : Prop := dbmTightUptoRow.holds Try.pinned (OpenSpec.upto dbmTightSpec)

end Rows
end Go.Proofs.Ytgbndakiiblhmaa
