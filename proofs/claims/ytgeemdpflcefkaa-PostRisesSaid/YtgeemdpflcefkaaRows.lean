/-
  No cell of these rows narrows 'for every input' (looked for: loops, veiled, ifaces, maps, wideKeys, modest, calm, conditions, laid).
  DERIVED. THE GIVEN ROWS OF THIS SEAT. 9 by the template 'for every input the law returns true; each argument reads behind the call as it read before'; 0 by the template 'total and deterministic' (their statements: YtgeemdpflcefkaaTotals.lean).
  GIVEN WITH THE SEED: the statements are not yours to turn. If you find one false, say at which input.
  Laid BY PROGRAM, IN A SANDBOX (cutbox-rows.mjs): the forced cells as the released guide's own fill.sh prints them over the translation 6205741e44d028c1… (all of the seat's roots in one cut). By AI agents, Wed Nov 11 2026. No macro, syntax, notation, axiom, sorry.
-/
import Derived.Test.YtgeemdpflcefkaaChecked
import GoSem.Claim
import GoSem.ClaimJoined
import GoSem.ClaimMapViews
import Derived.JoinedTies
import Derived.KernelRfl
namespace Go.Proofs.Ytgeemdpflcefkaa
/- THE CELL 'sum', in the pinned program and in every row, IS THE sha256 OF THE DUMP (.gsa) THAT YtgeemdpflcefkaaProg.lean LOADS. Nothing in Lean hashes anything: it is a label: what it is worth is what the hold of that sum in a sandbox is worth. -/
noncomputable def Try.pinned : Pinned := { name := "ytgeemdpflcefkaa", sum := "6205741e44d028c132cd085134a048713da8ad1ea9274e4f76196a0767fc9d5a", checked := Try.checked }
namespace Rows
def none {H : Type} : Left H := { results := [], args := [] }

/-- 'warrantorlaw14.PostTells': WHATEVER THE INPUT: true; the input reads as it did. -/
def postTellsSpec : ChangeSpec := { name := "postTells", fn := fun _ => fun
  | [d1, d2] => { results := [.lit (.bool true)], args := [d1, d2] }
  | _ => none }
def postTellsRow : OpenClaim := { program := "ytgeemdpflcefkaa", sum := "6205741e44d028c132cd085134a048713da8ad1ea9274e4f76196a0767fc9d5a", func := "warrantor/warrantorlaw14.PostTells", spec := "postTells", unfollowed := true, recurses := true, apart := false }
def PostTellsSaid : Prop := postTellsRow.holds Try.pinned (OpenSpec.ofChange postTellsSpec)

/-- ITS FALSE NEIGHBOUR: 'it returns false'. Refute it at one input. -/
def postTellsWrong : ChangeSpec := { name := "postTells", fn := fun _ => fun
  | [d1, d2] => { results := [.lit (.bool false)], args := [d1, d2] }
  | _ => none }
def PostTellsWrongFalsely : Prop := postTellsRow.holds Try.pinned (OpenSpec.ofChange postTellsWrong)

/-- 'warrantorlaw09.ZoneOne': WHATEVER THE INPUT: true; the input reads as it did. -/
def zoneOneSpec : ChangeSpec := { name := "zoneOne", fn := fun _ => fun
  | [d1, d2, d3, d4] => { results := [.lit (.bool true)], args := [d1, d2, d3, d4] }
  | _ => none }
def zoneOneRow : OpenClaim := { program := "ytgeemdpflcefkaa", sum := "6205741e44d028c132cd085134a048713da8ad1ea9274e4f76196a0767fc9d5a", func := "warrantor/warrantorlaw09.ZoneOne", spec := "zoneOne", unfollowed := true, recurses := true, apart := false }
def ZoneOneSaid : Prop := zoneOneRow.holds Try.pinned (OpenSpec.ofChange zoneOneSpec)

/-- ITS FALSE NEIGHBOUR: 'it returns false'. Refute it at one input. -/
def zoneOneWrong : ChangeSpec := { name := "zoneOne", fn := fun _ => fun
  | [d1, d2, d3, d4] => { results := [.lit (.bool false)], args := [d1, d2, d3, d4] }
  | _ => none }
def ZoneOneWrongFalsely : Prop := zoneOneRow.holds Try.pinned (OpenSpec.ofChange zoneOneWrong)

/-- 'warrantorlaw14.PostRises': WHATEVER THE INPUT: true; the input reads as it did. -/
def postRisesSpec : ChangeSpec := { name := "postRises", fn := fun _ => fun
  | [d1, d2, d3] => { results := [.lit (.bool true)], args := [d1, d2, d3] }
  | _ => none }
def postRisesRow : OpenClaim := { program := "ytgeemdpflcefkaa", sum := "6205741e44d028c132cd085134a048713da8ad1ea9274e4f76196a0767fc9d5a", func := "warrantor/warrantorlaw14.PostRises", spec := "postRises", unfollowed := true, recurses := true, apart := false }
def PostRisesSaid : Prop := postRisesRow.holds Try.pinned (OpenSpec.ofChange postRisesSpec)

/-- ITS FALSE NEIGHBOUR: 'it returns false'. Refute it at one input. -/
def postRisesWrong : ChangeSpec := { name := "postRises", fn := fun _ => fun
  | [d1, d2, d3] => { results := [.lit (.bool false)], args := [d1, d2, d3] }
  | _ => none }
def PostRisesWrongFalsely : Prop := postRisesRow.holds Try.pinned (OpenSpec.ofChange postRisesWrong)

/-- 'warrantorlaw09.ZoneTwo': WHATEVER THE INPUT: true; the input reads as it did. -/
def zoneTwoSpec : ChangeSpec := { name := "zoneTwo", fn := fun _ => fun
  | [d1, d2] => { results := [.lit (.bool true)], args := [d1, d2] }
  | _ => none }
def zoneTwoRow : OpenClaim := { program := "ytgeemdpflcefkaa", sum := "6205741e44d028c132cd085134a048713da8ad1ea9274e4f76196a0767fc9d5a", func := "warrantor/warrantorlaw09.ZoneTwo", spec := "zoneTwo", unfollowed := true, recurses := true, apart := false }
def ZoneTwoSaid : Prop := zoneTwoRow.holds Try.pinned (OpenSpec.ofChange zoneTwoSpec)

/-- ITS FALSE NEIGHBOUR: 'it returns false'. Refute it at one input. -/
def zoneTwoWrong : ChangeSpec := { name := "zoneTwo", fn := fun _ => fun
  | [d1, d2] => { results := [.lit (.bool false)], args := [d1, d2] }
  | _ => none }
def ZoneTwoWrongFalsely : Prop := zoneTwoRow.holds Try.pinned (OpenSpec.ofChange zoneTwoWrong)

/-- 'warrantorlaw09.ZoneSteps': WHATEVER THE INPUT: true; the input reads as it did. -/
def zoneStepsSpec : ChangeSpec := { name := "zoneSteps", fn := fun _ => fun
  | [d1, d2, d3, d4, d5] => { results := [.lit (.bool true)], args := [d1, d2, d3, d4, d5] }
  | _ => none }
def zoneStepsRow : OpenClaim := { program := "ytgeemdpflcefkaa", sum := "6205741e44d028c132cd085134a048713da8ad1ea9274e4f76196a0767fc9d5a", func := "warrantor/warrantorlaw09.ZoneSteps", spec := "zoneSteps", inPlace := ["slices.overlaps[int]"], unfollowed := true, recurses := true, apart := false }
def ZoneStepsSaid : Prop := zoneStepsRow.holds Try.pinned (OpenSpec.ofChange zoneStepsSpec)

/-- ITS FALSE NEIGHBOUR: 'it returns false'. Refute it at one input. -/
def zoneStepsWrong : ChangeSpec := { name := "zoneSteps", fn := fun _ => fun
  | [d1, d2, d3, d4, d5] => { results := [.lit (.bool false)], args := [d1, d2, d3, d4, d5] }
  | _ => none }
def ZoneStepsWrongFalsely : Prop := zoneStepsRow.holds Try.pinned (OpenSpec.ofChange zoneStepsWrong)

/-- 'warrantorlaw14.PostHas': WHATEVER THE INPUT: true; the input reads as it did. -/
def postHasSpec : ChangeSpec := { name := "postHas", fn := fun _ => fun
  | [d1, d2, d3, d4] => { results := [.lit (.bool true)], args := [d1, d2, d3, d4] }
  | _ => none }
def postHasRow : OpenClaim := { program := "ytgeemdpflcefkaa", sum := "6205741e44d028c132cd085134a048713da8ad1ea9274e4f76196a0767fc9d5a", func := "warrantor/warrantorlaw14.PostHas", spec := "postHas", inPlace := ["slices.overlaps[int]"], unfollowed := true, recurses := true, apart := false }
def PostHasSaid : Prop := postHasRow.holds Try.pinned (OpenSpec.ofChange postHasSpec)

/-- ITS FALSE NEIGHBOUR: 'it returns false'. Refute it at one input. -/
def postHasWrong : ChangeSpec := { name := "postHas", fn := fun _ => fun
  | [d1, d2, d3, d4] => { results := [.lit (.bool false)], args := [d1, d2, d3, d4] }
  | _ => none }
def PostHasWrongFalsely : Prop := postHasRow.holds Try.pinned (OpenSpec.ofChange postHasWrong)

/-- 'warrantorlaw09.ZoneBoxes': WHATEVER THE INPUT: true; the input reads as it did. -/
def zoneBoxesSpec : ChangeSpec := { name := "zoneBoxes", fn := fun _ => fun
  | [d1, d2] => { results := [.lit (.bool true)], args := [d1, d2] }
  | _ => none }
def zoneBoxesRow : OpenClaim := { program := "ytgeemdpflcefkaa", sum := "6205741e44d028c132cd085134a048713da8ad1ea9274e4f76196a0767fc9d5a", func := "warrantor/warrantorlaw09.ZoneBoxes", spec := "zoneBoxes", inPlace := ["slices.overlaps[int]"], unfollowed := true, recurses := true, apart := false }
def ZoneBoxesSaid : Prop := zoneBoxesRow.holds Try.pinned (OpenSpec.ofChange zoneBoxesSpec)

/-- ITS FALSE NEIGHBOUR: 'it returns false'. Refute it at one input. -/
def zoneBoxesWrong : ChangeSpec := { name := "zoneBoxes", fn := fun _ => fun
  | [d1, d2] => { results := [.lit (.bool false)], args := [d1, d2] }
  | _ => none }
def ZoneBoxesWrongFalsely : Prop := zoneBoxesRow.holds Try.pinned (OpenSpec.ofChange zoneBoxesWrong)

/-- 'warrantorlaw14.PostBack': WHATEVER THE INPUT: true; the input reads as it did. -/
def postBackSpec : ChangeSpec := { name := "postBack", fn := fun _ => fun
  | [d1, d2, d3] => { results := [.lit (.bool true)], args := [d1, d2, d3] }
  | _ => none }
def postBackRow : OpenClaim := { program := "ytgeemdpflcefkaa", sum := "6205741e44d028c132cd085134a048713da8ad1ea9274e4f76196a0767fc9d5a", func := "warrantor/warrantorlaw14.PostBack", spec := "postBack", inPlace := ["slices.overlaps[int]"], unfollowed := true, recurses := true, apart := false }
def PostBackSaid : Prop := postBackRow.holds Try.pinned (OpenSpec.ofChange postBackSpec)

/-- ITS FALSE NEIGHBOUR: 'it returns false'. Refute it at one input. -/
def postBackWrong : ChangeSpec := { name := "postBack", fn := fun _ => fun
  | [d1, d2, d3] => { results := [.lit (.bool false)], args := [d1, d2, d3] }
  | _ => none }
def PostBackWrongFalsely : Prop := postBackRow.holds Try.pinned (OpenSpec.ofChange postBackWrong)

/-- 'warrantorlaw09.ZoneHas': WHATEVER THE INPUT: true; the input reads as it did. -/
def zoneHasSpec : ChangeSpec := { name := "zoneHas", fn := fun _ => fun
  | [d1, d2, d3, d4, d5, d6] => { results := [.lit (.bool true)], args := [d1, d2, d3, d4, d5, d6] }
  | _ => none }
def zoneHasRow : OpenClaim := { program := "ytgeemdpflcefkaa", sum := "6205741e44d028c132cd085134a048713da8ad1ea9274e4f76196a0767fc9d5a", func := "warrantor/warrantorlaw09.ZoneHas", spec := "zoneHas", inPlace := ["slices.overlaps[int]"], unfollowed := true, recurses := true, apart := false }
def ZoneHasSaid : Prop := zoneHasRow.holds Try.pinned (OpenSpec.ofChange zoneHasSpec)

/-- ITS FALSE NEIGHBOUR: 'it returns false'. Refute it at one input. -/
def zoneHasWrong : ChangeSpec := { name := "zoneHas", fn := fun _ => fun
  | [d1, d2, d3, d4, d5, d6] => { results := [.lit (.bool false)], args := [d1, d2, d3, d4, d5, d6] }
  | _ => none }
def ZoneHasWrongFalsely : Prop := zoneHasRow.holds Try.pinned (OpenSpec.ofChange zoneHasWrong)

/- THE SECOND FORM. 'bulk': how many values and letters a reading holds, each counted each time it is reached (what is shared counts as often as it is met; a slice's spare places count too). A statement '..UptoSaid' is the law's where the arguments, and the package variables that the reading takes, are together of bulk at most 1048576: NARROWER than '..Said'. Prove '..Said' where nothing that the law and all that it calls make is longer than what came in: it says more and counts as full. Else prove '..UptoSaid'. A law counts once. -/
mutual
def uptoBulk {H : Type} : DataW H → Nat
  | .lit (.string bytes) => bytes.length + 1
  | .lit _ => 1
  | .nil => 1
  | .ptr d => uptoBulk d + 1
  | .slice elems spare => uptoBulkAll elems + uptoBulkAll spare + 1
  | .agg parts => uptoBulkAll parts + 1
  | .iface _ d => uptoBulk d + 1
  | .map entries => uptoBulkEntries entries + 1
  | .held _ => 1
def uptoBulkAll {H : Type} : List (DataW H) → Nat
  | [] => 0
  | d :: r => uptoBulk d + uptoBulkAll r
def uptoBulkEntries {H : Type} : List (Lit × DataW H) → Nat
  | [] => 0
  | x :: r => uptoBulkEntry x + uptoBulkEntries r
def uptoBulkEntry {H : Type} : Lit × DataW H → Nat
  | (.string bytes, d) => bytes.length + uptoBulk d + 1
  | (_, d) => uptoBulk d + 1
 end
def uptoSmall : (H : Type) → List (DataW H) → Bool := fun _ ds => decide (uptoBulkAll ds ≤ 1048576)
def OpenSpec.upto (s : _root_.Go.ChangeSpec) : _root_.Go.OpenSpec := { _root_.Go.OpenSpec.ofChange s with cond := some uptoSmall }

/-- 'warrantorlaw14.PostTells', WHERE WHAT IT READS IS OF BULK AT MOST 1048576: true; the input reads as it did. -/
def postTellsUptoRow : OpenClaim := { program := "ytgeemdpflcefkaa", sum := "6205741e44d028c132cd085134a048713da8ad1ea9274e4f76196a0767fc9d5a", func := "warrantor/warrantorlaw14.PostTells", spec := "postTells", unfollowed := true, recurses := true, apart := false, narrowed := true }
def PostTellsUptoSaid : Prop := postTellsUptoRow.holds Try.pinned (OpenSpec.upto postTellsSpec)

/-- 'warrantorlaw09.ZoneOne', WHERE WHAT IT READS IS OF BULK AT MOST 1048576: true; the input reads as it did. -/
def zoneOneUptoRow : OpenClaim := { program := "ytgeemdpflcefkaa", sum := "6205741e44d028c132cd085134a048713da8ad1ea9274e4f76196a0767fc9d5a", func := "warrantor/warrantorlaw09.ZoneOne", spec := "zoneOne", unfollowed := true, recurses := true, apart := false, narrowed := true }
def ZoneOneUptoSaid : Prop := zoneOneUptoRow.holds Try.pinned (OpenSpec.upto zoneOneSpec)

/-- 'warrantorlaw14.PostRises', WHERE WHAT IT READS IS OF BULK AT MOST 1048576: true; the input reads as it did. -/
def postRisesUptoRow : OpenClaim := { program := "ytgeemdpflcefkaa", sum := "6205741e44d028c132cd085134a048713da8ad1ea9274e4f76196a0767fc9d5a", func := "warrantor/warrantorlaw14.PostRises", spec := "postRises", unfollowed := true, recurses := true, apart := false, narrowed := true }
def PostRisesUptoSaid : Prop := postRisesUptoRow.holds Try.pinned (OpenSpec.upto postRisesSpec)

/-- 'warrantorlaw09.ZoneTwo', WHERE WHAT IT READS IS OF BULK AT MOST 1048576: true; the input reads as it did. -/
def zoneTwoUptoRow : OpenClaim := { program := "ytgeemdpflcefkaa", sum := "6205741e44d028c132cd085134a048713da8ad1ea9274e4f76196a0767fc9d5a", func := "warrantor/warrantorlaw09.ZoneTwo", spec := "zoneTwo", unfollowed := true, recurses := true, apart := false, narrowed := true }
def ZoneTwoUptoSaid : Prop := zoneTwoUptoRow.holds Try.pinned (OpenSpec.upto zoneTwoSpec)

/-- 'warrantorlaw09.ZoneSteps', WHERE WHAT IT READS IS OF BULK AT MOST 1048576: true; the input reads as it did. -/
def zoneStepsUptoRow : OpenClaim := { program := "ytgeemdpflcefkaa", sum := "6205741e44d028c132cd085134a048713da8ad1ea9274e4f76196a0767fc9d5a", func := "warrantor/warrantorlaw09.ZoneSteps", spec := "zoneSteps", inPlace := ["slices.overlaps[int]"], unfollowed := true, recurses := true, apart := false, narrowed := true }
def ZoneStepsUptoSaid : Prop := zoneStepsUptoRow.holds Try.pinned (OpenSpec.upto zoneStepsSpec)

/-- 'warrantorlaw14.PostHas', WHERE WHAT IT READS IS OF BULK AT MOST 1048576: true; the input reads as it did. -/
def postHasUptoRow : OpenClaim := { program := "ytgeemdpflcefkaa", sum := "6205741e44d028c132cd085134a048713da8ad1ea9274e4f76196a0767fc9d5a", func := "warrantor/warrantorlaw14.PostHas", spec := "postHas", inPlace := ["slices.overlaps[int]"], unfollowed := true, recurses := true, apart := false, narrowed := true }
def PostHasUptoSaid : Prop := postHasUptoRow.holds Try.pinned (OpenSpec.upto postHasSpec)

/-- 'warrantorlaw09.ZoneBoxes', WHERE WHAT IT READS IS OF BULK AT MOST 1048576: true; the input reads as it did. -/
def zoneBoxesUptoRow : OpenClaim := { program := "ytgeemdpflcefkaa", sum := "6205741e44d028c132cd085134a048713da8ad1ea9274e4f76196a0767fc9d5a", func := "warrantor/warrantorlaw09.ZoneBoxes", spec := "zoneBoxes", inPlace := ["slices.overlaps[int]"], unfollowed := true, recurses := true, apart := false, narrowed := true }
def ZoneBoxesUptoSaid : Prop := zoneBoxesUptoRow.holds Try.pinned (OpenSpec.upto zoneBoxesSpec)

/-- 'warrantorlaw14.PostBack', WHERE WHAT IT READS IS OF BULK AT MOST 1048576: true; the input reads as it did. -/
def postBackUptoRow : OpenClaim := { program := "ytgeemdpflcefkaa", sum := "6205741e44d028c132cd085134a048713da8ad1ea9274e4f76196a0767fc9d5a", func := "warrantor/warrantorlaw14.PostBack", spec := "postBack", inPlace := ["slices.overlaps[int]"], unfollowed := true, recurses := true, apart := false, narrowed := true }
def PostBackUptoSaid : Prop := postBackUptoRow.holds Try.pinned (OpenSpec.upto postBackSpec)

/-- 'warrantorlaw09.ZoneHas', WHERE WHAT IT READS IS OF BULK AT MOST 1048576: true; the input reads as it did. -/
def zoneHasUptoRow : OpenClaim := { program := "ytgeemdpflcefkaa", sum := "6205741e44d028c132cd085134a048713da8ad1ea9274e4f76196a0767fc9d5a", func := "warrantor/warrantorlaw09.ZoneHas", spec := "zoneHas", inPlace := ["slices.overlaps[int]"], unfollowed := true, recurses := true, apart := false, narrowed := true }
def ZoneHasUptoSaid : Prop := zoneHasUptoRow.holds Try.pinned (OpenSpec.upto zoneHasSpec)

end Rows
end Go.Proofs.Ytgeemdpflcefkaa
