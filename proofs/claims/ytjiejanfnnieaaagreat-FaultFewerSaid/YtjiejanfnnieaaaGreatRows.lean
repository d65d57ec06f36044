/-
  NARROWER THAN 'FOR EVERY INPUT', by the rows' own cells (each row's printed sentence says how): FaultMatchesReference: loops · FaultState: loops · FaultReasons: loops · FaultFewer: loops · FaultJoins: loops · FaultKnows: loops.
  DERIVED. THE GIVEN ROWS OF THIS SEAT. 6 by the template 'for every input the law returns true; each argument reads behind the call as it read before'; 0 by the template 'total and deterministic' (their statements: YtjiejanfnnieaaaGreatTotals.lean).
  GIVEN WITH THE SEED: the statements are not yours to turn. If you find one false, say at which input.
  Laid BY PROGRAM, IN A SANDBOX (cutbox-rows.mjs): the forced cells as the released guide's own fill.sh prints them over the translation cfec51c6a89554a3… (all of the seat's roots in one cut). By AI agents, Wed Nov 11 2026. No macro, syntax, notation, axiom, sorry.
-/
import Derived.Test.YtjiejanfnnieaaaGreatChecked
import GoSem.Claim
import GoSem.ClaimJoined
import GoSem.ClaimMapViews
import Derived.JoinedTies
import Derived.KernelRfl
namespace Go.Proofs.YtjiejanfnnieaaaGreat
/- THE CELL 'sum', in the pinned program and in every row, IS THE sha256 OF THE DUMP (.gsa) THAT YtjiejanfnnieaaaGreatProg.lean LOADS. Nothing in Lean hashes anything: it is a label: what it is worth is what the hold of that sum in a sandbox is worth. -/
noncomputable def Tryz.pinned : Pinned := { name := "ytjiejanfnnieaaagreat", sum := "cfec51c6a89554a33ca5d010e8c6a45845e4fb3e9f599057440344c21b2a14aa", checked := Tryz.checked }
namespace Rows
def none {H : Type} : Left H := { results := [], args := [] }

/-- 'bogielaw28.FaultMatchesReference': WHATEVER THE INPUT: true; the input reads as it did. -/
def faultMatchesReferenceSpec : ChangeSpec := { name := "faultMatchesReference", fn := fun _ => fun
  | [d1, d2, d3, d4, d5] => { results := [.lit (.bool true)], args := [d1, d2, d3, d4, d5] }
  | _ => none }
def faultMatchesReferenceRow : OpenClaim := { program := "ytjiejanfnnieaaagreat", sum := "cfec51c6a89554a33ca5d010e8c6a45845e4fb3e9f599057440344c21b2a14aa", func := "bogie/bogielaw28.FaultMatchesReference", spec := "faultMatchesReference", inPlace := ["internal/bytealg.IndexByteString", "slices.overlaps[bogie/api.Part]", "slices.overlaps[bogie/api.Prop]"], unfollowed := true, recurses := true, loops := true, plainKeys := false, apart := false }
def FaultMatchesReferenceSaid : Prop := faultMatchesReferenceRow.holds Tryz.pinned (OpenSpec.ofChange faultMatchesReferenceSpec)

/-- ITS FALSE NEIGHBOUR: 'it returns false'. Refute it at one input. -/
def faultMatchesReferenceWrong : ChangeSpec := { name := "faultMatchesReference", fn := fun _ => fun
  | [d1, d2, d3, d4, d5] => { results := [.lit (.bool false)], args := [d1, d2, d3, d4, d5] }
  | _ => none }
def FaultMatchesReferenceWrongFalsely : Prop := faultMatchesReferenceRow.holds Tryz.pinned (OpenSpec.ofChange faultMatchesReferenceWrong)

/-- 'bogielaw28.FaultState': WHATEVER THE INPUT: true; the input reads as it did. -/
def faultStateSpec : ChangeSpec := { name := "faultState", fn := fun _ => fun
  | [d1, d2, d3, d4, d5] => { results := [.lit (.bool true)], args := [d1, d2, d3, d4, d5] }
  | _ => none }
def faultStateRow : OpenClaim := { program := "ytjiejanfnnieaaagreat", sum := "cfec51c6a89554a33ca5d010e8c6a45845e4fb3e9f599057440344c21b2a14aa", func := "bogie/bogielaw28.FaultState", spec := "faultState", inPlace := ["internal/bytealg.IndexByteString", "slices.overlaps[bogie/api.Part]", "slices.overlaps[bogie/api.Prop]"], unfollowed := true, recurses := true, loops := true, plainKeys := false, apart := false }
def FaultStateSaid : Prop := faultStateRow.holds Tryz.pinned (OpenSpec.ofChange faultStateSpec)

/-- ITS FALSE NEIGHBOUR: 'it returns false'. Refute it at one input. -/
def faultStateWrong : ChangeSpec := { name := "faultState", fn := fun _ => fun
  | [d1, d2, d3, d4, d5] => { results := [.lit (.bool false)], args := [d1, d2, d3, d4, d5] }
  | _ => none }
def FaultStateWrongFalsely : Prop := faultStateRow.holds Tryz.pinned (OpenSpec.ofChange faultStateWrong)

/-- 'bogielaw28.FaultReasons': WHATEVER THE INPUT: true; the input reads as it did. -/
def faultReasonsSpec : ChangeSpec := { name := "faultReasons", fn := fun _ => fun
  | [d1, d2, d3, d4, d5, d6] => { results := [.lit (.bool true)], args := [d1, d2, d3, d4, d5, d6] }
  | _ => none }
def faultReasonsRow : OpenClaim := { program := "ytjiejanfnnieaaagreat", sum := "cfec51c6a89554a33ca5d010e8c6a45845e4fb3e9f599057440344c21b2a14aa", func := "bogie/bogielaw28.FaultReasons", spec := "faultReasons", inPlace := ["internal/bytealg.IndexByteString", "slices.overlaps[bogie/api.Part]", "slices.overlaps[bogie/api.Prop]"], unfollowed := true, recurses := true, loops := true, plainKeys := false, apart := false }
def FaultReasonsSaid : Prop := faultReasonsRow.holds Tryz.pinned (OpenSpec.ofChange faultReasonsSpec)

/-- ITS FALSE NEIGHBOUR: 'it returns false'. Refute it at one input. -/
def faultReasonsWrong : ChangeSpec := { name := "faultReasons", fn := fun _ => fun
  | [d1, d2, d3, d4, d5, d6] => { results := [.lit (.bool false)], args := [d1, d2, d3, d4, d5, d6] }
  | _ => none }
def FaultReasonsWrongFalsely : Prop := faultReasonsRow.holds Tryz.pinned (OpenSpec.ofChange faultReasonsWrong)

/-- 'bogielaw28.FaultFewer': WHATEVER THE INPUT: true; the input reads as it did. -/
def faultFewerSpec : ChangeSpec := { name := "faultFewer", fn := fun _ => fun
  | [d1, d2, d3, d4, d5, d6] => { results := [.lit (.bool true)], args := [d1, d2, d3, d4, d5, d6] }
  | _ => none }
def faultFewerRow : OpenClaim := { program := "ytjiejanfnnieaaagreat", sum := "cfec51c6a89554a33ca5d010e8c6a45845e4fb3e9f599057440344c21b2a14aa", func := "bogie/bogielaw28.FaultFewer", spec := "faultFewer", inPlace := ["internal/bytealg.IndexByteString", "slices.overlaps[bogie/api.Part]", "slices.overlaps[bogie/api.Prop]"], unfollowed := true, recurses := true, loops := true, plainKeys := false, apart := false }
def FaultFewerSaid : Prop := faultFewerRow.holds Tryz.pinned (OpenSpec.ofChange faultFewerSpec)

/-- ITS FALSE NEIGHBOUR: 'it returns false'. Refute it at one input. -/
def faultFewerWrong : ChangeSpec := { name := "faultFewer", fn := fun _ => fun
  | [d1, d2, d3, d4, d5, d6] => { results := [.lit (.bool false)], args := [d1, d2, d3, d4, d5, d6] }
  | _ => none }
def FaultFewerWrongFalsely : Prop := faultFewerRow.holds Tryz.pinned (OpenSpec.ofChange faultFewerWrong)

/-- 'bogielaw28.FaultJoins': WHATEVER THE INPUT: true; the input reads as it did. -/
def faultJoinsSpec : ChangeSpec := { name := "faultJoins", fn := fun _ => fun
  | [d1, d2, d3, d4, d5, d6] => { results := [.lit (.bool true)], args := [d1, d2, d3, d4, d5, d6] }
  | _ => none }
def faultJoinsRow : OpenClaim := { program := "ytjiejanfnnieaaagreat", sum := "cfec51c6a89554a33ca5d010e8c6a45845e4fb3e9f599057440344c21b2a14aa", func := "bogie/bogielaw28.FaultJoins", spec := "faultJoins", inPlace := ["internal/bytealg.IndexByteString", "slices.overlaps[bogie/api.Part]", "slices.overlaps[bogie/api.Prop]"], unfollowed := true, recurses := true, loops := true, plainKeys := false, apart := false }
def FaultJoinsSaid : Prop := faultJoinsRow.holds Tryz.pinned (OpenSpec.ofChange faultJoinsSpec)

/-- ITS FALSE NEIGHBOUR: 'it returns false'. Refute it at one input. -/
def faultJoinsWrong : ChangeSpec := { name := "faultJoins", fn := fun _ => fun
  | [d1, d2, d3, d4, d5, d6] => { results := [.lit (.bool false)], args := [d1, d2, d3, d4, d5, d6] }
  | _ => none }
def FaultJoinsWrongFalsely : Prop := faultJoinsRow.holds Tryz.pinned (OpenSpec.ofChange faultJoinsWrong)

/-- 'bogielaw28.FaultKnows': WHATEVER THE INPUT: true; the input reads as it did. -/
def faultKnowsSpec : ChangeSpec := { name := "faultKnows", fn := fun _ => fun
  | [d1, d2, d3, d4, d5, d6] => { results := [.lit (.bool true)], args := [d1, d2, d3, d4, d5, d6] }
  | _ => none }
def faultKnowsRow : OpenClaim := { program := "ytjiejanfnnieaaagreat", sum := "cfec51c6a89554a33ca5d010e8c6a45845e4fb3e9f599057440344c21b2a14aa", func := "bogie/bogielaw28.FaultKnows", spec := "faultKnows", inPlace := ["internal/bytealg.IndexByteString", "slices.overlaps[bogie/api.Part]", "slices.overlaps[bogie/api.Prop]"], unfollowed := true, recurses := true, loops := true, plainKeys := false, apart := false }
def FaultKnowsSaid : Prop := faultKnowsRow.holds Tryz.pinned (OpenSpec.ofChange faultKnowsSpec)

/-- ITS FALSE NEIGHBOUR: 'it returns false'. Refute it at one input. -/
def faultKnowsWrong : ChangeSpec := { name := "faultKnows", fn := fun _ => fun
  | [d1, d2, d3, d4, d5, d6] => { results := [.lit (.bool false)], args := [d1, d2, d3, d4, d5, d6] }
  | _ => none }
def FaultKnowsWrongFalsely : Prop := faultKnowsRow.holds Tryz.pinned (OpenSpec.ofChange faultKnowsWrong)

/- THE SECOND FORM. 'bulk': how many values and letters a reading holds, each counted each time it is reached (what is shared counts as often as it is met; a slice's spare places count too). A statement '..UptoSaid' is the law's where the arguments, and the package variables that the reading takes, are together of bulk at most 1048576: NARROWER than '..Said'. Prove '..Said' where nothing that the law and all that it calls make is longer than what came in: it says more and counts as full. Else prove '..UptoSaid'. A law counts once. -/
mutual
def uptoBulk {H : Type} : DataW H → Nat
  | .lit (.string bytes) => bytes.length + 1
  | .lit _ => 1
  | .nil => 1
  | .ptr d => uptoBulk d + 1
  | .slice elems spare => uptoBulkAll elems + uptoBulkAll spare + 1
  | .agg parts => uptoBulkAll parts + 1
  | .iface _ d => uptoBulk d + 1
  | .map entries => uptoBulkEntries entries + 1
  | .held _ => 1
def uptoBulkAll {H : Type} : List (DataW H) → Nat
  | [] => 0
  | d :: r => uptoBulk d + uptoBulkAll r
def uptoBulkEntries {H : Type} : List (Lit × DataW H) → Nat
  | [] => 0
  | x :: r => uptoBulkEntry x + uptoBulkEntries r
def uptoBulkEntry {H : Type} : Lit × DataW H → Nat
  | (.string bytes, d) => bytes.length + uptoBulk d + 1
  | (_, d) => uptoBulk d + 1
 end
def uptoSmall : (H : Type) → List (DataW H) → Bool := fun _ ds => decide (uptoBulkAll ds ≤ 1048576)
def OpenSpec.upto (s : _root_.Go.ChangeSpec) : _root_.Go.OpenSpec := { _root_.Go.OpenSpec.ofChange s with cond := some uptoSmall }

/-- 'bogielaw28.FaultMatchesReference', WHERE WHAT IT READS IS OF BULK AT MOST 1048576: true; the input reads as it did. -/
def faultMatchesReferenceUptoRow : OpenClaim := { program := "ytjiejanfnnieaaagreat", sum := "cfec51c6a89554a33ca5d010e8c6a45845e4fb3e9f599057440344c21b2a14aa", func := "bogie/bogielaw28.FaultMatchesReference", spec := "faultMatchesReference", inPlace := ["internal/bytealg.IndexByteString", "slices.overlaps[bogie/api.Part]", "slices.overlaps[bogie/api.Prop]"], unfollowed := true, recurses := true, loops := true, plainKeys := false, apart := false, narrowed := true }
def FaultMatchesReferenceUptoSaid : Prop := faultMatchesReferenceUptoRow.holds Tryz.pinned (OpenSpec.upto faultMatchesReferenceSpec)

/-- 'bogielaw28.FaultState', WHERE WHAT IT READS IS OF BULK AT MOST 1048576: true; the input reads as it did. -/
def faultStateUptoRow : OpenClaim := { program := "ytjiejanfnnieaaagreat", sum := "cfec51c6a89554a33ca5d010e8c6a45845e4fb3e9f599057440344c21b2a14aa", func := "bogie/bogielaw28.FaultState", spec := "faultState", inPlace := ["internal/bytealg.IndexByteString", "slices.overlaps[bogie/api.Part]", "slices.overlaps[bogie/api.Prop]"], unfollowed := true, recurses := true, loops := true, plainKeys := false, apart := false, narrowed := true }
def FaultStateUptoSaid : Prop := faultStateUptoRow.holds Tryz.pinned (OpenSpec.upto faultStateSpec)

/-- 'bogielaw28.FaultReasons', WHERE WHAT IT READS IS OF BULK AT MOST 1048576: true; the input reads as it did. -/
def faultReasonsUptoRow : OpenClaim := { program := "ytjiejanfnnieaaagreat", sum := "cfec51c6a89554a33ca5d010e8c6a45845e4fb3e9f599057440344c21b2a14aa", func := "bogie/bogielaw28.FaultReasons", spec := "faultReasons", inPlace := ["internal/bytealg.IndexByteString", "slices.overlaps[bogie/api.Part]", "slices.overlaps[bogie/api.Prop]"], unfollowed := true, recurses := true, loops := true, plainKeys := false, apart := false, narrowed := true }
def FaultReasonsUptoSaid : Prop := faultReasonsUptoRow.holds Tryz.pinned (OpenSpec.upto faultReasonsSpec)

/-- 'bogielaw28.FaultFewer', WHERE WHAT IT READS IS OF BULK AT MOST 1048576: true; the input reads as it did. -/
def faultFewerUptoRow : OpenClaim := { program := "ytjiejanfnnieaaagreat", sum := "cfec51c6a89554a33ca5d010e8c6a45845e4fb3e9f599057440344c21b2a14aa", func := "bogie/bogielaw28.FaultFewer", spec := "faultFewer", inPlace := ["internal/bytealg.IndexByteString", "slices.overlaps[bogie/api.Part]", "slices.overlaps[bogie/api.Prop]"], unfollowed := true, recurses := true, loops := true, plainKeys := false, apart := false, narrowed := true }
def FaultFewerUptoSaid : Prop := faultFewerUptoRow.holds Tryz.pinned (OpenSpec.upto faultFewerSpec)

/-- 'bogielaw28.FaultJoins', WHERE WHAT IT READS IS OF BULK AT MOST 1048576: true; the input reads as it did. -/
def faultJoinsUptoRow : OpenClaim := { program := "ytjiejanfnnieaaagreat", sum := "cfec51c6a89554a33ca5d010e8c6a45845e4fb3e9f599057440344c21b2a14aa", func := "bogie/bogielaw28.FaultJoins", spec := "faultJoins", inPlace := ["internal/bytealg.IndexByteString", "slices.overlaps[bogie/api.Part]", "slices.overlaps[bogie/api.Prop]"], unfollowed := true, recurses := true, loops := true, plainKeys := false, apart := false, narrowed := true }
def FaultJoinsUptoSaid : Prop := faultJoinsUptoRow.holds Tryz.pinned (OpenSpec.upto faultJoinsSpec)

/-- 'bogielaw28.FaultKnows', WHERE WHAT IT READS IS OF BULK AT MOST 1048576: true; the input reads as it did. -/
def faultKnowsUptoRow : OpenClaim := { program := "ytjiejanfnnieaaagreat", sum := "cfec51c6a89554a33ca5d010e8c6a45845e4fb3e9f599057440344c21b2a14aa", func := "bogie/bogielaw28.FaultKnows", spec := "faultKnows", inPlace := ["internal/bytealg.IndexByteString", "slices.overlaps[bogie/api.Part]", "slices.overlaps[bogie/api.Prop]"], unfollowed := true, recurses := true, loops := true, plainKeys := false, apart := false, narrowed := true }
def FaultKnowsUptoSaid : Prop := faultKnowsUptoRow.holds Tryz.pinned (OpenSpec.upto faultKnowsSpec)

end Rows
end Go.Proofs.YtjiejanfnnieaaaGreat
