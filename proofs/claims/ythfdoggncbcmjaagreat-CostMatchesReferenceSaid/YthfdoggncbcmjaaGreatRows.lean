/-
  NARROWER THAN 'FOR EVERY INPUT', by the rows' own cells (each row's printed sentence says how): CostSureMatchesReference: loops · CostHistories: loops · CostEvidence: loops.
  DERIVED. THE GIVEN ROWS OF THIS SEAT. 4 by the template 'for every input the law returns true; each argument reads behind the call as it read before'; 0 by the template 'total and deterministic' (their statements: YthfdoggncbcmjaaGreatTotals.lean).
  GIVEN WITH THE SEED: the statements are not yours to turn. If you find one false, say at which input.
  Laid BY PROGRAM, IN A SANDBOX (cutbox-rows.mjs): the forced cells as the released guide's own fill.sh prints them over the translation 7b86fc66521fa5f3… (all of the seat's roots in one cut). By AI agents, Wed Nov 11 2026. No macro, syntax, notation, axiom, sorry.
-/
import Derived.Test.YthfdoggncbcmjaaGreatChecked
import GoSem.Claim
import GoSem.ClaimJoined
import GoSem.ClaimMapViews
import Derived.JoinedTies
import Derived.KernelRfl
namespace Go.Proofs.YthfdoggncbcmjaaGreat
/- THE CELL 'sum', in the pinned program and in every row, IS THE sha256 OF THE DUMP (.gsa) THAT YthfdoggncbcmjaaGreatProg.lean LOADS. Nothing in Lean hashes anything: it is a label: what it is worth is what the hold of that sum in a sandbox is worth. -/
noncomputable def Tryz.pinned : Pinned := { name := "ythfdoggncbcmjaagreat", sum := "7b86fc66521fa5f356657f09fbab0c48e21cfe986630f63d74a688ccc180007f", checked := Tryz.checked }
namespace Rows
def none {H : Type} : Left H := { results := [], args := [] }

/-- 'bogielaw43.CostMatchesReference': WHATEVER THE INPUT: true; the input reads as it did. -/
def costMatchesReferenceSpec : ChangeSpec := { name := "costMatchesReference", fn := fun _ => fun
  | [d1, d2, d3] => { results := [.lit (.bool true)], args := [d1, d2, d3] }
  | _ => none }
def costMatchesReferenceRow : OpenClaim := { program := "ythfdoggncbcmjaagreat", sum := "7b86fc66521fa5f356657f09fbab0c48e21cfe986630f63d74a688ccc180007f", func := "bogie/bogielaw43.CostMatchesReference", spec := "costMatchesReference", inPlace := ["internal/bytealg.IndexByteString", "slices.overlaps[bogie/api.Part]", "slices.overlaps[bogie/api.Prop]", "maps.clone"], unfollowed := true, recurses := true, plainKeys := false, apart := false }
def CostMatchesReferenceSaid : Prop := costMatchesReferenceRow.holds Tryz.pinned (OpenSpec.ofChange costMatchesReferenceSpec)

/-- ITS FALSE NEIGHBOUR: 'it returns false'. Refute it at one input. -/
def costMatchesReferenceWrong : ChangeSpec := { name := "costMatchesReference", fn := fun _ => fun
  | [d1, d2, d3] => { results := [.lit (.bool false)], args := [d1, d2, d3] }
  | _ => none }
def CostMatchesReferenceWrongFalsely : Prop := costMatchesReferenceRow.holds Tryz.pinned (OpenSpec.ofChange costMatchesReferenceWrong)

/-- 'bogielaw43.CostSureMatchesReference': WHATEVER THE INPUT: true; the input reads as it did. -/
def costSureMatchesReferenceSpec : ChangeSpec := { name := "costSureMatchesReference", fn := fun _ => fun
  | [d1, d2, d3, d4] => { results := [.lit (.bool true)], args := [d1, d2, d3, d4] }
  | _ => none }
def costSureMatchesReferenceRow : OpenClaim := { program := "ythfdoggncbcmjaagreat", sum := "7b86fc66521fa5f356657f09fbab0c48e21cfe986630f63d74a688ccc180007f", func := "bogie/bogielaw43.CostSureMatchesReference", spec := "costSureMatchesReference", inPlace := ["internal/bytealg.IndexByteString", "slices.overlaps[bogie/api.Part]", "slices.overlaps[bogie/api.Prop]", "maps.clone"], unfollowed := true, recurses := true, loops := true, plainKeys := false, apart := false }
def CostSureMatchesReferenceSaid : Prop := costSureMatchesReferenceRow.holds Tryz.pinned (OpenSpec.ofChange costSureMatchesReferenceSpec)

/-- ITS FALSE NEIGHBOUR: 'it returns false'. Refute it at one input. -/
def costSureMatchesReferenceWrong : ChangeSpec := { name := "costSureMatchesReference", fn := fun _ => fun
  | [d1, d2, d3, d4] => { results := [.lit (.bool false)], args := [d1, d2, d3, d4] }
  | _ => none }
def CostSureMatchesReferenceWrongFalsely : Prop := costSureMatchesReferenceRow.holds Tryz.pinned (OpenSpec.ofChange costSureMatchesReferenceWrong)

/-- 'bogielaw43.CostHistories': WHATEVER THE INPUT: true; the input reads as it did. -/
def costHistoriesSpec : ChangeSpec := { name := "costHistories", fn := fun _ => fun
  | [d1, d2, d3, d4] => { results := [.lit (.bool true)], args := [d1, d2, d3, d4] }
  | _ => none }
def costHistoriesRow : OpenClaim := { program := "ythfdoggncbcmjaagreat", sum := "7b86fc66521fa5f356657f09fbab0c48e21cfe986630f63d74a688ccc180007f", func := "bogie/bogielaw43.CostHistories", spec := "costHistories", inPlace := ["internal/bytealg.IndexByteString", "slices.overlaps[bogie/api.Part]", "slices.overlaps[bogie/api.Prop]", "maps.clone"], unfollowed := true, recurses := true, loops := true, plainKeys := false, apart := false }
def CostHistoriesSaid : Prop := costHistoriesRow.holds Tryz.pinned (OpenSpec.ofChange costHistoriesSpec)

/-- ITS FALSE NEIGHBOUR: 'it returns false'. Refute it at one input. -/
def costHistoriesWrong : ChangeSpec := { name := "costHistories", fn := fun _ => fun
  | [d1, d2, d3, d4] => { results := [.lit (.bool false)], args := [d1, d2, d3, d4] }
  | _ => none }
def CostHistoriesWrongFalsely : Prop := costHistoriesRow.holds Tryz.pinned (OpenSpec.ofChange costHistoriesWrong)

/-- 'bogielaw43.CostEvidence': WHATEVER THE INPUT: true; the input reads as it did. -/
def costEvidenceSpec : ChangeSpec := { name := "costEvidence", fn := fun _ => fun
  | [d1, d2, d3, d4, d5, d6] => { results := [.lit (.bool true)], args := [d1, d2, d3, d4, d5, d6] }
  | _ => none }
def costEvidenceRow : OpenClaim := { program := "ythfdoggncbcmjaagreat", sum := "7b86fc66521fa5f356657f09fbab0c48e21cfe986630f63d74a688ccc180007f", func := "bogie/bogielaw43.CostEvidence", spec := "costEvidence", inPlace := ["internal/bytealg.IndexByteString", "slices.overlaps[bogie/api.Part]", "slices.overlaps[bogie/api.Prop]", "maps.clone"], unfollowed := true, recurses := true, loops := true, plainKeys := false, apart := false }
def CostEvidenceSaid : Prop := costEvidenceRow.holds Tryz.pinned (OpenSpec.ofChange costEvidenceSpec)

/-- ITS FALSE NEIGHBOUR: 'it returns false'. Refute it at one input. -/
def costEvidenceWrong : ChangeSpec := { name := "costEvidence", fn := fun _ => fun
  | [d1, d2, d3, d4, d5, d6] => { results := [.lit (.bool false)], args := [d1, d2, d3, d4, d5, d6] }
  | _ => none }
def CostEvidenceWrongFalsely : Prop := costEvidenceRow.holds Tryz.pinned (OpenSpec.ofChange costEvidenceWrong)

/- THE SECOND FORM. 'bulk': how many values and letters a reading holds, each counted each time it is reached (what is shared counts as often as it is met; a slice's spare places count too). A statement '..UptoSaid' is the law's where the arguments, and the package variables that the reading takes, are together of bulk at most 1048576: NARROWER than '..Said'. Prove '..Said' where nothing that the law and all that it calls make is longer than what came in: it says more and counts as full. Else prove '..UptoSaid'. A law counts once. -/
mutual
def uptoBulk {H : Type} : DataW H → Nat
  | .lit (.string bytes) => bytes.length + 1
  | .lit _ => 1
  | .nil => 1
  | .ptr d => uptoBulk d + 1
  | .slice elems spare => uptoBulkAll elems + uptoBulkAll spare + 1
  | .agg parts => uptoBulkAll parts + 1
  | .iface _ d => uptoBulk d + 1
  | .map entries => uptoBulkEntries entries + 1
  | .held _ => 1
def uptoBulkAll {H : Type} : List (DataW H) → Nat
  | [] => 0
  | d :: r => uptoBulk d + uptoBulkAll r
def uptoBulkEntries {H : Type} : List (Lit × DataW H) → Nat
  | [] => 0
  | x :: r => uptoBulkEntry x + uptoBulkEntries r
def uptoBulkEntry {H : Type} : Lit × DataW H → Nat
  | (.string bytes, d) => bytes.length + uptoBulk d + 1
  | (_, d) => uptoBulk d + 1
 end
def uptoSmall : (H : Type) → List (DataW H) → Bool := fun _ ds => decide (uptoBulkAll ds ≤ 1048576)
def OpenSpec.upto (s : _root_.Go.ChangeSpec) : _root_.Go.OpenSpec := { _root_.Go.OpenSpec.ofChange s with cond := some uptoSmall }

/-- 'bogielaw43.CostMatchesReference', WHERE WHAT IT READS IS OF BULK AT MOST 1048576: true; the input reads as it did. -/
def costMatchesReferenceUptoRow : OpenClaim := { program := "ythfdoggncbcmjaagreat", sum := "7b86fc66521fa5f356657f09fbab0c48e21cfe986630f63d74a688ccc180007f", func := "bogie/bogielaw43.CostMatchesReference", spec := "costMatchesReference", inPlace := ["internal/bytealg.IndexByteString", "slices.overlaps[bogie/api.Part]", "slices.overlaps[bogie/api.Prop]", "maps.clone"], unfollowed := true, recurses := true, plainKeys := false, apart := false, narrowed := true }
def CostMatchesReferenceUptoSaid : Prop := costMatchesReferenceUptoRow.holds Tryz.pinned (OpenSpec.upto costMatchesReferenceSpec)

/-- 'bogielaw43.CostSureMatchesReference', WHERE WHAT IT READS IS OF BULK AT MOST 1048576: true; the input reads as it did. -/
def costSureMatchesReferenceUptoRow : OpenClaim := { program := "ythfdoggncbcmjaagreat", sum := "7b86fc66521fa5f356657f09fbab0c48e21cfe986630f63d74a688ccc180007f", func := "bogie/bogielaw43.CostSureMatchesReference", spec := "costSureMatchesReference", inPlace := ["internal/bytealg.IndexByteString", "slices.overlaps[bogie/api.Part]", "slices.overlaps[bogie/api.Prop]", "maps.clone"], unfollowed := true, recurses := true, loops := true, plainKeys := false, apart := false, narrowed := true }
def CostSureMatchesReferenceUptoSaid : Prop := costSureMatchesReferenceUptoRow.holds Tryz.pinned (OpenSpec.upto costSureMatchesReferenceSpec)

/-- 'bogielaw43.CostHistories', WHERE WHAT IT READS IS OF BULK AT MOST 1048576: true; the input reads as it did. -/
def costHistoriesUptoRow : OpenClaim := { program := "ythfdoggncbcmjaagreat", sum := "7b86fc66521fa5f356657f09fbab0c48e21cfe986630f63d74a688ccc180007f", func := "bogie/bogielaw43.CostHistories", spec := "costHistories", inPlace := ["internal/bytealg.IndexByteString", "slices.overlaps[bogie/api.Part]", "slices.overlaps[bogie/api.Prop]", "maps.clone"], unfollowed := true, recurses := true, loops := true, plainKeys := false, apart := false, narrowed := true }
def CostHistoriesUptoSaid : Prop := costHistoriesUptoRow.holds Tryz.pinned (OpenSpec.upto costHistoriesSpec)

/-- 'bogielaw43.CostEvidence', WHERE WHAT IT READS IS OF BULK AT MOST 1048576: true; the input reads as it did. -/
def costEvidenceUptoRow : OpenClaim := { program := "ythfdoggncbcmjaagreat", sum := "7b86fc66521fa5f356657f09fbab0c48e21cfe986630f63d74a688ccc180007f", func := "bogie/bogielaw43.CostEvidence", spec := "costEvidence", inPlace := ["internal/bytealg.IndexByteString", "slices.overlaps[bogie/api.Part]", "slices.overlaps[bogie/api.Prop]", "maps.clone"], unfollowed := true, recurses := true, loops := true, plainKeys := false, apart := false, narrowed := true }
def CostEvidenceUptoSaid : Prop := costEvidenceUptoRow.holds Tryz.pinned (OpenSpec.upto costEvidenceSpec)

end Rows
end Go.Proofs.YthfdoggncbcmjaaGreat
