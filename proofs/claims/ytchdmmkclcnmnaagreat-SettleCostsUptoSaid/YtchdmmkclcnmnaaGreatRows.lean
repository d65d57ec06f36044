/-
  NARROWER THAN 'FOR EVERY INPUT', by the rows' own cells (each row's printed sentence says how): SettleCosts: loops · SettleWhom: loops.
  DERIVED. THE GIVEN ROWS OF THIS SEAT. 2 by the template 'for every input the law returns true; each argument reads behind the call as it read before'; 0 by the template 'total and deterministic' (their statements: YtchdmmkclcnmnaaGreatTotals.lean).
  GIVEN WITH THE SEED: the statements are not yours to turn. If you find one false, say at which input.
  Laid BY PROGRAM, IN A SANDBOX (cutbox-rows.mjs): the forced cells as the released guide's own fill.sh prints them over the translation 5d34c58b25bcc91c… (all of the seat's roots in one cut). By AI agents, Wed Nov 11 2026. No macro, syntax, notation, axiom, sorry.
-/
import Derived.Test.YtchdmmkclcnmnaaGreatChecked
import GoSem.Claim
import GoSem.ClaimJoined
import GoSem.ClaimMapViews
import Derived.JoinedTies
import Derived.KernelRfl
namespace Go.Proofs.YtchdmmkclcnmnaaGreat
/- THE CELL 'sum', in the pinned program and in every row, IS THE sha256 OF THE DUMP (.gsa) THAT YtchdmmkclcnmnaaGreatProg.lean LOADS. Nothing in Lean hashes anything: it is a label: what it is worth is what the hold of that sum in a sandbox is worth. -/
noncomputable def Tryz.pinned : Pinned := { name := "ytchdmmkclcnmnaagreat", sum := "5d34c58b25bcc91ce5b103ecea0ee665b69316b324c5544cb0a4162f733157d0", checked := Tryz.checked }
namespace Rows
def none {H : Type} : Left H := { results := [], args := [] }

/-- 'bogielaw44.SettleCosts': WHATEVER THE INPUT: true; the input reads as it did. -/
def settleCostsSpec : ChangeSpec := { name := "settleCosts", fn := fun _ => fun
  | [d1, d2, d3, d4, d5] => { results := [.lit (.bool true)], args := [d1, d2, d3, d4, d5] }
  | _ => none }
def settleCostsRow : OpenClaim := { program := "ytchdmmkclcnmnaagreat", sum := "5d34c58b25bcc91ce5b103ecea0ee665b69316b324c5544cb0a4162f733157d0", func := "bogie/bogielaw44.SettleCosts", spec := "settleCosts", inPlace := ["internal/bytealg.IndexByteString", "internal/reflectlite.ValueOf", "internal/reflectlite.Swapper", "(internal/reflectlite.Value).Len", "slices.overlaps[bogie/api.Part]", "slices.overlaps[bogie/api.Prop]", "maps.clone"], unfollowed := true, recurses := true, loops := true, plainKeys := false, apart := false }
def SettleCostsSaid : Prop := settleCostsRow.holds Tryz.pinned (OpenSpec.ofChange settleCostsSpec)

/-- ITS FALSE NEIGHBOUR: 'it returns false'. Refute it at one input. -/
def settleCostsWrong : ChangeSpec := { name := "settleCosts", fn := fun _ => fun
  | [d1, d2, d3, d4, d5] => { results := [.lit (.bool false)], args := [d1, d2, d3, d4, d5] }
  | _ => none }
def SettleCostsWrongFalsely : Prop := settleCostsRow.holds Tryz.pinned (OpenSpec.ofChange settleCostsWrong)

/-- 'bogielaw44.SettleWhom': WHATEVER THE INPUT: true; the input reads as it did. -/
def settleWhomSpec : ChangeSpec := { name := "settleWhom", fn := fun _ => fun
  | [d1, d2, d3, d4] => { results := [.lit (.bool true)], args := [d1, d2, d3, d4] }
  | _ => none }
def settleWhomRow : OpenClaim := { program := "ytchdmmkclcnmnaagreat", sum := "5d34c58b25bcc91ce5b103ecea0ee665b69316b324c5544cb0a4162f733157d0", func := "bogie/bogielaw44.SettleWhom", spec := "settleWhom", inPlace := ["internal/bytealg.IndexByteString", "internal/reflectlite.ValueOf", "internal/reflectlite.Swapper", "(internal/reflectlite.Value).Len", "slices.overlaps[bogie/api.Part]", "slices.overlaps[bogie/api.Prop]", "maps.clone"], unfollowed := true, recurses := true, loops := true, plainKeys := false, apart := false }
def SettleWhomSaid : Prop := settleWhomRow.holds Tryz.pinned (OpenSpec.ofChange settleWhomSpec)

/-- ITS FALSE NEIGHBOUR: 'it returns false'. Refute it at one input. -/
def settleWhomWrong : ChangeSpec := { name := "settleWhom", fn := fun _ => fun
  | [d1, d2, d3, d4] => { results := [.lit (.bool false)], args := [d1, d2, d3, d4] }
  | _ => none }
def SettleWhomWrongFalsely : Prop := settleWhomRow.holds Tryz.pinned (OpenSpec.ofChange settleWhomWrong)

/- THE SECOND FORM. 'bulk': how many values and letters a reading holds, each counted each time it is reached (what is shared counts as often as it is met; a slice's spare places count too). A statement '..UptoSaid' is the law's where the arguments, and the package variables that the reading takes, are together of bulk at most 1048576: NARROWER than '..Said'. Prove '..Said' where nothing that the law and all that it calls make is longer than what came in: it says more and counts as full. Else prove '..UptoSaid'. A law counts once. -/
mutual
def uptoBulk {H : Type} : DataW H → Nat
  | .lit (.string bytes) => bytes.length + 1
  | .lit _ => 1
  | .nil => 1
  | .ptr d => uptoBulk d + 1
  | .slice elems spare => uptoBulkAll elems + uptoBulkAll spare + 1
  | .agg parts => uptoBulkAll parts + 1
  | .iface _ d => uptoBulk d + 1
  | .map entries => uptoBulkEntries entries + 1
  | .held _ => 1
def uptoBulkAll {H : Type} : List (DataW H) → Nat
  | [] => 0
  | d :: r => uptoBulk d + uptoBulkAll r
def uptoBulkEntries {H : Type} : List (Lit × DataW H) → Nat
  | [] => 0
  | x :: r => uptoBulkEntry x + uptoBulkEntries r
def uptoBulkEntry {H : Type} : Lit × DataW H → Nat
  | (.string bytes, d) => bytes.length + uptoBulk d + 1
  | (_, d) => uptoBulk d + 1
 end
def uptoSmall : (H : Type) → List (DataW H) → Bool := fun _ ds => decide (uptoBulkAll ds ≤ 1048576)
def OpenSpec.upto (s : _root_.Go.ChangeSpec) : _root_.Go.OpenSpec := { _root_.Go.OpenSpec.ofChange s with cond := some uptoSmall }

/-- 'bogielaw44.SettleCosts', WHERE WHAT IT READS IS OF BULK AT MOST 1048576: true; the input reads as it did. -/
def settleCostsUptoRow : OpenClaim := { program := "ytchdmmkclcnmnaagreat", sum := "5d34c58b25bcc91ce5b103ecea0ee665b69316b324c5544cb0a4162f733157d0", func := "bogie/bogielaw44.SettleCosts", spec := "settleCosts", inPlace := ["internal/bytealg.IndexByteString", "internal/reflectlite.ValueOf", "internal/reflectlite.Swapper", "(internal/reflectlite.Value).Len", "slices.overlaps[bogie/api.Part]", "slices.overlaps[bogie/api.Prop]", "maps.clone"], unfollowed := true, recurses := true, loops := true, plainKeys := false, apart := false, narrowed := true }
def SettleCostsUptoSaid : Prop := settleCostsUptoRow.holds Tryz.pinned (OpenSpec.upto settleCostsSpec)

/-- 'bogielaw44.SettleWhom', WHERE WHAT IT READS IS OF BULK AT MOST 1048576: true; the input reads as it did. -/
def settleWhomUptoRow : OpenClaim := { program := "ytchdmmkclcnmnaagreat", sum := "5d34c58b25bcc91ce5b103ecea0ee665b69316b324c5544cb0a4162f733157d0", func := "bogie/bogielaw44.SettleWhom", spec := "settleWhom", inPlace := ["internal/bytealg.IndexByteString", "internal/reflectlite.ValueOf", "internal/reflectlite.Swapper", "(internal/reflectlite.Value).Len", "slices.overlaps[bogie/api.Part]", "slices.overlaps[bogie/api.Prop]", "maps.clone"], unfollowed := true, recurses := true, loops := true, plainKeys := false, apart := false, narrowed := true }
def SettleWhomUptoSaid : Prop := settleWhomUptoRow.holds Tryz.pinned (OpenSpec.upto settleWhomSpec)

end Rows
end Go.Proofs.YtchdmmkclcnmnaaGreat
