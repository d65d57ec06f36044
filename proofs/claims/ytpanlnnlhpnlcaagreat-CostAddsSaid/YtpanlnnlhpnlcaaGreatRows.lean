/-
  No cell of these rows narrows 'for every input' (looked for: loops, veiled, ifaces, maps, wideKeys, modest, calm, conditions, laid).
  DERIVED. THE GIVEN ROWS OF THIS SEAT. 6 by the template 'for every input the law returns true; each argument reads behind the call as it read before'; 0 by the template 'total and deterministic' (their statements: YtpanlnnlhpnlcaaGreatTotals.lean).
  GIVEN WITH THE SEED: the statements are not yours to turn. If you find one false, say at which input.
  Laid BY PROGRAM, IN A SANDBOX (cutbox-rows.mjs): the forced cells as the released guide's own fill.sh prints them over the translation 25ede61d3e0a1dda… (all of the seat's roots in one cut). By AI agents, Wed Nov 11 2026. No macro, syntax, notation, axiom, sorry.
-/
import Derived.Test.YtpanlnnlhpnlcaaGreatChecked
import GoSem.Claim
import GoSem.ClaimJoined
import GoSem.ClaimMapViews
import Derived.JoinedTies
import Derived.KernelRfl
namespace Go.Proofs.YtpanlnnlhpnlcaaGreat
/- THE CELL 'sum', in the pinned program and in every row, IS THE sha256 OF THE DUMP (.gsa) THAT YtpanlnnlhpnlcaaGreatProg.lean LOADS. Nothing in Lean hashes anything: it is a label: what it is worth is what the hold of that sum in a sandbox is worth. -/
noncomputable def Tryz.pinned : Pinned := { name := "ytpanlnnlhpnlcaagreat", sum := "25ede61d3e0a1ddadc9de19491c20c6e6d46f96a1d03dd045e522f96138f685e", checked := Tryz.checked }
namespace Rows
def none {H : Type} : Left H := { results := [], args := [] }

/-- 'bogielaw43.CostAdds': WHATEVER THE INPUT: true; the input reads as it did. -/
def costAddsSpec : ChangeSpec := { name := "costAdds", fn := fun _ => fun
  | [d1, d2, d3] => { results := [.lit (.bool true)], args := [d1, d2, d3] }
  | _ => none }
def costAddsRow : OpenClaim := { program := "ytpanlnnlhpnlcaagreat", sum := "25ede61d3e0a1ddadc9de19491c20c6e6d46f96a1d03dd045e522f96138f685e", func := "bogie/bogielaw43.CostAdds", spec := "costAdds", inPlace := ["internal/bytealg.IndexByteString", "slices.overlaps[bogie/api.Part]", "slices.overlaps[bogie/api.Prop]", "maps.clone"], unfollowed := true, recurses := true, plainKeys := false, apart := false }
def CostAddsSaid : Prop := costAddsRow.holds Tryz.pinned (OpenSpec.ofChange costAddsSpec)

/-- ITS FALSE NEIGHBOUR: 'it returns false'. Refute it at one input. -/
def costAddsWrong : ChangeSpec := { name := "costAdds", fn := fun _ => fun
  | [d1, d2, d3] => { results := [.lit (.bool false)], args := [d1, d2, d3] }
  | _ => none }
def CostAddsWrongFalsely : Prop := costAddsRow.holds Tryz.pinned (OpenSpec.ofChange costAddsWrong)

/-- 'bogielaw43.CostAges': WHATEVER THE INPUT: true; the input reads as it did. -/
def costAgesSpec : ChangeSpec := { name := "costAges", fn := fun _ => fun
  | [d1, d2, d3, d4] => { results := [.lit (.bool true)], args := [d1, d2, d3, d4] }
  | _ => none }
def costAgesRow : OpenClaim := { program := "ytpanlnnlhpnlcaagreat", sum := "25ede61d3e0a1ddadc9de19491c20c6e6d46f96a1d03dd045e522f96138f685e", func := "bogie/bogielaw43.CostAges", spec := "costAges", inPlace := ["internal/bytealg.IndexByteString", "slices.overlaps[bogie/api.Part]", "slices.overlaps[bogie/api.Prop]", "maps.clone"], unfollowed := true, recurses := true, plainKeys := false, apart := false }
def CostAgesSaid : Prop := costAgesRow.holds Tryz.pinned (OpenSpec.ofChange costAgesSpec)

/-- ITS FALSE NEIGHBOUR: 'it returns false'. Refute it at one input. -/
def costAgesWrong : ChangeSpec := { name := "costAges", fn := fun _ => fun
  | [d1, d2, d3, d4] => { results := [.lit (.bool false)], args := [d1, d2, d3, d4] }
  | _ => none }
def CostAgesWrongFalsely : Prop := costAgesRow.holds Tryz.pinned (OpenSpec.ofChange costAgesWrong)

/-- 'bogielaw45.AuditNets': WHATEVER THE INPUT: true; the input reads as it did. -/
def auditNetsSpec : ChangeSpec := { name := "auditNets", fn := fun _ => fun
  | [d1, d2] => { results := [.lit (.bool true)], args := [d1, d2] }
  | _ => none }
def auditNetsRow : OpenClaim := { program := "ytpanlnnlhpnlcaagreat", sum := "25ede61d3e0a1ddadc9de19491c20c6e6d46f96a1d03dd045e522f96138f685e", func := "bogie/bogielaw45.AuditNets", spec := "auditNets", inPlace := ["internal/bytealg.IndexByteString", "internal/bytealg.abigen_runtime_cmpstring", "slices.overlaps[bogie/api.Part]", "slices.overlaps[bogie/api.Prop]"], unfollowed := true, recurses := true, plainKeys := false, apart := false }
def AuditNetsSaid : Prop := auditNetsRow.holds Tryz.pinned (OpenSpec.ofChange auditNetsSpec)

/-- ITS FALSE NEIGHBOUR: 'it returns false'. Refute it at one input. -/
def auditNetsWrong : ChangeSpec := { name := "auditNets", fn := fun _ => fun
  | [d1, d2] => { results := [.lit (.bool false)], args := [d1, d2] }
  | _ => none }
def AuditNetsWrongFalsely : Prop := auditNetsRow.holds Tryz.pinned (OpenSpec.ofChange auditNetsWrong)

/-- 'bogielaw44.SettlePays': WHATEVER THE INPUT: true; the input reads as it did. -/
def settlePaysSpec : ChangeSpec := { name := "settlePays", fn := fun _ => fun
  | [d1, d2] => { results := [.lit (.bool true)], args := [d1, d2] }
  | _ => none }
def settlePaysRow : OpenClaim := { program := "ytpanlnnlhpnlcaagreat", sum := "25ede61d3e0a1ddadc9de19491c20c6e6d46f96a1d03dd045e522f96138f685e", func := "bogie/bogielaw44.SettlePays", spec := "settlePays", inPlace := ["internal/bytealg.IndexByteString", "internal/reflectlite.ValueOf", "internal/reflectlite.Swapper", "(internal/reflectlite.Value).Len", "slices.overlaps[bogie/api.Part]", "slices.overlaps[bogie/api.Prop]", "maps.clone"], unfollowed := true, recurses := true, plainKeys := false, apart := false }
def SettlePaysSaid : Prop := settlePaysRow.holds Tryz.pinned (OpenSpec.ofChange settlePaysSpec)

/-- ITS FALSE NEIGHBOUR: 'it returns false'. Refute it at one input. -/
def settlePaysWrong : ChangeSpec := { name := "settlePays", fn := fun _ => fun
  | [d1, d2] => { results := [.lit (.bool false)], args := [d1, d2] }
  | _ => none }
def SettlePaysWrongFalsely : Prop := settlePaysRow.holds Tryz.pinned (OpenSpec.ofChange settlePaysWrong)

/-- 'bogielaw44.SettleBalances': WHATEVER THE INPUT: true; the input reads as it did. -/
def settleBalancesSpec : ChangeSpec := { name := "settleBalances", fn := fun _ => fun
  | [d1, d2] => { results := [.lit (.bool true)], args := [d1, d2] }
  | _ => none }
def settleBalancesRow : OpenClaim := { program := "ytpanlnnlhpnlcaagreat", sum := "25ede61d3e0a1ddadc9de19491c20c6e6d46f96a1d03dd045e522f96138f685e", func := "bogie/bogielaw44.SettleBalances", spec := "settleBalances", inPlace := ["internal/bytealg.IndexByteString", "internal/reflectlite.ValueOf", "internal/reflectlite.Swapper", "(internal/reflectlite.Value).Len", "slices.overlaps[bogie/api.Part]", "slices.overlaps[bogie/api.Prop]", "maps.clone"], unfollowed := true, recurses := true, plainKeys := false, apart := false }
def SettleBalancesSaid : Prop := settleBalancesRow.holds Tryz.pinned (OpenSpec.ofChange settleBalancesSpec)

/-- ITS FALSE NEIGHBOUR: 'it returns false'. Refute it at one input. -/
def settleBalancesWrong : ChangeSpec := { name := "settleBalances", fn := fun _ => fun
  | [d1, d2] => { results := [.lit (.bool false)], args := [d1, d2] }
  | _ => none }
def SettleBalancesWrongFalsely : Prop := settleBalancesRow.holds Tryz.pinned (OpenSpec.ofChange settleBalancesWrong)

/-- 'bogielaw44.SettleOrders': WHATEVER THE INPUT: true; the input reads as it did. -/
def settleOrdersSpec : ChangeSpec := { name := "settleOrders", fn := fun _ => fun
  | [d1, d2, d3] => { results := [.lit (.bool true)], args := [d1, d2, d3] }
  | _ => none }
def settleOrdersRow : OpenClaim := { program := "ytpanlnnlhpnlcaagreat", sum := "25ede61d3e0a1ddadc9de19491c20c6e6d46f96a1d03dd045e522f96138f685e", func := "bogie/bogielaw44.SettleOrders", spec := "settleOrders", inPlace := ["internal/bytealg.IndexByteString", "internal/reflectlite.ValueOf", "internal/reflectlite.Swapper", "(internal/reflectlite.Value).Len", "slices.overlaps[bogie/api.Part]", "slices.overlaps[bogie/api.Prop]", "maps.clone"], unfollowed := true, recurses := true, plainKeys := false, apart := false }
def SettleOrdersSaid : Prop := settleOrdersRow.holds Tryz.pinned (OpenSpec.ofChange settleOrdersSpec)

/-- ITS FALSE NEIGHBOUR: 'it returns false'. Refute it at one input. -/
def settleOrdersWrong : ChangeSpec := { name := "settleOrders", fn := fun _ => fun
  | [d1, d2, d3] => { results := [.lit (.bool false)], args := [d1, d2, d3] }
  | _ => none }
def SettleOrdersWrongFalsely : Prop := settleOrdersRow.holds Tryz.pinned (OpenSpec.ofChange settleOrdersWrong)

/- THE SECOND FORM. 'bulk': how many values and letters a reading holds, each counted each time it is reached (what is shared counts as often as it is met; a slice's spare places count too). A statement '..UptoSaid' is the law's where the arguments, and the package variables that the reading takes, are together of bulk at most 1048576: NARROWER than '..Said'. Prove '..Said' where nothing that the law and all that it calls make is longer than what came in: it says more and counts as full. Else prove '..UptoSaid'. A law counts once. -/
mutual
def uptoBulk {H : Type} : DataW H → Nat
  | .lit (.string bytes) => bytes.length + 1
  | .lit _ => 1
  | .nil => 1
  | .ptr d => uptoBulk d + 1
  | .slice elems spare => uptoBulkAll elems + uptoBulkAll spare + 1
  | .agg parts => uptoBulkAll parts + 1
  | .iface _ d => uptoBulk d + 1
  | .map entries => uptoBulkEntries entries + 1
  | .held _ => 1
def uptoBulkAll {H : Type} : List (DataW H) → Nat
  | [] => 0
  | d :: r => uptoBulk d + uptoBulkAll r
def uptoBulkEntries {H : Type} : List (Lit × DataW H) → Nat
  | [] => 0
  | x :: r => uptoBulkEntry x + uptoBulkEntries r
def uptoBulkEntry {H : Type} : Lit × DataW H → Nat
  | (.string bytes, d) => bytes.length + uptoBulk d + 1
  | (_, d) => uptoBulk d + 1
 end
def uptoSmall : (H : Type) → List (DataW H) → Bool := fun _ ds => decide (uptoBulkAll ds ≤ 1048576)
def OpenSpec.upto (s : _root_.Go.ChangeSpec) : _root_.Go.OpenSpec := { _root_.Go.OpenSpec.ofChange s with cond := some uptoSmall }

/-- 'bogielaw43.CostAdds', WHERE WHAT IT READS IS OF BULK AT MOST 1048576: true; the input reads as it did. -/
def costAddsUptoRow : OpenClaim := { program := "ytpanlnnlhpnlcaagreat", sum := "25ede61d3e0a1ddadc9de19491c20c6e6d46f96a1d03dd045e522f96138f685e", func := "bogie/bogielaw43.CostAdds", spec := "costAdds", inPlace := ["internal/bytealg.IndexByteString", "slices.overlaps[bogie/api.Part]", "slices.overlaps[bogie/api.Prop]", "maps.clone"], unfollowed := true, recurses := true, plainKeys := false, apart := false, narrowed := true }
def CostAddsUptoSaid : Prop := costAddsUptoRow.holds Tryz.pinned (OpenSpec.upto costAddsSpec)

/-- 'bogielaw43.CostAges', WHERE WHAT IT READS IS OF BULK AT MOST 1048576: true; the input reads as it did. -/
def costAgesUptoRow : OpenClaim := { program := "ytpanlnnlhpnlcaagreat", sum := "25ede61d3e0a1ddadc9de19491c20c6e6d46f96a1d03dd045e522f96138f685e", func := "bogie/bogielaw43.CostAges", spec := "costAges", inPlace := ["internal/bytealg.IndexByteString", "slices.overlaps[bogie/api.Part]", "slices.overlaps[bogie/api.Prop]", "maps.clone"], unfollowed := true, recurses := true, plainKeys := false, apart := false, narrowed := true }
def CostAgesUptoSaid : Prop := costAgesUptoRow.holds Tryz.pinned (OpenSpec.upto costAgesSpec)

/-- 'bogielaw45.AuditNets', WHERE WHAT IT READS IS OF BULK AT MOST 1048576: true; the input reads as it did. -/
def auditNetsUptoRow : OpenClaim := { program := "ytpanlnnlhpnlcaagreat", sum := "25ede61d3e0a1ddadc9de19491c20c6e6d46f96a1d03dd045e522f96138f685e", func := "bogie/bogielaw45.AuditNets", spec := "auditNets", inPlace := ["internal/bytealg.IndexByteString", "internal/bytealg.abigen_runtime_cmpstring", "slices.overlaps[bogie/api.Part]", "slices.overlaps[bogie/api.Prop]"], unfollowed := true, recurses := true, plainKeys := false, apart := false, narrowed := true }
def AuditNetsUptoSaid : Prop := auditNetsUptoRow.holds Tryz.pinned (OpenSpec.upto auditNetsSpec)

/-- 'bogielaw44.SettlePays', WHERE WHAT IT READS IS OF BULK AT MOST 1048576: true; the input reads as it did. -/
def settlePaysUptoRow : OpenClaim := { program := "ytpanlnnlhpnlcaagreat", sum := "25ede61d3e0a1ddadc9de19491c20c6e6d46f96a1d03dd045e522f96138f685e", func := "bogie/bogielaw44.SettlePays", spec := "settlePays", inPlace := ["internal/bytealg.IndexByteString", "internal/reflectlite.ValueOf", "internal/reflectlite.Swapper", "(internal/reflectlite.Value).Len", "slices.overlaps[bogie/api.Part]", "slices.overlaps[bogie/api.Prop]", "maps.clone"], unfollowed := true, recurses := true, plainKeys := false, apart := false, narrowed := true }
def SettlePaysUptoSaid : Prop := settlePaysUptoRow.holds Tryz.pinned (OpenSpec.upto settlePaysSpec)

/-- 'bogielaw44.SettleBalances', WHERE WHAT IT READS IS OF BULK AT MOST 1048576: true; the input reads as it did. -/
def settleBalancesUptoRow : OpenClaim := { program := "ytpanlnnlhpnlcaagreat", sum := "25ede61d3e0a1ddadc9de19491c20c6e6d46f96a1d03dd045e522f96138f685e", func := "bogie/bogielaw44.SettleBalances", spec := "settleBalances", inPlace := ["internal/bytealg.IndexByteString", "internal/reflectlite.ValueOf", "internal/reflectlite.Swapper", "(internal/reflectlite.Value).Len", "slices.overlaps[bogie/api.Part]", "slices.overlaps[bogie/api.Prop]", "maps.clone"], unfollowed := true, recurses := true, plainKeys := false, apart := false, narrowed := true }
def SettleBalancesUptoSaid : Prop := settleBalancesUptoRow.holds Tryz.pinned (OpenSpec.upto settleBalancesSpec)

/-- 'bogielaw44.SettleOrders', WHERE WHAT IT READS IS OF BULK AT MOST 1048576: true; the input reads as it did. -/
def settleOrdersUptoRow : OpenClaim := { program := "ytpanlnnlhpnlcaagreat", sum := "25ede61d3e0a1ddadc9de19491c20c6e6d46f96a1d03dd045e522f96138f685e", func := "bogie/bogielaw44.SettleOrders", spec := "settleOrders", inPlace := ["internal/bytealg.IndexByteString", "internal/reflectlite.ValueOf", "internal/reflectlite.Swapper", "(internal/reflectlite.Value).Len", "slices.overlaps[bogie/api.Part]", "slices.overlaps[bogie/api.Prop]", "maps.clone"], unfollowed := true, recurses := true, plainKeys := false, apart := false, narrowed := true }
def SettleOrdersUptoSaid : Prop := settleOrdersUptoRow.holds Tryz.pinned (OpenSpec.upto settleOrdersSpec)

end Rows
end Go.Proofs.YtpanlnnlhpnlcaaGreat
