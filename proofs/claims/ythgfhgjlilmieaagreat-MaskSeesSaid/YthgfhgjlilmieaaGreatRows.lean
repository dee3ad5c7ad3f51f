/-
  No cell of these rows narrows 'for every input' (looked for: loops, veiled, ifaces, maps, wideKeys, modest, calm, conditions, laid).
  DERIVED. THE GIVEN ROWS OF THIS SEAT. 14 by the template 'for every input the law returns true; each argument reads behind the call as it read before'; 0 by the template 'total and deterministic' (their statements: YthgfhgjlilmieaaGreatTotals.lean).
  GIVEN WITH THE SEED: the statements are not yours to turn. If you find one false, say at which input.
  Laid BY PROGRAM, IN A SANDBOX (cutbox-rows.mjs): the forced cells as the released guide's own fill.sh prints them over the translation 628864d6b5f61135… (all of the seat's roots in one cut). By AI agents, Wed Nov 11 2026. No macro, syntax, notation, axiom, sorry.
-/
import Derived.Test.YthgfhgjlilmieaaGreatChecked
import GoSem.Claim
import GoSem.ClaimJoined
import GoSem.ClaimMapViews
import Derived.JoinedTies
import Derived.KernelRfl
namespace Go.Proofs.YthgfhgjlilmieaaGreat
/- THE CELL 'sum', in the pinned program and in every row, IS THE sha256 OF THE DUMP (.gsa) THAT YthgfhgjlilmieaaGreatProg.lean LOADS. Nothing in Lean hashes anything: it is a label: what it is worth is what the hold of that sum in a sandbox is worth. -/
noncomputable def Tryz.pinned : Pinned := { name := "ythgfhgjlilmieaagreat", sum := "628864d6b5f61135c15803377d44380b0301635ced00d8f75c6eefbfff5f2bbf", checked := Tryz.checked }
namespace Rows
def none {H : Type} : Left H := { results := [], args := [] }

/-- 'glisterlaw06.MaskOwns': WHATEVER THE INPUT: true; the input reads as it did. -/
def maskOwnsSpec : ChangeSpec := { name := "maskOwns", fn := fun _ => fun
  | [d1, d2] => { results := [.lit (.bool true)], args := [d1, d2] }
  | _ => none }
def maskOwnsRow : OpenClaim := { program := "ythgfhgjlilmieaagreat", sum := "628864d6b5f61135c15803377d44380b0301635ced00d8f75c6eefbfff5f2bbf", func := "glister/glisterlaw06.MaskOwns", spec := "maskOwns", inPlace := ["internal/bytealg.IndexByteString", "internal/abi.NoEscape", "internal/bytealg.MakeNoZero"], unfollowed := true, recurses := true, plainKeys := false, apart := false }
def MaskOwnsSaid : Prop := maskOwnsRow.holds Tryz.pinned (OpenSpec.ofChange maskOwnsSpec)

/-- ITS FALSE NEIGHBOUR: 'it returns false'. Refute it at one input. -/
def maskOwnsWrong : ChangeSpec := { name := "maskOwns", fn := fun _ => fun
  | [d1, d2] => { results := [.lit (.bool false)], args := [d1, d2] }
  | _ => none }
def MaskOwnsWrongFalsely : Prop := maskOwnsRow.holds Tryz.pinned (OpenSpec.ofChange maskOwnsWrong)

/-- 'glisterlaw06.MaskHears': WHATEVER THE INPUT: true; the input reads as it did. -/
def maskHearsSpec : ChangeSpec := { name := "maskHears", fn := fun _ => fun
  | [d1, d2, d3] => { results := [.lit (.bool true)], args := [d1, d2, d3] }
  | _ => none }
def maskHearsRow : OpenClaim := { program := "ythgfhgjlilmieaagreat", sum := "628864d6b5f61135c15803377d44380b0301635ced00d8f75c6eefbfff5f2bbf", func := "glister/glisterlaw06.MaskHears", spec := "maskHears", inPlace := ["internal/bytealg.IndexByteString", "internal/abi.NoEscape", "internal/bytealg.MakeNoZero"], unfollowed := true, recurses := true, plainKeys := false, apart := false }
def MaskHearsSaid : Prop := maskHearsRow.holds Tryz.pinned (OpenSpec.ofChange maskHearsSpec)

/-- ITS FALSE NEIGHBOUR: 'it returns false'. Refute it at one input. -/
def maskHearsWrong : ChangeSpec := { name := "maskHears", fn := fun _ => fun
  | [d1, d2, d3] => { results := [.lit (.bool false)], args := [d1, d2, d3] }
  | _ => none }
def MaskHearsWrongFalsely : Prop := maskHearsRow.holds Tryz.pinned (OpenSpec.ofChange maskHearsWrong)

/-- 'glisterlaw06.MaskLeaves': WHATEVER THE INPUT: true; the input reads as it did. -/
def maskLeavesSpec : ChangeSpec := { name := "maskLeaves", fn := fun _ => fun
  | [d] => { results := [.lit (.bool true)], args := [d] }
  | _ => none }
def maskLeavesRow : OpenClaim := { program := "ythgfhgjlilmieaagreat", sum := "628864d6b5f61135c15803377d44380b0301635ced00d8f75c6eefbfff5f2bbf", func := "glister/glisterlaw06.MaskLeaves", spec := "maskLeaves", inPlace := ["internal/bytealg.IndexByteString", "internal/abi.NoEscape", "internal/bytealg.MakeNoZero"], unfollowed := true, recurses := true, plainKeys := false, apart := false }
def MaskLeavesSaid : Prop := maskLeavesRow.holds Tryz.pinned (OpenSpec.ofChange maskLeavesSpec)

/-- ITS FALSE NEIGHBOUR: 'it returns false'. Refute it at one input. -/
def maskLeavesWrong : ChangeSpec := { name := "maskLeaves", fn := fun _ => fun
  | [d] => { results := [.lit (.bool false)], args := [d] }
  | _ => none }
def MaskLeavesWrongFalsely : Prop := maskLeavesRow.holds Tryz.pinned (OpenSpec.ofChange maskLeavesWrong)

/-- 'glisterlaw06.MaskVerdicts': WHATEVER THE INPUT: true; the input reads as it did. -/
def maskVerdictsSpec : ChangeSpec := { name := "maskVerdicts", fn := fun _ => fun
  | [d] => { results := [.lit (.bool true)], args := [d] }
  | _ => none }
def maskVerdictsRow : OpenClaim := { program := "ythgfhgjlilmieaagreat", sum := "628864d6b5f61135c15803377d44380b0301635ced00d8f75c6eefbfff5f2bbf", func := "glister/glisterlaw06.MaskVerdicts", spec := "maskVerdicts", inPlace := ["internal/bytealg.IndexByteString", "internal/abi.NoEscape", "internal/bytealg.MakeNoZero"], unfollowed := true, recurses := true, plainKeys := false, apart := false }
def MaskVerdictsSaid : Prop := maskVerdictsRow.holds Tryz.pinned (OpenSpec.ofChange maskVerdictsSpec)

/-- ITS FALSE NEIGHBOUR: 'it returns false'. Refute it at one input. -/
def maskVerdictsWrong : ChangeSpec := { name := "maskVerdicts", fn := fun _ => fun
  | [d] => { results := [.lit (.bool false)], args := [d] }
  | _ => none }
def MaskVerdictsWrongFalsely : Prop := maskVerdictsRow.holds Tryz.pinned (OpenSpec.ofChange maskVerdictsWrong)

/-- 'glisterlaw06.MaskErrors': WHATEVER THE INPUT: true; the input reads as it did. -/
def maskErrorsSpec : ChangeSpec := { name := "maskErrors", fn := fun _ => fun
  | [d] => { results := [.lit (.bool true)], args := [d] }
  | _ => none }
def maskErrorsRow : OpenClaim := { program := "ythgfhgjlilmieaagreat", sum := "628864d6b5f61135c15803377d44380b0301635ced00d8f75c6eefbfff5f2bbf", func := "glister/glisterlaw06.MaskErrors", spec := "maskErrors", inPlace := ["internal/bytealg.IndexByteString", "internal/abi.NoEscape", "internal/bytealg.MakeNoZero"], unfollowed := true, recurses := true, plainKeys := false, apart := false }
def MaskErrorsSaid : Prop := maskErrorsRow.holds Tryz.pinned (OpenSpec.ofChange maskErrorsSpec)

/-- ITS FALSE NEIGHBOUR: 'it returns false'. Refute it at one input. -/
def maskErrorsWrong : ChangeSpec := { name := "maskErrors", fn := fun _ => fun
  | [d] => { results := [.lit (.bool false)], args := [d] }
  | _ => none }
def MaskErrorsWrongFalsely : Prop := maskErrorsRow.holds Tryz.pinned (OpenSpec.ofChange maskErrorsWrong)

/-- 'glisterlaw06.MaskSees': WHATEVER THE INPUT: true; the input reads as it did. -/
def maskSeesSpec : ChangeSpec := { name := "maskSees", fn := fun _ => fun
  | [d1, d2, d3, d4, d5] => { results := [.lit (.bool true)], args := [d1, d2, d3, d4, d5] }
  | _ => none }
def maskSeesRow : OpenClaim := { program := "ythgfhgjlilmieaagreat", sum := "628864d6b5f61135c15803377d44380b0301635ced00d8f75c6eefbfff5f2bbf", func := "glister/glisterlaw06.MaskSees", spec := "maskSees", inPlace := ["internal/bytealg.IndexByteString", "internal/abi.NoEscape", "internal/bytealg.MakeNoZero"], unfollowed := true, recurses := true, plainKeys := false, apart := false }
def MaskSeesSaid : Prop := maskSeesRow.holds Tryz.pinned (OpenSpec.ofChange maskSeesSpec)

/-- ITS FALSE NEIGHBOUR: 'it returns false'. Refute it at one input. -/
def maskSeesWrong : ChangeSpec := { name := "maskSees", fn := fun _ => fun
  | [d1, d2, d3, d4, d5] => { results := [.lit (.bool false)], args := [d1, d2, d3, d4, d5] }
  | _ => none }
def MaskSeesWrongFalsely : Prop := maskSeesRow.holds Tryz.pinned (OpenSpec.ofChange maskSeesWrong)

/-- 'glisterlaw06.MaskMore': WHATEVER THE INPUT: true; the input reads as it did. -/
def maskMoreSpec : ChangeSpec := { name := "maskMore", fn := fun _ => fun
  | [d1, d2] => { results := [.lit (.bool true)], args := [d1, d2] }
  | _ => none }
def maskMoreRow : OpenClaim := { program := "ythgfhgjlilmieaagreat", sum := "628864d6b5f61135c15803377d44380b0301635ced00d8f75c6eefbfff5f2bbf", func := "glister/glisterlaw06.MaskMore", spec := "maskMore", inPlace := ["internal/bytealg.IndexByteString", "internal/abi.NoEscape", "internal/bytealg.MakeNoZero"], unfollowed := true, recurses := true, plainKeys := false, apart := false }
def MaskMoreSaid : Prop := maskMoreRow.holds Tryz.pinned (OpenSpec.ofChange maskMoreSpec)

/-- ITS FALSE NEIGHBOUR: 'it returns false'. Refute it at one input. -/
def maskMoreWrong : ChangeSpec := { name := "maskMore", fn := fun _ => fun
  | [d1, d2] => { results := [.lit (.bool false)], args := [d1, d2] }
  | _ => none }
def MaskMoreWrongFalsely : Prop := maskMoreRow.holds Tryz.pinned (OpenSpec.ofChange maskMoreWrong)

/-- 'glisterlaw06.MaskLeft': WHATEVER THE INPUT: true; the input reads as it did. -/
def maskLeftSpec : ChangeSpec := { name := "maskLeft", fn := fun _ => fun
  | [d1, d2] => { results := [.lit (.bool true)], args := [d1, d2] }
  | _ => none }
def maskLeftRow : OpenClaim := { program := "ythgfhgjlilmieaagreat", sum := "628864d6b5f61135c15803377d44380b0301635ced00d8f75c6eefbfff5f2bbf", func := "glister/glisterlaw06.MaskLeft", spec := "maskLeft", inPlace := ["internal/bytealg.IndexByteString", "internal/abi.NoEscape", "internal/bytealg.MakeNoZero"], unfollowed := true, recurses := true, plainKeys := false, apart := false }
def MaskLeftSaid : Prop := maskLeftRow.holds Tryz.pinned (OpenSpec.ofChange maskLeftSpec)

/-- ITS FALSE NEIGHBOUR: 'it returns false'. Refute it at one input. -/
def maskLeftWrong : ChangeSpec := { name := "maskLeft", fn := fun _ => fun
  | [d1, d2] => { results := [.lit (.bool false)], args := [d1, d2] }
  | _ => none }
def MaskLeftWrongFalsely : Prop := maskLeftRow.holds Tryz.pinned (OpenSpec.ofChange maskLeftWrong)

/-- 'glisterlaw06.MaskOrder': WHATEVER THE INPUT: true; the input reads as it did. -/
def maskOrderSpec : ChangeSpec := { name := "maskOrder", fn := fun _ => fun
  | [d1, d2, d3] => { results := [.lit (.bool true)], args := [d1, d2, d3] }
  | _ => none }
def maskOrderRow : OpenClaim := { program := "ythgfhgjlilmieaagreat", sum := "628864d6b5f61135c15803377d44380b0301635ced00d8f75c6eefbfff5f2bbf", func := "glister/glisterlaw06.MaskOrder", spec := "maskOrder", inPlace := ["internal/bytealg.IndexByteString", "internal/abi.NoEscape", "internal/bytealg.MakeNoZero"], unfollowed := true, recurses := true, plainKeys := false, apart := false }
def MaskOrderSaid : Prop := maskOrderRow.holds Tryz.pinned (OpenSpec.ofChange maskOrderSpec)

/-- ITS FALSE NEIGHBOUR: 'it returns false'. Refute it at one input. -/
def maskOrderWrong : ChangeSpec := { name := "maskOrder", fn := fun _ => fun
  | [d1, d2, d3] => { results := [.lit (.bool false)], args := [d1, d2, d3] }
  | _ => none }
def MaskOrderWrongFalsely : Prop := maskOrderRow.holds Tryz.pinned (OpenSpec.ofChange maskOrderWrong)

/-- 'glisterlaw06.MaskParts': WHATEVER THE INPUT: true; the input reads as it did. -/
def maskPartsSpec : ChangeSpec := { name := "maskParts", fn := fun _ => fun
  | [d1, d2] => { results := [.lit (.bool true)], args := [d1, d2] }
  | _ => none }
def maskPartsRow : OpenClaim := { program := "ythgfhgjlilmieaagreat", sum := "628864d6b5f61135c15803377d44380b0301635ced00d8f75c6eefbfff5f2bbf", func := "glister/glisterlaw06.MaskParts", spec := "maskParts", inPlace := ["internal/bytealg.IndexByteString", "internal/abi.NoEscape", "internal/bytealg.MakeNoZero"], unfollowed := true, recurses := true, plainKeys := false, apart := false }
def MaskPartsSaid : Prop := maskPartsRow.holds Tryz.pinned (OpenSpec.ofChange maskPartsSpec)

/-- ITS FALSE NEIGHBOUR: 'it returns false'. Refute it at one input. -/
def maskPartsWrong : ChangeSpec := { name := "maskParts", fn := fun _ => fun
  | [d1, d2] => { results := [.lit (.bool false)], args := [d1, d2] }
  | _ => none }
def MaskPartsWrongFalsely : Prop := maskPartsRow.holds Tryz.pinned (OpenSpec.ofChange maskPartsWrong)

/-- 'glisterlaw06.MaskAssigns': WHATEVER THE INPUT: true; the input reads as it did. -/
def maskAssignsSpec : ChangeSpec := { name := "maskAssigns", fn := fun _ => fun
  | [d1, d2] => { results := [.lit (.bool true)], args := [d1, d2] }
  | _ => none }
def maskAssignsRow : OpenClaim := { program := "ythgfhgjlilmieaagreat", sum := "628864d6b5f61135c15803377d44380b0301635ced00d8f75c6eefbfff5f2bbf", func := "glister/glisterlaw06.MaskAssigns", spec := "maskAssigns", inPlace := ["internal/bytealg.IndexByteString", "internal/abi.NoEscape", "internal/bytealg.MakeNoZero"], unfollowed := true, recurses := true, plainKeys := false, apart := false }
def MaskAssignsSaid : Prop := maskAssignsRow.holds Tryz.pinned (OpenSpec.ofChange maskAssignsSpec)

/-- ITS FALSE NEIGHBOUR: 'it returns false'. Refute it at one input. -/
def maskAssignsWrong : ChangeSpec := { name := "maskAssigns", fn := fun _ => fun
  | [d1, d2] => { results := [.lit (.bool false)], args := [d1, d2] }
  | _ => none }
def MaskAssignsWrongFalsely : Prop := maskAssignsRow.holds Tryz.pinned (OpenSpec.ofChange maskAssignsWrong)

/-- 'glisterlaw06.MaskNames': WHATEVER THE INPUT: true; the input reads as it did. -/
def maskNamesSpec : ChangeSpec := { name := "maskNames", fn := fun _ => fun
  | [] => { results := [.lit (.bool true)], args := [] }
  | _ => none }
def maskNamesRow : OpenClaim := { program := "ythgfhgjlilmieaagreat", sum := "628864d6b5f61135c15803377d44380b0301635ced00d8f75c6eefbfff5f2bbf", func := "glister/glisterlaw06.MaskNames", spec := "maskNames", inPlace := ["internal/bytealg.IndexByteString", "internal/abi.NoEscape", "internal/bytealg.MakeNoZero"], unfollowed := true, recurses := true, plainKeys := false, apart := false }
def MaskNamesSaid : Prop := maskNamesRow.holds Tryz.pinned (OpenSpec.ofChange maskNamesSpec)

/-- ITS FALSE NEIGHBOUR: 'it returns false'. Refute it at one input. -/
def maskNamesWrong : ChangeSpec := { name := "maskNames", fn := fun _ => fun
  | [] => { results := [.lit (.bool false)], args := [] }
  | _ => none }
def MaskNamesWrongFalsely : Prop := maskNamesRow.holds Tryz.pinned (OpenSpec.ofChange maskNamesWrong)

/-- 'glisterlaw06.MaskTruth': WHATEVER THE INPUT: true; the input reads as it did. -/
def maskTruthSpec : ChangeSpec := { name := "maskTruth", fn := fun _ => fun
  | [d1, d2, d3] => { results := [.lit (.bool true)], args := [d1, d2, d3] }
  | _ => none }
def maskTruthRow : OpenClaim := { program := "ythgfhgjlilmieaagreat", sum := "628864d6b5f61135c15803377d44380b0301635ced00d8f75c6eefbfff5f2bbf", func := "glister/glisterlaw06.MaskTruth", spec := "maskTruth", inPlace := ["internal/bytealg.IndexByteString", "internal/abi.NoEscape", "internal/bytealg.MakeNoZero"], unfollowed := true, recurses := true, plainKeys := false, apart := false }
def MaskTruthSaid : Prop := maskTruthRow.holds Tryz.pinned (OpenSpec.ofChange maskTruthSpec)

/-- ITS FALSE NEIGHBOUR: 'it returns false'. Refute it at one input. -/
def maskTruthWrong : ChangeSpec := { name := "maskTruth", fn := fun _ => fun
  | [d1, d2, d3] => { results := [.lit (.bool false)], args := [d1, d2, d3] }
  | _ => none }
def MaskTruthWrongFalsely : Prop := maskTruthRow.holds Tryz.pinned (OpenSpec.ofChange maskTruthWrong)

/-- 'glisterlaw06.MaskFewest': WHATEVER THE INPUT: true; the input reads as it did. -/
def maskFewestSpec : ChangeSpec := { name := "maskFewest", fn := fun _ => fun
  | [d1, d2, d3, d4] => { results := [.lit (.bool true)], args := [d1, d2, d3, d4] }
  | _ => none }
def maskFewestRow : OpenClaim := { program := "ythgfhgjlilmieaagreat", sum := "628864d6b5f61135c15803377d44380b0301635ced00d8f75c6eefbfff5f2bbf", func := "glister/glisterlaw06.MaskFewest", spec := "maskFewest", inPlace := ["internal/bytealg.IndexByteString", "internal/abi.NoEscape", "internal/bytealg.MakeNoZero"], unfollowed := true, recurses := true, plainKeys := false, apart := false }
def MaskFewestSaid : Prop := maskFewestRow.holds Tryz.pinned (OpenSpec.ofChange maskFewestSpec)

/-- ITS FALSE NEIGHBOUR: 'it returns false'. Refute it at one input. -/
def maskFewestWrong : ChangeSpec := { name := "maskFewest", fn := fun _ => fun
  | [d1, d2, d3, d4] => { results := [.lit (.bool false)], args := [d1, d2, d3, d4] }
  | _ => none }
def MaskFewestWrongFalsely : Prop := maskFewestRow.holds Tryz.pinned (OpenSpec.ofChange maskFewestWrong)

/- THE SECOND FORM. 'bulk': how many values and letters a reading holds, each counted each time it is reached (what is shared counts as often as it is met; a slice's spare places count too). A statement '..UptoSaid' is the law's where the arguments, and the package variables that the reading takes, are together of bulk at most 1048576: NARROWER than '..Said'. Prove '..Said' where nothing that the law and all that it calls make is longer than what came in: it says more and counts as full. Else prove '..UptoSaid'. A law counts once. -/
mutual
def uptoBulk {H : Type} : DataW H → Nat
  | .lit (.string bytes) => bytes.length + 1
  | .lit _ => 1
  | .nil => 1
  | .ptr d => uptoBulk d + 1
  | .slice elems spare => uptoBulkAll elems + uptoBulkAll spare + 1
  | .agg parts => uptoBulkAll parts + 1
  | .iface _ d => uptoBulk d + 1
  | .map entries => uptoBulkEntries entries + 1
  | .held _ => 1
def uptoBulkAll {H : Type} : List (DataW H) → Nat
  | [] => 0
  | d :: r => uptoBulk d + uptoBulkAll r
def uptoBulkEntries {H : Type} : List (Lit × DataW H) → Nat
  | [] => 0
  | x :: r => uptoBulkEntry x + uptoBulkEntries r
def uptoBulkEntry {H : Type} : Lit × DataW H → Nat
  | (.string bytes, d) => bytes.length + uptoBulk d + 1
  | (_, d) => uptoBulk d + 1
 end
def uptoSmall : (H : Type) → List (DataW H) → Bool := fun _ ds => decide (uptoBulkAll ds ≤ 1048576)
def OpenSpec.upto (s : _root_.Go.ChangeSpec) : _root_.Go.OpenSpec := { _root_.Go.OpenSpec.ofChange s with cond := some uptoSmall }

/-- 'glisterlaw06.MaskOwns', WHERE WHAT IT READS IS OF BULK AT MOST 1048576: true; the input reads as it did. -/
def maskOwnsUptoRow : OpenClaim := { program := "ythgfhgjlilmieaagreat", sum := "628864d6b5f61135c15803377d44380b0301635ced00d8f75c6eefbfff5f2bbf", func := "glister/glisterlaw06.MaskOwns", spec := "maskOwns", inPlace := ["internal/bytealg.IndexByteString", "internal/abi.NoEscape", "internal/bytealg.MakeNoZero"], unfollowed := true, recurses := true, plainKeys := false, apart := false, narrowed := true }
def MaskOwnsUptoSaid : Prop := maskOwnsUptoRow.holds Tryz.pinned (OpenSpec.upto maskOwnsSpec)

/-- 'glisterlaw06.MaskHears', WHERE WHAT IT READS IS OF BULK AT MOST 1048576: true; the input reads as it did. -/
def maskHearsUptoRow : OpenClaim := { program := "ythgfhgjlilmieaagreat", sum := "628864d6b5f61135c15803377d44380b0301635ced00d8f75c6eefbfff5f2bbf", func := "glister/glisterlaw06.MaskHears", spec := "maskHears", inPlace := ["internal/bytealg.IndexByteString", "internal/abi.NoEscape", "internal/bytealg.MakeNoZero"], unfollowed := true, recurses := true, plainKeys := false, apart := false, narrowed := true }
def MaskHearsUptoSaid : Prop := maskHearsUptoRow.holds Tryz.pinned (OpenSpec.upto maskHearsSpec)

/-- 'glisterlaw06.MaskLeaves', WHERE WHAT IT READS IS OF BULK AT MOST 1048576: true; the input reads as it did. -/
def maskLeavesUptoRow : OpenClaim := { program := "ythgfhgjlilmieaagreat", sum := "628864d6b5f61135c15803377d44380b0301635ced00d8f75c6eefbfff5f2bbf", func := "glister/glisterlaw06.MaskLeaves", spec := "maskLeaves", inPlace := ["internal/bytealg.IndexByteString", "internal/abi.NoEscape", "internal/bytealg.MakeNoZero"], unfollowed := true, recurses := true, plainKeys := false, apart := false, narrowed := true }
def MaskLeavesUptoSaid : Prop := maskLeavesUptoRow.holds Tryz.pinned (OpenSpec.upto maskLeavesSpec)

/-- 'glisterlaw06.MaskVerdicts', WHERE WHAT IT READS IS OF BULK AT MOST 1048576: true; the input reads as it did. -/
def maskVerdictsUptoRow : OpenClaim := { program := "ythgfhgjlilmieaagreat", sum := "628864d6b5f61135c15803377d44380b0301635ced00d8f75c6eefbfff5f2bbf", func := "glister/glisterlaw06.MaskVerdicts", spec := "maskVerdicts", inPlace := ["internal/bytealg.IndexByteString", "internal/abi.NoEscape", "internal/bytealg.MakeNoZero"], unfollowed := true, recurses := true, plainKeys := false, apart := false, narrowed := true }
def MaskVerdictsUptoSaid : Prop := maskVerdictsUptoRow.holds Tryz.pinned (OpenSpec.upto maskVerdictsSpec)

/-- 'glisterlaw06.MaskErrors', WHERE WHAT IT READS IS OF BULK AT MOST 1048576: true; the input reads as it did. -/
def maskErrorsUptoRow : OpenClaim := { program := "ythgfhgjlilmieaagreat", sum := "628864d6b5f61135c15803377d44380b0301635ced00d8f75c6eefbfff5f2bbf", func := "glister/glisterlaw06.MaskErrors", spec := "maskErrors", inPlace := ["internal/bytealg.IndexByteString", "internal/abi.NoEscape", "internal/bytealg.MakeNoZero"], unfollowed := true, recurses := true, plainKeys := false, apart := false, narrowed := true }
def MaskErrorsUptoSaid : Prop := maskErrorsUptoRow.holds Tryz.pinned (OpenSpec.upto maskErrorsSpec)

/-- 'glisterlaw06.MaskSees', WHERE WHAT IT READS IS OF BULK AT MOST 1048576: true; the input reads as it did. -/
def maskSeesUptoRow : OpenClaim := { program := "ythgfhgjlilmieaagreat", sum := "628864d6b5f61135c15803377d44380b0301635ced00d8f75c6eefbfff5f2bbf", func := "glister/glisterlaw06.MaskSees", spec := "maskSees", inPlace := ["internal/bytealg.IndexByteString", "internal/abi.NoEscape", "internal/bytealg.MakeNoZero"], unfollowed := true, recurses := true, plainKeys := false, apart := false, narrowed := true }
def MaskSeesUptoSaid : Prop := maskSeesUptoRow.holds Tryz.pinned (OpenSpec.upto maskSeesSpec)

/-- 'glisterlaw06.MaskMore', WHERE WHAT IT READS IS OF BULK AT MOST 1048576: true; the input reads as it did. -/
def maskMoreUptoRow : OpenClaim := { program := "ythgfhgjlilmieaagreat", sum := "628864d6b5f61135c15803377d44380b0301635ced00d8f75c6eefbfff5f2bbf", func := "glister/glisterlaw06.MaskMore", spec := "maskMore", inPlace := ["internal/bytealg.IndexByteString", "internal/abi.NoEscape", "internal/bytealg.MakeNoZero"], unfollowed := true, recurses := true, plainKeys := false, apart := false, narrowed := true }
def MaskMoreUptoSaid : Prop := maskMoreUptoRow.holds Tryz.pinned (OpenSpec.upto maskMoreSpec)

/-- 'glisterlaw06.MaskLeft', WHERE WHAT IT READS IS OF BULK AT MOST 1048576: true; the input reads as it did. -/
def maskLeftUptoRow : OpenClaim := { program := "ythgfhgjlilmieaagreat", sum := "628864d6b5f61135c15803377d44380b0301635ced00d8f75c6eefbfff5f2bbf", func := "glister/glisterlaw06.MaskLeft", spec := "maskLeft", inPlace := ["internal/bytealg.IndexByteString", "internal/abi.NoEscape", "internal/bytealg.MakeNoZero"], unfollowed := true, recurses := true, plainKeys := false, apart := false, narrowed := true }
def MaskLeftUptoSaid : Prop := maskLeftUptoRow.holds Tryz.pinned (OpenSpec.upto maskLeftSpec)

/-- 'glisterlaw06.MaskOrder', WHERE WHAT IT READS IS OF BULK AT MOST 1048576: true; the input reads as it did. -/
def maskOrderUptoRow : OpenClaim := { program := "ythgfhgjlilmieaagreat", sum := "628864d6b5f61135c15803377d44380b0301635ced00d8f75c6eefbfff5f2bbf", func := "glister/glisterlaw06.MaskOrder", spec := "maskOrder", inPlace := ["internal/bytealg.IndexByteString", "internal/abi.NoEscape", "internal/bytealg.MakeNoZero"], unfollowed := true, recurses := true, plainKeys := false, apart := false, narrowed := true }
def MaskOrderUptoSaid : Prop := maskOrderUptoRow.holds Tryz.pinned (OpenSpec.upto maskOrderSpec)

/-- 'glisterlaw06.MaskParts', WHERE WHAT IT READS IS OF BULK AT MOST 1048576: true; the input reads as it did. -/
def maskPartsUptoRow : OpenClaim := { program := "ythgfhgjlilmieaagreat", sum := "628864d6b5f61135c15803377d44380b0301635ced00d8f75c6eefbfff5f2bbf", func := "glister/glisterlaw06.MaskParts", spec := "maskParts", inPlace := ["internal/bytealg.IndexByteString", "internal/abi.NoEscape", "internal/bytealg.MakeNoZero"], unfollowed := true, recurses := true, plainKeys := false, apart := false, narrowed := true }
def MaskPartsUptoSaid : Prop := maskPartsUptoRow.holds Tryz.pinned (OpenSpec.upto maskPartsSpec)

/-- 'glisterlaw06.MaskAssigns', WHERE WHAT IT READS IS OF BULK AT MOST 1048576: true; the input reads as it did. -/
def maskAssignsUptoRow : OpenClaim := { program := "ythgfhgjlilmieaagreat", sum := "628864d6b5f61135c15803377d44380b0301635ced00d8f75c6eefbfff5f2bbf", func := "glister/glisterlaw06.MaskAssigns", spec := "maskAssigns", inPlace := ["internal/bytealg.IndexByteString", "internal/abi.NoEscape", "internal/bytealg.MakeNoZero"], unfollowed := true, recurses := true, plainKeys := false, apart := false, narrowed := true }
def MaskAssignsUptoSaid : Prop := maskAssignsUptoRow.holds Tryz.pinned (OpenSpec.upto maskAssignsSpec)

/-- 'glisterlaw06.MaskNames', WHERE WHAT IT READS IS OF BULK AT MOST 1048576: true; the input reads as it did. -/
def maskNamesUptoRow : OpenClaim := { program := "ythgfhgjlilmieaagreat", sum := "628864d6b5f61135c15803377d44380b0301635ced00d8f75c6eefbfff5f2bbf", func := "glister/glisterlaw06.MaskNames", spec := "maskNames", inPlace := ["internal/bytealg.IndexByteString", "internal/abi.NoEscape", "internal/bytealg.MakeNoZero"], unfollowed := true, recurses := true, plainKeys := false, apart := false, narrowed := true }
def MaskNamesUptoSaid : Prop := maskNamesUptoRow.holds Tryz.pinned (OpenSpec.upto maskNamesSpec)

/-- 'glisterlaw06.MaskTruth', WHERE WHAT IT READS IS OF BULK AT MOST 1048576: true; the input reads as it did. -/
def maskTruthUptoRow : OpenClaim := { program := "ythgfhgjlilmieaagreat", sum := "628864d6b5f61135c15803377d44380b0301635ced00d8f75c6eefbfff5f2bbf", func := "glister/glisterlaw06.MaskTruth", spec := "maskTruth", inPlace := ["internal/bytealg.IndexByteString", "internal/abi.NoEscape", "internal/bytealg.MakeNoZero"], unfollowed := true, recurses := true, plainKeys := false, apart := false, narrowed := true }
def MaskTruthUptoSaid : Prop := maskTruthUptoRow.holds Tryz.pinned (OpenSpec.upto maskTruthSpec)

/-- 'glisterlaw06.MaskFewest', WHERE WHAT IT READS IS OF BULK AT MOST 1048576: true; the input reads as it did. -/
def maskFewestUptoRow : OpenClaim := { program := "ythgfhgjlilmieaagreat", sum := "628864d6b5f61135c15803377d44380b0301635ced00d8f75c6eefbfff5f2bbf", func := "glister/glisterlaw06.MaskFewest", spec := "maskFewest", inPlace := ["internal/bytealg.IndexByteString", "internal/abi.NoEscape", "internal/bytealg.MakeNoZero"], unfollowed := true, recurses := true, plainKeys := false, apart := false, narrowed := true }
def MaskFewestUptoSaid : Prop := maskFewestUptoRow.holds Tryz.pinned (OpenSpec.upto maskFewestSpec)

end Rows
end Go.Proofs.YthgfhgjlilmieaaGreat
