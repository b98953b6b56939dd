/-
  No cell of these rows narrows 'for every input' (looked for: loops, veiled, ifaces, maps, wideKeys, modest, calm, conditions, laid).
  DERIVED. THE GIVEN ROWS OF THIS SEAT. 10 by the template 'for every input the law returns true; each argument reads behind the call as it read before'; 0 by the template 'total and deterministic' (their statements: YtmlgieclkedomaaGreatTotals.lean).
  GIVEN WITH THE SEED: the statements are not yours to turn. If you find one false, say at which input.
  Laid BY PROGRAM, IN A SANDBOX (cutbox-rows.mjs): the forced cells as the released guide's own fill.sh prints them over the translation 92d285b0197a4193… (all of the seat's roots in one cut). By AI agents, Wed Nov 11 2026. No macro, syntax, notation, axiom, sorry.
-/
import Derived.Test.YtmlgieclkedomaaGreatChecked
import GoSem.Claim
import GoSem.ClaimJoined
import GoSem.ClaimMapViews
import Derived.JoinedTies
import Derived.KernelRfl
namespace Go.Proofs.YtmlgieclkedomaaGreat
/- THE CELL 'sum', in the pinned program and in every row, IS THE sha256 OF THE DUMP (.gsa) THAT YtmlgieclkedomaaGreatProg.lean LOADS. Nothing in Lean hashes anything: it is a label: what it is worth is what the hold of that sum in a sandbox is worth. -/
noncomputable def Tryz.pinned : Pinned := { name := "ytmlgieclkedomaagreat", sum := "92d285b0197a419352a248633fbb8afd5794a5ff649f81e410e0b3c8befed3d0", checked := Tryz.checked }
namespace Rows
def none {H : Type} : Left H := { results := [], args := [] }

/-- 'purserlaw13.ScriptBranches': WHATEVER THE INPUT: true; the input reads as it did. -/
def scriptBranchesSpec : ChangeSpec := { name := "scriptBranches", fn := fun _ => fun
  | [d1, d2, d3] => { results := [.lit (.bool true)], args := [d1, d2, d3] }
  | _ => none }
def scriptBranchesRow : OpenClaim := { program := "ytmlgieclkedomaagreat", sum := "92d285b0197a419352a248633fbb8afd5794a5ff649f81e410e0b3c8befed3d0", func := "purser/purserlaw13.ScriptBranches", spec := "scriptBranches", unfollowed := true, recurses := true, apart := false }
def ScriptBranchesSaid : Prop := scriptBranchesRow.holds Tryz.pinned (OpenSpec.ofChange scriptBranchesSpec)

/-- ITS FALSE NEIGHBOUR: 'it returns false'. Refute it at one input. -/
def scriptBranchesWrong : ChangeSpec := { name := "scriptBranches", fn := fun _ => fun
  | [d1, d2, d3] => { results := [.lit (.bool false)], args := [d1, d2, d3] }
  | _ => none }
def ScriptBranchesWrongFalsely : Prop := scriptBranchesRow.holds Tryz.pinned (OpenSpec.ofChange scriptBranchesWrong)

/-- 'purserlaw13.ScriptParts': WHATEVER THE INPUT: true; the input reads as it did. -/
def scriptPartsSpec : ChangeSpec := { name := "scriptParts", fn := fun _ => fun
  | [d1, d2, d3, d4] => { results := [.lit (.bool true)], args := [d1, d2, d3, d4] }
  | _ => none }
def scriptPartsRow : OpenClaim := { program := "ytmlgieclkedomaagreat", sum := "92d285b0197a419352a248633fbb8afd5794a5ff649f81e410e0b3c8befed3d0", func := "purser/purserlaw13.ScriptParts", spec := "scriptParts", unfollowed := true, recurses := true, apart := false }
def ScriptPartsSaid : Prop := scriptPartsRow.holds Tryz.pinned (OpenSpec.ofChange scriptPartsSpec)

/-- ITS FALSE NEIGHBOUR: 'it returns false'. Refute it at one input. -/
def scriptPartsWrong : ChangeSpec := { name := "scriptParts", fn := fun _ => fun
  | [d1, d2, d3, d4] => { results := [.lit (.bool false)], args := [d1, d2, d3, d4] }
  | _ => none }
def ScriptPartsWrongFalsely : Prop := scriptPartsRow.holds Tryz.pinned (OpenSpec.ofChange scriptPartsWrong)

/-- 'purserlaw13.ScriptPushes': WHATEVER THE INPUT: true; the input reads as it did. -/
def scriptPushesSpec : ChangeSpec := { name := "scriptPushes", fn := fun _ => fun
  | [d1, d2] => { results := [.lit (.bool true)], args := [d1, d2] }
  | _ => none }
def scriptPushesRow : OpenClaim := { program := "ytmlgieclkedomaagreat", sum := "92d285b0197a419352a248633fbb8afd5794a5ff649f81e410e0b3c8befed3d0", func := "purser/purserlaw13.ScriptPushes", spec := "scriptPushes", unfollowed := true, recurses := true, apart := false }
def ScriptPushesSaid : Prop := scriptPushesRow.holds Tryz.pinned (OpenSpec.ofChange scriptPushesSpec)

/-- ITS FALSE NEIGHBOUR: 'it returns false'. Refute it at one input. -/
def scriptPushesWrong : ChangeSpec := { name := "scriptPushes", fn := fun _ => fun
  | [d1, d2] => { results := [.lit (.bool false)], args := [d1, d2] }
  | _ => none }
def ScriptPushesWrongFalsely : Prop := scriptPushesRow.holds Tryz.pinned (OpenSpec.ofChange scriptPushesWrong)

/-- 'purserlaw13.ScriptNames': WHATEVER THE INPUT: true; the input reads as it did. -/
def scriptNamesSpec : ChangeSpec := { name := "scriptNames", fn := fun _ => fun
  | [] => { results := [.lit (.bool true)], args := [] }
  | _ => none }
def scriptNamesRow : OpenClaim := { program := "ytmlgieclkedomaagreat", sum := "92d285b0197a419352a248633fbb8afd5794a5ff649f81e410e0b3c8befed3d0", func := "purser/purserlaw13.ScriptNames", spec := "scriptNames", unfollowed := true, recurses := true, apart := false }
def ScriptNamesSaid : Prop := scriptNamesRow.holds Tryz.pinned (OpenSpec.ofChange scriptNamesSpec)

/-- ITS FALSE NEIGHBOUR: 'it returns false'. Refute it at one input. -/
def scriptNamesWrong : ChangeSpec := { name := "scriptNames", fn := fun _ => fun
  | [] => { results := [.lit (.bool false)], args := [] }
  | _ => none }
def ScriptNamesWrongFalsely : Prop := scriptNamesRow.holds Tryz.pinned (OpenSpec.ofChange scriptNamesWrong)

/-- 'purserlaw13.ScriptSigned': WHATEVER THE INPUT: true; the input reads as it did. -/
def scriptSignedSpec : ChangeSpec := { name := "scriptSigned", fn := fun _ => fun
  | [d1, d2, d3, d4, d5, d6] => { results := [.lit (.bool true)], args := [d1, d2, d3, d4, d5, d6] }
  | _ => none }
def scriptSignedRow : OpenClaim := { program := "ytmlgieclkedomaagreat", sum := "92d285b0197a419352a248633fbb8afd5794a5ff649f81e410e0b3c8befed3d0", func := "purser/purserlaw13.ScriptSigned", spec := "scriptSigned", unfollowed := true, recurses := true, apart := false }
def ScriptSignedSaid : Prop := scriptSignedRow.holds Tryz.pinned (OpenSpec.ofChange scriptSignedSpec)

/-- ITS FALSE NEIGHBOUR: 'it returns false'. Refute it at one input. -/
def scriptSignedWrong : ChangeSpec := { name := "scriptSigned", fn := fun _ => fun
  | [d1, d2, d3, d4, d5, d6] => { results := [.lit (.bool false)], args := [d1, d2, d3, d4, d5, d6] }
  | _ => none }
def ScriptSignedWrongFalsely : Prop := scriptSignedRow.holds Tryz.pinned (OpenSpec.ofChange scriptSignedWrong)

/-- 'purserlaw13.ScriptSeveral': WHATEVER THE INPUT: true; the input reads as it did. -/
def scriptSeveralSpec : ChangeSpec := { name := "scriptSeveral", fn := fun _ => fun
  | [d1, d2, d3] => { results := [.lit (.bool true)], args := [d1, d2, d3] }
  | _ => none }
def scriptSeveralRow : OpenClaim := { program := "ytmlgieclkedomaagreat", sum := "92d285b0197a419352a248633fbb8afd5794a5ff649f81e410e0b3c8befed3d0", func := "purser/purserlaw13.ScriptSeveral", spec := "scriptSeveral", unfollowed := true, recurses := true, apart := false }
def ScriptSeveralSaid : Prop := scriptSeveralRow.holds Tryz.pinned (OpenSpec.ofChange scriptSeveralSpec)

/-- ITS FALSE NEIGHBOUR: 'it returns false'. Refute it at one input. -/
def scriptSeveralWrong : ChangeSpec := { name := "scriptSeveral", fn := fun _ => fun
  | [d1, d2, d3] => { results := [.lit (.bool false)], args := [d1, d2, d3] }
  | _ => none }
def ScriptSeveralWrongFalsely : Prop := scriptSeveralRow.holds Tryz.pinned (OpenSpec.ofChange scriptSeveralWrong)

/-- 'purserlaw14.SpendBinds': WHATEVER THE INPUT: true; the input reads as it did. -/
def spendBindsSpec : ChangeSpec := { name := "spendBinds", fn := fun _ => fun
  | [d1, d2, d3, d4, d5, d6] => { results := [.lit (.bool true)], args := [d1, d2, d3, d4, d5, d6] }
  | _ => none }
def spendBindsRow : OpenClaim := { program := "ytmlgieclkedomaagreat", sum := "92d285b0197a419352a248633fbb8afd5794a5ff649f81e410e0b3c8befed3d0", func := "purser/purserlaw14.SpendBinds", spec := "spendBinds", inPlace := ["internal/bytealg.MakeNoZero"], unfollowed := true, recurses := true, apart := false }
def SpendBindsSaid : Prop := spendBindsRow.holds Tryz.pinned (OpenSpec.ofChange spendBindsSpec)

/-- ITS FALSE NEIGHBOUR: 'it returns false'. Refute it at one input. -/
def spendBindsWrong : ChangeSpec := { name := "spendBinds", fn := fun _ => fun
  | [d1, d2, d3, d4, d5, d6] => { results := [.lit (.bool false)], args := [d1, d2, d3, d4, d5, d6] }
  | _ => none }
def SpendBindsWrongFalsely : Prop := spendBindsRow.holds Tryz.pinned (OpenSpec.ofChange spendBindsWrong)

/-- 'purserlaw14.SpendOthers': WHATEVER THE INPUT: true; the input reads as it did. -/
def spendOthersSpec : ChangeSpec := { name := "spendOthers", fn := fun _ => fun
  | [d1, d2, d3, d4, d5] => { results := [.lit (.bool true)], args := [d1, d2, d3, d4, d5] }
  | _ => none }
def spendOthersRow : OpenClaim := { program := "ytmlgieclkedomaagreat", sum := "92d285b0197a419352a248633fbb8afd5794a5ff649f81e410e0b3c8befed3d0", func := "purser/purserlaw14.SpendOthers", spec := "spendOthers", inPlace := ["internal/bytealg.MakeNoZero"], unfollowed := true, recurses := true, apart := false }
def SpendOthersSaid : Prop := spendOthersRow.holds Tryz.pinned (OpenSpec.ofChange spendOthersSpec)

/-- ITS FALSE NEIGHBOUR: 'it returns false'. Refute it at one input. -/
def spendOthersWrong : ChangeSpec := { name := "spendOthers", fn := fun _ => fun
  | [d1, d2, d3, d4, d5] => { results := [.lit (.bool false)], args := [d1, d2, d3, d4, d5] }
  | _ => none }
def SpendOthersWrongFalsely : Prop := spendOthersRow.holds Tryz.pinned (OpenSpec.ofChange spendOthersWrong)

/-- 'purserlaw14.SpendSeveral': WHATEVER THE INPUT: true; the input reads as it did. -/
def spendSeveralSpec : ChangeSpec := { name := "spendSeveral", fn := fun _ => fun
  | [d1, d2, d3, d4] => { results := [.lit (.bool true)], args := [d1, d2, d3, d4] }
  | _ => none }
def spendSeveralRow : OpenClaim := { program := "ytmlgieclkedomaagreat", sum := "92d285b0197a419352a248633fbb8afd5794a5ff649f81e410e0b3c8befed3d0", func := "purser/purserlaw14.SpendSeveral", spec := "spendSeveral", inPlace := ["internal/bytealg.MakeNoZero"], unfollowed := true, recurses := true, apart := false }
def SpendSeveralSaid : Prop := spendSeveralRow.holds Tryz.pinned (OpenSpec.ofChange spendSeveralSpec)

/-- ITS FALSE NEIGHBOUR: 'it returns false'. Refute it at one input. -/
def spendSeveralWrong : ChangeSpec := { name := "spendSeveral", fn := fun _ => fun
  | [d1, d2, d3, d4] => { results := [.lit (.bool false)], args := [d1, d2, d3, d4] }
  | _ => none }
def SpendSeveralWrongFalsely : Prop := spendSeveralRow.holds Tryz.pinned (OpenSpec.ofChange spendSeveralWrong)

/-- 'purserlaw14.SpendNames': WHATEVER THE INPUT: true; the input reads as it did. -/
def spendNamesSpec : ChangeSpec := { name := "spendNames", fn := fun _ => fun
  | [] => { results := [.lit (.bool true)], args := [] }
  | _ => none }
def spendNamesRow : OpenClaim := { program := "ytmlgieclkedomaagreat", sum := "92d285b0197a419352a248633fbb8afd5794a5ff649f81e410e0b3c8befed3d0", func := "purser/purserlaw14.SpendNames", spec := "spendNames", inPlace := ["internal/bytealg.MakeNoZero"], unfollowed := true, recurses := true, apart := false }
def SpendNamesSaid : Prop := spendNamesRow.holds Tryz.pinned (OpenSpec.ofChange spendNamesSpec)

/-- ITS FALSE NEIGHBOUR: 'it returns false'. Refute it at one input. -/
def spendNamesWrong : ChangeSpec := { name := "spendNames", fn := fun _ => fun
  | [] => { results := [.lit (.bool false)], args := [] }
  | _ => none }
def SpendNamesWrongFalsely : Prop := spendNamesRow.holds Tryz.pinned (OpenSpec.ofChange spendNamesWrong)

/- THE SECOND FORM. 'bulk': how many values and letters a reading holds, each counted each time it is reached (what is shared counts as often as it is met; a slice's spare places count too). A statement '..UptoSaid' is the law's where the arguments, and the package variables that the reading takes, are together of bulk at most 1048576: NARROWER than '..Said'. Prove '..Said' where nothing that the law and all that it calls make is longer than what came in: it says more and counts as full. Else prove '..UptoSaid'. A law counts once. -/
mutual
def uptoBulk {H : Type} : DataW H → Nat
  | .lit (.string bytes) => bytes.length + 1
  | .lit _ => 1
  | .nil => 1
  | .ptr d => uptoBulk d + 1
  | .slice elems spare => uptoBulkAll elems + uptoBulkAll spare + 1
  | .agg parts => uptoBulkAll parts + 1
  | .iface _ d => uptoBulk d + 1
  | .map entries => uptoBulkEntries entries + 1
  | .held _ => 1
def uptoBulkAll {H : Type} : List (DataW H) → Nat
  | [] => 0
  | d :: r => uptoBulk d + uptoBulkAll r
def uptoBulkEntries {H : Type} : List (Lit × DataW H) → Nat
  | [] => 0
  | x :: r => uptoBulkEntry x + uptoBulkEntries r
def uptoBulkEntry {H : Type} : Lit × DataW H → Nat
  | (.string bytes, d) => bytes.length + uptoBulk d + 1
  | (_, d) => uptoBulk d + 1
 end
def uptoSmall : (H : Type) → List (DataW H) → Bool := fun _ ds => decide (uptoBulkAll ds ≤ 1048576)
def OpenSpec.upto (s : _root_.Go.ChangeSpec) : _root_.Go.OpenSpec := { _root_.Go.OpenSpec.ofChange s with cond := some uptoSmall }

/-- 'purserlaw13.ScriptBranches', WHERE WHAT IT READS IS OF BULK AT MOST 1048576: true; the input reads as it did. -/
def scriptBranchesUptoRow : OpenClaim := { program := "ytmlgieclkedomaagreat", sum := "92d285b0197a419352a248633fbb8afd5794a5ff649f81e410e0b3c8befed3d0", func := "purser/purserlaw13.ScriptBranches", spec := "scriptBranches", unfollowed := true, recurses := true, apart := false, narrowed := true }
def ScriptBranchesUptoSaid : Prop := scriptBranchesUptoRow.holds Tryz.pinned (OpenSpec.upto scriptBranchesSpec)

/-- 'purserlaw13.ScriptParts', WHERE WHAT IT READS IS OF BULK AT MOST 1048576: true; the input reads as it did. -/
def scriptPartsUptoRow : OpenClaim := { program := "ytmlgieclkedomaagreat", sum := "92d285b0197a419352a248633fbb8afd5794a5ff649f81e410e0b3c8befed3d0", func := "purser/purserlaw13.ScriptParts", spec := "scriptParts", unfollowed := true, recurses := true, apart := false, narrowed := true }
def ScriptPartsUptoSaid : Prop := scriptPartsUptoRow.holds Tryz.pinned (OpenSpec.upto scriptPartsSpec)

/-- 'purserlaw13.ScriptPushes', WHERE WHAT IT READS IS OF BULK AT MOST 1048576: true; the input reads as it did. -/
def scriptPushesUptoRow : OpenClaim := { program := "ytmlgieclkedomaagreat", sum := "92d285b0197a419352a248633fbb8afd5794a5ff649f81e410e0b3c8befed3d0", func := "purser/purserlaw13.ScriptPushes", spec := "scriptPushes", unfollowed := true, recurses := true, apart := false, narrowed := true }
def ScriptPushesUptoSaid : Prop := scriptPushesUptoRow.holds Tryz.pinned (OpenSpec.upto scriptPushesSpec)

/-- 'purserlaw13.ScriptNames', WHERE WHAT IT READS IS OF BULK AT MOST 1048576: true; the input reads as it did. -/
def scriptNamesUptoRow : OpenClaim := { program := "ytmlgieclkedomaagreat", sum := "92d285b0197a419352a248633fbb8afd5794a5ff649f81e410e0b3c8befed3d0", func := "purser/purserlaw13.ScriptNames", spec := "scriptNames", unfollowed := true, recurses := true, apart := false, narrowed := true }
def ScriptNamesUptoSaid : Prop := scriptNamesUptoRow.holds Tryz.pinned (OpenSpec.upto scriptNamesSpec)

/-- 'purserlaw13.ScriptSigned', WHERE WHAT IT READS IS OF BULK AT MOST 1048576: true; the input reads as it did. -/
def scriptSignedUptoRow : OpenClaim := { program := "ytmlgieclkedomaagreat", sum := "92d285b0197a419352a248633fbb8afd5794a5ff649f81e410e0b3c8befed3d0", func := "purser/purserlaw13.ScriptSigned", spec := "scriptSigned", unfollowed := true, recurses := true, apart := false, narrowed := true }
def ScriptSignedUptoSaid : Prop := scriptSignedUptoRow.holds Tryz.pinned (OpenSpec.upto scriptSignedSpec)

/-- 'purserlaw13.ScriptSeveral', WHERE WHAT IT READS IS OF BULK AT MOST 1048576: true; the input reads as it did. -/
def scriptSeveralUptoRow : OpenClaim := { program := "ytmlgieclkedomaagreat", sum := "92d285b0197a419352a248633fbb8afd5794a5ff649f81e410e0b3c8befed3d0", func := "purser/purserlaw13.ScriptSeveral", spec := "scriptSeveral", unfollowed := true, recurses := true, apart := false, narrowed := true }
def ScriptSeveralUptoSaid : Prop := scriptSeveralUptoRow.holds Tryz.pinned (OpenSpec.upto scriptSeveralSpec)

/-- 'purserlaw14.SpendBinds', WHERE WHAT IT READS IS OF BULK AT MOST 1048576: true; the input reads as it did. -/
def spendBindsUptoRow : OpenClaim := { program := "ytmlgieclkedomaagreat", sum := "92d285b0197a419352a248633fbb8afd5794a5ff649f81e410e0b3c8befed3d0", func := "purser/purserlaw14.SpendBinds", spec := "spendBinds", inPlace := ["internal/bytealg.MakeNoZero"], unfollowed := true, recurses := true, apart := false, narrowed := true }
def SpendBindsUptoSaid : Prop := spendBindsUptoRow.holds Tryz.pinned (OpenSpec.upto spendBindsSpec)

/-- 'purserlaw14.SpendOthers', WHERE WHAT IT READS IS OF BULK AT MOST 1048576: true; the input reads as it did. -/
def spendOthersUptoRow : OpenClaim := { program := "ytmlgieclkedomaagreat", sum := "92d285b0197a419352a248633fbb8afd5794a5ff649f81e410e0b3c8befed3d0", func := "purser/purserlaw14.SpendOthers", spec := "spendOthers", inPlace := ["internal/bytealg.MakeNoZero"], unfollowed := true, recurses := true, apart := false, narrowed := true }
def SpendOthersUptoSaid : Prop := spendOthersUptoRow.holds Tryz.pinned (OpenSpec.upto spendOthersSpec)

/-- 'purserlaw14.SpendSeveral', WHERE WHAT IT READS IS OF BULK AT MOST 1048576: true; the input reads as it did. -/
def spendSeveralUptoRow : OpenClaim := { program := "ytmlgieclkedomaagreat", sum := "92d285b0197a419352a248633fbb8afd5794a5ff649f81e410e0b3c8befed3d0", func := "purser/purserlaw14.SpendSeveral", spec := "spendSeveral", inPlace := ["internal/bytealg.MakeNoZero"], unfollowed := true, recurses := true, apart := false, narrowed := true }
def SpendSeveralUptoSaid : Prop := spendSeveralUptoRow.holds Tryz.pinned (OpenSpec.upto spendSeveralSpec)

/-- 'purserlaw14.SpendNames', WHERE WHAT IT READS IS OF BULK AT MOST 1048576: true; the input reads as it did. -/
def spendNamesUptoRow : OpenClaim := { program := "ytmlgieclkedomaagreat", sum := "92d285b0197a419352a248633fbb8afd5794a5ff649f81e410e0b3c8befed3d0", func := "purser/purserlaw14.SpendNames", spec := "spendNames", inPlace := ["internal/bytealg.MakeNoZero"], unfollowed := true, recurses := true, apart := false, narrowed := true }
def SpendNamesUptoSaid : Prop := spendNamesUptoRow.holds Tryz.pinned (OpenSpec.upto spendNamesSpec)

end Rows
end Go.Proofs.YtmlgieclkedomaaGreat
