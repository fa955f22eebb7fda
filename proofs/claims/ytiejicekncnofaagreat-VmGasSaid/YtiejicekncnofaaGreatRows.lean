/-
  No cell of these rows narrows 'for every input' (looked for: loops, veiled, ifaces, maps, wideKeys, modest, calm, conditions, laid).
  DERIVED. THE GIVEN ROWS OF THIS SEAT. 9 by the template 'for every input the law returns true; each argument reads behind the call as it read before'; 0 by the template 'total and deterministic' (their statements: YtiejicekncnofaaGreatTotals.lean).
  GIVEN WITH THE SEED: the statements are not yours to turn. If you find one false, say at which input.
  Laid BY PROGRAM, IN A SANDBOX (cutbox-rows.mjs): the forced cells as the released guide's own fill.sh prints them over the translation b903476cdbb7f7f9… (all of the seat's roots in one cut). By AI agents, Wed Nov 11 2026. No macro, syntax, notation, axiom, sorry.
-/
import Derived.Test.YtiejicekncnofaaGreatChecked
import GoSem.Claim
import GoSem.ClaimJoined
import GoSem.ClaimMapViews
import Derived.JoinedTies
import Derived.KernelRfl
namespace Go.Proofs.YtiejicekncnofaaGreat
/- THE CELL 'sum', in the pinned program and in every row, IS THE sha256 OF THE DUMP (.gsa) THAT YtiejicekncnofaaGreatProg.lean LOADS. Nothing in Lean hashes anything: it is a label: what it is worth is what the hold of that sum in a sandbox is worth. -/
noncomputable def Tryz.pinned : Pinned := { name := "ytiejicekncnofaagreat", sum := "b903476cdbb7f7f9b5e0e6aa164729b6a5de7687d566151d2fc168ab8cd7fde0", checked := Tryz.checked }
namespace Rows
def none {H : Type} : Left H := { results := [], args := [] }

/-- 'trucelaw13.VmRuns': WHATEVER THE INPUT: true; the input reads as it did. -/
def vmRunsSpec : ChangeSpec := { name := "vmRuns", fn := fun _ => fun
  | [d1, d2, d3] => { results := [.lit (.bool true)], args := [d1, d2, d3] }
  | _ => none }
def vmRunsRow : OpenClaim := { program := "ytiejicekncnofaagreat", sum := "b903476cdbb7f7f9b5e0e6aa164729b6a5de7687d566151d2fc168ab8cd7fde0", func := "truce/trucelaw13.VmRuns", spec := "vmRuns", inPlace := ["math/bits.Add64", "math/bits.Sub64", "internal/abi.NoEscape", "internal/bytealg.MakeNoZero"], unfollowed := true, recurses := true, apart := false }
def VmRunsSaid : Prop := vmRunsRow.holds Tryz.pinned (OpenSpec.ofChange vmRunsSpec)

/-- ITS FALSE NEIGHBOUR: 'it returns false'. Refute it at one input. -/
def vmRunsWrong : ChangeSpec := { name := "vmRuns", fn := fun _ => fun
  | [d1, d2, d3] => { results := [.lit (.bool false)], args := [d1, d2, d3] }
  | _ => none }
def VmRunsWrongFalsely : Prop := vmRunsRow.holds Tryz.pinned (OpenSpec.ofChange vmRunsWrong)

/-- 'trucelaw13.VmGas': WHATEVER THE INPUT: true; the input reads as it did. -/
def vmGasSpec : ChangeSpec := { name := "vmGas", fn := fun _ => fun
  | [d1, d2, d3, d4] => { results := [.lit (.bool true)], args := [d1, d2, d3, d4] }
  | _ => none }
def vmGasRow : OpenClaim := { program := "ytiejicekncnofaagreat", sum := "b903476cdbb7f7f9b5e0e6aa164729b6a5de7687d566151d2fc168ab8cd7fde0", func := "truce/trucelaw13.VmGas", spec := "vmGas", inPlace := ["math/bits.Add64", "math/bits.Sub64", "internal/abi.NoEscape", "internal/bytealg.MakeNoZero"], unfollowed := true, recurses := true, apart := false }
def VmGasSaid : Prop := vmGasRow.holds Tryz.pinned (OpenSpec.ofChange vmGasSpec)

/-- ITS FALSE NEIGHBOUR: 'it returns false'. Refute it at one input. -/
def vmGasWrong : ChangeSpec := { name := "vmGas", fn := fun _ => fun
  | [d1, d2, d3, d4] => { results := [.lit (.bool false)], args := [d1, d2, d3, d4] }
  | _ => none }
def VmGasWrongFalsely : Prop := vmGasRow.holds Tryz.pinned (OpenSpec.ofChange vmGasWrong)

/-- 'trucelaw13.VmEnds': WHATEVER THE INPUT: true; the input reads as it did. -/
def vmEndsSpec : ChangeSpec := { name := "vmEnds", fn := fun _ => fun
  | [d1, d2, d3] => { results := [.lit (.bool true)], args := [d1, d2, d3] }
  | _ => none }
def vmEndsRow : OpenClaim := { program := "ytiejicekncnofaagreat", sum := "b903476cdbb7f7f9b5e0e6aa164729b6a5de7687d566151d2fc168ab8cd7fde0", func := "truce/trucelaw13.VmEnds", spec := "vmEnds", inPlace := ["math/bits.Add64", "math/bits.Sub64", "internal/abi.NoEscape", "internal/bytealg.MakeNoZero"], unfollowed := true, recurses := true, apart := false }
def VmEndsSaid : Prop := vmEndsRow.holds Tryz.pinned (OpenSpec.ofChange vmEndsSpec)

/-- ITS FALSE NEIGHBOUR: 'it returns false'. Refute it at one input. -/
def vmEndsWrong : ChangeSpec := { name := "vmEnds", fn := fun _ => fun
  | [d1, d2, d3] => { results := [.lit (.bool false)], args := [d1, d2, d3] }
  | _ => none }
def VmEndsWrongFalsely : Prop := vmEndsRow.holds Tryz.pinned (OpenSpec.ofChange vmEndsWrong)

/-- 'trucelaw13.VmFolds': WHATEVER THE INPUT: true; the input reads as it did. -/
def vmFoldsSpec : ChangeSpec := { name := "vmFolds", fn := fun _ => fun
  | [d1, d2, d3] => { results := [.lit (.bool true)], args := [d1, d2, d3] }
  | _ => none }
def vmFoldsRow : OpenClaim := { program := "ytiejicekncnofaagreat", sum := "b903476cdbb7f7f9b5e0e6aa164729b6a5de7687d566151d2fc168ab8cd7fde0", func := "truce/trucelaw13.VmFolds", spec := "vmFolds", inPlace := ["math/bits.Add64", "math/bits.Sub64", "internal/abi.NoEscape", "internal/bytealg.MakeNoZero"], unfollowed := true, recurses := true, apart := false }
def VmFoldsSaid : Prop := vmFoldsRow.holds Tryz.pinned (OpenSpec.ofChange vmFoldsSpec)

/-- ITS FALSE NEIGHBOUR: 'it returns false'. Refute it at one input. -/
def vmFoldsWrong : ChangeSpec := { name := "vmFolds", fn := fun _ => fun
  | [d1, d2, d3] => { results := [.lit (.bool false)], args := [d1, d2, d3] }
  | _ => none }
def VmFoldsWrongFalsely : Prop := vmFoldsRow.holds Tryz.pinned (OpenSpec.ofChange vmFoldsWrong)

/-- 'trucelaw14.RuleTells': WHATEVER THE INPUT: true; the input reads as it did. -/
def ruleTellsSpec : ChangeSpec := { name := "ruleTells", fn := fun _ => fun
  | [d1, d2, d3, d4] => { results := [.lit (.bool true)], args := [d1, d2, d3, d4] }
  | _ => none }
def ruleTellsRow : OpenClaim := { program := "ytiejicekncnofaagreat", sum := "b903476cdbb7f7f9b5e0e6aa164729b6a5de7687d566151d2fc168ab8cd7fde0", func := "truce/trucelaw14.RuleTells", spec := "ruleTells", inPlace := ["math/bits.Add64", "internal/abi.NoEscape", "internal/bytealg.MakeNoZero", "math/bits.Sub64"], unfollowed := true, recurses := true, apart := false }
def RuleTellsSaid : Prop := ruleTellsRow.holds Tryz.pinned (OpenSpec.ofChange ruleTellsSpec)

/-- ITS FALSE NEIGHBOUR: 'it returns false'. Refute it at one input. -/
def ruleTellsWrong : ChangeSpec := { name := "ruleTells", fn := fun _ => fun
  | [d1, d2, d3, d4] => { results := [.lit (.bool false)], args := [d1, d2, d3, d4] }
  | _ => none }
def RuleTellsWrongFalsely : Prop := ruleTellsRow.holds Tryz.pinned (OpenSpec.ofChange ruleTellsWrong)

/-- 'trucelaw14.RuleFollows': WHATEVER THE INPUT: true; the input reads as it did. -/
def ruleFollowsSpec : ChangeSpec := { name := "ruleFollows", fn := fun _ => fun
  | [d1, d2, d3] => { results := [.lit (.bool true)], args := [d1, d2, d3] }
  | _ => none }
def ruleFollowsRow : OpenClaim := { program := "ytiejicekncnofaagreat", sum := "b903476cdbb7f7f9b5e0e6aa164729b6a5de7687d566151d2fc168ab8cd7fde0", func := "truce/trucelaw14.RuleFollows", spec := "ruleFollows", inPlace := ["math/bits.Add64", "internal/abi.NoEscape", "internal/bytealg.MakeNoZero", "math/bits.Sub64"], unfollowed := true, recurses := true, apart := false }
def RuleFollowsSaid : Prop := ruleFollowsRow.holds Tryz.pinned (OpenSpec.ofChange ruleFollowsSpec)

/-- ITS FALSE NEIGHBOUR: 'it returns false'. Refute it at one input. -/
def ruleFollowsWrong : ChangeSpec := { name := "ruleFollows", fn := fun _ => fun
  | [d1, d2, d3] => { results := [.lit (.bool false)], args := [d1, d2, d3] }
  | _ => none }
def RuleFollowsWrongFalsely : Prop := ruleFollowsRow.holds Tryz.pinned (OpenSpec.ofChange ruleFollowsWrong)

/-- 'trucelaw14.RuleKeeps': WHATEVER THE INPUT: true; the input reads as it did. -/
def ruleKeepsSpec : ChangeSpec := { name := "ruleKeeps", fn := fun _ => fun
  | [d1, d2, d3] => { results := [.lit (.bool true)], args := [d1, d2, d3] }
  | _ => none }
def ruleKeepsRow : OpenClaim := { program := "ytiejicekncnofaagreat", sum := "b903476cdbb7f7f9b5e0e6aa164729b6a5de7687d566151d2fc168ab8cd7fde0", func := "truce/trucelaw14.RuleKeeps", spec := "ruleKeeps", inPlace := ["math/bits.Add64", "internal/abi.NoEscape", "internal/bytealg.MakeNoZero", "math/bits.Sub64"], unfollowed := true, recurses := true, apart := false }
def RuleKeepsSaid : Prop := ruleKeepsRow.holds Tryz.pinned (OpenSpec.ofChange ruleKeepsSpec)

/-- ITS FALSE NEIGHBOUR: 'it returns false'. Refute it at one input. -/
def ruleKeepsWrong : ChangeSpec := { name := "ruleKeeps", fn := fun _ => fun
  | [d1, d2, d3] => { results := [.lit (.bool false)], args := [d1, d2, d3] }
  | _ => none }
def RuleKeepsWrongFalsely : Prop := ruleKeepsRow.holds Tryz.pinned (OpenSpec.ofChange ruleKeepsWrong)

/-- 'trucelaw14.RuleAlone': WHATEVER THE INPUT: true; the input reads as it did. -/
def ruleAloneSpec : ChangeSpec := { name := "ruleAlone", fn := fun _ => fun
  | [d1, d2, d3] => { results := [.lit (.bool true)], args := [d1, d2, d3] }
  | _ => none }
def ruleAloneRow : OpenClaim := { program := "ytiejicekncnofaagreat", sum := "b903476cdbb7f7f9b5e0e6aa164729b6a5de7687d566151d2fc168ab8cd7fde0", func := "truce/trucelaw14.RuleAlone", spec := "ruleAlone", inPlace := ["math/bits.Add64", "internal/abi.NoEscape", "internal/bytealg.MakeNoZero", "math/bits.Sub64"], unfollowed := true, recurses := true, apart := false }
def RuleAloneSaid : Prop := ruleAloneRow.holds Tryz.pinned (OpenSpec.ofChange ruleAloneSpec)

/-- ITS FALSE NEIGHBOUR: 'it returns false'. Refute it at one input. -/
def ruleAloneWrong : ChangeSpec := { name := "ruleAlone", fn := fun _ => fun
  | [d1, d2, d3] => { results := [.lit (.bool false)], args := [d1, d2, d3] }
  | _ => none }
def RuleAloneWrongFalsely : Prop := ruleAloneRow.holds Tryz.pinned (OpenSpec.ofChange ruleAloneWrong)

/-- 'trucelaw14.RuleInputs': WHATEVER THE INPUT: true; the input reads as it did. -/
def ruleInputsSpec : ChangeSpec := { name := "ruleInputs", fn := fun _ => fun
  | [d1, d2, d3, d4] => { results := [.lit (.bool true)], args := [d1, d2, d3, d4] }
  | _ => none }
def ruleInputsRow : OpenClaim := { program := "ytiejicekncnofaagreat", sum := "b903476cdbb7f7f9b5e0e6aa164729b6a5de7687d566151d2fc168ab8cd7fde0", func := "truce/trucelaw14.RuleInputs", spec := "ruleInputs", inPlace := ["math/bits.Add64", "internal/abi.NoEscape", "internal/bytealg.MakeNoZero", "math/bits.Sub64"], unfollowed := true, recurses := true, apart := false }
def RuleInputsSaid : Prop := ruleInputsRow.holds Tryz.pinned (OpenSpec.ofChange ruleInputsSpec)

/-- ITS FALSE NEIGHBOUR: 'it returns false'. Refute it at one input. -/
def ruleInputsWrong : ChangeSpec := { name := "ruleInputs", fn := fun _ => fun
  | [d1, d2, d3, d4] => { results := [.lit (.bool false)], args := [d1, d2, d3, d4] }
  | _ => none }
def RuleInputsWrongFalsely : Prop := ruleInputsRow.holds Tryz.pinned (OpenSpec.ofChange ruleInputsWrong)

/- THE SECOND FORM. 'bulk': how many values and letters a reading holds, each counted each time it is reached (what is shared counts as often as it is met; a slice's spare places count too). A statement '..UptoSaid' is the law's where the arguments, and the package variables that the reading takes, are together of bulk at most 1048576: NARROWER than '..Said'. Prove '..Said' where nothing that the law and all that it calls make is longer than what came in: it says more and counts as full. Else prove '..UptoSaid'. A law counts once. -/
mutual
def uptoBulk {H : Type} : DataW H → Nat
  | .lit (.string bytes) => bytes.length + 1
  | .lit _ => 1
  | .nil => 1
  | .ptr d => uptoBulk d + 1
  | .slice elems spare => uptoBulkAll elems + uptoBulkAll spare + 1
  | .agg parts => uptoBulkAll parts + 1
  | .iface _ d => uptoBulk d + 1
  | .map entries => uptoBulkEntries entries + 1
  | .held _ => 1
def uptoBulkAll {H : Type} : List (DataW H) → Nat
  | [] => 0
  | d :: r => uptoBulk d + uptoBulkAll r
def uptoBulkEntries {H : Type} : List (Lit × DataW H) → Nat
  | [] => 0
  | x :: r => uptoBulkEntry x + uptoBulkEntries r
def uptoBulkEntry {H : Type} : Lit × DataW H → Nat
  | (.string bytes, d) => bytes.length + uptoBulk d + 1
  | (_, d) => uptoBulk d + 1
 end
def uptoSmall : (H : Type) → List (DataW H) → Bool := fun _ ds => decide (uptoBulkAll ds ≤ 1048576)
def OpenSpec.upto (s : _root_.Go.ChangeSpec) : _root_.Go.OpenSpec := { _root_.Go.OpenSpec.ofChange s with cond := some uptoSmall }

/-- 'trucelaw13.VmRuns', WHERE WHAT IT READS IS OF BULK AT MOST 1048576: true; the input reads as it did. -/
def vmRunsUptoRow : OpenClaim := { program := "ytiejicekncnofaagreat", sum := "b903476cdbb7f7f9b5e0e6aa164729b6a5de7687d566151d2fc168ab8cd7fde0", func := "truce/trucelaw13.VmRuns", spec := "vmRuns", inPlace := ["math/bits.Add64", "math/bits.Sub64", "internal/abi.NoEscape", "internal/bytealg.MakeNoZero"], unfollowed := true, recurses := true, apart := false, narrowed := true }
def VmRunsUptoSaid : Prop := vmRunsUptoRow.holds Tryz.pinned (OpenSpec.upto vmRunsSpec)

/-- 'trucelaw13.VmGas', WHERE WHAT IT READS IS OF BULK AT MOST 1048576: true; the input reads as it did. -/
def vmGasUptoRow : OpenClaim := { program := "ytiejicekncnofaagreat", sum := "b903476cdbb7f7f9b5e0e6aa164729b6a5de7687d566151d2fc168ab8cd7fde0", func := "truce/trucelaw13.VmGas", spec := "vmGas", inPlace := ["math/bits.Add64", "math/bits.Sub64", "internal/abi.NoEscape", "internal/bytealg.MakeNoZero"], unfollowed := true, recurses := true, apart := false, narrowed := true }
def VmGasUptoSaid : Prop := vmGasUptoRow.holds Tryz.pinned (OpenSpec.upto vmGasSpec)

/-- 'trucelaw13.VmEnds', WHERE WHAT IT READS IS OF BULK AT MOST 1048576: true; the input reads as it did. -/
def vmEndsUptoRow : OpenClaim := { program := "ytiejicekncnofaagreat", sum := "b903476cdbb7f7f9b5e0e6aa164729b6a5de7687d566151d2fc168ab8cd7fde0", func := "truce/trucelaw13.VmEnds", spec := "vmEnds", inPlace := ["math/bits.Add64", "math/bits.Sub64", "internal/abi.NoEscape", "internal/bytealg.MakeNoZero"], unfollowed := true, recurses := true, apart := false, narrowed := true }
def VmEndsUptoSaid : Prop := vmEndsUptoRow.holds Tryz.pinned (OpenSpec.upto vmEndsSpec)

/-- 'trucelaw13.VmFolds', WHERE WHAT IT READS IS OF BULK AT MOST 1048576: true; the input reads as it did. -/
def vmFoldsUptoRow : OpenClaim := { program := "ytiejicekncnofaagreat", sum := "b903476cdbb7f7f9b5e0e6aa164729b6a5de7687d566151d2fc168ab8cd7fde0", func := "truce/trucelaw13.VmFolds", spec := "vmFolds", inPlace := ["math/bits.Add64", "math/bits.Sub64", "internal/abi.NoEscape", "internal/bytealg.MakeNoZero"], unfollowed := true, recurses := true, apart := false, narrowed := true }
def VmFoldsUptoSaid : Prop := vmFoldsUptoRow.holds Tryz.pinned (OpenSpec.upto vmFoldsSpec)

/-- 'trucelaw14.RuleTells', WHERE WHAT IT READS IS OF BULK AT MOST 1048576: true; the input reads as it did. -/
def ruleTellsUptoRow : OpenClaim := { program := "ytiejicekncnofaagreat", sum := "b903476cdbb7f7f9b5e0e6aa164729b6a5de7687d566151d2fc168ab8cd7fde0", func := "truce/trucelaw14.RuleTells", spec := "ruleTells", inPlace := ["math/bits.Add64", "internal/abi.NoEscape", "internal/bytealg.MakeNoZero", "math/bits.Sub64"], unfollowed := true, recurses := true, apart := false, narrowed := true }
def RuleTellsUptoSaid : Prop := ruleTellsUptoRow.holds Tryz.pinned (OpenSpec.upto ruleTellsSpec)

/-- 'trucelaw14.RuleFollows', WHERE WHAT IT READS IS OF BULK AT MOST 1048576: true; the input reads as it did. -/
def ruleFollowsUptoRow : OpenClaim := { program := "ytiejicekncnofaagreat", sum := "b903476cdbb7f7f9b5e0e6aa164729b6a5de7687d566151d2fc168ab8cd7fde0", func := "truce/trucelaw14.RuleFollows", spec := "ruleFollows", inPlace := ["math/bits.Add64", "internal/abi.NoEscape", "internal/bytealg.MakeNoZero", "math/bits.Sub64"], unfollowed := true, recurses := true, apart := false, narrowed := true }
def RuleFollowsUptoSaid : Prop := ruleFollowsUptoRow.holds Tryz.pinned (OpenSpec.upto ruleFollowsSpec)

/-- 'trucelaw14.RuleKeeps', WHERE WHAT IT READS IS OF BULK AT MOST 1048576: true; the input reads as it did. -/
def ruleKeepsUptoRow : OpenClaim := { program := "ytiejicekncnofaagreat", sum := "b903476cdbb7f7f9b5e0e6aa164729b6a5de7687d566151d2fc168ab8cd7fde0", func := "truce/trucelaw14.RuleKeeps", spec := "ruleKeeps", inPlace := ["math/bits.Add64", "internal/abi.NoEscape", "internal/bytealg.MakeNoZero", "math/bits.Sub64"], unfollowed := true, recurses := true, apart := false, narrowed := true }
def RuleKeepsUptoSaid : Prop := ruleKeepsUptoRow.holds Tryz.pinned (OpenSpec.upto ruleKeepsSpec)

/-- 'trucelaw14.RuleAlone', WHERE WHAT IT READS IS OF BULK AT MOST 1048576: true; the input reads as it did. -/
def ruleAloneUptoRow : OpenClaim := { program := "ytiejicekncnofaagreat", sum := "b903476cdbb7f7f9b5e0e6aa164729b6a5de7687d566151d2fc168ab8cd7fde0", func := "truce/trucelaw14.RuleAlone", spec := "ruleAlone", inPlace := ["math/bits.Add64", "internal/abi.NoEscape", "internal/bytealg.MakeNoZero", "math/bits.Sub64"], unfollowed := true, recurses := true, apart := false, narrowed := true }
def RuleAloneUptoSaid : Prop := ruleAloneUptoRow.holds Tryz.pinned (OpenSpec.upto ruleAloneSpec)

/-- 'trucelaw14.RuleInputs', WHERE WHAT IT READS IS OF BULK AT MOST 1048576: true; the input reads as it did. -/
def ruleInputsUptoRow : OpenClaim := { program := "ytiejicekncnofaagreat", sum := "b903476cdbb7f7f9b5e0e6aa164729b6a5de7687d566151d2fc168ab8cd7fde0", func := "truce/trucelaw14.RuleInputs", spec := "ruleInputs", inPlace := ["math/bits.Add64", "internal/abi.NoEscape", "internal/bytealg.MakeNoZero", "math/bits.Sub64"], unfollowed := true, recurses := true, apart := false, narrowed := true }
def RuleInputsUptoSaid : Prop := ruleInputsUptoRow.holds Tryz.pinned (OpenSpec.upto ruleInputsSpec)

end Rows
end Go.Proofs.YtiejicekncnofaaGreat
