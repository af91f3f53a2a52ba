/-
  NARROWER THAN 'FOR EVERY INPUT', by the rows' own cells (each row's printed sentence says how): LeafRise: laid · BuildTwice: laid · BuildDoes: laid · BuildFull: laid · BuildSynced: laid · BuildOther: laid · BuildSteps: laid · BuildCrash: laid.
  DERIVED. THE GIVEN ROWS OF THIS SEAT. 8 by the template 'for every input the law returns true; each argument reads behind the call as it read before'; 0 by the template 'total and deterministic' (their statements: YtmheajenlhlbhaaGreatDoorTotals.lean).
  GIVEN WITH THE SEED: the statements are not yours to turn. If you find one false, say at which input.
  Laid BY PROGRAM, IN A SANDBOX (cutbox-rows.mjs): the forced cells as the released guide's own fill.sh prints them over the translation fd971b99c5d85ec3… (all of the seat's roots in one cut). By AI agents, Wed Nov 11 2026. No macro, syntax, notation, axiom, sorry.
-/
import Derived.Test.YtmheajenlhlbhaaGreatDoorChecked
import GoSem.Claim
import GoSem.ClaimJoined
import GoSem.ClaimMapViews
import Derived.JoinedTies
import Derived.KernelRfl
namespace Go.Proofs.YtmheajenlhlbhaaGreatDoor
/- THE CELL 'sum', in the pinned program and in every row, IS THE sha256 OF THE DUMP (.gsa) THAT YtmheajenlhlbhaaGreatDoorProg.lean LOADS. Nothing in Lean hashes anything: it is a label: what it is worth is what the hold of that sum in a sandbox is worth. -/
noncomputable def Tryz.pinned : Pinned := { name := "ytmheajenlhlbhaagreatdoor", sum := "fd971b99c5d85ec3491b03664a930eb5334105925e47c2c6a09af8f4ee0a3e2c", checked := Tryz.checked }
namespace Rows
def none {H : Type} : Left H := { results := [], args := [] }

/- WHAT THE LISTED PACKAGE-LEVEL VARIABLES READ AS WHEN THE CALL BEGINS. Each datum BY PROGRAM (the guide's laid-datum.mjs) off the statement by which the dump's own 'gosem.cut.vars' lays the variable. In a bare row this is a premise. The card (YtmheajenlhlbhaaGreatDoorCards.lean) ties it to the program's text. -/
def laid_errors_errorType {H : Type} : DataW H := .iface "internal/reflectlite.rtype" (.agg [.ptr (.lit (.string [101, 114, 114, 111, 114]))])

/-- 'withylaw10.LeafRise': WHATEVER THE INPUT: true; the input reads as it did. -/
def leafRiseSpec : ChangeSpec := { name := "leafRise", fn := fun _ => fun
  | [d1, d2] => { results := [.lit (.bool true)], args := [d1, d2] }
  | _ => none }
def leafRiseRow : OpenClaim := { program := "ytmheajenlhlbhaagreatdoor", sum := "fd971b99c5d85ec3491b03664a930eb5334105925e47c2c6a09af8f4ee0a3e2c", func := "withy/withylaw10.LeafRise", spec := "leafRise", inPlace := ["internal/reflectlite.TypeOf", "internal/abi.NoEscape", "internal/bytealg.MakeNoZero", "internal/reflectlite.ValueOf", "(internal/reflectlite.Value).Type", "(internal/reflectlite.Value).IsNil", "(internal/reflectlite.Value).Elem", "(internal/reflectlite.Value).Set", "internal/bytealg.abigen_runtime_cmpstring"], unfollowed := true, recurses := true, named := ["errors.errorType"], apart := false, laid := [("errors.errorType", laid_errors_errorType)] }
def LeafRiseSaid : Prop := leafRiseRow.holds Tryz.pinned (OpenSpec.ofChange leafRiseSpec)

/-- ITS FALSE NEIGHBOUR: 'it returns false'. Refute it at one input. -/
def leafRiseWrong : ChangeSpec := { name := "leafRise", fn := fun _ => fun
  | [d1, d2] => { results := [.lit (.bool false)], args := [d1, d2] }
  | _ => none }
def LeafRiseWrongFalsely : Prop := leafRiseRow.holds Tryz.pinned (OpenSpec.ofChange leafRiseWrong)

/-- 'withylaw19.BuildTwice': WHATEVER THE INPUT: true; the input reads as it did. -/
def buildTwiceSpec : ChangeSpec := { name := "buildTwice", fn := fun _ => fun
  | [d1, d2, d3] => { results := [.lit (.bool true)], args := [d1, d2, d3] }
  | _ => none }
def buildTwiceRow : OpenClaim := { program := "ytmheajenlhlbhaagreatdoor", sum := "fd971b99c5d85ec3491b03664a930eb5334105925e47c2c6a09af8f4ee0a3e2c", func := "withy/withylaw19.BuildTwice", spec := "buildTwice", inPlace := ["internal/abi.NoEscape", "internal/bytealg.MakeNoZero", "internal/reflectlite.TypeOf", "internal/reflectlite.ValueOf", "(internal/reflectlite.Value).Type", "(internal/reflectlite.Value).IsNil", "(internal/reflectlite.Value).Elem", "(internal/reflectlite.Value).Set"], unfollowed := true, recurses := true, named := ["errors.errorType"], apart := false, laid := [("errors.errorType", laid_errors_errorType)] }
def BuildTwiceSaid : Prop := buildTwiceRow.holds Tryz.pinned (OpenSpec.ofChange buildTwiceSpec)

/-- ITS FALSE NEIGHBOUR: 'it returns false'. Refute it at one input. -/
def buildTwiceWrong : ChangeSpec := { name := "buildTwice", fn := fun _ => fun
  | [d1, d2, d3] => { results := [.lit (.bool false)], args := [d1, d2, d3] }
  | _ => none }
def BuildTwiceWrongFalsely : Prop := buildTwiceRow.holds Tryz.pinned (OpenSpec.ofChange buildTwiceWrong)

/-- 'withylaw19.BuildDoes': WHATEVER THE INPUT: true; the input reads as it did. -/
def buildDoesSpec : ChangeSpec := { name := "buildDoes", fn := fun _ => fun
  | [d1, d2, d3] => { results := [.lit (.bool true)], args := [d1, d2, d3] }
  | _ => none }
def buildDoesRow : OpenClaim := { program := "ytmheajenlhlbhaagreatdoor", sum := "fd971b99c5d85ec3491b03664a930eb5334105925e47c2c6a09af8f4ee0a3e2c", func := "withy/withylaw19.BuildDoes", spec := "buildDoes", inPlace := ["internal/abi.NoEscape", "internal/bytealg.MakeNoZero", "internal/reflectlite.TypeOf", "internal/reflectlite.ValueOf", "(internal/reflectlite.Value).Type", "(internal/reflectlite.Value).IsNil", "(internal/reflectlite.Value).Elem", "(internal/reflectlite.Value).Set"], unfollowed := true, recurses := true, named := ["errors.errorType"], apart := false, laid := [("errors.errorType", laid_errors_errorType)] }
def BuildDoesSaid : Prop := buildDoesRow.holds Tryz.pinned (OpenSpec.ofChange buildDoesSpec)

/-- ITS FALSE NEIGHBOUR: 'it returns false'. Refute it at one input. -/
def buildDoesWrong : ChangeSpec := { name := "buildDoes", fn := fun _ => fun
  | [d1, d2, d3] => { results := [.lit (.bool false)], args := [d1, d2, d3] }
  | _ => none }
def BuildDoesWrongFalsely : Prop := buildDoesRow.holds Tryz.pinned (OpenSpec.ofChange buildDoesWrong)

/-- 'withylaw19.BuildFull': WHATEVER THE INPUT: true; the input reads as it did. -/
def buildFullSpec : ChangeSpec := { name := "buildFull", fn := fun _ => fun
  | [d1, d2] => { results := [.lit (.bool true)], args := [d1, d2] }
  | _ => none }
def buildFullRow : OpenClaim := { program := "ytmheajenlhlbhaagreatdoor", sum := "fd971b99c5d85ec3491b03664a930eb5334105925e47c2c6a09af8f4ee0a3e2c", func := "withy/withylaw19.BuildFull", spec := "buildFull", inPlace := ["internal/abi.NoEscape", "internal/bytealg.MakeNoZero", "internal/reflectlite.TypeOf", "internal/reflectlite.ValueOf", "(internal/reflectlite.Value).Type", "(internal/reflectlite.Value).IsNil", "(internal/reflectlite.Value).Elem", "(internal/reflectlite.Value).Set"], unfollowed := true, recurses := true, named := ["errors.errorType"], apart := false, laid := [("errors.errorType", laid_errors_errorType)] }
def BuildFullSaid : Prop := buildFullRow.holds Tryz.pinned (OpenSpec.ofChange buildFullSpec)

/-- ITS FALSE NEIGHBOUR: 'it returns false'. Refute it at one input. -/
def buildFullWrong : ChangeSpec := { name := "buildFull", fn := fun _ => fun
  | [d1, d2] => { results := [.lit (.bool false)], args := [d1, d2] }
  | _ => none }
def BuildFullWrongFalsely : Prop := buildFullRow.holds Tryz.pinned (OpenSpec.ofChange buildFullWrong)

/-- 'withylaw19.BuildSynced': WHATEVER THE INPUT: true; the input reads as it did. -/
def buildSyncedSpec : ChangeSpec := { name := "buildSynced", fn := fun _ => fun
  | [d1, d2] => { results := [.lit (.bool true)], args := [d1, d2] }
  | _ => none }
def buildSyncedRow : OpenClaim := { program := "ytmheajenlhlbhaagreatdoor", sum := "fd971b99c5d85ec3491b03664a930eb5334105925e47c2c6a09af8f4ee0a3e2c", func := "withy/withylaw19.BuildSynced", spec := "buildSynced", inPlace := ["internal/abi.NoEscape", "internal/bytealg.MakeNoZero", "internal/reflectlite.TypeOf", "internal/reflectlite.ValueOf", "(internal/reflectlite.Value).Type", "(internal/reflectlite.Value).IsNil", "(internal/reflectlite.Value).Elem", "(internal/reflectlite.Value).Set"], unfollowed := true, recurses := true, named := ["errors.errorType"], apart := false, laid := [("errors.errorType", laid_errors_errorType)] }
def BuildSyncedSaid : Prop := buildSyncedRow.holds Tryz.pinned (OpenSpec.ofChange buildSyncedSpec)

/-- ITS FALSE NEIGHBOUR: 'it returns false'. Refute it at one input. -/
def buildSyncedWrong : ChangeSpec := { name := "buildSynced", fn := fun _ => fun
  | [d1, d2] => { results := [.lit (.bool false)], args := [d1, d2] }
  | _ => none }
def BuildSyncedWrongFalsely : Prop := buildSyncedRow.holds Tryz.pinned (OpenSpec.ofChange buildSyncedWrong)

/-- 'withylaw19.BuildOther': WHATEVER THE INPUT: true; the input reads as it did. -/
def buildOtherSpec : ChangeSpec := { name := "buildOther", fn := fun _ => fun
  | [d1, d2] => { results := [.lit (.bool true)], args := [d1, d2] }
  | _ => none }
def buildOtherRow : OpenClaim := { program := "ytmheajenlhlbhaagreatdoor", sum := "fd971b99c5d85ec3491b03664a930eb5334105925e47c2c6a09af8f4ee0a3e2c", func := "withy/withylaw19.BuildOther", spec := "buildOther", inPlace := ["internal/abi.NoEscape", "internal/bytealg.MakeNoZero", "internal/reflectlite.TypeOf", "internal/reflectlite.ValueOf", "(internal/reflectlite.Value).Type", "(internal/reflectlite.Value).IsNil", "(internal/reflectlite.Value).Elem", "(internal/reflectlite.Value).Set"], unfollowed := true, recurses := true, named := ["errors.errorType"], apart := false, laid := [("errors.errorType", laid_errors_errorType)] }
def BuildOtherSaid : Prop := buildOtherRow.holds Tryz.pinned (OpenSpec.ofChange buildOtherSpec)

/-- ITS FALSE NEIGHBOUR: 'it returns false'. Refute it at one input. -/
def buildOtherWrong : ChangeSpec := { name := "buildOther", fn := fun _ => fun
  | [d1, d2] => { results := [.lit (.bool false)], args := [d1, d2] }
  | _ => none }
def BuildOtherWrongFalsely : Prop := buildOtherRow.holds Tryz.pinned (OpenSpec.ofChange buildOtherWrong)

/-- 'withylaw19.BuildSteps': WHATEVER THE INPUT: true; the input reads as it did. -/
def buildStepsSpec : ChangeSpec := { name := "buildSteps", fn := fun _ => fun
  | [d1, d2] => { results := [.lit (.bool true)], args := [d1, d2] }
  | _ => none }
def buildStepsRow : OpenClaim := { program := "ytmheajenlhlbhaagreatdoor", sum := "fd971b99c5d85ec3491b03664a930eb5334105925e47c2c6a09af8f4ee0a3e2c", func := "withy/withylaw19.BuildSteps", spec := "buildSteps", inPlace := ["internal/abi.NoEscape", "internal/bytealg.MakeNoZero", "internal/reflectlite.TypeOf", "internal/reflectlite.ValueOf", "(internal/reflectlite.Value).Type", "(internal/reflectlite.Value).IsNil", "(internal/reflectlite.Value).Elem", "(internal/reflectlite.Value).Set"], unfollowed := true, recurses := true, named := ["errors.errorType"], apart := false, laid := [("errors.errorType", laid_errors_errorType)] }
def BuildStepsSaid : Prop := buildStepsRow.holds Tryz.pinned (OpenSpec.ofChange buildStepsSpec)

/-- ITS FALSE NEIGHBOUR: 'it returns false'. Refute it at one input. -/
def buildStepsWrong : ChangeSpec := { name := "buildSteps", fn := fun _ => fun
  | [d1, d2] => { results := [.lit (.bool false)], args := [d1, d2] }
  | _ => none }
def BuildStepsWrongFalsely : Prop := buildStepsRow.holds Tryz.pinned (OpenSpec.ofChange buildStepsWrong)

/-- 'withylaw19.BuildCrash': WHATEVER THE INPUT: true; the input reads as it did. -/
def buildCrashSpec : ChangeSpec := { name := "buildCrash", fn := fun _ => fun
  | [d1, d2] => { results := [.lit (.bool true)], args := [d1, d2] }
  | _ => none }
def buildCrashRow : OpenClaim := { program := "ytmheajenlhlbhaagreatdoor", sum := "fd971b99c5d85ec3491b03664a930eb5334105925e47c2c6a09af8f4ee0a3e2c", func := "withy/withylaw19.BuildCrash", spec := "buildCrash", inPlace := ["internal/abi.NoEscape", "internal/bytealg.MakeNoZero", "internal/reflectlite.TypeOf", "internal/reflectlite.ValueOf", "(internal/reflectlite.Value).Type", "(internal/reflectlite.Value).IsNil", "(internal/reflectlite.Value).Elem", "(internal/reflectlite.Value).Set"], unfollowed := true, recurses := true, named := ["errors.errorType"], apart := false, laid := [("errors.errorType", laid_errors_errorType)] }
def BuildCrashSaid : Prop := buildCrashRow.holds Tryz.pinned (OpenSpec.ofChange buildCrashSpec)

/-- ITS FALSE NEIGHBOUR: 'it returns false'. Refute it at one input. -/
def buildCrashWrong : ChangeSpec := { name := "buildCrash", fn := fun _ => fun
  | [d1, d2] => { results := [.lit (.bool false)], args := [d1, d2] }
  | _ => none }
def BuildCrashWrongFalsely : Prop := buildCrashRow.holds Tryz.pinned (OpenSpec.ofChange buildCrashWrong)

/- THE SECOND FORM. 'bulk': how many values and letters a reading holds, each counted each time it is reached (what is shared counts as often as it is met; a slice's spare places count too). A statement '..UptoSaid' is the law's where the arguments, and the package variables that the reading takes, are together of bulk at most 1048576: NARROWER than '..Said'. Prove '..Said' where nothing that the law and all that it calls make is longer than what came in: it says more and counts as full. Else prove '..UptoSaid'. A law counts once. -/
mutual
def uptoBulk {H : Type} : DataW H → Nat
  | .lit (.string bytes) => bytes.length + 1
  | .lit _ => 1
  | .nil => 1
  | .ptr d => uptoBulk d + 1
  | .slice elems spare => uptoBulkAll elems + uptoBulkAll spare + 1
  | .agg parts => uptoBulkAll parts + 1
  | .iface _ d => uptoBulk d + 1
  | .map entries => uptoBulkEntries entries + 1
  | .held _ => 1
def uptoBulkAll {H : Type} : List (DataW H) → Nat
  | [] => 0
  | d :: r => uptoBulk d + uptoBulkAll r
def uptoBulkEntries {H : Type} : List (Lit × DataW H) → Nat
  | [] => 0
  | x :: r => uptoBulkEntry x + uptoBulkEntries r
def uptoBulkEntry {H : Type} : Lit × DataW H → Nat
  | (.string bytes, d) => bytes.length + uptoBulk d + 1
  | (_, d) => uptoBulk d + 1
 end
def uptoSmall : (H : Type) → List (DataW H) → Bool := fun _ ds => decide (uptoBulkAll ds ≤ 1048576)
def OpenSpec.upto (s : _root_.Go.ChangeSpec) : _root_.Go.OpenSpec := { _root_.Go.OpenSpec.ofChange s with cond := some uptoSmall }

/-- 'withylaw10.LeafRise', WHERE WHAT IT READS IS OF BULK AT MOST 1048576: true; the input reads as it did. -/
def leafRiseUptoRow : OpenClaim := { program := "ytmheajenlhlbhaagreatdoor", sum := "fd971b99c5d85ec3491b03664a930eb5334105925e47c2c6a09af8f4ee0a3e2c", func := "withy/withylaw10.LeafRise", spec := "leafRise", inPlace := ["internal/reflectlite.TypeOf", "internal/abi.NoEscape", "internal/bytealg.MakeNoZero", "internal/reflectlite.ValueOf", "(internal/reflectlite.Value).Type", "(internal/reflectlite.Value).IsNil", "(internal/reflectlite.Value).Elem", "(internal/reflectlite.Value).Set", "internal/bytealg.abigen_runtime_cmpstring"], unfollowed := true, recurses := true, named := ["errors.errorType"], apart := false, laid := [("errors.errorType", laid_errors_errorType)], narrowed := true }
def LeafRiseUptoSaid : Prop := leafRiseUptoRow.holds Tryz.pinned (OpenSpec.upto leafRiseSpec)

/-- 'withylaw19.BuildTwice', WHERE WHAT IT READS IS OF BULK AT MOST 1048576: true; the input reads as it did. -/
def buildTwiceUptoRow : OpenClaim := { program := "ytmheajenlhlbhaagreatdoor", sum := "fd971b99c5d85ec3491b03664a930eb5334105925e47c2c6a09af8f4ee0a3e2c", func := "withy/withylaw19.BuildTwice", spec := "buildTwice", inPlace := ["internal/abi.NoEscape", "internal/bytealg.MakeNoZero", "internal/reflectlite.TypeOf", "internal/reflectlite.ValueOf", "(internal/reflectlite.Value).Type", "(internal/reflectlite.Value).IsNil", "(internal/reflectlite.Value).Elem", "(internal/reflectlite.Value).Set"], unfollowed := true, recurses := true, named := ["errors.errorType"], apart := false, laid := [("errors.errorType", laid_errors_errorType)], narrowed := true }
def BuildTwiceUptoSaid : Prop := buildTwiceUptoRow.holds Tryz.pinned (OpenSpec.upto buildTwiceSpec)

/-- 'withylaw19.BuildDoes', WHERE WHAT IT READS IS OF BULK AT MOST 1048576: true; the input reads as it did. -/
def buildDoesUptoRow : OpenClaim := { program := "ytmheajenlhlbhaagreatdoor", sum := "fd971b99c5d85ec3491b03664a930eb5334105925e47c2c6a09af8f4ee0a3e2c", func := "withy/withylaw19.BuildDoes", spec := "buildDoes", inPlace := ["internal/abi.NoEscape", "internal/bytealg.MakeNoZero", "internal/reflectlite.TypeOf", "internal/reflectlite.ValueOf", "(internal/reflectlite.Value).Type", "(internal/reflectlite.Value).IsNil", "(internal/reflectlite.Value).Elem", "(internal/reflectlite.Value).Set"], unfollowed := true, recurses := true, named := ["errors.errorType"], apart := false, laid := [("errors.errorType", laid_errors_errorType)], narrowed := true }
def BuildDoesUptoSaid : Prop := buildDoesUptoRow.holds Tryz.pinned (OpenSpec.upto buildDoesSpec)

/-- 'withylaw19.BuildFull', WHERE WHAT IT READS IS OF BULK AT MOST 1048576: true; the input reads as it did. -/
def buildFullUptoRow : OpenClaim := { program := "ytmheajenlhlbhaagreatdoor", sum := "fd971b99c5d85ec3491b03664a930eb5334105925e47c2c6a09af8f4ee0a3e2c", func := "withy/withylaw19.BuildFull", spec := "buildFull", inPlace := ["internal/abi.NoEscape", "internal/bytealg.MakeNoZero", "internal/reflectlite.TypeOf", "internal/reflectlite.ValueOf", "(internal/reflectlite.Value).Type", "(internal/reflectlite.Value).IsNil", "(internal/reflectlite.Value).Elem", "(internal/reflectlite.Value).Set"], unfollowed := true, recurses := true, named := ["errors.errorType"], apart := false, laid := [("errors.errorType", laid_errors_errorType)], narrowed := true }
def BuildFullUptoSaid : Prop := buildFullUptoRow.holds Tryz.pinned (OpenSpec.upto buildFullSpec)

/-- 'withylaw19.BuildSynced', WHERE WHAT IT READS IS OF BULK AT MOST 1048576: true; the input reads as it did. -/
def buildSyncedUptoRow : OpenClaim := { program := "ytmheajenlhlbhaagreatdoor", sum := "fd971b99c5d85ec3491b03664a930eb5334105925e47c2c6a09af8f4ee0a3e2c", func := "withy/withylaw19.BuildSynced", spec := "buildSynced", inPlace := ["internal/abi.NoEscape", "internal/bytealg.MakeNoZero", "internal/reflectlite.TypeOf", "internal/reflectlite.ValueOf", "(internal/reflectlite.Value).Type", "(internal/reflectlite.Value).IsNil", "(internal/reflectlite.Value).Elem", "(internal/reflectlite.Value).Set"], unfollowed := true, recurses := true, named := ["errors.errorType"], apart := false, laid := [("errors.errorType", laid_errors_errorType)], narrowed := true }
def BuildSyncedUptoSaid : Prop := buildSyncedUptoRow.holds Tryz.pinned (OpenSpec.upto buildSyncedSpec)

/-- 'withylaw19.BuildOther', WHERE WHAT IT READS IS OF BULK AT MOST 1048576: true; the input reads as it did. -/
def buildOtherUptoRow : OpenClaim := { program := "ytmheajenlhlbhaagreatdoor", sum := "fd971b99c5d85ec3491b03664a930eb5334105925e47c2c6a09af8f4ee0a3e2c", func := "withy/withylaw19.BuildOther", spec := "buildOther", inPlace := ["internal/abi.NoEscape", "internal/bytealg.MakeNoZero", "internal/reflectlite.TypeOf", "internal/reflectlite.ValueOf", "(internal/reflectlite.Value).Type", "(internal/reflectlite.Value).IsNil", "(internal/reflectlite.Value).Elem", "(internal/reflectlite.Value).Set"], unfollowed := true, recurses := true, named := ["errors.errorType"], apart := false, laid := [("errors.errorType", laid_errors_errorType)], narrowed := true }
def BuildOtherUptoSaid : Prop := buildOtherUptoRow.holds Tryz.pinned (OpenSpec.upto buildOtherSpec)

/-- 'withylaw19.BuildSteps', WHERE WHAT IT READS IS OF BULK AT MOST 1048576: true; the input reads as it did. -/
def buildStepsUptoRow : OpenClaim := { program := "ytmheajenlhlbhaagreatdoor", sum := "fd971b99c5d85ec3491b03664a930eb5334105925e47c2c6a09af8f4ee0a3e2c", func := "withy/withylaw19.BuildSteps", spec := "buildSteps", inPlace := ["internal/abi.NoEscape", "internal/bytealg.MakeNoZero", "internal/reflectlite.TypeOf", "internal/reflectlite.ValueOf", "(internal/reflectlite.Value).Type", "(internal/reflectlite.Value).IsNil", "(internal/reflectlite.Value).Elem", "(internal/reflectlite.Value).Set"], unfollowed := true, recurses := true, named := ["errors.errorType"], apart := false, laid := [("errors.errorType", laid_errors_errorType)], narrowed := true }
def BuildStepsUptoSaid : Prop := buildStepsUptoRow.holds Tryz.pinned (OpenSpec.upto buildStepsSpec)

/-- 'withylaw19.BuildCrash', WHERE WHAT IT READS IS OF BULK AT MOST 1048576: true; the input reads as it did. -/
def buildCrashUptoRow : OpenClaim := { program := "ytmheajenlhlbhaagreatdoor", sum := "fd971b99c5d85ec3491b03664a930eb5334105925e47c2c6a09af8f4ee0a3e2c", func := "withy/withylaw19.BuildCrash", spec := "buildCrash", inPlace := ["internal/abi.NoEscape", "internal/bytealg.MakeNoZero", "internal/reflectlite.TypeOf", "internal/reflectlite.ValueOf", "(internal/reflectlite.Value).Type", "(internal/reflectlite.Value).IsNil", "(internal/reflectlite.Value).Elem", "(internal/reflectlite.Value).Set"], unfollowed := true, recurses := true, named := ["errors.errorType"], apart := false, laid := [("errors.errorType", laid_errors_errorType)], narrowed := true }
def BuildCrashUptoSaid : Prop := buildCrashUptoRow.holds Tryz.pinned (OpenSpec.upto buildCrashSpec)

end Rows
end Go.Proofs.YtmheajenlhlbhaaGreatDoor
