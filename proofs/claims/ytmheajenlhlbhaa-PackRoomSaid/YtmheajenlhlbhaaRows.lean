/-
  No cell of these rows narrows 'for every input' (looked for: loops, veiled, ifaces, maps, wideKeys, modest, calm, conditions, laid).
  DERIVED. THE GIVEN ROWS OF THIS SEAT. 4 by the template 'for every input the law returns true; each argument reads behind the call as it read before'; 0 by the template 'total and deterministic' (their statements: YtmheajenlhlbhaaTotals.lean).
  GIVEN WITH THE SEED: the statements are not yours to turn. If you find one false, say at which input.
  Laid BY PROGRAM, IN A SANDBOX (cutbox-rows.mjs): the forced cells as the released guide's own fill.sh prints them over the translation bcdabdf485a876f3… (all of the seat's roots in one cut). By AI agents, Wed Nov 11 2026. No macro, syntax, notation, axiom, sorry.
-/
import Derived.Test.YtmheajenlhlbhaaChecked
import GoSem.Claim
import GoSem.ClaimJoined
import GoSem.ClaimMapViews
import Derived.JoinedTies
import Derived.KernelRfl
namespace Go.Proofs.Ytmheajenlhlbhaa
/- THE CELL 'sum', in the pinned program and in every row, IS THE sha256 OF THE DUMP (.gsa) THAT YtmheajenlhlbhaaProg.lean LOADS. Nothing in Lean hashes anything: it is a label: what it is worth is what the hold of that sum in a sandbox is worth. -/
noncomputable def Try.pinned : Pinned := { name := "ytmheajenlhlbhaa", sum := "bcdabdf485a876f3696b8f5492f8e05e1af58259a37ecdbf12ed4a5c3aded83c", checked := Try.checked }
namespace Rows
def none {H : Type} : Left H := { results := [], args := [] }

/-- 'withylaw16.PackPages': WHATEVER THE INPUT: true; the input reads as it did. -/
def packPagesSpec : ChangeSpec := { name := "packPages", fn := fun _ => fun
  | [d1, d2, d3] => { results := [.lit (.bool true)], args := [d1, d2, d3] }
  | _ => none }
def packPagesRow : OpenClaim := { program := "ytmheajenlhlbhaa", sum := "bcdabdf485a876f3696b8f5492f8e05e1af58259a37ecdbf12ed4a5c3aded83c", func := "withy/withylaw16.PackPages", spec := "packPages", inPlace := ["internal/abi.NoEscape", "internal/bytealg.MakeNoZero"], unfollowed := true, recurses := true, apart := false }
def PackPagesSaid : Prop := packPagesRow.holds Try.pinned (OpenSpec.ofChange packPagesSpec)

/-- ITS FALSE NEIGHBOUR: 'it returns false'. Refute it at one input. -/
def packPagesWrong : ChangeSpec := { name := "packPages", fn := fun _ => fun
  | [d1, d2, d3] => { results := [.lit (.bool false)], args := [d1, d2, d3] }
  | _ => none }
def PackPagesWrongFalsely : Prop := packPagesRow.holds Try.pinned (OpenSpec.ofChange packPagesWrong)

/-- 'withylaw16.PackLast': WHATEVER THE INPUT: true; the input reads as it did. -/
def packLastSpec : ChangeSpec := { name := "packLast", fn := fun _ => fun
  | [d1, d2, d3] => { results := [.lit (.bool true)], args := [d1, d2, d3] }
  | _ => none }
def packLastRow : OpenClaim := { program := "ytmheajenlhlbhaa", sum := "bcdabdf485a876f3696b8f5492f8e05e1af58259a37ecdbf12ed4a5c3aded83c", func := "withy/withylaw16.PackLast", spec := "packLast", inPlace := ["internal/abi.NoEscape", "internal/bytealg.MakeNoZero"], unfollowed := true, recurses := true, apart := false }
def PackLastSaid : Prop := packLastRow.holds Try.pinned (OpenSpec.ofChange packLastSpec)

/-- ITS FALSE NEIGHBOUR: 'it returns false'. Refute it at one input. -/
def packLastWrong : ChangeSpec := { name := "packLast", fn := fun _ => fun
  | [d1, d2, d3] => { results := [.lit (.bool false)], args := [d1, d2, d3] }
  | _ => none }
def PackLastWrongFalsely : Prop := packLastRow.holds Try.pinned (OpenSpec.ofChange packLastWrong)

/-- 'withylaw16.PackStem': WHATEVER THE INPUT: true; the input reads as it did. -/
def packStemSpec : ChangeSpec := { name := "packStem", fn := fun _ => fun
  | [d1, d2] => { results := [.lit (.bool true)], args := [d1, d2] }
  | _ => none }
def packStemRow : OpenClaim := { program := "ytmheajenlhlbhaa", sum := "bcdabdf485a876f3696b8f5492f8e05e1af58259a37ecdbf12ed4a5c3aded83c", func := "withy/withylaw16.PackStem", spec := "packStem", inPlace := ["internal/abi.NoEscape", "internal/bytealg.MakeNoZero"], unfollowed := true, recurses := true, apart := false }
def PackStemSaid : Prop := packStemRow.holds Try.pinned (OpenSpec.ofChange packStemSpec)

/-- ITS FALSE NEIGHBOUR: 'it returns false'. Refute it at one input. -/
def packStemWrong : ChangeSpec := { name := "packStem", fn := fun _ => fun
  | [d1, d2] => { results := [.lit (.bool false)], args := [d1, d2] }
  | _ => none }
def PackStemWrongFalsely : Prop := packStemRow.holds Try.pinned (OpenSpec.ofChange packStemWrong)

/-- 'withylaw16.PackRoom': WHATEVER THE INPUT: true; the input reads as it did. -/
def packRoomSpec : ChangeSpec := { name := "packRoom", fn := fun _ => fun
  | [d1, d2] => { results := [.lit (.bool true)], args := [d1, d2] }
  | _ => none }
def packRoomRow : OpenClaim := { program := "ytmheajenlhlbhaa", sum := "bcdabdf485a876f3696b8f5492f8e05e1af58259a37ecdbf12ed4a5c3aded83c", func := "withy/withylaw16.PackRoom", spec := "packRoom", inPlace := ["internal/abi.NoEscape", "internal/bytealg.MakeNoZero", "internal/reflectlite.TypeOf"], unfollowed := true, recurses := true, apart := false }
def PackRoomSaid : Prop := packRoomRow.holds Try.pinned (OpenSpec.ofChange packRoomSpec)

/-- ITS FALSE NEIGHBOUR: 'it returns false'. Refute it at one input. -/
def packRoomWrong : ChangeSpec := { name := "packRoom", fn := fun _ => fun
  | [d1, d2] => { results := [.lit (.bool false)], args := [d1, d2] }
  | _ => none }
def PackRoomWrongFalsely : Prop := packRoomRow.holds Try.pinned (OpenSpec.ofChange packRoomWrong)

/- THE SECOND FORM. 'bulk': how many values and letters a reading holds, each counted each time it is reached (what is shared counts as often as it is met; a slice's spare places count too). A statement '..UptoSaid' is the law's where the arguments, and the package variables that the reading takes, are together of bulk at most 1048576: NARROWER than '..Said'. Prove '..Said' where nothing that the law and all that it calls make is longer than what came in: it says more and counts as full. Else prove '..UptoSaid'. A law counts once. -/
mutual
def uptoBulk {H : Type} : DataW H → Nat
  | .lit (.string bytes) => bytes.length + 1
  | .lit _ => 1
  | .nil => 1
  | .ptr d => uptoBulk d + 1
  | .slice elems spare => uptoBulkAll elems + uptoBulkAll spare + 1
  | .agg parts => uptoBulkAll parts + 1
  | .iface _ d => uptoBulk d + 1
  | .map entries => uptoBulkEntries entries + 1
  | .held _ => 1
def uptoBulkAll {H : Type} : List (DataW H) → Nat
  | [] => 0
  | d :: r => uptoBulk d + uptoBulkAll r
def uptoBulkEntries {H : Type} : List (Lit × DataW H) → Nat
  | [] => 0
  | x :: r => uptoBulkEntry x + uptoBulkEntries r
def uptoBulkEntry {H : Type} : Lit × DataW H → Nat
  | (.string bytes, d) => bytes.length + uptoBulk d + 1
  | (_, d) => uptoBulk d + 1
 end
def uptoSmall : (H : Type) → List (DataW H) → Bool := fun _ ds => decide (uptoBulkAll ds ≤ 1048576)
def OpenSpec.upto (s : _root_.Go.ChangeSpec) : _root_.Go.OpenSpec := { _root_.Go.OpenSpec.ofChange s with cond := some uptoSmall }

/-- 'withylaw16.PackPages', WHERE WHAT IT READS IS OF BULK AT MOST 1048576: true; the input reads as it did. -/
def packPagesUptoRow : OpenClaim := { program := "ytmheajenlhlbhaa", sum := "bcdabdf485a876f3696b8f5492f8e05e1af58259a37ecdbf12ed4a5c3aded83c", func := "withy/withylaw16.PackPages", spec := "packPages", inPlace := ["internal/abi.NoEscape", "internal/bytealg.MakeNoZero"], unfollowed := true, recurses := true, apart := false, narrowed := true }
def PackPagesUptoSaid : Prop := packPagesUptoRow.holds Try.pinned (OpenSpec.upto packPagesSpec)

/-- 'withylaw16.PackLast', WHERE WHAT IT READS IS OF BULK AT MOST 1048576: true; the input reads as it did. -/
def packLastUptoRow : OpenClaim := { program := "ytmheajenlhlbhaa", sum := "bcdabdf485a876f3696b8f5492f8e05e1af58259a37ecdbf12ed4a5c3aded83c", func := "withy/withylaw16.PackLast", spec := "packLast", inPlace := ["internal/abi.NoEscape", "internal/bytealg.MakeNoZero"], unfollowed := true, recurses := true, apart := false, narrowed := true }
def PackLastUptoSaid : Prop := packLastUptoRow.holds Try.pinned (OpenSpec.upto packLastSpec)

/-- 'withylaw16.PackStem', WHERE WHAT IT READS IS OF BULK AT MOST 1048576: true; the input reads as it did. -/
def packStemUptoRow : OpenClaim := { program := "ytmheajenlhlbhaa", sum := "bcdabdf485a876f3696b8f5492f8e05e1af58259a37ecdbf12ed4a5c3aded83c", func := "withy/withylaw16.PackStem", spec := "packStem", inPlace := ["internal/abi.NoEscape", "internal/bytealg.MakeNoZero"], unfollowed := true, recurses := true, apart := false, narrowed := true }
def PackStemUptoSaid : Prop := packStemUptoRow.holds Try.pinned (OpenSpec.upto packStemSpec)

/-- 'withylaw16.PackRoom', WHERE WHAT IT READS IS OF BULK AT MOST 1048576: true; the input reads as it did. -/
def packRoomUptoRow : OpenClaim := { program := "ytmheajenlhlbhaa", sum := "bcdabdf485a876f3696b8f5492f8e05e1af58259a37ecdbf12ed4a5c3aded83c", func := "withy/withylaw16.PackRoom", spec := "packRoom", inPlace := ["internal/abi.NoEscape", "internal/bytealg.MakeNoZero", "internal/reflectlite.TypeOf"], unfollowed := true, recurses := true, apart := false, narrowed := true }
def PackRoomUptoSaid : Prop := packRoomUptoRow.holds Try.pinned (OpenSpec.upto packRoomSpec)

end Rows
end Go.Proofs.Ytmheajenlhlbhaa
