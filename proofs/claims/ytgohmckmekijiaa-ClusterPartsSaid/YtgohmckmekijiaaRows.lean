/-
  No cell of these rows narrows 'for every input' (looked for: loops, veiled, ifaces, maps, wideKeys, modest, calm, conditions, laid).
  DERIVED. THE GIVEN ROWS OF THIS SEAT. 5 by the template 'for every input the law returns true; each argument reads behind the call as it read before'; 0 by the template 'total and deterministic' (their statements: YtgohmckmekijiaaTotals.lean).
  GIVEN WITH THE SEED: the statements are not yours to turn. If you find one false, say at which input.
  Laid BY PROGRAM, IN A SANDBOX (cutbox-rows.mjs): the forced cells as the released guide's own fill.sh prints them over the translation 7401aa1ecc9b14c0… (all of the seat's roots in one cut). By AI agents, Wed Nov 11 2026. No macro, syntax, notation, axiom, sorry.
-/
import Derived.Test.YtgohmckmekijiaaChecked
import GoSem.Claim
import GoSem.ClaimJoined
import GoSem.ClaimMapViews
import Derived.JoinedTies
import Derived.KernelRfl
namespace Go.Proofs.Ytgohmckmekijiaa
/- THE CELL 'sum', in the pinned program and in every row, IS THE sha256 OF THE DUMP (.gsa) THAT YtgohmckmekijiaaProg.lean LOADS. Nothing in Lean hashes anything: it is a label: what it is worth is what the hold of that sum in a sandbox is worth. -/
noncomputable def Try.pinned : Pinned := { name := "ytgohmckmekijiaa", sum := "7401aa1ecc9b14c02e60381dcf56df3bd198172f3fa6a13909df75c171ba84ab", checked := Try.checked }
namespace Rows
def none {H : Type} : Left H := { results := [], args := [] }

/-- 'quirelaw06.ClusterSplits': WHATEVER THE INPUT: true; the input reads as it did. -/
def clusterSplitsSpec : ChangeSpec := { name := "clusterSplits", fn := fun _ => fun
  | [d] => { results := [.lit (.bool true)], args := [d] }
  | _ => none }
def clusterSplitsRow : OpenClaim := { program := "ytgohmckmekijiaa", sum := "7401aa1ecc9b14c02e60381dcf56df3bd198172f3fa6a13909df75c171ba84ab", func := "quire/quirelaw06.ClusterSplits", spec := "clusterSplits", unfollowed := true, recurses := true, apart := false }
def ClusterSplitsSaid : Prop := clusterSplitsRow.holds Try.pinned (OpenSpec.ofChange clusterSplitsSpec)

/-- ITS FALSE NEIGHBOUR: 'it returns false'. Refute it at one input. -/
def clusterSplitsWrong : ChangeSpec := { name := "clusterSplits", fn := fun _ => fun
  | [d] => { results := [.lit (.bool false)], args := [d] }
  | _ => none }
def ClusterSplitsWrongFalsely : Prop := clusterSplitsRow.holds Try.pinned (OpenSpec.ofChange clusterSplitsWrong)

/-- 'quirelaw06.ClusterMoves': WHATEVER THE INPUT: true; the input reads as it did. -/
def clusterMovesSpec : ChangeSpec := { name := "clusterMoves", fn := fun _ => fun
  | [d1, d2] => { results := [.lit (.bool true)], args := [d1, d2] }
  | _ => none }
def clusterMovesRow : OpenClaim := { program := "ytgohmckmekijiaa", sum := "7401aa1ecc9b14c02e60381dcf56df3bd198172f3fa6a13909df75c171ba84ab", func := "quire/quirelaw06.ClusterMoves", spec := "clusterMoves", unfollowed := true, recurses := true, apart := false }
def ClusterMovesSaid : Prop := clusterMovesRow.holds Try.pinned (OpenSpec.ofChange clusterMovesSpec)

/-- ITS FALSE NEIGHBOUR: 'it returns false'. Refute it at one input. -/
def clusterMovesWrong : ChangeSpec := { name := "clusterMoves", fn := fun _ => fun
  | [d1, d2] => { results := [.lit (.bool false)], args := [d1, d2] }
  | _ => none }
def ClusterMovesWrongFalsely : Prop := clusterMovesRow.holds Try.pinned (OpenSpec.ofChange clusterMovesWrong)

/-- 'quirelaw06.ClusterKnown': WHATEVER THE INPUT: true; the input reads as it did. -/
def clusterKnownSpec : ChangeSpec := { name := "clusterKnown", fn := fun _ => fun
  | [] => { results := [.lit (.bool true)], args := [] }
  | _ => none }
def clusterKnownRow : OpenClaim := { program := "ytgohmckmekijiaa", sum := "7401aa1ecc9b14c02e60381dcf56df3bd198172f3fa6a13909df75c171ba84ab", func := "quire/quirelaw06.ClusterKnown", spec := "clusterKnown", unfollowed := true, recurses := true, apart := false }
def ClusterKnownSaid : Prop := clusterKnownRow.holds Try.pinned (OpenSpec.ofChange clusterKnownSpec)

/-- ITS FALSE NEIGHBOUR: 'it returns false'. Refute it at one input. -/
def clusterKnownWrong : ChangeSpec := { name := "clusterKnown", fn := fun _ => fun
  | [] => { results := [.lit (.bool false)], args := [] }
  | _ => none }
def ClusterKnownWrongFalsely : Prop := clusterKnownRow.holds Try.pinned (OpenSpec.ofChange clusterKnownWrong)

/-- 'quirelaw06.ClusterWhole': WHATEVER THE INPUT: true; the input reads as it did. -/
def clusterWholeSpec : ChangeSpec := { name := "clusterWhole", fn := fun _ => fun
  | [d] => { results := [.lit (.bool true)], args := [d] }
  | _ => none }
def clusterWholeRow : OpenClaim := { program := "ytgohmckmekijiaa", sum := "7401aa1ecc9b14c02e60381dcf56df3bd198172f3fa6a13909df75c171ba84ab", func := "quire/quirelaw06.ClusterWhole", spec := "clusterWhole", unfollowed := true, recurses := true, apart := false }
def ClusterWholeSaid : Prop := clusterWholeRow.holds Try.pinned (OpenSpec.ofChange clusterWholeSpec)

/-- ITS FALSE NEIGHBOUR: 'it returns false'. Refute it at one input. -/
def clusterWholeWrong : ChangeSpec := { name := "clusterWhole", fn := fun _ => fun
  | [d] => { results := [.lit (.bool false)], args := [d] }
  | _ => none }
def ClusterWholeWrongFalsely : Prop := clusterWholeRow.holds Try.pinned (OpenSpec.ofChange clusterWholeWrong)

/-- 'quirelaw06.ClusterParts': WHATEVER THE INPUT: true; the input reads as it did. -/
def clusterPartsSpec : ChangeSpec := { name := "clusterParts", fn := fun _ => fun
  | [d1, d2] => { results := [.lit (.bool true)], args := [d1, d2] }
  | _ => none }
def clusterPartsRow : OpenClaim := { program := "ytgohmckmekijiaa", sum := "7401aa1ecc9b14c02e60381dcf56df3bd198172f3fa6a13909df75c171ba84ab", func := "quire/quirelaw06.ClusterParts", spec := "clusterParts", unfollowed := true, recurses := true, apart := false }
def ClusterPartsSaid : Prop := clusterPartsRow.holds Try.pinned (OpenSpec.ofChange clusterPartsSpec)

/-- ITS FALSE NEIGHBOUR: 'it returns false'. Refute it at one input. -/
def clusterPartsWrong : ChangeSpec := { name := "clusterParts", fn := fun _ => fun
  | [d1, d2] => { results := [.lit (.bool false)], args := [d1, d2] }
  | _ => none }
def ClusterPartsWrongFalsely : Prop := clusterPartsRow.holds Try.pinned (OpenSpec.ofChange clusterPartsWrong)

/- THE SECOND FORM. 'bulk': how many values and letters a reading holds, each counted each time it is reached (what is shared counts as often as it is met; a slice's spare places count too). A statement '..UptoSaid' is the law's where the arguments, and the package variables that the reading takes, are together of bulk at most 1048576: NARROWER than '..Said'. Prove '..Said' where nothing that the law and all that it calls make is longer than what came in: it says more and counts as full. Else prove '..UptoSaid'. A law counts once. -/
mutual
def uptoBulk {H : Type} : DataW H → Nat
  | .lit (.string bytes) => bytes.length + 1
  | .lit _ => 1
  | .nil => 1
  | .ptr d => uptoBulk d + 1
  | .slice elems spare => uptoBulkAll elems + uptoBulkAll spare + 1
  | .agg parts => uptoBulkAll parts + 1
  | .iface _ d => uptoBulk d + 1
  | .map entries => uptoBulkEntries entries + 1
  | .held _ => 1
def uptoBulkAll {H : Type} : List (DataW H) → Nat
  | [] => 0
  | d :: r => uptoBulk d + uptoBulkAll r
def uptoBulkEntries {H : Type} : List (Lit × DataW H) → Nat
  | [] => 0
  | x :: r => uptoBulkEntry x + uptoBulkEntries r
def uptoBulkEntry {H : Type} : Lit × DataW H → Nat
  | (.string bytes, d) => bytes.length + uptoBulk d + 1
  | (_, d) => uptoBulk d + 1
 end
def uptoSmall : (H : Type) → List (DataW H) → Bool := fun _ ds => decide (uptoBulkAll ds ≤ 1048576)
def OpenSpec.upto (s : _root_.Go.ChangeSpec) : _root_.Go.OpenSpec := { _root_.Go.OpenSpec.ofChange s with cond := some uptoSmall }

/-- 'quirelaw06.ClusterSplits', WHERE WHAT IT READS IS OF BULK AT MOST 1048576: true; the input reads as it did. -/
def clusterSplitsUptoRow : OpenClaim := { program := "ytgohmckmekijiaa", sum := "7401aa1ecc9b14c02e60381dcf56df3bd198172f3fa6a13909df75c171ba84ab", func := "quire/quirelaw06.ClusterSplits", spec := "clusterSplits", unfollowed := true, recurses := true, apart := false, narrowed := true }
def ClusterSplitsUptoSaid : Prop := clusterSplitsUptoRow.holds Try.pinned (OpenSpec.upto clusterSplitsSpec)

/-- 'quirelaw06.ClusterMoves', WHERE WHAT IT READS IS OF BULK AT MOST 1048576: true; the input reads as it did. -/
def clusterMovesUptoRow : OpenClaim := { program := "ytgohmckmekijiaa", sum := "7401aa1ecc9b14c02e60381dcf56df3bd198172f3fa6a13909df75c171ba84ab", func := "quire/quirelaw06.ClusterMoves", spec := "clusterMoves", unfollowed := true, recurses := true, apart := false, narrowed := true }
def ClusterMovesUptoSaid : Prop := clusterMovesUptoRow.holds Try.pinned (OpenSpec.upto clusterMovesSpec)

/-- 'quirelaw06.ClusterKnown', WHERE WHAT IT READS IS OF BULK AT MOST 1048576: true; the input reads as it did. -/
def clusterKnownUptoRow : OpenClaim := { program := "ytgohmckmekijiaa", sum := "7401aa1ecc9b14c02e60381dcf56df3bd198172f3fa6a13909df75c171ba84ab", func := "quire/quirelaw06.ClusterKnown", spec := "clusterKnown", unfollowed := true, recurses := true, apart := false, narrowed := true }
def ClusterKnownUptoSaid : Prop := clusterKnownUptoRow.holds Try.pinned (OpenSpec.upto clusterKnownSpec)

/-- 'quirelaw06.ClusterWhole', WHERE WHAT IT READS IS OF BULK AT MOST 1048576: true; the input reads as it did. -/
def clusterWholeUptoRow : OpenClaim := { program := "ytgohmckmekijiaa", sum := "7401aa1ecc9b14c02e60381dcf56df3bd198172f3fa6a13909df75c171ba84ab", func := "quire/quirelaw06.ClusterWhole", spec := "clusterWhole", unfollowed := true, recurses := true, apart := false, narrowed := true }
def ClusterWholeUptoSaid : Prop := clusterWholeUptoRow.holds Try.pinned (OpenSpec.upto clusterWholeSpec)

/-- 'quirelaw06.ClusterParts', WHERE WHAT IT READS IS OF BULK AT MOST 1048576: true; the input reads as it did. -/
def clusterPartsUptoRow : OpenClaim := { program := "ytgohmckmekijiaa", sum := "7401aa1ecc9b14c02e60381dcf56df3bd198172f3fa6a13909df75c171ba84ab", func := "quire/quirelaw06.ClusterParts", spec := "clusterParts", unfollowed := true, recurses := true, apart := false, narrowed := true }
def ClusterPartsUptoSaid : Prop := clusterPartsUptoRow.holds Try.pinned (OpenSpec.upto clusterPartsSpec)

end Rows
end Go.Proofs.Ytgohmckmekijiaa
