/-
  No cell of these rows narrows 'for every input' (looked for: loops, veiled, ifaces, maps, wideKeys, modest, calm, conditions, laid).
  DERIVED. THE GIVEN ROWS OF THIS SEAT. 8 by the template 'for every input the law returns true; each argument reads behind the call as it read before'; 0 by the template 'total and deterministic' (their statements: YtoodiihimjalfaaTotals.lean).
  GIVEN WITH THE SEED: the statements are not yours to turn. If you find one false, say at which input.
  Laid BY PROGRAM, IN A SANDBOX (cutbox-rows.mjs): the forced cells as the released guide's own fill.sh prints them over the translation 53f88f506f3cc6d9… (all of the seat's roots in one cut). By AI agents, Wed Nov 11 2026. No macro, syntax, notation, axiom, sorry.
-/
import Derived.Test.YtoodiihimjalfaaChecked
import GoSem.Claim
import GoSem.ClaimJoined
import GoSem.ClaimMapViews
import Derived.JoinedTies
import Derived.KernelRfl
namespace Go.Proofs.Ytoodiihimjalfaa
/- THE CELL 'sum', in the pinned program and in every row, IS THE sha256 OF THE DUMP (.gsa) THAT YtoodiihimjalfaaProg.lean LOADS. Nothing in Lean hashes anything: it is a label: what it is worth is what the hold of that sum in a sandbox is worth. -/
noncomputable def Try.pinned : Pinned := { name := "ytoodiihimjalfaa", sum := "53f88f506f3cc6d92afd90a3a9db7ab72822fc2dd0dbbb2736a9338d588ef0b4", checked := Try.checked }
namespace Rows
def none {H : Type} : Left H := { results := [], args := [] }

/-- 'quirelaw19.ColumnSplits': WHATEVER THE INPUT: true; the input reads as it did. -/
def columnSplitsSpec : ChangeSpec := { name := "columnSplits", fn := fun _ => fun
  | [d1, d2, d3, d4, d5, d6] => { results := [.lit (.bool true)], args := [d1, d2, d3, d4, d5, d6] }
  | _ => none }
def columnSplitsRow : OpenClaim := { program := "ytoodiihimjalfaa", sum := "53f88f506f3cc6d92afd90a3a9db7ab72822fc2dd0dbbb2736a9338d588ef0b4", func := "quire/quirelaw19.ColumnSplits", spec := "columnSplits", apart := false }
def ColumnSplitsSaid : Prop := columnSplitsRow.holds Try.pinned (OpenSpec.ofChange columnSplitsSpec)

/-- ITS FALSE NEIGHBOUR: 'it returns false'. Refute it at one input. -/
def columnSplitsWrong : ChangeSpec := { name := "columnSplits", fn := fun _ => fun
  | [d1, d2, d3, d4, d5, d6] => { results := [.lit (.bool false)], args := [d1, d2, d3, d4, d5, d6] }
  | _ => none }
def ColumnSplitsWrongFalsely : Prop := columnSplitsRow.holds Try.pinned (OpenSpec.ofChange columnSplitsWrong)

/-- 'quirelaw19.ColumnKeeps': WHATEVER THE INPUT: true; the input reads as it did. -/
def columnKeepsSpec : ChangeSpec := { name := "columnKeeps", fn := fun _ => fun
  | [d1, d2, d3, d4, d5, d6] => { results := [.lit (.bool true)], args := [d1, d2, d3, d4, d5, d6] }
  | _ => none }
def columnKeepsRow : OpenClaim := { program := "ytoodiihimjalfaa", sum := "53f88f506f3cc6d92afd90a3a9db7ab72822fc2dd0dbbb2736a9338d588ef0b4", func := "quire/quirelaw19.ColumnKeeps", spec := "columnKeeps", apart := false }
def ColumnKeepsSaid : Prop := columnKeepsRow.holds Try.pinned (OpenSpec.ofChange columnKeepsSpec)

/-- ITS FALSE NEIGHBOUR: 'it returns false'. Refute it at one input. -/
def columnKeepsWrong : ChangeSpec := { name := "columnKeeps", fn := fun _ => fun
  | [d1, d2, d3, d4, d5, d6] => { results := [.lit (.bool false)], args := [d1, d2, d3, d4, d5, d6] }
  | _ => none }
def ColumnKeepsWrongFalsely : Prop := columnKeepsRow.holds Try.pinned (OpenSpec.ofChange columnKeepsWrong)

/-- 'quirelaw19.ColumnFills': WHATEVER THE INPUT: true; the input reads as it did. -/
def columnFillsSpec : ChangeSpec := { name := "columnFills", fn := fun _ => fun
  | [d1, d2, d3, d4, d5] => { results := [.lit (.bool true)], args := [d1, d2, d3, d4, d5] }
  | _ => none }
def columnFillsRow : OpenClaim := { program := "ytoodiihimjalfaa", sum := "53f88f506f3cc6d92afd90a3a9db7ab72822fc2dd0dbbb2736a9338d588ef0b4", func := "quire/quirelaw19.ColumnFills", spec := "columnFills", apart := false }
def ColumnFillsSaid : Prop := columnFillsRow.holds Try.pinned (OpenSpec.ofChange columnFillsSpec)

/-- ITS FALSE NEIGHBOUR: 'it returns false'. Refute it at one input. -/
def columnFillsWrong : ChangeSpec := { name := "columnFills", fn := fun _ => fun
  | [d1, d2, d3, d4, d5] => { results := [.lit (.bool false)], args := [d1, d2, d3, d4, d5] }
  | _ => none }
def ColumnFillsWrongFalsely : Prop := columnFillsRow.holds Try.pinned (OpenSpec.ofChange columnFillsWrong)

/-- 'quirelaw19.ColumnTakes': WHATEVER THE INPUT: true; the input reads as it did. -/
def columnTakesSpec : ChangeSpec := { name := "columnTakes", fn := fun _ => fun
  | [d1, d2, d3] => { results := [.lit (.bool true)], args := [d1, d2, d3] }
  | _ => none }
def columnTakesRow : OpenClaim := { program := "ytoodiihimjalfaa", sum := "53f88f506f3cc6d92afd90a3a9db7ab72822fc2dd0dbbb2736a9338d588ef0b4", func := "quire/quirelaw19.ColumnTakes", spec := "columnTakes", apart := false }
def ColumnTakesSaid : Prop := columnTakesRow.holds Try.pinned (OpenSpec.ofChange columnTakesSpec)

/-- ITS FALSE NEIGHBOUR: 'it returns false'. Refute it at one input. -/
def columnTakesWrong : ChangeSpec := { name := "columnTakes", fn := fun _ => fun
  | [d1, d2, d3] => { results := [.lit (.bool false)], args := [d1, d2, d3] }
  | _ => none }
def ColumnTakesWrongFalsely : Prop := columnTakesRow.holds Try.pinned (OpenSpec.ofChange columnTakesWrong)

/-- 'quirelaw19.ColumnKnown': WHATEVER THE INPUT: true; the input reads as it did. -/
def columnKnownSpec : ChangeSpec := { name := "columnKnown", fn := fun _ => fun
  | [] => { results := [.lit (.bool true)], args := [] }
  | _ => none }
def columnKnownRow : OpenClaim := { program := "ytoodiihimjalfaa", sum := "53f88f506f3cc6d92afd90a3a9db7ab72822fc2dd0dbbb2736a9338d588ef0b4", func := "quire/quirelaw19.ColumnKnown", spec := "columnKnown", apart := false }
def ColumnKnownSaid : Prop := columnKnownRow.holds Try.pinned (OpenSpec.ofChange columnKnownSpec)

/-- ITS FALSE NEIGHBOUR: 'it returns false'. Refute it at one input. -/
def columnKnownWrong : ChangeSpec := { name := "columnKnown", fn := fun _ => fun
  | [] => { results := [.lit (.bool false)], args := [] }
  | _ => none }
def ColumnKnownWrongFalsely : Prop := columnKnownRow.holds Try.pinned (OpenSpec.ofChange columnKnownWrong)

/-- 'quirelaw20.BalanceTells': WHATEVER THE INPUT: true; the input reads as it did. -/
def balanceTellsSpec : ChangeSpec := { name := "balanceTells", fn := fun _ => fun
  | [d1, d2, d3] => { results := [.lit (.bool true)], args := [d1, d2, d3] }
  | _ => none }
def balanceTellsRow : OpenClaim := { program := "ytoodiihimjalfaa", sum := "53f88f506f3cc6d92afd90a3a9db7ab72822fc2dd0dbbb2736a9338d588ef0b4", func := "quire/quirelaw20.BalanceTells", spec := "balanceTells", apart := false }
def BalanceTellsSaid : Prop := balanceTellsRow.holds Try.pinned (OpenSpec.ofChange balanceTellsSpec)

/-- ITS FALSE NEIGHBOUR: 'it returns false'. Refute it at one input. -/
def balanceTellsWrong : ChangeSpec := { name := "balanceTells", fn := fun _ => fun
  | [d1, d2, d3] => { results := [.lit (.bool false)], args := [d1, d2, d3] }
  | _ => none }
def BalanceTellsWrongFalsely : Prop := balanceTellsRow.holds Try.pinned (OpenSpec.ofChange balanceTellsWrong)

/-- 'quirelaw20.BalanceLeast': WHATEVER THE INPUT: true; the input reads as it did. -/
def balanceLeastSpec : ChangeSpec := { name := "balanceLeast", fn := fun _ => fun
  | [d1, d2, d3] => { results := [.lit (.bool true)], args := [d1, d2, d3] }
  | _ => none }
def balanceLeastRow : OpenClaim := { program := "ytoodiihimjalfaa", sum := "53f88f506f3cc6d92afd90a3a9db7ab72822fc2dd0dbbb2736a9338d588ef0b4", func := "quire/quirelaw20.BalanceLeast", spec := "balanceLeast", apart := false }
def BalanceLeastSaid : Prop := balanceLeastRow.holds Try.pinned (OpenSpec.ofChange balanceLeastSpec)

/-- ITS FALSE NEIGHBOUR: 'it returns false'. Refute it at one input. -/
def balanceLeastWrong : ChangeSpec := { name := "balanceLeast", fn := fun _ => fun
  | [d1, d2, d3] => { results := [.lit (.bool false)], args := [d1, d2, d3] }
  | _ => none }
def BalanceLeastWrongFalsely : Prop := balanceLeastRow.holds Try.pinned (OpenSpec.ofChange balanceLeastWrong)

/-- 'quirelaw20.BalanceKnown': WHATEVER THE INPUT: true; the input reads as it did. -/
def balanceKnownSpec : ChangeSpec := { name := "balanceKnown", fn := fun _ => fun
  | [] => { results := [.lit (.bool true)], args := [] }
  | _ => none }
def balanceKnownRow : OpenClaim := { program := "ytoodiihimjalfaa", sum := "53f88f506f3cc6d92afd90a3a9db7ab72822fc2dd0dbbb2736a9338d588ef0b4", func := "quire/quirelaw20.BalanceKnown", spec := "balanceKnown", apart := false }
def BalanceKnownSaid : Prop := balanceKnownRow.holds Try.pinned (OpenSpec.ofChange balanceKnownSpec)

/-- ITS FALSE NEIGHBOUR: 'it returns false'. Refute it at one input. -/
def balanceKnownWrong : ChangeSpec := { name := "balanceKnown", fn := fun _ => fun
  | [] => { results := [.lit (.bool false)], args := [] }
  | _ => none }
def BalanceKnownWrongFalsely : Prop := balanceKnownRow.holds Try.pinned (OpenSpec.ofChange balanceKnownWrong)

/- THE SECOND FORM. 'bulk': how many values and letters a reading holds, each counted each time it is reached (what is shared counts as often as it is met; a slice's spare places count too). A statement '..UptoSaid' is the law's where the arguments, and the package variables that the reading takes, are together of bulk at most 1048576: NARROWER than '..Said'. Prove '..Said' where nothing that the law and all that it calls make is longer than what came in: it says more and counts as full. Else prove '..UptoSaid'. A law counts once. -/
mutual
def uptoBulk {H : Type} : DataW H → Nat
  | .lit (.string bytes) => bytes.length + 1
  | .lit _ => 1
  | .nil => 1
  | .ptr d => uptoBulk d + 1
  | .slice elems spare => uptoBulkAll elems + uptoBulkAll spare + 1
  | .agg parts => uptoBulkAll parts + 1
  | .iface _ d => uptoBulk d + 1
  | .map entries => uptoBulkEntries entries + 1
  | .held _ => 1
def uptoBulkAll {H : Type} : List (DataW H) → Nat
  | [] => 0
  | d :: r => uptoBulk d + uptoBulkAll r
def uptoBulkEntries {H : Type} : List (Lit × DataW H) → Nat
  | [] => 0
  | x :: r => uptoBulkEntry x + uptoBulkEntries r
def uptoBulkEntry {H : Type} : Lit × DataW H → Nat
  | (.string bytes, d) => bytes.length + uptoBulk d + 1
  | (_, d) => uptoBulk d + 1
 end
def uptoSmall : (H : Type) → List (DataW H) → Bool := fun _ ds => decide (uptoBulkAll ds ≤ 1048576)
def OpenSpec.upto (s : _root_.Go.ChangeSpec) : _root_.Go.OpenSpec := { _root_.Go.OpenSpec.ofChange s with cond := some uptoSmall }

/-- 'quirelaw19.ColumnSplits', WHERE WHAT IT READS IS OF BULK AT MOST 1048576: true; the input reads as it did. -/
def columnSplitsUptoRow : OpenClaim := { program := "ytoodiihimjalfaa", sum := "53f88f506f3cc6d92afd90a3a9db7ab72822fc2dd0dbbb2736a9338d588ef0b4", func := "quire/quirelaw19.ColumnSplits", spec := "columnSplits", apart := false, narrowed := true }
def ColumnSplitsUptoSaid : Prop := columnSplitsUptoRow.holds Try.pinned (OpenSpec.upto columnSplitsSpec)

/-- 'quirelaw19.ColumnKeeps', WHERE WHAT IT READS IS OF BULK AT MOST 1048576: true; the input reads as it did. -/
def columnKeepsUptoRow : OpenClaim := { program := "ytoodiihimjalfaa", sum := "53f88f506f3cc6d92afd90a3a9db7ab72822fc2dd0dbbb2736a9338d588ef0b4", func := "quire/quirelaw19.ColumnKeeps", spec := "columnKeeps", apart := false, narrowed := true }
def ColumnKeepsUptoSaid : Prop := columnKeepsUptoRow.holds Try.pinned (OpenSpec.upto columnKeepsSpec)

/-- 'quirelaw19.ColumnFills', WHERE WHAT IT READS IS OF BULK AT MOST 1048576: true; the input reads as it did. -/
def columnFillsUptoRow : OpenClaim := { program := "ytoodiihimjalfaa", sum := "53f88f506f3cc6d92afd90a3a9db7ab72822fc2dd0dbbb2736a9338d588ef0b4", func := "quire/quirelaw19.ColumnFills", spec := "columnFills", apart := false, narrowed := true }
def ColumnFillsUptoSaid : Prop := columnFillsUptoRow.holds Try.pinned (OpenSpec.upto columnFillsSpec)

/-- 'quirelaw19.ColumnTakes', WHERE WHAT IT READS IS OF BULK AT MOST 1048576: true; the input reads as it did. -/
def columnTakesUptoRow : OpenClaim := { program := "ytoodiihimjalfaa", sum := "53f88f506f3cc6d92afd90a3a9db7ab72822fc2dd0dbbb2736a9338d588ef0b4", func := "quire/quirelaw19.ColumnTakes", spec := "columnTakes", apart := false, narrowed := true }
def ColumnTakesUptoSaid : Prop := columnTakesUptoRow.holds Try.pinned (OpenSpec.upto columnTakesSpec)

/-- 'quirelaw19.ColumnKnown', WHERE WHAT IT READS IS OF BULK AT MOST 1048576: true; the input reads as it did. -/
def columnKnownUptoRow : OpenClaim := { program := "ytoodiihimjalfaa", sum := "53f88f506f3cc6d92afd90a3a9db7ab72822fc2dd0dbbb2736a9338d588ef0b4", func := "quire/quirelaw19.ColumnKnown", spec := "columnKnown", apart := false, narrowed := true }
def ColumnKnownUptoSaid : Prop := columnKnownUptoRow.holds Try.pinned (OpenSpec.upto columnKnownSpec)

/-- 'quirelaw20.BalanceTells', WHERE WHAT IT READS IS OF BULK AT MOST 1048576: true; the input reads as it did. -/
def balanceTellsUptoRow : OpenClaim := { program := "ytoodiihimjalfaa", sum := "53f88f506f3cc6d92afd90a3a9db7ab72822fc2dd0dbbb2736a9338d588ef0b4", func := "quire/quirelaw20.BalanceTells", spec := "balanceTells", apart := false, narrowed := true }
def BalanceTellsUptoSaid : Prop := balanceTellsUptoRow.holds Try.pinned (OpenSpec.upto balanceTellsSpec)

/-- 'quirelaw20.BalanceLeast', WHERE WHAT IT READS IS OF BULK AT MOST 1048576: true; the input reads as it did. -/
def balanceLeastUptoRow : OpenClaim := { program := "ytoodiihimjalfaa", sum := "53f88f506f3cc6d92afd90a3a9db7ab72822fc2dd0dbbb2736a9338d588ef0b4", func := "quire/quirelaw20.BalanceLeast", spec := "balanceLeast", apart := false, narrowed := true }
def BalanceLeastUptoSaid : Prop := balanceLeastUptoRow.holds Try.pinned (OpenSpec.upto balanceLeastSpec)

/-- 'quirelaw20.BalanceKnown', WHERE WHAT IT READS IS OF BULK AT MOST 1048576: true; the input reads as it did. -/
def balanceKnownUptoRow : OpenClaim := { program := "ytoodiihimjalfaa", sum := "53f88f506f3cc6d92afd90a3a9db7ab72822fc2dd0dbbb2736a9338d588ef0b4", func := "quire/quirelaw20.BalanceKnown", spec := "balanceKnown", apart := false, narrowed := true }
def BalanceKnownUptoSaid : Prop := balanceKnownUptoRow.holds Try.pinned (OpenSpec.upto balanceKnownSpec)

end Rows
end Go.Proofs.Ytoodiihimjalfaa
