/-
  No cell of these rows narrows 'for every input' (looked for: loops, veiled, ifaces, maps, wideKeys, modest, calm, conditions, laid).
  DERIVED. THE GIVEN ROWS OF THIS SEAT. 5 by the template 'for every input the law returns true; each argument reads behind the call as it read before'; 0 by the template 'total and deterministic' (their statements: YthpmchbbfbbakaaTotals.lean).
  GIVEN WITH THE SEED: the statements are not yours to turn. If you find one false, say at which input.
  Laid BY PROGRAM, IN A SANDBOX (cutbox-rows.mjs): the forced cells as the released guide's own fill.sh prints them over the translation 91420ad423144669… (all of the seat's roots in one cut). By AI agents, Wed Nov 11 2026. No macro, syntax, notation, axiom, sorry.
-/
import Derived.Test.YthpmchbbfbbakaaChecked
import GoSem.Claim
import GoSem.ClaimJoined
import GoSem.ClaimMapViews
import Derived.JoinedTies
import Derived.KernelRfl
namespace Go.Proofs.Ythpmchbbfbbakaa
/- THE CELL 'sum', in the pinned program and in every row, IS THE sha256 OF THE DUMP (.gsa) THAT YthpmchbbfbbakaaProg.lean LOADS. Nothing in Lean hashes anything: it is a label: what it is worth is what the hold of that sum in a sandbox is worth. -/
noncomputable def Try.pinned : Pinned := { name := "ythpmchbbfbbakaa", sum := "91420ad42314466973a666198226cf2fce17f843b69d549fa561d5105d556301", checked := Try.checked }
namespace Rows
def none {H : Type} : Left H := { results := [], args := [] }

/-- 'quirelaw05.SectionBegins': WHATEVER THE INPUT: true; the input reads as it did. -/
def sectionBeginsSpec : ChangeSpec := { name := "sectionBegins", fn := fun _ => fun
  | [d1, d2, d3] => { results := [.lit (.bool true)], args := [d1, d2, d3] }
  | _ => none }
def sectionBeginsRow : OpenClaim := { program := "ythpmchbbfbbakaa", sum := "91420ad42314466973a666198226cf2fce17f843b69d549fa561d5105d556301", func := "quire/quirelaw05.SectionBegins", spec := "sectionBegins", apart := false }
def SectionBeginsSaid : Prop := sectionBeginsRow.holds Try.pinned (OpenSpec.ofChange sectionBeginsSpec)

/-- ITS FALSE NEIGHBOUR: 'it returns false'. Refute it at one input. -/
def sectionBeginsWrong : ChangeSpec := { name := "sectionBegins", fn := fun _ => fun
  | [d1, d2, d3] => { results := [.lit (.bool false)], args := [d1, d2, d3] }
  | _ => none }
def SectionBeginsWrongFalsely : Prop := sectionBeginsRow.holds Try.pinned (OpenSpec.ofChange sectionBeginsWrong)

/-- 'quirelaw05.SectionTells': WHATEVER THE INPUT: true; the input reads as it did. -/
def sectionTellsSpec : ChangeSpec := { name := "sectionTells", fn := fun _ => fun
  | [d1, d2] => { results := [.lit (.bool true)], args := [d1, d2] }
  | _ => none }
def sectionTellsRow : OpenClaim := { program := "ythpmchbbfbbakaa", sum := "91420ad42314466973a666198226cf2fce17f843b69d549fa561d5105d556301", func := "quire/quirelaw05.SectionTells", spec := "sectionTells", apart := false }
def SectionTellsSaid : Prop := sectionTellsRow.holds Try.pinned (OpenSpec.ofChange sectionTellsSpec)

/-- ITS FALSE NEIGHBOUR: 'it returns false'. Refute it at one input. -/
def sectionTellsWrong : ChangeSpec := { name := "sectionTells", fn := fun _ => fun
  | [d1, d2] => { results := [.lit (.bool false)], args := [d1, d2] }
  | _ => none }
def SectionTellsWrongFalsely : Prop := sectionTellsRow.holds Try.pinned (OpenSpec.ofChange sectionTellsWrong)

/-- 'quirelaw05.SectionApart': WHATEVER THE INPUT: true; the input reads as it did. -/
def sectionApartSpec : ChangeSpec := { name := "sectionApart", fn := fun _ => fun
  | [d1, d2] => { results := [.lit (.bool true)], args := [d1, d2] }
  | _ => none }
def sectionApartRow : OpenClaim := { program := "ythpmchbbfbbakaa", sum := "91420ad42314466973a666198226cf2fce17f843b69d549fa561d5105d556301", func := "quire/quirelaw05.SectionApart", spec := "sectionApart", apart := false }
def SectionApartSaid : Prop := sectionApartRow.holds Try.pinned (OpenSpec.ofChange sectionApartSpec)

/-- ITS FALSE NEIGHBOUR: 'it returns false'. Refute it at one input. -/
def sectionApartWrong : ChangeSpec := { name := "sectionApart", fn := fun _ => fun
  | [d1, d2] => { results := [.lit (.bool false)], args := [d1, d2] }
  | _ => none }
def SectionApartWrongFalsely : Prop := sectionApartRow.holds Try.pinned (OpenSpec.ofChange sectionApartWrong)

/-- 'quirelaw05.SectionNext': WHATEVER THE INPUT: true; the input reads as it did. -/
def sectionNextSpec : ChangeSpec := { name := "sectionNext", fn := fun _ => fun
  | [d1, d2] => { results := [.lit (.bool true)], args := [d1, d2] }
  | _ => none }
def sectionNextRow : OpenClaim := { program := "ythpmchbbfbbakaa", sum := "91420ad42314466973a666198226cf2fce17f843b69d549fa561d5105d556301", func := "quire/quirelaw05.SectionNext", spec := "sectionNext", apart := false }
def SectionNextSaid : Prop := sectionNextRow.holds Try.pinned (OpenSpec.ofChange sectionNextSpec)

/-- ITS FALSE NEIGHBOUR: 'it returns false'. Refute it at one input. -/
def sectionNextWrong : ChangeSpec := { name := "sectionNext", fn := fun _ => fun
  | [d1, d2] => { results := [.lit (.bool false)], args := [d1, d2] }
  | _ => none }
def SectionNextWrongFalsely : Prop := sectionNextRow.holds Try.pinned (OpenSpec.ofChange sectionNextWrong)

/-- 'quirelaw05.SectionKnown': WHATEVER THE INPUT: true; the input reads as it did. -/
def sectionKnownSpec : ChangeSpec := { name := "sectionKnown", fn := fun _ => fun
  | [] => { results := [.lit (.bool true)], args := [] }
  | _ => none }
def sectionKnownRow : OpenClaim := { program := "ythpmchbbfbbakaa", sum := "91420ad42314466973a666198226cf2fce17f843b69d549fa561d5105d556301", func := "quire/quirelaw05.SectionKnown", spec := "sectionKnown", apart := false }
def SectionKnownSaid : Prop := sectionKnownRow.holds Try.pinned (OpenSpec.ofChange sectionKnownSpec)

/-- ITS FALSE NEIGHBOUR: 'it returns false'. Refute it at one input. -/
def sectionKnownWrong : ChangeSpec := { name := "sectionKnown", fn := fun _ => fun
  | [] => { results := [.lit (.bool false)], args := [] }
  | _ => none }
def SectionKnownWrongFalsely : Prop := sectionKnownRow.holds Try.pinned (OpenSpec.ofChange sectionKnownWrong)

/- THE SECOND FORM. 'bulk': how many values and letters a reading holds, each counted each time it is reached (what is shared counts as often as it is met; a slice's spare places count too). A statement '..UptoSaid' is the law's where the arguments, and the package variables that the reading takes, are together of bulk at most 1048576: NARROWER than '..Said'. Prove '..Said' where nothing that the law and all that it calls make is longer than what came in: it says more and counts as full. Else prove '..UptoSaid'. A law counts once. -/
mutual
def uptoBulk {H : Type} : DataW H → Nat
  | .lit (.string bytes) => bytes.length + 1
  | .lit _ => 1
  | .nil => 1
  | .ptr d => uptoBulk d + 1
  | .slice elems spare => uptoBulkAll elems + uptoBulkAll spare + 1
  | .agg parts => uptoBulkAll parts + 1
  | .iface _ d => uptoBulk d + 1
  | .map entries => uptoBulkEntries entries + 1
  | .held _ => 1
def uptoBulkAll {H : Type} : List (DataW H) → Nat
  | [] => 0
  | d :: r => uptoBulk d + uptoBulkAll r
def uptoBulkEntries {H : Type} : List (Lit × DataW H) → Nat
  | [] => 0
  | x :: r => uptoBulkEntry x + uptoBulkEntries r
def uptoBulkEntry {H : Type} : Lit × DataW H → Nat
  | (.string bytes, d) => bytes.length + uptoBulk d + 1
  | (_, d) => uptoBulk d + 1
 end
def uptoSmall : (H : Type) → List (DataW H) → Bool := fun _ ds => decide (uptoBulkAll ds ≤ 1048576)
def OpenSpec.upto (s : _root_.Go.ChangeSpec) : _root_.Go.OpenSpec := { _root_.Go.OpenSpec.ofChange s with cond := some uptoSmall }

/-- 'quirelaw05.SectionBegins', WHERE WHAT IT READS IS OF BULK AT MOST 1048576: true; the input reads as it did. -/
def sectionBeginsUptoRow : OpenClaim := { program := "ythpmchbbfbbakaa", sum := "91420ad42314466973a666198226cf2fce17f843b69d549fa561d5105d556301", func := "quire/quirelaw05.SectionBegins", spec := "sectionBegins", apart := false, narrowed := true }
def SectionBeginsUptoSaid : Prop := sectionBeginsUptoRow.holds Try.pinned (OpenSpec.upto sectionBeginsSpec)

/-- 'quirelaw05.SectionTells', WHERE WHAT IT READS IS OF BULK AT MOST 1048576: true; the input reads as it did. -/
def sectionTellsUptoRow : OpenClaim := { program := "ythpmchbbfbbakaa", sum := "91420ad42314466973a666198226cf2fce17f843b69d549fa561d5105d556301", func := "quire/quirelaw05.SectionTells", spec := "sectionTells", apart := false, narrowed := true }
def SectionTellsUptoSaid : Prop := sectionTellsUptoRow.holds Try.pinned (OpenSpec.upto sectionTellsSpec)

/-- 'quirelaw05.SectionApart', WHERE WHAT IT READS IS OF BULK AT MOST 1048576: true; the input reads as it did. -/
def sectionApartUptoRow : OpenClaim := { program := "ythpmchbbfbbakaa", sum := "91420ad42314466973a666198226cf2fce17f843b69d549fa561d5105d556301", func := "quire/quirelaw05.SectionApart", spec := "sectionApart", apart := false, narrowed := true }
def SectionApartUptoSaid : Prop := sectionApartUptoRow.holds Try.pinned (OpenSpec.upto sectionApartSpec)

/-- 'quirelaw05.SectionNext', WHERE WHAT IT READS IS OF BULK AT MOST 1048576: true; the input reads as it did. -/
def sectionNextUptoRow : OpenClaim := { program := "ythpmchbbfbbakaa", sum := "91420ad42314466973a666198226cf2fce17f843b69d549fa561d5105d556301", func := "quire/quirelaw05.SectionNext", spec := "sectionNext", apart := false, narrowed := true }
def SectionNextUptoSaid : Prop := sectionNextUptoRow.holds Try.pinned (OpenSpec.upto sectionNextSpec)

/-- 'quirelaw05.SectionKnown', WHERE WHAT IT READS IS OF BULK AT MOST 1048576: true; the input reads as it did. -/
def sectionKnownUptoRow : OpenClaim := { program := "ythpmchbbfbbakaa", sum := "91420ad42314466973a666198226cf2fce17f843b69d549fa561d5105d556301", func := "quire/quirelaw05.SectionKnown", spec := "sectionKnown", apart := false, narrowed := true }
def SectionKnownUptoSaid : Prop := sectionKnownUptoRow.holds Try.pinned (OpenSpec.upto sectionKnownSpec)

end Rows
end Go.Proofs.Ythpmchbbfbbakaa
