/-
  No cell of these rows narrows 'for every input' (looked for: loops, veiled, ifaces, maps, wideKeys, modest, calm, conditions, laid).
  DERIVED. THE GIVEN ROWS OF THIS SEAT. 4 by the template 'for every input the law returns true; each argument reads behind the call as it read before'; 0 by the template 'total and deterministic' (their statements: YthpipjkiplpfnaaTotals.lean).
  GIVEN WITH THE SEED: the statements are not yours to turn. If you find one false, say at which input.
  Laid BY PROGRAM, IN A SANDBOX (cutbox-rows.mjs): the forced cells as the released guide's own fill.sh prints them over the translation cfdda85d716f3ada… (all of the seat's roots in one cut). By AI agents, Wed Nov 11 2026. No macro, syntax, notation, axiom, sorry.
-/
import Derived.Test.YthpipjkiplpfnaaChecked
import GoSem.Claim
import GoSem.ClaimJoined
import GoSem.ClaimMapViews
import Derived.JoinedTies
import Derived.KernelRfl
namespace Go.Proofs.Ythpipjkiplpfnaa
/- THE CELL 'sum', in the pinned program and in every row, IS THE sha256 OF THE DUMP (.gsa) THAT YthpipjkiplpfnaaProg.lean LOADS. Nothing in Lean hashes anything: it is a label: what it is worth is what the hold of that sum in a sandbox is worth. -/
noncomputable def Try.pinned : Pinned := { name := "ythpipjkiplpfnaa", sum := "cfdda85d716f3adaa0a8e62588b20df450f882eedd813157f960f6e01696443a", checked := Try.checked }
namespace Rows
def none {H : Type} : Left H := { results := [], args := [] }

/-- 'quirelaw15.BandPut': WHATEVER THE INPUT: true; the input reads as it did. -/
def bandPutSpec : ChangeSpec := { name := "bandPut", fn := fun _ => fun
  | [d1, d2, d3, d4, d5, d6] => { results := [.lit (.bool true)], args := [d1, d2, d3, d4, d5, d6] }
  | _ => none }
def bandPutRow : OpenClaim := { program := "ythpipjkiplpfnaa", sum := "cfdda85d716f3adaa0a8e62588b20df450f882eedd813157f960f6e01696443a", func := "quire/quirelaw15.BandPut", spec := "bandPut", apart := false }
def BandPutSaid : Prop := bandPutRow.holds Try.pinned (OpenSpec.ofChange bandPutSpec)

/-- ITS FALSE NEIGHBOUR: 'it returns false'. Refute it at one input. -/
def bandPutWrong : ChangeSpec := { name := "bandPut", fn := fun _ => fun
  | [d1, d2, d3, d4, d5, d6] => { results := [.lit (.bool false)], args := [d1, d2, d3, d4, d5, d6] }
  | _ => none }
def BandPutWrongFalsely : Prop := bandPutRow.holds Try.pinned (OpenSpec.ofChange bandPutWrong)

/-- 'quirelaw15.BandTells': WHATEVER THE INPUT: true; the input reads as it did. -/
def bandTellsSpec : ChangeSpec := { name := "bandTells", fn := fun _ => fun
  | [d1, d2, d3, d4, d5] => { results := [.lit (.bool true)], args := [d1, d2, d3, d4, d5] }
  | _ => none }
def bandTellsRow : OpenClaim := { program := "ythpipjkiplpfnaa", sum := "cfdda85d716f3adaa0a8e62588b20df450f882eedd813157f960f6e01696443a", func := "quire/quirelaw15.BandTells", spec := "bandTells", apart := false }
def BandTellsSaid : Prop := bandTellsRow.holds Try.pinned (OpenSpec.ofChange bandTellsSpec)

/-- ITS FALSE NEIGHBOUR: 'it returns false'. Refute it at one input. -/
def bandTellsWrong : ChangeSpec := { name := "bandTells", fn := fun _ => fun
  | [d1, d2, d3, d4, d5] => { results := [.lit (.bool false)], args := [d1, d2, d3, d4, d5] }
  | _ => none }
def BandTellsWrongFalsely : Prop := bandTellsRow.holds Try.pinned (OpenSpec.ofChange bandTellsWrong)

/-- 'quirelaw15.BandClear': WHATEVER THE INPUT: true; the input reads as it did. -/
def bandClearSpec : ChangeSpec := { name := "bandClear", fn := fun _ => fun
  | [d1, d2, d3, d4] => { results := [.lit (.bool true)], args := [d1, d2, d3, d4] }
  | _ => none }
def bandClearRow : OpenClaim := { program := "ythpipjkiplpfnaa", sum := "cfdda85d716f3adaa0a8e62588b20df450f882eedd813157f960f6e01696443a", func := "quire/quirelaw15.BandClear", spec := "bandClear", apart := false }
def BandClearSaid : Prop := bandClearRow.holds Try.pinned (OpenSpec.ofChange bandClearSpec)

/-- ITS FALSE NEIGHBOUR: 'it returns false'. Refute it at one input. -/
def bandClearWrong : ChangeSpec := { name := "bandClear", fn := fun _ => fun
  | [d1, d2, d3, d4] => { results := [.lit (.bool false)], args := [d1, d2, d3, d4] }
  | _ => none }
def BandClearWrongFalsely : Prop := bandClearRow.holds Try.pinned (OpenSpec.ofChange bandClearWrong)

/-- 'quirelaw15.BandKnown': WHATEVER THE INPUT: true; the input reads as it did. -/
def bandKnownSpec : ChangeSpec := { name := "bandKnown", fn := fun _ => fun
  | [] => { results := [.lit (.bool true)], args := [] }
  | _ => none }
def bandKnownRow : OpenClaim := { program := "ythpipjkiplpfnaa", sum := "cfdda85d716f3adaa0a8e62588b20df450f882eedd813157f960f6e01696443a", func := "quire/quirelaw15.BandKnown", spec := "bandKnown", apart := false }
def BandKnownSaid : Prop := bandKnownRow.holds Try.pinned (OpenSpec.ofChange bandKnownSpec)

/-- ITS FALSE NEIGHBOUR: 'it returns false'. Refute it at one input. -/
def bandKnownWrong : ChangeSpec := { name := "bandKnown", fn := fun _ => fun
  | [] => { results := [.lit (.bool false)], args := [] }
  | _ => none }
def BandKnownWrongFalsely : Prop := bandKnownRow.holds Try.pinned (OpenSpec.ofChange bandKnownWrong)

/- THE SECOND FORM. 'bulk': how many values and letters a reading holds, each counted each time it is reached (what is shared counts as often as it is met; a slice's spare places count too). A statement '..UptoSaid' is the law's where the arguments, and the package variables that the reading takes, are together of bulk at most 1048576: NARROWER than '..Said'. Prove '..Said' where nothing that the law and all that it calls make is longer than what came in: it says more and counts as full. Else prove '..UptoSaid'. A law counts once. -/
mutual
def uptoBulk {H : Type} : DataW H → Nat
  | .lit (.string bytes) => bytes.length + 1
  | .lit _ => 1
  | .nil => 1
  | .ptr d => uptoBulk d + 1
  | .slice elems spare => uptoBulkAll elems + uptoBulkAll spare + 1
  | .agg parts => uptoBulkAll parts + 1
  | .iface _ d => uptoBulk d + 1
  | .map entries => uptoBulkEntries entries + 1
  | .held _ => 1
def uptoBulkAll {H : Type} : List (DataW H) → Nat
  | [] => 0
  | d :: r => uptoBulk d + uptoBulkAll r
def uptoBulkEntries {H : Type} : List (Lit × DataW H) → Nat
  | [] => 0
  | x :: r => uptoBulkEntry x + uptoBulkEntries r
def uptoBulkEntry {H : Type} : Lit × DataW H → Nat
  | (.string bytes, d) => bytes.length + uptoBulk d + 1
  | (_, d) => uptoBulk d + 1
 end
def uptoSmall : (H : Type) → List (DataW H) → Bool := fun _ ds => decide (uptoBulkAll ds ≤ 1048576)
def OpenSpec.upto (s : _root_.Go.ChangeSpec) : _root_.Go.OpenSpec := { _root_.Go.OpenSpec.ofChange s with cond := some uptoSmall }

/-- 'quirelaw15.BandPut', WHERE WHAT IT READS IS OF BULK AT MOST 1048576: true; the input reads as it did. -/
def bandPutUptoRow : OpenClaim := { program := "ythpipjkiplpfnaa", sum := "cfdda85d716f3adaa0a8e62588b20df450f882eedd813157f960f6e01696443a", func := "quire/quirelaw15.BandPut", spec := "bandPut", apart := false, narrowed := true }
def BandPutUptoSaid : Prop := bandPutUptoRow.holds Try.pinned (OpenSpec.upto bandPutSpec)

/-- 'quirelaw15.BandTells', WHERE WHAT IT READS IS OF BULK AT MOST 1048576: true; the input reads as it did. -/
def bandTellsUptoRow : OpenClaim := { program := "ythpipjkiplpfnaa", sum := "cfdda85d716f3adaa0a8e62588b20df450f882eedd813157f960f6e01696443a", func := "quire/quirelaw15.BandTells", spec := "bandTells", apart := false, narrowed := true }
def BandTellsUptoSaid : Prop := bandTellsUptoRow.holds Try.pinned (OpenSpec.upto bandTellsSpec)

/-- 'quirelaw15.BandClear', WHERE WHAT IT READS IS OF BULK AT MOST 1048576: true; the input reads as it did. -/
def bandClearUptoRow : OpenClaim := { program := "ythpipjkiplpfnaa", sum := "cfdda85d716f3adaa0a8e62588b20df450f882eedd813157f960f6e01696443a", func := "quire/quirelaw15.BandClear", spec := "bandClear", apart := false, narrowed := true }
def BandClearUptoSaid : Prop := bandClearUptoRow.holds Try.pinned (OpenSpec.upto bandClearSpec)

/-- 'quirelaw15.BandKnown', WHERE WHAT IT READS IS OF BULK AT MOST 1048576: true; the input reads as it did. -/
def bandKnownUptoRow : OpenClaim := { program := "ythpipjkiplpfnaa", sum := "cfdda85d716f3adaa0a8e62588b20df450f882eedd813157f960f6e01696443a", func := "quire/quirelaw15.BandKnown", spec := "bandKnown", apart := false, narrowed := true }
def BandKnownUptoSaid : Prop := bandKnownUptoRow.holds Try.pinned (OpenSpec.upto bandKnownSpec)

end Rows
end Go.Proofs.Ythpipjkiplpfnaa
