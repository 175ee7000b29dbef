/-
  No cell of these rows narrows 'for every input' (looked for: loops, veiled, ifaces, maps, wideKeys, modest, calm, conditions, laid).
  DERIVED. THE GIVEN ROWS OF THIS SEAT. 5 by the template 'for every input the law returns true; each argument reads behind the call as it read before'; 0 by the template 'total and deterministic' (their statements: YtmggbbeecmjalaaTotals.lean).
  GIVEN WITH THE SEED: the statements are not yours to turn. If you find one false, say at which input.
  Laid BY PROGRAM, IN A SANDBOX (cutbox-rows.mjs): the forced cells as the released guide's own fill.sh prints them over the translation f45424fcbb085f9e… (all of the seat's roots in one cut). By AI agents, Wed Nov 11 2026. No macro, syntax, notation, axiom, sorry.
-/
import Derived.Test.YtmggbbeecmjalaaChecked
import GoSem.Claim
import GoSem.ClaimJoined
import GoSem.ClaimMapViews
import Derived.JoinedTies
import Derived.KernelRfl
namespace Go.Proofs.Ytmggbbeecmjalaa
/- THE CELL 'sum', in the pinned program and in every row, IS THE sha256 OF THE DUMP (.gsa) THAT YtmggbbeecmjalaaProg.lean LOADS. Nothing in Lean hashes anything: it is a label: what it is worth is what the hold of that sum in a sandbox is worth. -/
noncomputable def Try.pinned : Pinned := { name := "ytmggbbeecmjalaa", sum := "f45424fcbb085f9e68735f45b472a65e4f14ffb97d4d604097db2f7d43bc041f", checked := Try.checked }
namespace Rows
def none {H : Type} : Left H := { results := [], args := [] }

/-- 'quirelaw02.SpanChecks': WHATEVER THE INPUT: true; the input reads as it did. -/
def spanChecksSpec : ChangeSpec := { name := "spanChecks", fn := fun _ => fun
  | [d1, d2] => { results := [.lit (.bool true)], args := [d1, d2] }
  | _ => none }
def spanChecksRow : OpenClaim := { program := "ytmggbbeecmjalaa", sum := "f45424fcbb085f9e68735f45b472a65e4f14ffb97d4d604097db2f7d43bc041f", func := "quire/quirelaw02.SpanChecks", spec := "spanChecks", apart := false }
def SpanChecksSaid : Prop := spanChecksRow.holds Try.pinned (OpenSpec.ofChange spanChecksSpec)

/-- ITS FALSE NEIGHBOUR: 'it returns false'. Refute it at one input. -/
def spanChecksWrong : ChangeSpec := { name := "spanChecks", fn := fun _ => fun
  | [d1, d2] => { results := [.lit (.bool false)], args := [d1, d2] }
  | _ => none }
def SpanChecksWrongFalsely : Prop := spanChecksRow.holds Try.pinned (OpenSpec.ofChange spanChecksWrong)

/-- 'quirelaw02.SpanScript': WHATEVER THE INPUT: true; the input reads as it did. -/
def spanScriptSpec : ChangeSpec := { name := "spanScript", fn := fun _ => fun
  | [d1, d2, d3] => { results := [.lit (.bool true)], args := [d1, d2, d3] }
  | _ => none }
def spanScriptRow : OpenClaim := { program := "ytmggbbeecmjalaa", sum := "f45424fcbb085f9e68735f45b472a65e4f14ffb97d4d604097db2f7d43bc041f", func := "quire/quirelaw02.SpanScript", spec := "spanScript", unfollowed := true, recurses := true, apart := false }
def SpanScriptSaid : Prop := spanScriptRow.holds Try.pinned (OpenSpec.ofChange spanScriptSpec)

/-- ITS FALSE NEIGHBOUR: 'it returns false'. Refute it at one input. -/
def spanScriptWrong : ChangeSpec := { name := "spanScript", fn := fun _ => fun
  | [d1, d2, d3] => { results := [.lit (.bool false)], args := [d1, d2, d3] }
  | _ => none }
def SpanScriptWrongFalsely : Prop := spanScriptRow.holds Try.pinned (OpenSpec.ofChange spanScriptWrong)

/-- 'quirelaw02.SpanNone': WHATEVER THE INPUT: true; the input reads as it did. -/
def spanNoneSpec : ChangeSpec := { name := "spanNone", fn := fun _ => fun
  | [d1, d2] => { results := [.lit (.bool true)], args := [d1, d2] }
  | _ => none }
def spanNoneRow : OpenClaim := { program := "ytmggbbeecmjalaa", sum := "f45424fcbb085f9e68735f45b472a65e4f14ffb97d4d604097db2f7d43bc041f", func := "quire/quirelaw02.SpanNone", spec := "spanNone", unfollowed := true, recurses := true, apart := false }
def SpanNoneSaid : Prop := spanNoneRow.holds Try.pinned (OpenSpec.ofChange spanNoneSpec)

/-- ITS FALSE NEIGHBOUR: 'it returns false'. Refute it at one input. -/
def spanNoneWrong : ChangeSpec := { name := "spanNone", fn := fun _ => fun
  | [d1, d2] => { results := [.lit (.bool false)], args := [d1, d2] }
  | _ => none }
def SpanNoneWrongFalsely : Prop := spanNoneRow.holds Try.pinned (OpenSpec.ofChange spanNoneWrong)

/-- 'quirelaw02.SpanEdits': WHATEVER THE INPUT: true; the input reads as it did. -/
def spanEditsSpec : ChangeSpec := { name := "spanEdits", fn := fun _ => fun
  | [d1, d2, d3] => { results := [.lit (.bool true)], args := [d1, d2, d3] }
  | _ => none }
def spanEditsRow : OpenClaim := { program := "ytmggbbeecmjalaa", sum := "f45424fcbb085f9e68735f45b472a65e4f14ffb97d4d604097db2f7d43bc041f", func := "quire/quirelaw02.SpanEdits", spec := "spanEdits", unfollowed := true, recurses := true, apart := false }
def SpanEditsSaid : Prop := spanEditsRow.holds Try.pinned (OpenSpec.ofChange spanEditsSpec)

/-- ITS FALSE NEIGHBOUR: 'it returns false'. Refute it at one input. -/
def spanEditsWrong : ChangeSpec := { name := "spanEdits", fn := fun _ => fun
  | [d1, d2, d3] => { results := [.lit (.bool false)], args := [d1, d2, d3] }
  | _ => none }
def SpanEditsWrongFalsely : Prop := spanEditsRow.holds Try.pinned (OpenSpec.ofChange spanEditsWrong)

/-- 'quirelaw02.SpanKnown': WHATEVER THE INPUT: true; the input reads as it did. -/
def spanKnownSpec : ChangeSpec := { name := "spanKnown", fn := fun _ => fun
  | [] => { results := [.lit (.bool true)], args := [] }
  | _ => none }
def spanKnownRow : OpenClaim := { program := "ytmggbbeecmjalaa", sum := "f45424fcbb085f9e68735f45b472a65e4f14ffb97d4d604097db2f7d43bc041f", func := "quire/quirelaw02.SpanKnown", spec := "spanKnown", unfollowed := true, recurses := true, apart := false }
def SpanKnownSaid : Prop := spanKnownRow.holds Try.pinned (OpenSpec.ofChange spanKnownSpec)

/-- ITS FALSE NEIGHBOUR: 'it returns false'. Refute it at one input. -/
def spanKnownWrong : ChangeSpec := { name := "spanKnown", fn := fun _ => fun
  | [] => { results := [.lit (.bool false)], args := [] }
  | _ => none }
def SpanKnownWrongFalsely : Prop := spanKnownRow.holds Try.pinned (OpenSpec.ofChange spanKnownWrong)

/- THE SECOND FORM. 'bulk': how many values and letters a reading holds, each counted each time it is reached (what is shared counts as often as it is met; a slice's spare places count too). A statement '..UptoSaid' is the law's where the arguments, and the package variables that the reading takes, are together of bulk at most 1048576: NARROWER than '..Said'. Prove '..Said' where nothing that the law and all that it calls make is longer than what came in: it says more and counts as full. Else prove '..UptoSaid'. A law counts once. -/
mutual
def uptoBulk {H : Type} : DataW H → Nat
  | .lit (.string bytes) => bytes.length + 1
  | .lit _ => 1
  | .nil => 1
  | .ptr d => uptoBulk d + 1
  | .slice elems spare => uptoBulkAll elems + uptoBulkAll spare + 1
  | .agg parts => uptoBulkAll parts + 1
  | .iface _ d => uptoBulk d + 1
  | .map entries => uptoBulkEntries entries + 1
  | .held _ => 1
def uptoBulkAll {H : Type} : List (DataW H) → Nat
  | [] => 0
  | d :: r => uptoBulk d + uptoBulkAll r
def uptoBulkEntries {H : Type} : List (Lit × DataW H) → Nat
  | [] => 0
  | x :: r => uptoBulkEntry x + uptoBulkEntries r
def uptoBulkEntry {H : Type} : Lit × DataW H → Nat
  | (.string bytes, d) => bytes.length + uptoBulk d + 1
  | (_, d) => uptoBulk d + 1
 end
def uptoSmall : (H : Type) → List (DataW H) → Bool := fun _ ds => decide (uptoBulkAll ds ≤ 1048576)
def OpenSpec.upto (s : _root_.Go.ChangeSpec) : _root_.Go.OpenSpec := { _root_.Go.OpenSpec.ofChange s with cond := some uptoSmall }

/-- 'quirelaw02.SpanChecks', WHERE WHAT IT READS IS OF BULK AT MOST 1048576: true; the input reads as it did. -/
def spanChecksUptoRow : OpenClaim := { program := "ytmggbbeecmjalaa", sum := "f45424fcbb085f9e68735f45b472a65e4f14ffb97d4d604097db2f7d43bc041f", func := "quire/quirelaw02.SpanChecks", spec := "spanChecks", apart := false, narrowed := true }
def SpanChecksUptoSaid : Prop := spanChecksUptoRow.holds Try.pinned (OpenSpec.upto spanChecksSpec)

/-- 'quirelaw02.SpanScript', WHERE WHAT IT READS IS OF BULK AT MOST 1048576: true; the input reads as it did. -/
def spanScriptUptoRow : OpenClaim := { program := "ytmggbbeecmjalaa", sum := "f45424fcbb085f9e68735f45b472a65e4f14ffb97d4d604097db2f7d43bc041f", func := "quire/quirelaw02.SpanScript", spec := "spanScript", unfollowed := true, recurses := true, apart := false, narrowed := true }
def SpanScriptUptoSaid : Prop := spanScriptUptoRow.holds Try.pinned (OpenSpec.upto spanScriptSpec)

/-- 'quirelaw02.SpanNone', WHERE WHAT IT READS IS OF BULK AT MOST 1048576: true; the input reads as it did. -/
def spanNoneUptoRow : OpenClaim := { program := "ytmggbbeecmjalaa", sum := "f45424fcbb085f9e68735f45b472a65e4f14ffb97d4d604097db2f7d43bc041f", func := "quire/quirelaw02.SpanNone", spec := "spanNone", unfollowed := true, recurses := true, apart := false, narrowed := true }
def SpanNoneUptoSaid : Prop := spanNoneUptoRow.holds Try.pinned (OpenSpec.upto spanNoneSpec)

/-- 'quirelaw02.SpanEdits', WHERE WHAT IT READS IS OF BULK AT MOST 1048576: true; the input reads as it did. -/
def spanEditsUptoRow : OpenClaim := { program := "ytmggbbeecmjalaa", sum := "f45424fcbb085f9e68735f45b472a65e4f14ffb97d4d604097db2f7d43bc041f", func := "quire/quirelaw02.SpanEdits", spec := "spanEdits", unfollowed := true, recurses := true, apart := false, narrowed := true }
def SpanEditsUptoSaid : Prop := spanEditsUptoRow.holds Try.pinned (OpenSpec.upto spanEditsSpec)

/-- 'quirelaw02.SpanKnown', WHERE WHAT IT READS IS OF BULK AT MOST 1048576: true; the input reads as it did. -/
def spanKnownUptoRow : OpenClaim := { program := "ytmggbbeecmjalaa", sum := "f45424fcbb085f9e68735f45b472a65e4f14ffb97d4d604097db2f7d43bc041f", func := "quire/quirelaw02.SpanKnown", spec := "spanKnown", unfollowed := true, recurses := true, apart := false, narrowed := true }
def SpanKnownUptoSaid : Prop := spanKnownUptoRow.holds Try.pinned (OpenSpec.upto spanKnownSpec)

end Rows
end Go.Proofs.Ytmggbbeecmjalaa
