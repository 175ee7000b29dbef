/- quirekit.SameInts says yes of a list and itself. -/
import Derived.Test.YtoodiihimjalfaaLABalanceTells
namespace Go.Proofs.Ytoodiihimjalfaa.LBalanceTells
open Go.RowKit Go.Proofs.Ytoodiihimjalfaa.PBalanceTells Go.Proofs.YtoodiihimjalfaaW.PrintWords Go.Proofs.YtoodiihimjalfaaW.PrintLast
set_option linter.unusedVariables false

theorem same_loop (l : List Int) (hl : l.length ≤ 4096) (d : Nat) : ∀ i : Nat, l.length = i + d → Ev (fun k => quirekit_SameInts.l0 k l l (i : Int)) true := by
  induction d with
  | zero =>
    intro i hi
    refine up ?_
    have h1 : ¬ ((i : Int) < (l.length : Int)) := by omega
    simp only [quirekit_SameInts.l0, if_neg h1]
    exact Ev.now _
  | succ d ih =>
    intro i hi
    have hrec := ih (i + 1) (by omega)
    have h1 : (i : Int) < (l.length : Int) := by omega
    have h0 : (0 : Int) ≤ (i : Int) := by omega
    have hw : wrap64 ((i : Int) + 1) = ((i + 1 : Nat) : Int) := by rw [w64 (by omega) (by omega)]; omega
    refine up ?_
    simp only [quirekit_SameInts.l0, if_pos h1, if_pos h0, if_true, hw]
    exact hrec

theorem same_self (l : List Int) (hl : l.length ≤ 4096) : Ev (fun k => quirekit_SameInts.f k l l) true := by
  simp only [quirekit_SameInts.f, if_true]
  exact same_loop l hl l.length 0 (by omega)

end Go.Proofs.Ytoodiihimjalfaa.LBalanceTells
