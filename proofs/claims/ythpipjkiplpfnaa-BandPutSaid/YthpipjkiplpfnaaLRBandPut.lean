/- What the reference's Check of bands answers, and the comparison of a list of bands with itself: for every list of bands. -/
import Derived.Test.YthpipjkiplpfnaaLABandPut
import Derived.Test.YthpipjkiplpfnaaMBandPut3
namespace Go.Proofs.Ythpipjkiplpfnaa.LBandPut
open Go.RowKit Go.Proofs.Ythpipjkiplpfnaa.PBandPut Go.Proofs.YthpipjkiplpfnaaW.PrintWords Go.Proofs.YthpipjkiplpfnaaW.PrintLast
set_option linter.unusedVariables false
set_option linter.unusedSimpArgs false

theorem rside_tells (x : Int) : quireref15_side.f x = some (decide (isSide x)) := by
  unfold quireref15_side.f isSide
  by_cases h : x = 0
  · rw [if_pos h]; simp [h]
  · rw [if_neg h]
    by_cases g : x = 2
    · simp [g]
    · simp [h, g]

theorem within_tells (x : Int) : quireref15_within.f x = some (decide (inD x)) := by
  have e : decide (inD x) = (decide (0 ≤ x) && decide (x ≤ 4095)) := by
    by_cases a : 0 ≤ x <;> by_cases b : x ≤ 4095 <;> simp [inD, a, b]
  rw [e]
  unfold quireref15_within.f
  by_cases h : x ≥ 0
  · rw [if_pos h]; simp [show 0 ≤ x from h]
  · rw [if_neg h]; simp [show ¬ 0 ≤ x from h]

theorem rCheck_loop (l : List S24) (hl : l.length ≤ 64) (d : Nat) : ∀ i : Nat, l.length = i + d → Ev (fun k => quireref15_Check.l0 k l (i : Int)) (firstBad (l.drop i)) := by
  induction d with
  | zero =>
    intro i hi
    refine up ?_
    have h1 : ¬ ((i : Int) < (l.length : Int)) := by omega
    simp only [quireref15_Check.l0, if_neg h1]
    rw [List.drop_of_length_le (by omega)]
    exact Ev.now _
  | succ d ih =>
    intro i hi
    have hrec := ih (i + 1) (by omega)
    have h1 : (i : Int) < (l.length : Int) := by omega
    have h0 : (0 : Int) ≤ (i : Int) := by omega
    have hw : wrap64 ((i : Int) + 1) = ((i + 1 : Nat) : Int) := by rw [w64 (by omega) (by omega)]; omega
    refine up ?_
    simp only [quireref15_Check.l0, if_pos h1, if_pos h0, rd_at, rside_tells, within_tells, Option.bind_some, hw]
    rw [drop_at l i (by omega)]
    generalize at' l i = s
    simp only [firstBad]
    by_cases a : isSide s.f0
    · simp only [decide_eq_true a, if_true]
      by_cases b1 : inD s.f1
      · by_cases b2 : inD s.f2
        · by_cases b3 : inD s.f3
          · have hb : badB s = 0 := by unfold badB; rw [if_pos a, if_pos ⟨b1, b2, b3⟩]
            simp only [decide_eq_true b1, decide_eq_true b2, decide_eq_true b3, if_true, hb]
            exact hrec
          · have hb : badB s = 5 := by unfold badB; rw [if_pos a, if_neg (fun q => b3 q.2.2)]
            simp only [decide_eq_true b1, decide_eq_true b2, decide_eq_false b3, if_true, Bool.false_eq_true, if_false, hb]
            exact Ev.now _
        · have hb : badB s = 5 := by unfold badB; rw [if_pos a, if_neg (fun q => b2 q.2.1)]
          simp only [decide_eq_true b1, decide_eq_false b2, if_true, Bool.false_eq_true, if_false, hb]
          exact Ev.now _
      · have hb : badB s = 5 := by unfold badB; rw [if_pos a, if_neg (fun q => b1 q.1)]
        simp only [decide_eq_false b1, Bool.false_eq_true, if_false, hb]
        exact Ev.now _
    · have hb : badB s = 2 := by unfold badB; rw [if_neg a]
      simp only [decide_eq_false a, Bool.false_eq_true, if_false, hb]
      exact Ev.now _

theorem rCheck_tells (l : List S24) : Ev (fun k => quireref15_Check.f k l) (wrongOf l) := by
  unfold wrongOf
  simp only [quireref15_Check.f]
  by_cases h : 64 < l.length
  · have h1 : (l.length : Int) > 64 := by omega
    simp only [if_pos h1, if_pos h]; exact Ev.now _
  · have h1 : ¬ (l.length : Int) > 64 := by omega
    simp only [if_neg h1, if_neg h]
    exact rCheck_loop l (by omega) l.length 0 (by omega)

theorem bands_loop (l : List S24) (hl : l.length ≤ 4096) (d : Nat) : ∀ i : Nat, l.length = i + d → Ev (fun k => quirelaw15_bands.l0 k l l (i : Int)) true := by
  induction d with
  | zero =>
    intro i hi
    refine up ?_
    have h1 : ¬ ((i : Int) < (l.length : Int)) := by omega
    simp only [quirelaw15_bands.l0, if_neg h1]
    exact Ev.now _
  | succ d ih =>
    intro i hi
    have hrec := ih (i + 1) (by omega)
    have h1 : (i : Int) < (l.length : Int) := by omega
    have h0 : (0 : Int) ≤ (i : Int) := by omega
    have hw : wrap64 ((i : Int) + 1) = ((i + 1 : Nat) : Int) := by rw [w64 (by omega) (by omega)]; omega
    refine up ?_
    simp only [quirelaw15_bands.l0, if_pos h1, if_pos h0, beq_self_eq_true, Bool.not_true, Bool.or_false, Bool.false_eq_true, if_false, hw]
    exact hrec

theorem bands_self (l : List S24) (hl : l.length ≤ 4096) : Ev (fun k => quirelaw15_bands.f k l l) true := by
  simp only [quirelaw15_bands.f, if_true]
  exact bands_loop l hl l.length 0 (by omega)

end Go.Proofs.Ythpipjkiplpfnaa.LBandPut
