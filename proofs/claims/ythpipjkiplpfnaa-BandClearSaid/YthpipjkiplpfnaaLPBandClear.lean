/- What band.Put answers, as a plain function of lists: for every list of bands. -/
import Derived.Test.YthpipjkiplpfnaaLABandClear
import Derived.Test.YthpipjkiplpfnaaMBandClear2
namespace Go.Proofs.Ythpipjkiplpfnaa.LBandClear
open Go.RowKit Go.Proofs.Ythpipjkiplpfnaa.PBandClear Go.Proofs.YthpipjkiplpfnaaW.PrintWords Go.Proofs.YthpipjkiplpfnaaW.PrintLast
set_option linter.unusedVariables false
set_option linter.unusedSimpArgs false

/-- behind the bands of a side that stand from slab i on (d of them) -/
def putY (l : List S24) (s : Int) : Nat → Nat → Int → Int
  | 0, _, y => y
  | d + 1, i, y => putY l s d (i + 1) (if (at' l i).f0 = s then mx y ((at' l i).f1 + (at' l i).f2) else y)

theorem putY_bound {l : List S24} (h : fine l) (s : Int) (d : Nat) : ∀ i y, 0 ≤ y → y ≤ 8190 → 0 ≤ putY l s d i y ∧ putY l s d i y ≤ 8190 := by
  induction d with
  | zero => intro i y h0 h1; exact ⟨h0, h1⟩
  | succ d ih =>
    intro i y h0 h1
    simp only [putY]
    obtain ⟨_, f1, f2, _⟩ := fine_at h i
    unfold inD at f1 f2
    have g := mx_ge y ((at' l i).f1 + (at' l i).f2)
    refine ih _ _ ?_ ?_ <;> split <;> omega

/-- a band's width in a column -/
def wideOf (w wide : Int) : Int := mn wide (mx 0 (w - 10) / 2)
theorem wide_wrap {w wide : Int} (h0 : 0 ≤ w) (h1 : w ≤ 4095) : mn wide (wrap64 (mx 0 (wrap64 (w - 10)) / 2)) = wideOf w wide := by
  unfold wideOf
  rw [w64 (x := w - 10) (by omega) (by omega)]
  have g := mx_ge 0 (w - 10)
  rw [w64 (by omega) (by omega)]

def PutOf (w : Int) (l : List S24) (s y h wide : Int) : Int × Int × Int × Int × Int :=
  if wrongOf l ≠ 0 then (0, 0, 0, 0, wrongOf l) else if ¬ isSide s then (0, 0, 0, 0, 2) else if inD w ∧ inD y ∧ inD h ∧ inD wide then (s, putY l s l.length 0 y, h, wideOf w wide, 0) else (0, 0, 0, 0, 5)

theorem Put_loop (w : Int) (hw0 : inD w) (l : List S24) (hl : l.length ≤ 64) (hf : fine l) (s h wide : Int) (d : Nat) : ∀ (i : Nat) (y : Int), l.length = i + d → 0 ≤ y → y ≤ 8190 →
    Ev (fun k => band_Put.l0 k w s y h wide l (l.length : Int) (i : Int)) (s, putY l s d i y, h, wideOf w wide, 0) := by
  induction d with
  | zero =>
    intro i y hi h0 h1
    refine up ?_
    have c : ¬ ((i : Int) < (l.length : Int)) := by omega
    simp only [band_Put.l0, if_neg c, putY, wide_wrap hw0.1 hw0.2]
    exact Ev.now _
  | succ d ih =>
    intro i y hi hy0 hy1
    have h1 : (i : Int) < (l.length : Int) := by omega
    have h0 : (0 : Int) ≤ (i : Int) := by omega
    have hw : wrap64 ((i : Int) + 1) = ((i + 1 : Nat) : Int) := by rw [w64 (by omega) (by omega)]; omega
    obtain ⟨_, f1, f2, _⟩ := fine_at hf i
    unfold inD at f1 f2
    have g := mx_ge y ((at' l i).f1 + (at' l i).f2)
    refine up ?_
    simp only [band_Put.l0, if_pos h1, if_pos h0, rd_at, hw, putY]
    rw [w64 (x := (at' l i).f1 + (at' l i).f2) (by omega) (by omega)]
    by_cases e : (at' l i).f0 = s
    · simp only [if_pos e]
      exact ih (i + 1) _ (by omega) (by omega) (by omega)
    · simp only [if_neg e]
      exact ih (i + 1) _ (by omega) (by omega) (by omega)

theorem Put_tells (w : Int) (l : List S24) (s y h wide : Int) : Ev (fun k => band_Put.f k w l s y h wide) (PutOf w l s y h wide) := by
  simp only [band_Put.f]
  refine Ev.bind (Check_tells l) ?_
  unfold PutOf
  by_cases e : wrongOf l = 0
  · obtain ⟨hl, hf⟩ := wrongOf_zero e
    simp only [e, if_true, ne_eq, not_true, if_false, side_tells, Option.bind_some]
    by_cases a : isSide s
    · simp only [decide_eq_true a, if_true, a, not_true, if_false]
      refine Ev.bind (fits_tells _ (by simp)) ?_
      by_cases b : inD w ∧ inD y ∧ inD h ∧ inD wide
      · have q : ∀ x ∈ [w, y, h, wide], inD x := by simp [b]
        simp only [decide_eq_true q, if_true, if_pos b]
        have hy := b.2.1
        unfold inD at hy
        exact Put_loop w b.1 l hl hf s h wide l.length 0 y (by omega) (by omega) (by omega)
      · have q : ¬ ∀ x ∈ [w, y, h, wide], inD x := by intro q; exact b ⟨q _ (by simp), q _ (by simp), q _ (by simp), q _ (by simp)⟩
        simp only [decide_eq_false q, Bool.false_eq_true, if_false, if_neg b]
        exact Ev.now _
    · simp only [decide_eq_false a, Bool.false_eq_true, if_false, a, not_false_eq_true, if_true]
      exact Ev.now _
  · simp only [e, if_false, ne_eq, not_false_eq_true, if_true]
    exact Ev.now _

end Go.Proofs.Ythpipjkiplpfnaa.LBandClear
