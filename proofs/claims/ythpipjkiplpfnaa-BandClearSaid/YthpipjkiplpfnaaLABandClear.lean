/- What band.Check answers, as a plain function of lists: for every list of bands. -/
import Derived.Test.YthpipjkiplpfnaaMBandClear2
import Derived.OpenShut
namespace Go.Proofs.Ythpipjkiplpfnaa.LBandClear
open Go.RowKit Go.Proofs.Ythpipjkiplpfnaa.PBandClear Go.Proofs.YthpipjkiplpfnaaW.PrintWords Go.Proofs.YthpipjkiplpfnaaW.PrintLast
set_option linter.unusedVariables false
set_option linter.unusedSimpArgs false

theorem w64 {x : Int} (h0 : -9223372036854775808 ≤ x) (h1 : x ≤ 9223372036854775807) : wrap64 x = x := by unfold wrap64; omega
theorem up {α : Type} {g : Nat → Option α} {r : α} (h : Ev (fun k => g (k + 1)) r) : Ev g r := Ev.step (fun _ => rfl) h
theorem mx_ge (a b : Int) : a ≤ mx a b ∧ b ≤ mx a b ∧ (mx a b = a ∨ mx a b = b) := by unfold mx; split <;> omega
theorem mx_comm (a b : Int) : mx a b = mx b a := by unfold mx; split <;> split <;> omega
theorem mn_le (a b : Int) : mn a b ≤ a ∧ mn a b ≤ b ∧ (mn a b = a ∨ mn a b = b) := by unfold mn; split <;> omega

/-- band i -/
def at' (l : List S24) (i : Nat) : S24 := l.getD i z24
theorem rd_at (l : List S24) (i : Nat) : rd_T24 l (i : Int) = at' l i := by simp [rd_T24, at']

def inD (x : Int) : Prop := 0 ≤ x ∧ x ≤ 4095
instance (x : Int) : Decidable (inD x) := by unfold inD; infer_instance
def isSide (x : Int) : Prop := x = 0 ∨ x = 2
instance (x : Int) : Decidable (isSide x) := by unfold isSide; infer_instance
def badB (b : S24) : Int := if isSide b.f0 then (if inD b.f1 ∧ inD b.f2 ∧ inD b.f3 then 0 else 5) else 2
def firstBad : List S24 → Int
  | [] => 0
  | s :: t => if badB s = 0 then firstBad t else badB s
def wrongOf (l : List S24) : Int := if 64 < l.length then 3 else firstBad l
def fine (l : List S24) : Prop := ∀ i, badB (at' l i) = 0

theorem badB_z : badB z24 = 0 := by decide
theorem fine_of (l : List S24) : firstBad l = 0 → fine l := by
  intro h i
  induction l generalizing i with
  | nil => simp [at', badB_z]
  | cons s t ih =>
    simp only [firstBad] at h
    split at h
    · rename_i hs
      cases i with
      | zero => simpa [at'] using hs
      | succ i => have := ih h i; simpa [at'] using this
    · rename_i hs
      exact absurd h hs

theorem fine_back (l : List S24) (h : fine l) : firstBad l = 0 := by
  induction l with
  | nil => rfl
  | cons s t ih =>
    have h0 : badB s = 0 := by simpa [at'] using h 0
    simp only [firstBad]
    rw [if_pos h0]
    exact ih (fun i => by simpa [at'] using h (i + 1))

theorem fine_at {l : List S24} (h : fine l) (i : Nat) : isSide (at' l i).f0 ∧ inD (at' l i).f1 ∧ inD (at' l i).f2 ∧ inD (at' l i).f3 := by
  have := h i
  unfold badB at this
  split at this
  · rename_i hc
    split at this
    · rename_i hk; exact ⟨hc, hk⟩
    · omega
  · omega

theorem drop_at (l : List S24) (i : Nat) (h : i < l.length) : l.drop i = at' l i :: l.drop (i + 1) := by
  rw [List.drop_eq_getElem_cons h]; simp [at', h]

theorem side_tells (x : Int) : band_side.f x = some (decide (isSide x)) := by
  unfold band_side.f isSide
  by_cases h : x = 0
  · rw [if_pos h]; simp [h]
  · rw [if_neg h]
    by_cases g : x = 2
    · simp [g]
    · simp [h, g]

theorem fits_loop (xs : List Int) (hl : xs.length ≤ 100) (d : Nat) : ∀ i : Nat, xs.length = i + d → Ev (fun k => band_fits.l0 k xs (xs.length : Int) (i : Int)) (decide (∀ x ∈ xs.drop i, inD x)) := by
  induction d with
  | zero =>
    intro i hi
    refine up ?_
    have h1 : ¬ ((i : Int) < (xs.length : Int)) := by omega
    simp only [band_fits.l0, if_neg h1]
    rw [List.drop_of_length_le (by omega), decide_eq_true (by simp)]
    exact Ev.now _
  | succ d ih =>
    intro i hi
    have hrec := ih (i + 1) (by omega)
    have h1 : (i : Int) < (xs.length : Int) := by omega
    have h0 : (0 : Int) ≤ (i : Int) := by omega
    have hw : wrap64 ((i : Int) + 1) = ((i + 1 : Nat) : Int) := by rw [w64 (by omega) (by omega)]; omega
    have hlt : i < xs.length := by omega
    have hd : xs.drop i = rd xs (i : Int) :: xs.drop (i + 1) := by
      rw [List.drop_eq_getElem_cons hlt]; simp [rd, hlt]
    refine up ?_
    simp only [band_fits.l0, if_pos h1, if_pos h0, hw]
    rw [hd]
    generalize rd xs (i : Int) = x
    by_cases a : x < 0
    · simp only [if_pos a]
      rw [decide_eq_false (by intro q; have := (q x (by simp)).1; omega)]
      exact Ev.now _
    by_cases b : x > 4095
    · simp only [if_neg a, if_pos b]
      rw [decide_eq_false (by intro q; have := (q x (by simp)).2; omega)]
      exact Ev.now _
    · simp only [if_neg a, if_neg b]
      have e : (∀ y ∈ x :: xs.drop (i + 1), inD y) ↔ (∀ y ∈ xs.drop (i + 1), inD y) := by
        simp only [List.mem_cons, forall_eq_or_imp]
        exact ⟨fun q => q.2, fun q => ⟨⟨by omega, by omega⟩, q⟩⟩
      rw [decide_eq_decide.2 e]
      exact hrec

theorem fits_tells (xs : List Int) (hl : xs.length ≤ 100) : Ev (fun k => band_fits.f k xs) (decide (∀ x ∈ xs, inD x)) := by
  have := fits_loop xs hl xs.length 0 (by omega)
  rw [List.drop_zero] at this
  exact this

theorem Check_loop (l : List S24) (hl : l.length ≤ 64) (d : Nat) : ∀ i : Nat, l.length = i + d → Ev (fun k => band_Check.l0 k l (l.length : Int) (i : Int)) (firstBad (l.drop i)) := by
  induction d with
  | zero =>
    intro i hi
    refine up ?_
    have h1 : ¬ ((i : Int) < (l.length : Int)) := by omega
    simp only [band_Check.l0, if_neg h1]
    rw [List.drop_of_length_le (by omega)]
    exact Ev.now _
  | succ d ih =>
    intro i hi
    have hrec := ih (i + 1) (by omega)
    have h1 : (i : Int) < (l.length : Int) := by omega
    have h0 : (0 : Int) ≤ (i : Int) := by omega
    have hw : wrap64 ((i : Int) + 1) = ((i + 1 : Nat) : Int) := by rw [w64 (by omega) (by omega)]; omega
    refine up ?_
    simp only [band_Check.l0, if_pos h1, if_pos h0, rd_at, side_tells, Option.bind_some, hw]
    rw [drop_at l i (by omega)]
    generalize at' l i = s
    simp only [firstBad]
    by_cases a : isSide s.f0
    · simp only [decide_eq_true a, if_true]
      refine Ev.bind (fits_tells _ (by simp)) ?_
      by_cases b : inD s.f1 ∧ inD s.f2 ∧ inD s.f3
      · have hb : badB s = 0 := by unfold badB; rw [if_pos a, if_pos b]
        have e : ∀ x ∈ [s.f1, s.f2, s.f3], inD x := by simp [b]
        simp only [decide_eq_true e, if_true, hb]
        exact hrec
      · have hb : badB s = 5 := by unfold badB; rw [if_pos a, if_neg b]
        have e : ¬ ∀ x ∈ [s.f1, s.f2, s.f3], inD x := by intro q; exact b ⟨q _ (by simp), q _ (by simp), q _ (by simp)⟩
        simp only [decide_eq_false e, Bool.false_eq_true, if_false, hb]
        exact Ev.now _
    · have hb : badB s = 2 := by unfold badB; rw [if_neg a]
      simp only [decide_eq_false a, Bool.false_eq_true, if_false, hb]
      exact Ev.now _

theorem Check_tells (l : List S24) : Ev (fun k => band_Check.f k l) (wrongOf l) := by
  unfold wrongOf
  simp only [band_Check.f]
  by_cases h : 64 < l.length
  · have h1 : (l.length : Int) > 64 := by omega
    simp only [if_pos h1, if_pos h]; exact Ev.now _
  · have h1 : ¬ (l.length : Int) > 64 := by omega
    simp only [if_neg h1, if_neg h]
    exact Check_loop l (by omega) l.length 0 (by omega)

theorem wrongOf_zero {l : List S24} (h : wrongOf l = 0) : l.length ≤ 64 ∧ fine l := by
  unfold wrongOf at h
  split at h
  · omega
  · exact ⟨by omega, fine_of l h⟩
theorem wrongOf_fine {l : List S24} (hl : l.length ≤ 64) (h : fine l) : wrongOf l = 0 := by
  unfold wrongOf
  rw [if_neg (by omega), fine_back l h]

end Go.Proofs.Ythpipjkiplpfnaa.LBandClear
