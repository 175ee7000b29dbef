/- How many lines stand in a column is answered by column.Split as by the reference, at every whole number and bool; no condition. -/
import Derived.Test.YtoodiihimjalfaaPColumnSplitsx1
import Derived.OpenShut
namespace Go.Proofs.Ytoodiihimjalfaa.Pure
open Go.RowKit Go.Proofs.Ytoodiihimjalfaa.PColumnSplits Go.Proofs.YtoodiihimjalfaaW.PrintWords Go.Proofs.YtoodiihimjalfaaW.PrintLast

/-- What Split tells of what may be and does not fit whole. -/
def best (n fit o w wh : Int) (top : Bool) : Int :=
  if wh = 0 ∧ o ≤ (if fit ≤ n - w then fit else n - w) then (if fit ≤ n - w then fit else n - w) else if top = true then (if fit ≤ 1 then 1 else fit) else 0

theorem wrap_small {x : Int} (h0 : -9223372036854775808 ≤ x) (h1 : x ≤ 9223372036854775807) : wrap64 x = x := by unfold wrap64; omega

theorem ref_loop (n fit o w wh : Int) (top : Bool) (hn0 : 1 ≤ n) (hn : n ≤ 4096) (hf : fit < n) (ho : 1 ≤ o) (d : Nat) :
    ∀ (k : Nat) (i : Int), 0 ≤ i → i ≤ fit → i = d → d < k → (∀ j, i < j → j ≤ fit → ¬ (o ≤ j ∧ w ≤ n - j ∧ wh = 0)) →
      quireref19_Split.l0 k n fit o w wh top i = some (best n fit o w wh top) := by
  induction d with
  | zero =>
    intro k i h0 h1 hd hk hno
    obtain ⟨k, rfl⟩ : ∃ m, k = m + 1 := ⟨k - 1, by omega⟩
    have hb : ¬ (wh = 0 ∧ o ≤ (if fit ≤ n - w then fit else n - w)) := by
      rintro ⟨h, h'⟩
      have := hno (if fit ≤ n - w then fit else n - w) (by split at h' <;> omega) (by split <;> omega)
      apply this
      refine ⟨h', ?_, h⟩
      split <;> omega
    simp only [quireref19_Split.l0]
    rw [if_neg (by omega)]
    unfold best
    rw [if_neg hb]
    cases top
    · simp
    · simp only [if_true]
      unfold mx
      congr 1
      split <;> split <;> omega
  | succ d ih =>
    intro k i h0 h1 hd hk hno
    obtain ⟨k, rfl⟩ : ∃ m, k = m + 1 := ⟨k - 1, by omega⟩
    have e1 : wrap64 (i - 1) = i - 1 := wrap_small (by omega) (by omega)
    have e2 : wrap64 (n - i) = n - i := wrap_small (by omega) (by omega)
    simp only [quireref19_Split.l0]
    rw [if_pos (by omega), e1, e2]
    by_cases h : o ≤ i ∧ w ≤ n - i ∧ wh = 0
    · rw [if_pos h.1, if_pos h.2.1, if_pos h.2.2]
      unfold best
      have hm : (if fit ≤ n - w then fit else n - w) = i := by
        have : ¬ (i < (if fit ≤ n - w then fit else n - w)) := by
          intro hlt
          apply hno _ hlt (by split <;> omega)
          refine ⟨by omega, ?_, h.2.2⟩
          split <;> omega
        split at this <;> split <;> omega
      rw [hm, if_pos ⟨h.2.2, h.1⟩]
    · have hrec := ih k (i - 1) (by omega) (by omega) (by omega) (by omega) (by
        intro j hj1 hj2
        by_cases e : j = i
        · subst e; exact h
        · exact hno j (by omega) hj2)
      by_cases a : i ≥ o
      · rw [if_pos a]
        by_cases b : n - i ≥ w
        · rw [if_pos b, if_neg (fun c => h ⟨a, b, c⟩)]; exact hrec
        · rw [if_neg b]; exact hrec
      · rw [if_neg a]; exact hrec

/-- What is wrong with the numbers: as Fits says it. -/
def wrongs (n fit o w wh : Int) : Int := if n < 1 ∨ 4096 < n ∨ fit < 0 then 5 else if o < 1 ∨ 4 < o ∨ w < 1 ∨ 4 < w ∨ wh < 0 ∨ 1 < wh then 2 else 0

theorem fits_tells (n fit o w wh : Int) (k : Nat) : quireref19_Fits.f (k + 1) n fit o w wh = some (wrongs n fit o w wh) := by
  unfold quireref19_Fits.f wrongs
  by_cases a : n < 1 ∨ 4096 < n ∨ fit < 0
  · rw [if_pos a]
    by_cases a1 : n < 1
    · rw [if_pos a1]; simp [quireref19_Fits.j0]
    · by_cases a2 : n > 4096
      · rw [if_neg a1, if_pos a2]; simp [quireref19_Fits.j0]
      · have : fit < 0 := by omega
        rw [if_neg a1, if_neg a2]; simp [quireref19_Fits.j0, this]
  · rw [if_neg a, if_neg (by omega), if_neg (by omega)]
    have hf : decide (fit < 0) = false := by simp; omega
    rw [hf]
    simp only [quireref19_Fits.j0, Bool.false_eq_true, if_false]
    by_cases b : o < 1 ∨ 4 < o ∨ w < 1 ∨ 4 < w ∨ wh < 0 ∨ 1 < wh
    · rw [if_pos b]
      repeat' split
      all_goals first | rfl | omega
    · rw [if_neg b, if_neg (by omega), if_neg (by omega), if_neg (by omega), if_neg (by omega), if_neg (by omega), if_neg (by omega)]

theorem split_tells (n fit o w wh : Int) (top : Bool) (k : Nat) (hn : n < 9223372036854775808) :
    column_Split.f (k + 3) n fit o w wh top = some (if wrongs n fit o w wh ≠ 0 then (0, wrongs n fit o w wh) else if n ≤ fit then (n, 0) else (best n fit o w wh top, 0)) := by
  unfold column_Split.f wrongs
  by_cases a : n < 1 ∨ 4096 < n ∨ fit < 0
  · rw [if_pos a]
    simp only [column_Split.j0]
    by_cases a1 : n < 1
    · rw [if_pos a1]; simp
    · by_cases a2 : n > 4096
      · rw [if_neg a1, if_pos a2]; simp
      · have : fit < 0 := by omega
        rw [if_neg a1, if_neg a2]; simp [this]
  · rw [if_neg a, if_neg (by omega), if_neg (by omega)]
    have hf : decide (fit < 0) = false := by simp; omega
    rw [hf]
    simp only [column_Split.j0, column_Split.j1, Bool.false_eq_true, if_false, if_true]
    by_cases b : o < 1 ∨ 4 < o ∨ w < 1 ∨ 4 < w ∨ wh < 0 ∨ 1 < wh
    · rw [if_pos b]
      have b0 : (2 : Int) ≠ 0 := by decide
      rw [if_pos b0]
      by_cases c1 : o < 1
      · rw [if_pos c1]
      rw [if_neg c1]
      by_cases c2 : o > 4
      · rw [if_pos c2]
      rw [if_neg c2]
      by_cases c3 : w < 1
      · rw [if_pos c3]
      rw [if_neg c3]
      by_cases c4 : w > 4
      · rw [if_pos c4]
      rw [if_neg c4, if_neg (by omega)]
      have : (wh != 1) = true := by rw [bne_iff_ne]; omega
      rw [if_pos this]
    · rw [if_neg b]
      have b0 : ¬ ((0 : Int) ≠ 0) := by decide
      rw [if_neg b0, if_neg (by omega), if_neg (by omega), if_neg (by omega), if_neg (by omega)]
      have e2 : wrap64 (n - w) = n - w := wrap_small (by omega) (by omega)
      have em : mn fit (n - w) = (if fit ≤ n - w then fit else n - w) := by unfold mn; split <;> split <;> omega
      have ex : mx fit 1 = (if fit ≤ 1 then 1 else fit) := by unfold mx; split <;> split <;> omega
      have hb1 : wh ≠ 0 → (wh != 1) = false := fun h => by rw [bne_eq_false_iff_eq]; omega
      rw [e2, em]
      simp only [column_Split.j2]
      rw [ex]
      generalize hm : (if fit ≤ n - w then fit else n - w) = m
      generalize hq : (if fit ≤ 1 then (1 : Int) else fit) = q
      by_cases c : n ≤ fit
      · by_cases c0 : wh = 0
        · simp [c0, c]
        · simp [c0, c, hb1 c0]
      · unfold best
        rw [hm, hq]
        by_cases c0 : wh = 0
        · by_cases c5 : o ≤ m
          · simp [c0, c, c5]
          · cases top <;> simp [c0, c, c5]
        · cases top <;> simp [c0, c, hb1 c0]

theorem refsplit_tells (n fit o w wh : Int) (top : Bool) (h : wrongs n fit o w wh = 0) (k : Nat) (hk : fit.toNat < k) :
    quireref19_Split.f k n fit o w wh top = some (if n ≤ fit then n else best n fit o w wh top) := by
  unfold wrongs at h
  have h1 : ¬ (n < 1 ∨ 4096 < n ∨ fit < 0) := by intro a; rw [if_pos a] at h; omega
  have h2 : ¬ (o < 1 ∨ 4 < o ∨ w < 1 ∨ 4 < w ∨ wh < 0 ∨ 1 < wh) := by intro a; rw [if_neg h1, if_pos a] at h; omega
  unfold quireref19_Split.f
  by_cases c : fit ≥ n
  · rw [if_pos c, if_pos (by omega)]
  · rw [if_neg c, if_neg (by omega)]
    exact ref_loop n fit o w wh top (by omega) (by omega) (by omega) (by omega) fit.toNat k fit (by omega) (by omega) (by omega) hk (by intro j; omega)

theorem ColumnSplits : quirelaw19_ColumnSplits.Pure := by
  intro n fit o w wh top wn wf wo ww wwh
  refine ⟨fit.toNat + 3, ?_⟩
  have bn : n < 9223372036854775808 := by
    have := bounds_i64 wn; omega
  unfold quirelaw19_ColumnSplits.f
  rw [split_tells n fit o w wh top fit.toNat bn]
  simp only [Option.bind_some]
  rw [show fit.toNat + 3 = (fit.toNat + 2) + 1 from rfl, fits_tells]
  simp only [Option.bind_some]
  by_cases h : wrongs n fit o w wh = 0
  · rw [if_pos h, if_neg (by rw [h]; simp), refsplit_tells n fit o w wh top h _ (by omega)]
    simp only [Option.bind_some]
    by_cases c : n ≤ fit
    · simp [if_pos c]
    · simp [if_neg c]
  · rw [if_neg h, if_pos h]
    simp

end Go.Proofs.Ytoodiihimjalfaa.Pure
