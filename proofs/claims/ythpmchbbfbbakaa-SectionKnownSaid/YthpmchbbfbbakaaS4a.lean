/- Sections: plain laws of what Check answers. -/
import Derived.Test.YthpmchbbfbbakaaS3
namespace Go.Proofs.Ythpmchbbfbbakaa.Sec
open Go.RowKit Go.Proofs.YthpmchbbfbbakaaW.PrintWords Go.Proofs.YthpmchbbfbbakaaW.PrintLast Go.Proofs.YthpmchbbfbbakaaW.PrintMore
set_option linter.unusedVariables false
set_option linter.unusedSimpArgs false

def Long (s : Sec) : Prop := 1 ≤ s.w ∧ s.w ≤ 4095 ∧ 1 ≤ s.h ∧ s.h ≤ 4095 ∧ 0 ≤ s.top ∧ s.top ≤ 4095 ∧ 0 ≤ s.bottom ∧ s.bottom ≤ 4095 ∧ 0 ≤ s.inner ∧ s.inner ≤ 4095 ∧ 0 ≤ s.outer ∧ s.outer ≤ 4095 ∧ 0 ≤ s.gap ∧ s.gap ≤ 4095
def Args (s : Sec) : Prop := 1 ≤ s.cols ∧ s.cols ≤ 8 ∧ 0 ≤ s.start ∧ s.start ≤ 2 ∧ 0 ≤ s.balance ∧ s.balance ≤ 1 ∧ 0 ≤ s.mirror ∧ s.mirror ≤ 1
instance (s : Sec) : Decidable (Long s) := by unfold Long; infer_instance
instance (s : Sec) : Decidable (Args s) := by unfold Args; infer_instance

theorem chk_eq (s : Sec) : chk s = if Long s then (if Args s then tail s else 2) else 5 := by
  unfold chk rowsOf
  simp only [firstE]
  by_cases a1 : s.w < 1 ∨ 4095 < s.w
  · rw [if_pos a1, if_neg (by unfold Long; omega)]
  rw [if_neg a1]
  by_cases a2 : s.h < 1 ∨ 4095 < s.h
  · rw [if_pos a2, if_neg (by unfold Long; omega)]
  rw [if_neg a2]
  by_cases a3 : s.top < 0 ∨ 4095 < s.top
  · rw [if_pos a3, if_neg (by unfold Long; omega)]
  rw [if_neg a3]
  by_cases a4 : s.bottom < 0 ∨ 4095 < s.bottom
  · rw [if_pos a4, if_neg (by unfold Long; omega)]
  rw [if_neg a4]
  by_cases a5 : s.inner < 0 ∨ 4095 < s.inner
  · rw [if_pos a5, if_neg (by unfold Long; omega)]
  rw [if_neg a5]
  by_cases a6 : s.outer < 0 ∨ 4095 < s.outer
  · rw [if_pos a6, if_neg (by unfold Long; omega)]
  rw [if_neg a6]
  by_cases a7 : s.gap < 0 ∨ 4095 < s.gap
  · rw [if_pos a7, if_neg (by unfold Long; omega)]
  rw [if_neg a7]
  have hl : Long s := by unfold Long; omega
  rw [if_pos hl]
  by_cases b1 : s.cols < 1 ∨ 8 < s.cols
  · rw [if_pos b1, if_neg (by unfold Args; omega)]
  rw [if_neg b1]
  by_cases b2 : s.start < 0 ∨ 2 < s.start
  · rw [if_pos b2, if_neg (by unfold Args; omega)]
  rw [if_neg b2]
  by_cases b3 : s.balance < 0 ∨ 1 < s.balance
  · rw [if_pos b3, if_neg (by unfold Args; omega)]
  rw [if_neg b3]
  by_cases b4 : s.mirror < 0 ∨ 1 < s.mirror
  · rw [if_pos b4, if_neg (by unfold Args; omega)]
  rw [if_neg b4]
  rw [if_pos (by unfold Args; omega)]

/-- how much room the columns have together -/
def roomOf (s : Sec) : Int := wrap64 (wrap64 (wrap64 (s.w - s.inner) - s.outer) - wrap64 (wrap64 (s.cols - 1) * s.gap))
theorem prod_range {c g : Int} (c0 : 1 ≤ c) (c1 : c ≤ 8) (g0 : 0 ≤ g) (g1 : g ≤ 4095) : 0 ≤ (c - 1) * g ∧ (c - 1) * g ≤ 28665 := by
  refine ⟨Int.mul_nonneg (by omega) g0, ?_⟩
  have h1 : (c - 1) * g ≤ 7 * g := Int.mul_le_mul_of_nonneg_right (by omega) g0
  omega
theorem room_eq {s : Sec} (hl : Long s) (ha : Args s) : roomOf s = s.w - s.inner - s.outer - (s.cols - 1) * s.gap := by
  unfold Long at hl
  unfold Args at ha
  obtain ⟨p0, p1⟩ := prod_range (show 1 ≤ s.cols by omega) (by omega) (show 0 ≤ s.gap by omega) (by omega)
  unfold roomOf
  rw [w64 (x := s.w - s.inner) (by omega) (by omega), w64 (x := s.w - s.inner - s.outer) (by omega) (by omega), w64 (x := s.cols - 1) (by omega) (by omega), w64 (x := (s.cols - 1) * s.gap) (by omega) (by omega), w64 (by omega) (by omega)]
theorem wide_eq {s : Sec} (hl : Long s) (ha : Args s) : wideOf s = Int.tdiv (roomOf s) s.cols ∧ -40000 ≤ roomOf s ∧ roomOf s ≤ 4095 := by
  have hr := room_eq hl ha
  unfold Long at hl
  unfold Args at ha
  obtain ⟨p0, p1⟩ := prod_range (show 1 ≤ s.cols by omega) (by omega) (show 0 ≤ s.gap by omega) (by omega)
  have hb : -40000 ≤ roomOf s ∧ roomOf s ≤ 4095 := by omega
  refine ⟨?_, hb⟩
  have e : wrap64 (s.gap * wrap64 (s.cols - 1)) = wrap64 (wrap64 (s.cols - 1) * s.gap) := by rw [Int.mul_comm]
  have hu : wideOf s = wrap64 (Int.tdiv (roomOf s) s.cols) := by unfold wideOf roomOf; rw [e]
  rw [hu]
  have hd : -40000 ≤ Int.tdiv (roomOf s) s.cols ∧ Int.tdiv (roomOf s) s.cols ≤ 4095 := by
    rcases Int.le_total 0 (roomOf s) with h | h
    · rw [Int.tdiv_eq_ediv_of_nonneg h]
      have h1 := Int.ediv_nonneg h (show (0 : Int) ≤ s.cols by omega)
      have h2 : roomOf s / s.cols ≤ roomOf s := Int.ediv_le_self _ h
      omega
    · have : Int.tdiv (roomOf s) s.cols = - (Int.tdiv (- roomOf s) s.cols) := by rw [Int.neg_tdiv]; omega
      rw [this, Int.tdiv_eq_ediv_of_nonneg (show 0 ≤ - roomOf s by omega)]
      have h1 := Int.ediv_nonneg (show 0 ≤ - roomOf s by omega) (show (0 : Int) ≤ s.cols by omega)
      have h2 : (- roomOf s) / s.cols ≤ - roomOf s := Int.ediv_le_self _ (by omega)
      omega
  rw [w64 (by omega) (by omega)]
theorem wide_iff {s : Sec} (hl : Long s) (ha : Args s) : wideOf s < 10 ↔ roomOf s < wrap64 (10 * s.cols) := by
  obtain ⟨hw, r0, r1⟩ := wide_eq hl ha
  unfold Args at ha
  rw [hw, w64 (x := 10 * s.cols) (by omega) (by omega)]
  have hc : 0 < s.cols := by omega
  rcases Int.le_total 0 (roomOf s) with h | h
  · rw [Int.tdiv_eq_ediv_of_nonneg h, Int.ediv_lt_iff_lt_mul hc]
  · have : Int.tdiv (roomOf s) s.cols = - (Int.tdiv (- roomOf s) s.cols) := by rw [Int.neg_tdiv]; omega
    rw [this, Int.tdiv_eq_ediv_of_nonneg (show 0 ≤ - roomOf s by omega)]
    have h1 := Int.ediv_nonneg (show 0 ≤ - roomOf s by omega) (show (0 : Int) ≤ s.cols by omega)
    constructor
    · intro _; omega
    · intro _; omega
end Go.Proofs.Ythpmchbbfbbakaa.Sec
