/- Sections: plain laws of sections that may be. -/
import Derived.Test.YthpmchbbfbbakaaS7
namespace Go.Proofs.Ythpmchbbfbbakaa.Sec
open Go.RowKit Go.Proofs.YthpmchbbfbbakaaW.PrintWords Go.Proofs.YthpmchbbfbbakaaW.PrintLast Go.Proofs.YthpmchbbfbbakaaW.PrintMore
set_option linter.unusedVariables false
set_option linter.unusedSimpArgs false

theorem chk_good {s : Sec} (h : chk s = 0) : Long s ∧ Args s ∧ 10 ≤ wideOf s ∧ 20 ≤ highOf s := by
  rw [chk_eq] at h
  by_cases hl : Long s
  · rw [if_pos hl] at h
    by_cases ha : Args s
    · rw [if_pos ha] at h
      unfold tail at h
      by_cases ht : wideOf s < 10 ∨ highOf s < 20
      · rw [if_pos ht] at h; omega
      · exact ⟨hl, ha, by omega, by omega⟩
    · rw [if_neg ha] at h; omega
  · rw [if_neg hl] at h; omega
theorem page_zero {s : Sec} {n least : Int} (h : chk s = 0) (h1 : least ≤ n) (h2 : n ≤ 4096) : pageOf s n least = 0 := by
  unfold pageOf
  rw [if_neg (by omega), if_neg (by omega)]
theorem page_good {s : Sec} {n least : Int} (h : pageOf s n least = 0) : chk s = 0 ∧ least ≤ n ∧ n ≤ 4096 := by
  unfold pageOf at h
  by_cases hc : chk s = 0
  · rw [if_neg (by omega)] at h
    by_cases hr : n < least ∨ 4096 < n
    · rw [if_pos hr] at h; omega
    · omega
  · rw [if_pos hc] at h; omega
theorem high_eq {s : Sec} (hl : Long s) : highOf s = s.h - s.top - s.bottom := by
  unfold Long at hl
  unfold highOf
  rw [w64 (x := s.h - s.top) (by omega) (by omega), w64 (by omega) (by omega)]
/-- the columns' width, and what is left of the room -/
theorem wide_room {s : Sec} (hl : Long s) (ha : Args s) (hw : 10 ≤ wideOf s) : wideOf s * s.cols ≤ roomOf s ∧ roomOf s < wideOf s * s.cols + s.cols ∧ wideOf s ≤ 4095 := by
  obtain ⟨he, r0, r1⟩ := wide_eq hl ha
  unfold Args at ha
  have hc : 0 < s.cols := by omega
  have hr : 0 ≤ roomOf s := by
    rcases Int.le_total 0 (roomOf s) with h | h
    · exact h
    · have : Int.tdiv (roomOf s) s.cols = - (Int.tdiv (- roomOf s) s.cols) := by rw [Int.neg_tdiv]; omega
      rw [this, Int.tdiv_eq_ediv_of_nonneg (show 0 ≤ - roomOf s by omega)] at he
      have h1 := Int.ediv_nonneg (show 0 ≤ - roomOf s by omega) (show (0 : Int) ≤ s.cols by omega)
      omega
  rw [Int.tdiv_eq_ediv_of_nonneg hr] at he
  have h2 : roomOf s / s.cols ≤ roomOf s := Int.ediv_le_self _ hr
  rw [he]
  refine ⟨Int.ediv_mul_le _ (by omega), ?_, by omega⟩
  have := Int.lt_ediv_add_one_mul_self (roomOf s) hc
  rw [Int.add_mul, Int.one_mul] at this
  exact this
theorem rwide_eq (s : Sec) : rwideOf s = wideOf s := by
  unfold rwideOf wideOf
  rw [Int.mul_comm s.gap]
end Go.Proofs.Ythpmchbbfbbakaa.Sec
