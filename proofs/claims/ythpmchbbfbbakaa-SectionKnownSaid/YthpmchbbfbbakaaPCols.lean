/- Sections: the columns that both sides tell are one list. -/
import Derived.Test.YthpmchbbfbbakaaB6
import Derived.Test.YthpmchbbfbbakaaB8
import Derived.Test.YthpmchbbfbbakaaB3
import Derived.Test.YthpmchbbfbbakaaPS
namespace Go.Proofs.Ythpmchbbfbbakaa.PAll
open Go.RowKit Go.Proofs.YthpmchbbfbbakaaW.PrintWords Go.Proofs.YthpmchbbfbbakaaW.PrintLast Go.Proofs.YthpmchbbfbbakaaW.PrintMore
set_option linter.unusedVariables false
set_option linter.unusedSimpArgs false

/-- the columns from the i-th on, so many -/
def colsFrom (s : Sec.Sec) (L : Int) : Int → Nat → List S38
  | _, 0 => []
  | i, m + 1 => ⟨L + i * (Sec.wideOf s + s.gap), s.top, Sec.wideOf s, Sec.highOf s⟩ :: colsFrom s L (i + 1) m
theorem colsFrom_length (s : Sec.Sec) (L : Int) : ∀ m i, (colsFrom s L i m).length = m
  | 0, _ => rfl
  | m + 1, i => by simp [colsFrom, colsFrom_length s L m]
theorem prod8 {i d : Int} (i0 : 0 ≤ i) (i1 : i ≤ 8) (d0 : 0 ≤ d) (d1 : d ≤ 8190) : 0 ≤ i * d ∧ i * d ≤ 65520 := by
  refine ⟨Int.mul_nonneg i0 d0, ?_⟩
  have h1 : i * d ≤ 8 * d := Int.mul_le_mul_of_nonneg_right i1 d0
  omega
theorem cols_l0 (s : Sec.Sec) (L : Int) (L0 : 0 ≤ L) (L1 : L ≤ 4095) (g0 : 0 ≤ s.gap) (g1 : s.gap ≤ 4095) (W0 : 0 ≤ Sec.wideOf s) (W1 : Sec.wideOf s ≤ 4095) (c8 : s.cols ≤ 8) : ∀ (m k : Nat) (i : Int) (acc : List S38), m < k → 0 ≤ i → i + m = s.cols → acc.length = i.toNat →
    section_Columns.l0 k acc s.cols i s.w s.h s.top s.bottom s.inner s.outer s.cols s.gap s.start s.balance s.mirror s.h0 s.h1 s.h2 s.f0 s.f1 s.f2 (L + i * (Sec.wideOf s + s.gap)) s.top (Sec.wideOf s) (Sec.highOf s) = some (acc ++ colsFrom s L i m, 0)
  | 0, k + 1, i, acc, hk, hi, hm, ha => by
    unfold section_Columns.l0
    rw [if_neg (by omega)]
    simp [colsFrom]
  | m + 1, k + 1, i, acc, hk, hi, hm, ha => by
    unfold section_Columns.l0
    obtain ⟨p0, p1⟩ := prod8 hi (show i ≤ 8 by omega) (show 0 ≤ Sec.wideOf s + s.gap by omega) (by omega)
    have e : L + i * (Sec.wideOf s + s.gap) + (Sec.wideOf s + s.gap) = L + (i + 1) * (Sec.wideOf s + s.gap) := by rw [Int.add_mul, Int.one_mul, Int.add_assoc]
    rw [if_pos (by omega), if_pos (by omega), Sec.w64 (x := i + 1) (by omega) (by omega), Sec.w64 (x := Sec.wideOf s + s.gap) (by omega) (by omega), Sec.w64 (x := L + i * (Sec.wideOf s + s.gap) + (Sec.wideOf s + s.gap)) (by omega) (by omega), e]
    rw [cols_l0 s L L0 L1 g0 g1 W0 W1 c8 m k (i + 1) _ (by omega) (by omega) (by omega) (by simp; omega)]
    simp [colsFrom]
theorem rcols_l0 (s : Sec.Sec) (n : Int) (c0 : s.cols ≠ 0) (L0 : 0 ≤ Sec.leftOf s n) (L1 : Sec.leftOf s n ≤ 4095) (g0 : 0 ≤ s.gap) (g1 : s.gap ≤ 4095) (W0 : 0 ≤ Sec.wideOf s) (W1 : Sec.wideOf s ≤ 4095) (c8 : s.cols ≤ 8) : ∀ (m k : Nat) (i : Int) (acc : List S38), m < k → 0 ≤ i → i + m = s.cols → acc.length = i.toNat →
    quireref05_Columns.l0 k n acc i s.w s.h s.top s.bottom s.inner s.outer s.cols s.gap s.start s.balance s.mirror s.h0 s.h1 s.h2 s.f0 s.f1 s.f2 = some (acc ++ colsFrom s (Sec.leftOf s n) i m)
  | 0, k + 1, i, acc, hk, hi, hm, ha => by
    unfold quireref05_Columns.l0
    rw [if_neg (by omega)]
    simp [colsFrom]
  | m + 1, k + 1, i, acc, hk, hi, hm, ha => by
    unfold quireref05_Columns.l0
    obtain ⟨p0, p1⟩ := prod8 hi (show i ≤ 8 by omega) (show 0 ≤ Sec.wideOf s + s.gap by omega) (by omega)
    rw [if_pos (by omega)]
    have hw : quireref05_width.f s.w s.h s.top s.bottom s.inner s.outer s.cols s.gap s.start s.balance s.mirror s.h0 s.h1 s.h2 s.f0 s.f1 s.f2 = some (Sec.wideOf s) := by
      unfold quireref05_width.f
      rw [if_neg c0]
      exact congrArg some (Sec.rwide_eq s)
    rw [hw]
    simp only [quireref05_left.f, quireref05_height.f, Option.bind_some]
    rw [if_pos (by omega), Sec.w64 (x := i + 1) (by omega) (by omega), Sec.w64 (x := Sec.wideOf s + s.gap) (by omega) (by omega), Sec.w64 (x := i * (Sec.wideOf s + s.gap)) (by omega) (by omega), Sec.w64 (x := Sec.leftOf s n + i * (Sec.wideOf s + s.gap)) (by omega) (by omega)]
    rw [rcols_l0 s n c0 L0 L1 g0 g1 W0 W1 c8 m k (i + 1) _ (by omega) (by omega) (by omega) (by simp; omega)]
    simp [colsFrom]
def colsOf (s : Sec.Sec) (n : Int) : List S38 := colsFrom s (Sec.leftOf s n) 0 s.cols.toNat
theorem colsOf_length (s : Sec.Sec) (n : Int) : (colsOf s n).length = s.cols.toNat := colsFrom_length _ _ _ _
theorem left_range {s : Sec.Sec} (hl : Sec.Long s) (n : Int) : 0 ≤ Sec.leftOf s n ∧ Sec.leftOf s n ≤ 4095 := by
  unfold Sec.Long at hl
  unfold Sec.leftOf
  split <;> omega
theorem cols_f (s : Sec.Sec) (n : Int) (hp : Sec.pageOf s n 1 = 0) (k : Nat) (hk : 9 ≤ k) : section_Columns.f k s.w s.h s.top s.bottom s.inner s.outer s.cols s.gap s.start s.balance s.mirror s.h0 s.h1 s.h2 s.f0 s.f1 s.f2 n = some (colsOf s n, 0) := by
  obtain ⟨hc, _, _⟩ := Sec.page_good hp
  obtain ⟨hl, ha, hw, hh⟩ := Sec.chk_good hc
  obtain ⟨L0, L1⟩ := left_range hl n
  obtain ⟨_, _, W1⟩ := Sec.wide_room hl ha hw
  unfold Sec.Long at hl
  unfold Sec.Args at ha
  unfold section_Columns.f
  simp only [section_page.f, Option.bind_some]
  rw [if_pos hp]
  simp only [section_left.f, section_wide.f, section_high.f, Option.bind_some]
  rw [if_neg (show ¬ s.cols = 0 by omega)]
  simp only [Option.bind_some]
  have e : Sec.leftOf s n + 0 * (Sec.wideOf s + s.gap) = Sec.leftOf s n := by rw [Int.zero_mul, Int.add_zero]
  have h := cols_l0 s (Sec.leftOf s n) L0 L1 (by omega) (by omega) (by omega) W1 (by omega) s.cols.toNat k 0 [] (by omega) (by omega) (by omega) rfl
  rw [e] at h
  exact h
theorem cols_f_bad (s : Sec.Sec) (n : Int) (hp : Sec.pageOf s n 1 ≠ 0) (k : Nat) : section_Columns.f k s.w s.h s.top s.bottom s.inner s.outer s.cols s.gap s.start s.balance s.mirror s.h0 s.h1 s.h2 s.f0 s.f1 s.f2 n = some ([], Sec.pageOf s n 1) := by
  unfold section_Columns.f
  simp only [section_page.f, Option.bind_some]
  rw [if_neg hp]
theorem rcols_f (s : Sec.Sec) (n : Int) (hp : Sec.pageOf s n 1 = 0) (k : Nat) (hk : 9 ≤ k) : quireref05_Columns.f k s.w s.h s.top s.bottom s.inner s.outer s.cols s.gap s.start s.balance s.mirror s.h0 s.h1 s.h2 s.f0 s.f1 s.f2 n = some (colsOf s n) := by
  obtain ⟨hc, _, _⟩ := Sec.page_good hp
  obtain ⟨hl, ha, hw, hh⟩ := Sec.chk_good hc
  obtain ⟨L0, L1⟩ := left_range hl n
  obtain ⟨_, _, W1⟩ := Sec.wide_room hl ha hw
  unfold Sec.Long at hl
  unfold Sec.Args at ha
  unfold quireref05_Columns.f
  exact rcols_l0 s n (by omega) L0 L1 (by omega) (by omega) (by omega) W1 (by omega) s.cols.toNat k 0 [] (by omega) (by omega) (by omega) rfl
theorem rects_l0 (l : List S38) (hl : l.length < 4000000) : ∀ (m k : Nat) (i : Int), m < k → 0 ≤ i → i + m = l.length → quirelaw05_rects.l0 k l l i = some true
  | 0, k + 1, i, hk, hi, hm => by
    unfold quirelaw05_rects.l0
    rw [if_neg (by omega)]
  | m + 1, k + 1, i, hk, hi, hm => by
    unfold quirelaw05_rects.l0
    rw [if_pos (by omega), if_pos hi, if_pos (by omega), if_neg (by simp), Sec.w64 (x := i + 1) (by omega) (by omega)]
    exact rects_l0 l hl m k (i + 1) (by omega) (by omega) (by omega)
theorem rects_refl (l : List S38) (k : Nat) (h : l.length < k) (hl : l.length < 4000000) : quirelaw05_rects.f k l l = some true := by
  unfold quirelaw05_rects.f
  rw [if_pos rfl]
  exact rects_l0 l hl l.length k 0 h (by omega) (by omega)
end Go.Proofs.Ythpmchbbfbbakaa.PAll
