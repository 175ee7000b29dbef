/- SectionTells: the plain law, for every section and page. -/
import Derived.Test.YthpmchbbfbbakaaB4
import Derived.Test.YthpmchbbfbbakaaPCols
import Derived.Test.YthpmchbbfbbakaaOpenS
namespace Go.Proofs.Ythpmchbbfbbakaa.PAll
open Go.RowKit Go.Proofs.YthpmchbbfbbakaaW.PrintWords Go.Proofs.YthpmchbbfbbakaaW.PrintLast Go.Proofs.YthpmchbbfbbakaaW.PrintMore
set_option linter.unusedVariables false
set_option linter.unusedSimpArgs false

/-- how wide all columns are together -/
def spanOf (s : Sec.Sec) : Int := wrap64 (wrap64 (Sec.wideOf s * s.cols) + wrap64 (s.gap * wrap64 (s.cols - 1)))
theorem across_f (s : Sec.Sec) (n y h : Int) (c0 : s.cols ≠ 0) : section_across.f s.w s.h s.top s.bottom s.inner s.outer s.cols s.gap s.start s.balance s.mirror s.h0 s.h1 s.h2 s.f0 s.f1 s.f2 n y h = some (Sec.leftOf s n, y, spanOf s, h) := by
  unfold section_across.f section_wide.f
  rw [if_neg c0]
  rfl
theorem span_f (s : Sec.Sec) (c0 : s.cols ≠ 0) : quireref05_span.f s.w s.h s.top s.bottom s.inner s.outer s.cols s.gap s.start s.balance s.mirror s.h0 s.h1 s.h2 s.f0 s.f1 s.f2 = some (spanOf s) := by
  unfold quireref05_span.f quireref05_width.f
  rw [if_neg c0]
  simp only [Option.bind_some]
  unfold spanOf
  have e : Sec.rwideOf ⟨s.w, s.h, s.top, s.bottom, s.inner, s.outer, s.cols, s.gap, s.start, s.balance, s.mirror, s.h0, s.h1, s.h2, s.f0, s.f1, s.f2⟩ = Sec.wideOf s := Sec.rwide_eq s
  rw [e, Int.mul_comm s.cols, Int.mul_comm (wrap64 (s.cols - 1))]
theorem head_f (s : Sec.Sec) (n : Int) (c0 : s.cols ≠ 0) (hp : Sec.pageOf s n 1 = 0) : section_Head.f s.w s.h s.top s.bottom s.inner s.outer s.cols s.gap s.start s.balance s.mirror s.h0 s.h1 s.h2 s.f0 s.f1 s.f2 n = some (Sec.leftOf s n, wrap64 (Int.tdiv s.top 2), spanOf s, wrap64 (s.top - wrap64 (Int.tdiv s.top 2)), 0) := by
  unfold section_Head.f
  simp only [section_page.f, Option.bind_some]
  rw [if_pos hp, across_f s n _ _ c0]
  rfl
theorem foot_f (s : Sec.Sec) (n : Int) (c0 : s.cols ≠ 0) (hp : Sec.pageOf s n 1 = 0) : section_Foot.f s.w s.h s.top s.bottom s.inner s.outer s.cols s.gap s.start s.balance s.mirror s.h0 s.h1 s.h2 s.f0 s.f1 s.f2 n = some (Sec.leftOf s n, wrap64 (s.h - s.bottom), spanOf s, wrap64 (Int.tdiv s.bottom 2), 0) := by
  unfold section_Foot.f
  simp only [section_page.f, Option.bind_some]
  rw [if_pos hp, across_f s n _ _ c0]
  rfl
theorem head_bad (s : Sec.Sec) (n : Int) (hp : Sec.pageOf s n 1 ≠ 0) : section_Head.f s.w s.h s.top s.bottom s.inner s.outer s.cols s.gap s.start s.balance s.mirror s.h0 s.h1 s.h2 s.f0 s.f1 s.f2 n = some (0, 0, 0, 0, Sec.pageOf s n 1) := by
  unfold section_Head.f
  simp only [section_page.f, Option.bind_some]
  rw [if_neg hp]
theorem foot_bad (s : Sec.Sec) (n : Int) (hp : Sec.pageOf s n 1 ≠ 0) : section_Foot.f s.w s.h s.top s.bottom s.inner s.outer s.cols s.gap s.start s.balance s.mirror s.h0 s.h1 s.h2 s.f0 s.f1 s.f2 n = some (0, 0, 0, 0, Sec.pageOf s n 1) := by
  unfold section_Foot.f
  simp only [section_page.f, Option.bind_some]
  rw [if_neg hp]
theorem rhead_f (s : Sec.Sec) (n : Int) (c0 : s.cols ≠ 0) : quireref05_Head.f s.w s.h s.top s.bottom s.inner s.outer s.cols s.gap s.start s.balance s.mirror s.h0 s.h1 s.h2 s.f0 s.f1 s.f2 n = some (Sec.leftOf s n, wrap64 (Int.tdiv s.top 2), spanOf s, wrap64 (s.top - wrap64 (Int.tdiv s.top 2))) := by
  unfold quireref05_Head.f
  rw [span_f s c0]
  rfl
theorem rfoot_f (s : Sec.Sec) (n : Int) (c0 : s.cols ≠ 0) : quireref05_Foot.f s.w s.h s.top s.bottom s.inner s.outer s.cols s.gap s.start s.balance s.mirror s.h0 s.h1 s.h2 s.f0 s.f1 s.f2 n = some (Sec.leftOf s n, wrap64 (s.h - s.bottom), spanOf s, wrap64 (Int.tdiv s.bottom 2)) := by
  unfold quireref05_Foot.f
  rw [span_f s c0]
  rfl
theorem tells_l0 (s : Sec.Sec) (n : Int) (hp : Sec.pageOf s n 1 = 0) (c8 : s.cols ≤ 8) : ∀ (m k : Nat) (i : Int) (l : List S38), m + 12 ≤ k → 0 ≤ i → i + m = l.length → l.length ≤ 8 →
    quirelaw05_SectionTells.l0 k n l i s.w s.h s.top s.bottom s.inner s.outer s.cols s.gap s.start s.balance s.mirror s.h0 s.h1 s.h2 s.f0 s.f1 s.f2 = some true
  | 0, k + 1, i, l, hk, hi, hm, hl => by
    unfold quirelaw05_SectionTells.l0
    rw [if_neg (by omega), cols_f s n hp k (by omega)]
    simp only [Option.bind_some]
    rw [rcols_f s n hp k (by omega)]
    simp only [Option.bind_some]
    rw [rects_refl (colsOf s n) k (by rw [colsOf_length]; omega) (by rw [colsOf_length]; omega)]
    rfl
  | m + 1, k + 1, i, l, hk, hi, hm, hl => by
    unfold quirelaw05_SectionTells.l0
    rw [if_pos (by omega), if_pos hi, Sec.w64 (x := i + 1) (by omega) (by omega)]
    exact tells_l0 s n hp c8 m k (i + 1) _ (by omega) (by omega) (by simp; omega) (by simp; omega)
theorem tells_j1 (s : Sec.Sec) (n : Int) (hp : Sec.pageOf s n 1 = 0) (c1 : 1 ≤ s.cols) (c8 : s.cols ≤ 8) (k : Nat) (hk : 20 ≤ k) : quirelaw05_SectionTells.j1 (k + 1) n (colsOf s n) false s.w s.h s.top s.bottom s.inner s.outer s.cols s.gap s.start s.balance s.mirror s.h0 s.h1 s.h2 s.f0 s.f1 s.f2 = some true := by
  rw [quirelaw05_SectionTells.j1]
  rw [if_neg (by decide)]
  have hlen := colsOf_length s n
  exact tells_l0 s n hp c8 s.cols.toNat k 0 (colsOf s n) (by omega) (by omega) (by omega) (by omega)
theorem tells_j0 (s : Sec.Sec) (n : Int) (hp : Sec.pageOf s n 1 = 0) (c1 : 1 ≤ s.cols) (c8 : s.cols ≤ 8) (k : Nat) (hk : 20 ≤ k) : quirelaw05_SectionTells.j0 (k + 1 + 1) n (colsOf s n) 0 false s.w s.h s.top s.bottom s.inner s.outer s.cols s.gap s.start s.balance s.mirror s.h0 s.h1 s.h2 s.f0 s.f1 s.f2 (Sec.leftOf s n) (wrap64 (Int.tdiv s.top 2)) (spanOf s) (wrap64 (s.top - wrap64 (Int.tdiv s.top 2))) (Sec.leftOf s n) (wrap64 (s.h - s.bottom)) (spanOf s) (wrap64 (Int.tdiv s.bottom 2)) = some true := by
  rw [quirelaw05_SectionTells.j0]
  rw [if_neg (by decide), if_pos rfl, rcols_f s n hp _ (by omega)]
  simp only [Option.bind_some]
  rw [rects_refl (colsOf s n) _ (by rw [colsOf_length]; omega) (by rw [colsOf_length]; omega)]
  simp only [Option.bind_some]
  rw [rhead_f s n (by omega), rfoot_f s n (by omega)]
  simp only [Option.bind_some, beq_self_eq_true, Bool.not_true, Bool.or_self, if_true]
  rw [if_neg (by decide)]
  exact tells_j1 s n hp c1 c8 k hk
theorem tells_j0_bad (s : Sec.Sec) (n e : Int) (he : e ≠ 0) (k : Nat) : quirelaw05_SectionTells.j0 (k + 1) n [] e false s.w s.h s.top s.bottom s.inner s.outer s.cols s.gap s.start s.balance s.mirror s.h0 s.h1 s.h2 s.f0 s.f1 s.f2 0 0 0 0 0 0 0 0 = some true := by
  rw [quirelaw05_SectionTells.j0]
  rw [if_neg (by decide), if_neg he]
  simp
theorem tells_pure (s : Sec.Sec) (n : Int) (g : Sec.good s) (wn : (Lit.int .i64 n).wf = true) : ∃ k, quirelaw05_SectionTells.f k s.w s.h s.top s.bottom s.inner s.outer s.cols s.gap s.start s.balance s.mirror s.h0 s.h1 s.h2 s.f0 s.f1 s.f2 n = some true := by
  refine ⟨58 + 1 + 1, ?_⟩
  have hsm : quirelaw05_small.f s.w s.h s.top s.bottom s.inner s.outer s.cols s.gap s.start s.balance s.mirror s.h0 s.h1 s.h2 s.f0 s.f1 s.f2 = some (Sec.smallOf s) := rfl
  have hP : quireref05_Page.f s.w s.h s.top s.bottom s.inner s.outer s.cols s.gap s.start s.balance s.mirror s.h0 s.h1 s.h2 s.f0 s.f1 s.f2 n 1 = some (Sec.pageOf s n 1) := rfl
  have hk1 : section_Check.f s.w s.h s.top s.bottom s.inner s.outer s.cols s.gap s.start s.balance s.mirror s.h0 s.h1 s.h2 s.f0 s.f1 s.f2 = some (Sec.chk s) := rfl
  have hk2 : quireref05_Check.f s.w s.h s.top s.bottom s.inner s.outer s.cols s.gap s.start s.balance s.mirror s.h0 s.h1 s.h2 s.f0 s.f1 s.f2 = some (Sec.chk s) := rfl
  unfold quirelaw05_SectionTells.f
  rw [hsm]
  simp only [Option.bind_some]
  by_cases hs : Sec.smallOf s = true
  · rw [if_pos hs]
    by_cases hp : Sec.pageOf s n 1 = 0
    · obtain ⟨hc, n1, n2⟩ := Sec.page_good hp
      obtain ⟨hl, ha, hw, hh⟩ := Sec.chk_good hc
      have c8 : s.cols ≤ 8 := by unfold Sec.Args at ha; omega
      have c0 : s.cols ≠ 0 := by unfold Sec.Args at ha; omega
      rw [cols_f s n hp (58 + 1 + 1) (by decide), head_f s n c0 hp, foot_f s n c0 hp, hP, hk1, hk2]
      simp only [Option.bind_some]
      rw [if_pos trivial]
      simp only [section_Plain.f, quireref05_Plain.f, Option.bind_some]
      rw [if_neg (by simp), hp, if_pos rfl, if_pos rfl, show ((0 : Int) != 0) = false from rfl]
      exact tells_j0 s n hp (by unfold Sec.Args at ha; omega) c8 58 (by decide)
    · rw [cols_f_bad s n hp, head_bad s n hp, foot_bad s n hp, hP, hk1, hk2]
      simp only [Option.bind_some]
      rw [if_pos trivial]
      simp only [section_Plain.f, quireref05_Plain.f, Option.bind_some]
      rw [if_neg (by simp), if_pos trivial, if_pos trivial]
      rw [show (Sec.pageOf s n 1 != Sec.pageOf s n 1) = false by simp]
      exact tells_j0_bad s n _ hp (58 + 1)
  · rw [if_neg hs]
end Go.Proofs.Ythpmchbbfbbakaa.PAll
