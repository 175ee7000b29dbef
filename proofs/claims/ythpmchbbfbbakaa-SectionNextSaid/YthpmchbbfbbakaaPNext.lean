/- SectionNext: the plain law, for every section and page. -/
import Derived.Test.YthpmchbbfbbakaaB13
import Derived.Test.YthpmchbbfbbakaaPAwake
import Derived.Test.YthpmchbbfbbakaaOpenS
namespace Go.Proofs.Ythpmchbbfbbakaa.PAll
open Go.RowKit Go.Proofs.YthpmchbbfbbakaaW.PrintWords Go.Proofs.YthpmchbbfbbakaaW.PrintLast Go.Proofs.YthpmchbbfbbakaaW.PrintMore
set_option linter.unusedVariables false
set_option linter.unusedSimpArgs false

theorem next_j0_true (k : Nat) (x1 : Int) (x5 : Bool) (y0 y1 y2 y3 y4 y5 y6 y7 y8 y9 y10 : Int) (y11 y12 y13 y14 y15 y16 : ByteArray) : quirelaw05_SectionNext.j0 (k + 1) x1 x5 true y0 y1 y2 y3 y4 y5 y6 y7 y8 y9 y10 y11 y12 y13 y14 y15 y16 = some x5 := by
  simp [quirelaw05_SectionNext.j0]
set_option maxHeartbeats 1000000 in
theorem next_pure (s : Sec.Sec) (n : Int) (g : Sec.good s) (wn : (Lit.int .i64 n).wf = true) : ∃ k, quirelaw05_SectionNext.f k s.w s.h s.top s.bottom s.inner s.outer s.cols s.gap s.start s.balance s.mirror s.h0 s.h1 s.h2 s.f0 s.f1 s.f2 n = some true := by
  refine ⟨20, ?_⟩
  unfold quirelaw05_SectionNext.f
  rw [awake_true]
  simp only [Option.bind_some, quirelaw05_small.f, section_Check.f]
  by_cases hs : Sec.smallOf s = true
  · rw [if_pos hs]
    by_cases hc : Sec.chk s = 0
    · rw [if_pos hc]
      by_cases h0 : n < 0
      · rw [if_pos h0, next_j0_true]
      · rw [if_neg h0]
        by_cases h1 : n > 4095
        · rw [decide_eq_true h1, next_j0_true]
        · rw [decide_eq_false h1]
          obtain ⟨hl, ha, _, _⟩ := Sec.chk_good hc
          have hp0 : Sec.pageOf s n 0 = 0 := Sec.page_zero hc (by omega) (by omega)
          have w1 : wrap64 (n + 1) = n + 1 := Sec.w64 (by omega) (by omega)
          have w2 : wrap64 (n + 2) = n + 2 := Sec.w64 (by omega) (by omega)
          have w3 : wrap64 (n + 1 + 1) = n + 2 := by rw [Sec.w64 (by omega) (by omega)]; omega
          have e1 : Int.tmod (n + 1) 2 = (n + 1) % 2 := Int.tmod_eq_emod_of_nonneg (by omega)
          have e2 : Int.tmod (n + 2) 2 = (n + 2) % 2 := Int.tmod_eq_emod_of_nonneg (by omega)
          have e3 : Int.tmod n 2 = n % 2 := Int.tmod_eq_emod_of_nonneg (by omega)
          -- where it begins
          have hb : (Sec.beginOf s n = n + 1 ∧ ¬ (s.start = 1 ∧ (n + 1) % 2 = 0) ∧ ¬ (s.start = 2 ∧ (n + 1) % 2 = 1)) ∨ (Sec.beginOf s n = n + 2 ∧ ((s.start = 1 ∧ (n + 1) % 2 = 0) ∨ (s.start = 2 ∧ (n + 1) % 2 = 1))) := by
            unfold Sec.beginOf
            rw [w1, w3, e1]
            by_cases q : (s.start = 1 ∧ (n + 1) % 2 = 0) ∨ (s.start = 2 ∧ (n + 1) % 2 = 1)
            · rw [if_pos q]; exact .inr ⟨rfl, q⟩
            · rw [if_neg q]; exact .inl ⟨rfl, fun h => q (.inl h), fun h => q (.inr h)⟩
          -- the last part
          have hj2 : ∀ k, quirelaw05_SectionNext.j2 (k + 1) n true false s.w s.h s.top s.bottom s.inner s.outer s.cols s.gap s.start s.balance s.mirror s.h0 s.h1 s.h2 s.f0 s.f1 s.f2 = some true := by
            intro k
            rw [quirelaw05_SectionNext.j2]
            rw [if_neg (by decide)]
            by_cases hn : n = 0
            · rw [if_pos hn]
            · rw [if_neg hn]
              have hp1 : Sec.pageOf s n 1 = 0 := Sec.page_zero hc (by omega) (by omega)
              have w4 : wrap64 (2 - n % 2) = 2 - n % 2 := Sec.w64 (by omega) (by omega)
              have hv : ∀ first, Sec.variantOf s n first = if first = true ∧ (s.h0.toList ≠ [] ∨ s.f0.toList ≠ []) then 0 else 2 - n % 2 := by
                intro first
                unfold Sec.variantOf
                rw [e3]
                by_cases q : first = true ∧ (s.h0.toList ≠ [] ∨ s.f0.toList ≠ [])
                · rw [if_pos q, if_pos q]
                · rw [if_neg q, if_neg q]
                  by_cases o : n % 2 = 1
                  · rw [if_pos o]; omega
                  · rw [if_neg o]; omega
              have hne : 2 - n % 2 ≠ 0 := by omega
              simp only [section_Variant.f, Option.bind_some, hp1, hv, e3, w4]
              by_cases q0 : s.h0.toList = [] <;> by_cases q1 : s.f0.toList = [] <;> simp [q0, q1, hne]
          have hj1 : ∀ k, quirelaw05_SectionNext.j1 (k + 2) n true (Sec.beginOf s n) false s.w s.h s.top s.bottom s.inner s.outer s.cols s.gap s.start s.balance s.mirror s.h0 s.h1 s.h2 s.f0 s.f1 s.f2 = some true := by
            intro k
            rw [quirelaw05_SectionNext.j1]
            rw [if_neg (by decide)]
            rcases hb with ⟨e, q1, q2⟩ | ⟨e, q⟩
            · rw [e, e1]
              by_cases z1 : s.start = 1
              · rw [if_pos z1, if_neg (fun h => q1 ⟨z1, h⟩), if_neg (by omega)]
                exact hj2 k
              · rw [if_neg z1]
                by_cases z2 : s.start = 2
                · rw [if_pos z2, show ((n + 1) % 2 == 1) = false from beq_eq_false_iff_ne.mpr (fun h => q2 ⟨z2, h⟩)]
                  exact hj2 k
                · rw [if_neg z2]
                  exact hj2 k
            · rw [e, e2]
              by_cases z1 : s.start = 1
              · rw [if_pos z1, if_neg (by omega), if_neg (by omega)]
                exact hj2 k
              · rw [if_neg z1]
                by_cases z2 : s.start = 2
                · rw [if_pos z2, show ((n + 2) % 2 == 1) = false from beq_eq_false_iff_ne.mpr (by omega)]
                  exact hj2 k
                · rw [if_neg z2]
                  exact hj2 k
          show quirelaw05_SectionNext.j0 (17 + 1 + 2) n true false s.w s.h s.top s.bottom s.inner s.outer s.cols s.gap s.start s.balance s.mirror s.h0 s.h1 s.h2 s.f0 s.f1 s.f2 = some true
          rw [quirelaw05_SectionNext.j0]
          rw [if_neg (by decide)]
          have hB : section_Begin.f s.w s.h s.top s.bottom s.inner s.outer s.cols s.gap s.start s.balance s.mirror s.h0 s.h1 s.h2 s.f0 s.f1 s.f2 n = some (Sec.beginOf s n, 0) := by
            show some ((if Sec.pageOf s n 0 ≠ 0 then 0 else Sec.beginOf s n), Sec.pageOf s n 0) = _
            rw [hp0, if_neg (by simp)]
          rw [hB]
          simp only [Option.bind_some]
          rw [if_pos trivial]
          rw [w1, w2]
          rcases hb with ⟨e, q1, q2⟩ | ⟨e, q⟩
          · rw [if_pos e, if_neg (by omega)]
            exact hj1 17
          · rw [if_neg (by omega), if_pos e, show (s.start == 0) = false from beq_eq_false_iff_ne.mpr (by omega)]
            exact hj1 17
    · rw [if_neg hc, next_j0_true]
  · rw [if_neg hs, next_j0_true]
end Go.Proofs.Ythpmchbbfbbakaa.PAll
