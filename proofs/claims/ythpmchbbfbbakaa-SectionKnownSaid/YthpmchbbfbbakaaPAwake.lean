/- Sections: the chapter's example is awake. -/
import Derived.Test.YthpmchbbfbbakaaB11
import Derived.Test.YthpmchbbfbbakaaPCols
import Derived.KernelRfl
namespace Go.Proofs.Ythpmchbbfbbakaa.PAll
open Go.RowKit Go.Proofs.YthpmchbbfbbakaaW.PrintWords Go.Proofs.YthpmchbbfbbakaaW.PrintLast Go.Proofs.YthpmchbbfbbakaaW.PrintMore
set_option linter.unusedVariables false
set_option linter.unusedSimpArgs false

def plainS : Sec.Sec := ⟨300, 400, 40, 40, 30, 30, 1, 10, 0, 0, 0, ⟨#[]⟩, ⟨#[]⟩, ⟨#[]⟩, ⟨#[]⟩, ⟨#[]⟩, ⟨#[]⟩⟩
theorem chk_tail (s : Sec.Sec) (h1 : Sec.Long s) (h2 : Sec.Args s) (h3 : 10 ≤ Sec.wideOf s) (h4 : 20 ≤ Sec.highOf s) : Sec.chk s = Sec.textsOf s.texts := by
  rw [Sec.chk_eq, if_pos h1, if_pos h2]
  unfold Sec.tail
  rw [if_neg (by omega)]
theorem texts_none : Sec.textsOf [⟨#[]⟩, ⟨#[]⟩, ⟨#[]⟩, ⟨#[]⟩, ⟨#[]⟩, ⟨#[]⟩] = 0 := by
  kernel_rfl
theorem chk_plain : Sec.chk plainS = 0 := by
  rw [chk_tail plainS (by decide +kernel) (by decide +kernel) (by decide +kernel) (by decide +kernel)]
  exact texts_none
theorem awake_at (k : Nat) (hk : 20 ≤ k) : quirelaw05_awake.f k = some true := by
  have hp : Sec.pageOf plainS 1 1 = 0 := Sec.page_zero chk_plain (by decide) (by decide)
  have h1 := cols_f plainS 1 hp k (by omega)
  have h2 : section_Check.f plainS.w plainS.h plainS.top plainS.bottom plainS.inner plainS.outer plainS.cols plainS.gap plainS.start plainS.balance plainS.mirror plainS.h0 plainS.h1 plainS.h2 plainS.f0 plainS.f1 plainS.f2 = some 0 := congrArg some chk_plain
  have h3 : colsOf plainS 1 = [(⟨30, 40, 240, 320⟩ : S38)] := by kernel_rfl
  unfold quirelaw05_awake.f
  simp only [section_Plain.f, Option.bind_some]
  simp only [plainS] at h1 h2 h3
  rw [h1]
  simp only [Option.bind_some]
  rw [if_pos trivial]
  have h4 : colsOf ⟨300, 400, 40, 40, 30, 30, 1, 10, 0, 0, 0, ⟨#[]⟩, ⟨#[]⟩, ⟨#[]⟩, ⟨#[]⟩, ⟨#[]⟩, ⟨#[]⟩⟩ 1 = [(⟨30, 40, 240, 320⟩ : S38)] := h3
  rw [h4, rects_refl _ k (by simp; omega) (by simp)]
  simp only [Option.bind_some]
  rw [if_pos trivial, h2]
  rfl
theorem awake_true : quirelaw05_awake.f 20 = some true := awake_at 20 (by decide)
end Go.Proofs.Ythpmchbbfbbakaa.PAll
