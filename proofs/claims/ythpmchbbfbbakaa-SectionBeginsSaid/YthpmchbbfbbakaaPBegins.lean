/- SectionBegins: the plain law, for every section. -/
import Derived.Test.YthpmchbbfbbakaaB5
import Derived.Test.YthpmchbbfbbakaaOpenS
namespace Go.Proofs.Ythpmchbbfbbakaa.PAll
set_option linter.unusedVariables false
set_option linter.unusedSimpArgs false

theorem begins_pure (s : Sec.Sec) (n : Int) (first : Bool) (g : Sec.good s) (wn : (Lit.int .i64 n).wf = true) : ∃ k, quirelaw05_SectionBegins.f k s.w s.h s.top s.bottom s.inner s.outer s.cols s.gap s.start s.balance s.mirror s.h0 s.h1 s.h2 s.f0 s.f1 s.f2 n first = some true := by
  refine ⟨1, ?_⟩
  unfold quirelaw05_SectionBegins.f quirelaw05_SectionBegins.j0 quirelaw05_small.f section_Begin.f section_Variant.f quireref05_Page.f quireref05_Begin.f quireref05_Variant.f
  simp only [Option.bind_some]
  generalize Sec.pageOf _ n 0 = p0
  generalize Sec.pageOf _ n 1 = p1
  generalize Sec.beginOf _ n = b
  generalize Sec.variantOf _ n first = v
  by_cases h0 : p0 = 0 <;> by_cases h1 : p1 = 0 <;> simp [h0, h1]
end Go.Proofs.Ythpmchbbfbbakaa.PAll
