/- The chapter's examples are answered as it says: a closed statement. -/
import Derived.Test.YtoodiihimjalfaaMColumnKnown3
namespace Go.Proofs.Ytoodiihimjalfaa.LColumnKnown
open Go.Proofs.Ytoodiihimjalfaa.PColumnKnown
theorem ColumnKnown : ∃ k, quirelaw19_ColumnKnown.f k = some true := ⟨300, by decide +kernel⟩
end Go.Proofs.Ytoodiihimjalfaa.LColumnKnown
