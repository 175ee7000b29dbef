/- The chapter's examples are answered as it says: a closed statement. -/
import Derived.Test.YtoodiihimjalfaaMBalanceKnown3
namespace Go.Proofs.Ytoodiihimjalfaa.LBalanceKnown
open Go.Proofs.Ytoodiihimjalfaa.PBalanceKnown
theorem BalanceKnown : ∃ k, quirelaw20_BalanceKnown.f k = some true := ⟨300, by decide +kernel⟩
end Go.Proofs.Ytoodiihimjalfaa.LBalanceKnown
