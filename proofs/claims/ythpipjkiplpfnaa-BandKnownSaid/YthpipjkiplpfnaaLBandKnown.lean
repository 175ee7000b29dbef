/- The chapter's examples of bands are answered as it says: a closed statement. -/
import Derived.Test.YthpipjkiplpfnaaMBandKnown5
namespace Go.Proofs.Ythpipjkiplpfnaa.LBandKnown
open Go.Proofs.Ythpipjkiplpfnaa.PBandKnown
theorem BandKnown : ∃ k, quirelaw15_BandKnown.f k = some true := ⟨60, by decide +kernel⟩
end Go.Proofs.Ythpipjkiplpfnaa.LBandKnown
