/- TopSets' card: the row,its two tables tied to the program's text;no further condition. -/
import Derived.Test.YtcaallkkeighdaaGreatDoorCards
import Derived.SevenTiedAt
import Derived.Test.YtcaallkkeighdaaGreatDoorQ45
set_option maxRecDepth 100000
set_option maxHeartbeats 16000000
set_option linter.unusedVariables false
set_option linter.unusedSimpArgs false
namespace Go.Proofs.YtcaallkkeighdaaGreatDoor
open Go
theorem topSets_holds:Rows.TopSetsCardSaid :=
 Claim7.holds_tied_plain_at .later [] [.listed,.data] true (true, "8a5ae6285007f477d4b4283547384e33ad76d133ba956974ee700c86d1e4c1bf") false
  topSets.row (fun _ h=>by cases h) (by kernel_rfl) (fun _ h=>by cases h) topSets_row_tie rfl ⟨rfl,rfl⟩ (by kernel_rfl) rfl
  (fun f fn hf hfn=>by
   obtain rfl:f=3:=Option.some.inj ((show Tryz.prog.funcNamed "quire/quiretop.TopSets" = some 3 by kernel_rfl).symm.trans hf) |>.symm
   obtain rfl:fn=Tryz.f3:=(Option.some.inj (Tryz.func3.symm.trans hfn)).symm;exact ⟨by kernel_rfl,fun j t ht=>by
    rw [Tryz.params3] at ht;rcases j with _ | _ | _ | j
    .obtain rfl:t=27:=by simpa using ht.symm
     exact (show Tryz.prog.wantsStandIn 27=false by kernel_rfl)
    .obtain rfl:t=28:=by simpa using ht.symm
     exact (show Tryz.prog.wantsStandIn 28=false by kernel_rfl)
    .obtain rfl:t=30:=by simpa using ht.symm
     exact (show Tryz.prog.wantsStandIn 30=false by kernel_rfl)
    .simp at ht⟩)
  (by kernel_rfl)
#print axioms topSets_holds
end Go.Proofs.YtcaallkkeighdaaGreatDoor
