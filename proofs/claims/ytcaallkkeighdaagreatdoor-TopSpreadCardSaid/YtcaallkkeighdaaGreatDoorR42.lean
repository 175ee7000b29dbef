/- quiretop.TopSets answers true. -/
import Derived.Test.YtcaallkkeighdaaGreatDoorR41
set_option maxRecDepth 100000
set_option maxHeartbeats 16000000
set_option linter.unusedVariables false
set_option linter.unusedSimpArgs false
namespace Go.Proofs.YtcaallkkeighdaaGreatDoor.P
open Go.RowKit aD aQ aR
theorem ME{p:Pa}(h:Cd p=false)(hl:p.lb.size<=maxLen)(hm:∀ m∈p.ma,m.size<=maxLen):p.small:=by
 unfold Cd at h;simp only[Bool.or_eq_false_iff,decide_eq_false_iff_not] at h;exact⟨by omega,by omega,by omega,hl,hm⟩
theorem Ek{p:Pa}(hz:p.small):(cQ p.tx).length<=300:=by
 have h1:=nI p.tx p.tx.size 0;have h2:=hz.tx;show(cP p.tx p.tx.size 0).length<=300;omega
theorem R5{n:Nat}:∀ {P:List S72},yR n P->P.length<=n+1
 | [],h=>h.elim
 | p :: Q,h=>by
  have h1:=yR.len h;have h2:=(yR.one h 0 (by simp)).1;have h3:0<=p.f0:=h2;simp only[List.length_cons];omega
theorem OZ{p:Pa}{S:List S30}{r:S30}(hz:p.small)(h:iI p S r=0)(hL:DL p S r):(iQ p S r).length<=602:=by
 unfold iQ;rw[mQ];have h1:=R5 (Ge hL);have h2:=pW hz;omega
theorem O0{p:Pa}{x:S46}{last:Bool}(hz:p.small)(h0:bB p=0):(gb p x last).length<=400:=by
 have h1:(pH p x last).length<=300:=by
  have h:=congrArg List.length (yF (x:=x) (last:=last) hz h0);rw[List.length_map] at h;rw[h];unfold JY;refine Nat.le_trans (List.length_filter_le _ _) ?_;rw[List.length_map];exact Ek hz
 have h2:=Eb p x last;rw[vX,List.length_append];omega
end Go.Proofs.YtcaallkkeighdaaGreatDoor.P
