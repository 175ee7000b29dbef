/- first.Check answers as the plain slotsCheck;para.wrong;the inner profile. Why items and a profile may not be broken with least demerits. Why a paragraph and a profile may not be;the inner profile. The breaker's slots;what breaks a line: its state. The words of the breaker: where a line has come to,where it may end,which line is gathered. least,plainly: sums,ratios,demerits,the best ways. -/
import Derived.Deep.MidRow
import Derived.Test.YtcaallkkeighdaaGreatDoorR13
set_option maxRecDepth 100000
set_option maxHeartbeats 16000000
set_option linter.unusedVariables false
set_option linter.unusedSimpArgs false
namespace Go.Proofs.YtcaallkkeighdaaGreatDoor.P
open Go.RowKit aD aQ aR
attribute [local go_sem] cN cO dw dA mB
def iq(s:S30):Bool:=decide (0<=s.f0/\s.f0<=4095/\0<=s.f1/\s.f1<=4095)
def bV(l:List S30)(r:S30):Int:=if 256 < l.length then 3 else if (l ++ [r]).all iq=true then 0 else 2
theorem Pg(a b:Int):kN.f a b=some (iq ⟨a,b⟩):=by
 unfold kN.f iq;by_cases h1:0<=a<;>by_cases h2:a<=4095<;>by_cases h3:0<=b<;>by_cases h4:b<=4095<;>simp[h1,h2,h3,h4]
def S6(w:World)(l:List S30)(v14 v15 v16:Value)(wc:World):Prop:=k30.R 30 wc w.heap.size (fun _=>True) v14 l/\v15=.int .i64 (l.length:Int)/\v16=.int .i64 0/\aC (Below w.heap.size w wc)
theorem Ij{w:World}{b:Nat}{r:S30}(h:w.heap[b]? = some (.cells #[.int .i64 r.f0,.int .i64 r.f1] 30 (0,0))):Kd.C k30 w (some ⟨b,0,none⟩) 1 [r]:=by
 refine⟨rfl,by decide,fun _=>⟨_,rfl,fun j p hj=>?_⟩⟩;cases j with
 | succ j=>simp at hj
 | zero =>
  obtain rfl:r=p:=by simpa using hj
  refine⟨[.int .i64 r.f0,.int .i64 r.f1],rfl,EI _ _,fun i u hu=>?_⟩;rw[Nat.zero_mul,Nat.zero_add,add_plain,ak h i]
  simpa using hu
theorem vN:(Tryz.prog.info? 30).map (fun i=>(i.zero,i.size,i.bytes))=some (some (.agg #[.int .i64 0,.int .i64 0]),k30.sz,16):=Qb
theorem jm(l:List S30)(r:S30)(A:Option Addr)(c:Nat)(w:World)(hl:Kd.C k30 w A l.length l)(hc:l.length<=c)(co:Int)(yM:bV l r=co):Calls Tryz.prog 51 #[.slice A l.length c,.agg #[.int .i64 r.f0,.int .i64 r.f1]] w fun e w'=>e=.returned (.int .i64 co)/\Below w.heap.size w w':=by
 have HL:=aj hl;have HB0:=aj ((Below.refl w.heap.size w).alloc (Nat.le_refl _) (.cells #[.int .i64 r.f0,.int .i64 r.f1] 30));have hbx:=aH w (.cells #[.int .i64 r.f0,.int .i64 r.f1] 30);have dI:=aj hbx;obtain⟨n,hn⟩:∃ n,l.length=n:=⟨_,rfl⟩;have HN:=aj hn;rw[hn];by_cases c1:256 < n
 .have d1:decide (256 < (n:Int))=true:=decide_eq_true (by omega);have d2:decide (256 < n)=true:=decide_eq_true c1;have HF:=aj (show co=3 by rw[<-yM];unfold bV;rw[if_pos (by omega)]);clear hl hc hn yM c1 hbx;go_enter Tryz.func51,Tryz.ntmps51;go_wp2;go_ret;exact⟨dh HF.out,HB0.out⟩
 .have d1:decide (256 < (n:Int))=false:=decide_eq_false (by omega);have d2:decide (256 < n)=false:=decide_eq_false c1;have HC:=aj (show co=if (l ++ [r]).all iq=true then 0 else 2 by rw[<-yM];unfold bV;rw[if_neg (by omega)]);have HN2:=aj c1;have x0:(w.alloc (.cells #[.int .i64 r.f0,.int .i64 r.f1] 30)).cell? ⟨w.heap.size,0,none⟩=some (.int .i64 r.f0):=(ak hbx 0).trans rfl;have x1:(w.alloc (.cells #[.int .i64 r.f0,.int .i64 r.f1] 30)).cell? ⟨w.heap.size,1,none⟩=some (.int .i64 r.f1):=(ak hbx 1).trans rfl;clear hl hc hn yM c1 hbx;go_enter Tryz.func51,Tryz.ntmps51;go_upto_region 3 with(fail);obtain⟨W0,hW0⟩:∃ W,w.alloc (.cells #[.int .i64 r.f0,.int .i64 r.f1] 30)=W:=⟨_,rfl⟩;rw[hW0] at HB0 dI x0 x1 ⊢;clear hW0;go_cut [14,15,16] from 10 to 16 (fun v14 v15 v16 wc=>S6 w (l ++ [r]) v14 v15 v16 wc)
  case first =>
   have hlt:=aY dI.out;have HR0:=aj (Kd.aM HL.out HB0.out)
   go_region_held3 (fun w'=>w'.cell? ⟨w.heap.size,0,none⟩=some (.int .i64 r.f0)/\w'.cell? ⟨w.heap.size,1,none⟩=some (.int .i64 r.f1)) (first|exact⟨bH hb2 x0,bH hb2 x1⟩|exact⟨bH hb1 x0,bH hb1 x1⟩|exact⟨bH (aF hb1 _) x0,bH (aF hb1 _) x1⟩|exact⟨x0,x1⟩|exact⟨cM x0 _,cM x1 _⟩|go_keep)
    (first|(refine Kd.lZ k30 (w0:=W0) (W:=w1) W0.heap.size rfl (.tmp 11) (.tmp 13) 28 30 (.agg #[.int .i64 0,.int .i64 0]) 16 rfl Tryz.underlying28 vN ?_ ?_ ?_ v1 l r [.int .i64 r.f0,.int .i64 r.f1] (fun _=>True) (fun _=>False) ?_ ?_ (vG _ _ _ _) (fun _ h=>h.elim) (fun _ _=>trivial) ?_ hb1 hb1.size ?_ ?_;(focus (rfl));(focus (decide));(focus (decide));(focus (rfl));(focus (rfl));(focus (simpa using hR1));(focus (have:=HN2.out;have:=HN.out;omega));intro v2 w2 hR2 hb2 hg2 Qz;obtain⟨A2,c2,e2_,hc2,hC2⟩:=Kd.fG hR2;subst e2_)|(refine Kd.kR k30 (w0:=W0) (Rr:=k30.K w) W0.heap.size rfl (.tmp 11) (.tmp 13) 28 30 (.agg #[.int .i64 0,.int .i64 0]) 16 rfl Tryz.underlying28 vN ?_ ?_ ?_ v1 l [r] (some ⟨W0.heap.size,0,none⟩) 1 1 (fun _=>True) (fun _=>False) ?_ ?_ ?_ ?_ ?_ (fun _ h=>h.elim) (fun _ _=>trivial) hb1 hb1.size ?_ ?_;(focus (rfl));(focus (decide));(focus (decide));(focus (rfl));(focus (rfl));(focus (simpa using hR1));(focus (exact Ij (cJ (b_ (aH W0 _)) hg1 (by simp[Value.ownBlock]))));(focus (intro x cs h;rw[rR h];exact vG _ _ _ _));(focus (have:=HN2.out;have:=HN.out;omega));intro v2 w2 hR2 hb2 hg2 Qz;obtain⟨A2,c2,e2_,hc2,hC2⟩:=Kd.fG hR2;subst e2_)|(refine Kd.kR k30 (w0:=W0) (Rr:=k30.K w) W0.heap.size rfl (.const (.slice none 0 0)) (.tmp 10) 28 30 (.agg #[.int .i64 0,.int .i64 0]) 16 rfl Tryz.underlying28 vN ?_ ?_ ?_ (.slice none 0 0) [] l A n c (fun _=>True) (fun _=>False) ?_ ?_ (Kd.nO _ _ _ _ _) ?_ ?_ (fun _ h=>h.elim) (fun _ _=>trivial) ?_ ?_ ?_ ?_;(focus (rfl));(focus (decide));(focus (decide));(focus (rfl));(focus (rfl));(focus (rw[<-HN.out];exact eu.p9 HR0.out (by repeat(with_reducible first|exact Below.refl _ _|apply aF|apply aA|apply aG)) (fun x cs h=>by rw[rR h];exact EI _ _)));(focus (intro x cs h;rw[rR h];exact vG _ _ _ _));(focus (repeat(with_reducible first|exact Below.refl _ _|apply aF|apply aA|apply aG)));(focus (refine Below.size (B:=W0.heap.size) (w:=W0) ?_;repeat(with_reducible first|exact Below.refl _ _|apply aF|apply aA|apply aG)));(focus (have:=HN2.out;simp;omega));intro v1 w1 hR1 hb1 hg1 AQ))
   all_goals go_wp2
   all_goals go_meet
   all_goals exact⟨Kd.fF hR2 (by omega),by simp,rfl,⟨HB0.out.trans (hb2.mono HB0.out.size)⟩⟩
  case rest =>
   obtain⟨hR,rfl,rfl,HB⟩:=hcut;obtain⟨A2,c2,e2,_,hC2⟩:=Kd.fG hR;subst e2;have HC2:=aj hC2;obtain⟨L,hL⟩:∃ L,l ++ [r]=L:=⟨_,rfl⟩;have NX:L.length<=257:=by rw[<-hL,List.length_append];have:=HN.out;have:=HN2.out;simp;omega
   rw[hL] at HC HC2 ⊢;have yO:=aj NX;clear hR hC2 hL NX x0 x1;go_wp2;go_loopw [16] (fun v16 wr=>∃ (x:Int) (i:Nat),v16=.int .i64 x/\aC (x=(i:Int))/\aC (i<=L.length)/\aC (L.all iq=(L.drop i).all iq)/\aC (Below w.heap.size w wr)/\aC (Below wc.heap.size wc wr)) (fun v16 _=>L.length - (intOf v16).toNat)
   case atStart=>exact⟨0,0,rfl,⟨rfl⟩,⟨Nat.zero_le _⟩,⟨rfl⟩,HB,⟨Below.refl _ _⟩⟩
   case round =>
    clear HB;obtain⟨x,i,rfl,hx,hi,HM,HB,VP⟩:=hrel;obtain⟨nl,hnl⟩:∃ n,L.length=n:=⟨_,rfl⟩;have nQ:=aj hnl;rw[hnl];by_cases hlt:i < L.length
    .have d9:decide (x < (nl:Int))=true:=decide_eq_true (by rw[hx.out];omega);have q0:0<=x:=(by rw[hx.out];omega);have q1:x < (nl:Int):=(by rw[hx.out];omega);have q2:x<=300:=(by rw[hx.out];have:=yO.out;omega);obtain⟨ad,e0,k0,k1⟩:=J9 (Kd.aM HC2.out VP.out) x q0 (by rw[hnl];exact q1);cases e0
     have hrd:jA L x=L[i]:=(by rw[hx.out];unfold jA;simp[List.getD_eq_getElem?_getD,List.getElem?_eq_getElem hlt]);have tD:(L.drop i).all iq=(iq L[i] && (L.drop (i+1)).all iq):=(by rw[List.drop_eq_getElem_cons hlt];rfl);rw[hrd] at k0 k1;rw[tD] at HM;have cg:=aj hlt;clear hrd tD hnl;generalize L[i]=s at *;clear hlt;have p0:=eq_true q0;have p1:=eq_true q1;cases hs:iq s with
     | true =>
      have HS:=aj hs;have HM2:=aj (show L.all iq=(L.drop (i+1)).all iq by rw[HM.out,hs];rfl);clear hs HM;go_wp2_with (go_at_call 96;go_loud(refine(kN.calls s.f0 s.f1 true _ ((Pg _ _).trans (congrArg some HS.out))).mono ?_;rintro e w7 ⟨rfl,hb7⟩));go_roundw
      case rel=>exact⟨x+1,i+1,rfl,⟨by rw[hx.out];omega⟩,⟨by have:=cg.out;have:=nQ.out;omega⟩,HM2,⟨(HB.out.alloc HB.out.size _).trans (hb7.mono (by have:=HB.out.size;simp;omega))⟩,⟨(VP.out.alloc VP.out.size _).trans (hb7.mono (by have:=VP.out.size;simp;omega))⟩⟩
      case measure=>have:=cg.out;have:=nQ.out;have:=hx.out;simp[intOf];omega
     | false =>
      have HS:=aj hs;have HF:=aj (show co=2 by rw[HC.out,HM.out,hs];rfl);clear hs HM;go_wp2_with (go_at_call 96;go_loud(refine(kN.calls s.f0 s.f1 false _ ((Pg _ _).trans (congrArg some HS.out))).mono ?_;rintro e w7 ⟨rfl,hb7⟩));go_ret;exact⟨dh HF.out,(HB.out.alloc HB.out.size _).trans (hb7.mono (by have:=HB.out.size;simp;omega))⟩
    .have d9:decide (x < (nl:Int))=false:=decide_eq_false (by rw[hx.out];omega);have HF:=aj (show co=0 by rw[HC.out,HM.out,List.drop_eq_nil_of_le (by omega)];rfl);clear hlt hnl;go_wp2;go_ret;exact⟨dh HF.out,HB.out⟩
end Go.Proofs.YtcaallkkeighdaaGreatDoor.P
namespace Go.Proofs.YtcaallkkeighdaaGreatDoor.P
open Go.RowKit aD aQ aR
def sD(l:List S75)(s:List S30)(r:S30):Int:=if bV s r=0 then (if iH l=true then 9 else 0) else bV s r
theorem Bt(l:List S75)(A:Option Addr)(c:Nat)(s:List S30)(A2:Option Addr)(c2:Nat)(r:S30)(w:World)(hl:Kd.C k75 w A l.length l)(hc:l.length<=c)(h:∀ x∈l,cY x)(hn:l.length<=8192)(hs:Kd.C k30 w A2 s.length s)(hc2:s.length<=c2) :
  Calls Tryz.prog 43 #[.slice A l.length c,.slice A2 s.length c2,.agg #[.int .i64 r.f0,.int .i64 r.f1]] w fun e w'=>e=.returned (.int .i64 (sD l s r))/\Below w.heap.size w w':=by
 have HL:=aj hl;have HC:=aj hc;have HI:=aj h;have HN:=aj hn;have HS:=aj hs;have HC2:=aj hc2;have HB0:=aj ((Below.refl w.heap.size w).alloc (Nat.le_refl _) (.cells #[.int .i64 r.f0,.int .i64 r.f1] 30));have HR0:=aj (aH w (.cells #[.int .i64 r.f0,.int .i64 r.f1] 30));clear hl hc h hn hs hc2;obtain⟨sc,hsc⟩:∃ q,bV s r=q:=⟨_,rfl⟩;have Sq:=aj hsc;clear hsc;go_enter Tryz.func43,Tryz.ntmps43;go_upto_if 11 with(go_at_call 86;go_loud(refine(m_ l A c _ (Kd.aM HL.out HB0.out) HC.out HI.out HN.out).mono ?_;rintro e w1 ⟨rfl,hb1⟩;have HB1:=aj (HB0.out.trans (hb1.mono HB0.out.size));have HR1:=aj (ay HR0.out hb1)));have r0:w1.cell? ⟨w.heap.size,0,none⟩=some (.int .i64 r.f0):=(ak HR1.out 0).trans rfl;have r1:w1.cell? ⟨w.heap.size,1,none⟩=some (.int .i64 r.f1):=(ak HR1.out 1).trans rfl;by_cases h0:sc=0
 .have b0:(sc == 0)=true:=beq_iff_eq.mpr h0;have H0:=aj h0;clear h0;cases hlb:iH l with
  | true =>
   have HF:=aj (show sD l s r=9 by unfold sD;rw[Sq.out,if_pos H0.out,if_pos hlb]);have Ph:=aj hlb;clear hlb;go_wp2_with (first|(go_at_call 51;go_loud(refine(jm s r A2 c2 _ (Kd.aM HS.out HB1.out) HC2.out _ Sq.out).mono ?_;rintro e w2 ⟨rfl,hb2⟩;have HB2:=aj (HB1.out.trans (hb2.mono HB1.out.size))))|(go_at_call 13;go_loud(refine(oH l A c _ (Kd.aM HL.out HB2.out) HC.out HN.out).mono ?_;rintro e w3 ⟨rfl,hb3⟩;rw[Ph.out];have HB3:=aj (HB2.out.trans (hb3.mono HB2.out.size)))));go_ret;exact⟨dh HF.out,HB3.out⟩
  | false =>
   have HF:=aj (show sD l s r=sc by unfold sD;rw[Sq.out,if_pos H0.out,if_neg (by rw[hlb];decide)];exact H0.out.symm);have Ph:=aj hlb;clear hlb;go_wp2_with (first|(go_at_call 51;go_loud(refine(jm s r A2 c2 _ (Kd.aM HS.out HB1.out) HC2.out _ Sq.out).mono ?_;rintro e w2 ⟨rfl,hb2⟩;have HB2:=aj (HB1.out.trans (hb2.mono HB1.out.size))))|(go_at_call 13;go_loud(refine(oH l A c _ (Kd.aM HL.out HB2.out) HC.out HN.out).mono ?_;rintro e w3 ⟨rfl,hb3⟩;rw[Ph.out];have HB3:=aj (HB2.out.trans (hb3.mono HB2.out.size)))));go_ret;exact⟨dh HF.out,HB3.out⟩
 .have b0:(sc == 0)=false:=beq_eq_false_iff_ne.mpr h0;have HF:=aj (show sD l s r=sc by unfold sD;rw[Sq.out,if_neg h0]);clear h0;go_wp2_with (go_at_call 51;go_loud(refine(jm s r A2 c2 _ (Kd.aM HS.out HB1.out) HC2.out _ Sq.out).mono ?_;rintro e w2 ⟨rfl,hb2⟩;have HB2:=aj (HB1.out.trans (hb2.mono HB1.out.size))));go_ret;exact⟨dh HF.out,HB2.out⟩
end Go.Proofs.YtcaallkkeighdaaGreatDoor.P
namespace Go.Proofs.YtcaallkkeighdaaGreatDoor.P
open Go.RowKit aD aQ aR
attribute [local go_sem] cN cO dw dA mB
def iI(p:Pa)(l:List S30)(r:S30):Int:=if bB p=0 then bV l r else bB p
theorem NY(p:Pa){As Am:Option Addr}{cs cm:Nat}(l:List S30)(r:S30)(A:Option Addr)(c:Nat)(w:World)(hA:dK w p As cs Am cm)(hz:p.small)(hl:Kd.C k30 w A l.length l)(hc:l.length<=c) :
  Calls Tryz.prog 19 #[.agg (cG p As cs Am cm),.slice A l.length c,.agg #[.int .i64 r.f0,.int .i64 r.f1]] w fun e w'=>e=.returned (.int .i64 (iI p l r))/\Below w.heap.size w w':=by
 have HA:=aj hA;have HZ:=aj hz;have HL:=aj hl;have HC:=aj hc;have HB0:=aj (((Below.refl w.heap.size w).alloc (Nat.le_refl _) (.cells (cG p As cs Am cm) 27)).alloc (by simp) (.cells #[.int .i64 r.f0,.int .i64 r.f1] 30));have dI:=aj (aP (aH w (.cells (cG p As cs Am cm) 27)) (.cells #[.int .i64 r.f0,.int .i64 r.f1] 30));have nj:=aH (w.alloc (.cells (cG p As cs Am cm) 27)) (.cells #[.int .i64 r.f0,.int .i64 r.f1] 30);rw[World.size_alloc] at nj;have kH:=aj nj;clear hA hz hl hc nj;by_cases h0:bB p=0
 .have HF:=aj (show iI p l r=bV l r by unfold iI;rw[if_pos h0]);have H0:=aj h0;clear h0;go_enter Tryz.func19,Tryz.ntmps19;go_upto_region 4 with(first|((with_reducible refine aS (N:=8) rfl ?_);go_loud(refine wpList_load_row rfl 27 _ rfl (w.heap.size) rfl 27 (cG p As cs Am cm) (0,0) _ (by exact dI.out) Tryz.underlying27 rfl (cV p As cs Am cm) ?_))|(go_at_call 28;go_loud(refine(rY p _ (dK.below HA.out HB0.out) HZ.out).mono ?_;rintro e w1 ⟨rfl,hb1⟩;rw[H0.out];have HB1:=aj (HB0.out.trans (hb1.mono HB0.out.size));have kH:=aj (ay kH.out hb1);clear hb1)));have r0:w1.cell? ⟨w.heap.size+1,0,none⟩=some (.int .i64 r.f0):=(ak kH.out 0).trans rfl;have r1:w1.cell? ⟨w.heap.size+1,1,none⟩=some (.int .i64 r.f1):=(ak kH.out 1).trans rfl;go_wp2_with (go_at_call 51;go_loud(refine(jm l r A c _ (Kd.aM HL.out HB1.out) HC.out _ rfl).mono ?_;rintro e w2 ⟨rfl,hb2⟩));go_ret;exact⟨dh HF.out,HB1.out.trans (hb2.mono HB1.out.size)⟩
 .have b0:(bB p != 0)=true:=by simpa using h0
  have HF:=aj (show iI p l r=bB p by unfold iI;rw[if_neg h0]);clear h0;go_enter Tryz.func19,Tryz.ntmps19;go_wp2_with (first|((with_reducible refine aS (N:=8) rfl ?_);go_loud(refine wpList_load_row rfl 27 _ rfl (w.heap.size) rfl 27 (cG p As cs Am cm) (0,0) _ (by exact dI.out) Tryz.underlying27 rfl (cV p As cs Am cm) ?_))|(go_at_call 28;go_loud(refine(rY p _ (dK.below HA.out HB0.out) HZ.out).mono ?_;rintro e w1 ⟨rfl,hb1⟩;have HB1:=aj (HB0.out.trans (hb1.mono HB0.out.size));clear hb1)));go_ret;exact⟨dh HF.out,HB1.out⟩
def bG(l:List S30)(r:S30)(n:Nat):S30:=if h:n < l.length then l[n] else r
theorem Fa(l:List S30)(r:S30)(n:Nat):g_.f l r.f0 r.f1 (n:Int)=some ((bG l r n).f0,(bG l r n).f1):=by
 unfold g_.f bG;rw[if_neg (by omega)];by_cases h:n < l.length
 .rw[if_pos (by omega),if_pos (by omega),dif_pos h];have:jA l (n:Int)=l[n]:=by unfold jA;simp[List.getD_eq_getElem?_getD,List.getElem?_eq_getElem h]
  rw[this]
 .rw[if_neg (by omega),dif_neg h]
theorem fU{l:List S30}{r:S30}(h:bV l r=0)(n:Nat):0<=(bG l r n).f0/\(bG l r n).f0<=4095/\0<=(bG l r n).f1/\(bG l r n).f1<=4095:=by
 unfold bV at h;split at h
 .omega
 .split at h
  .rename_i ha
   have key:∀ s∈l ++ [r],iq s=true:=List.all_eq_true.1 ha;have:iq (bG l r n)=true:=by
    unfold bG;split
    .exact key _ (by simp)
    .exact key _ (by simp)
   unfold iq at this;exact of_decide_eq_true this
  .omega
def j9(p:Pa)(l:List S30):Nat:=max (max l.length 1) p.pr.f14.toNat
def nV(p:Pa)(l:List S30)(r:S30)(n:Nat):List S30:=(List.range n).map (fun k=>dO p (eE p) (bG l r k) (k:Int))
def eF(p:Pa)(l:List S30)(r:S30):List S30 × S30:=(nV p l r (j9 p l),dO p (eE p) r (j9 p l))
theorem Fb(p:Pa)(l:List S30)(r:S30)(n:Nat):nV p l r (n+1)=nV p l r n ++ [dO p (eE p) (bG l r n) (n:Int)]:=by
 unfold nV;rw[List.range_succ,List.map_append];rfl
theorem zV(p:Pa)(l:List S99):0<=ig p l/\ig p l<=262148:=by
 unfold ig;have:=wR (p.tx.extract 0 1) (if 64 < p.pr.f0 * p.pr.f14 then 64 else p.pr.f0 * p.pr.f14);split<;>omega
theorem kY(p:Pa):0<=eE p/\eE p<=262148:=by
 unfold eE;have:=zV p (aW p);split<;>omega
theorem Fc{A:Option Addr}{c n0:Nat}{l:List S30}{a b x r1 r2:Int}{w:World}(hn:l.length=n0)(hl:Kd.C k30 w A l.length l)(hc:l.length<=c)(h:g_.f l a b x=some (r1,r2)) :
  Calls Tryz.prog 22 #[.slice A n0 c,.agg #[.int .i64 a,.int .i64 b],.int .i64 x] w fun e w'=>e=.returned (.agg #[.int .i64 r1,.int .i64 r2])/\Below w.heap.size w w':=by
 subst hn;exact g_.calls A c l a b x r1 r2 w hl hc h
def GK(p:Pa)(l:List S30)(r:S30)(w:World)(e:Ending)(w':World):Prop:=∃ v,e=.returned (.tuple #[v,.agg #[.int .i64 (eF p l r).2.f0,.int .i64 (eF p l r).2.f1]])/\k30.R 30 w' w.heap.size (fun _=>True) v (eF p l r).1/\Below w.heap.size w w'
theorem Bu(p:Pa){As Am:Option Addr}{cs cm:Nat}(l:List S30)(r:S30)(A:Option Addr)(c:Nat)(w:World)(hA:dK w p As cs Am cm)(hz:p.small)(hl:Kd.C k30 w A l.length l)(hc:l.length<=c)(h0:bB p=0)(h1:bV l r=0) :
  Calls Tryz.prog 20 #[.agg (cG p As cs Am cm),.slice A l.length c,.agg #[.int .i64 r.f0,.int .i64 r.f1]] w (GK p l r w):=by
 have HA:=aj hA;have HZ:=aj hz;have HL:=aj hl;have HC:=aj hc;have H0:=aj h0;have H1:=aj h1;have HK:=aj (uP (gI h0).2.2.2.1);have yO:=aj (show l.length<=256 by unfold bV at h1;split at h1<;>omega);have HB0:=aj ((((Below.refl w.heap.size w).alloc (Nat.le_refl _) (.cells (cG p As cs Am cm) 27)).alloc (by simp) (.cells #[.int .i64 r.f0,.int .i64 r.f1] 30)).alloc (by simp;omega) (.cells #[.int .i64 0,.int .i64 0] 30));have dI:=aj (aP (aP (aH w (.cells (cG p As cs Am cm) 27)) (.cells #[.int .i64 r.f0,.int .i64 r.f1] 30)) (.cells #[.int .i64 0,.int .i64 0] 30));have nj:=aP (aH (w.alloc (.cells (cG p As cs Am cm) 27)) (.cells #[.int .i64 r.f0,.int .i64 r.f1] 30)) (.cells #[.int .i64 0,.int .i64 0] 30);have KG:=aH ((w.alloc (.cells (cG p As cs Am cm) 27)).alloc (.cells #[.int .i64 r.f0,.int .i64 r.f1] 30)) (.cells #[.int .i64 0,.int .i64 0] 30);simp only[World.size_alloc] at nj KG;have kH:=aj nj;have JN:=aj KG;obtain⟨n0,hn0⟩:∃ n,l.length=n:=⟨_,rfl⟩;have HN:=aj hn0;rw[hn0];clear hA hz hl hc nj KG h0 h1 hn0;go_enter Tryz.func20,Tryz.ntmps20;go_upto_region 2 with(first|((with_reducible refine aS (N:=12) rfl ?_);go_loud(refine wpList_load_row rfl 27 _ rfl (w.heap.size) rfl 27 (cG p As cs Am cm) (0,0) _ (by exact dI.out) Tryz.underlying27 rfl (cV p As cs Am cm) ?_))|(go_at_call 52;go_loud(refine(C2 p _ (dK.below HA.out HB0.out) HZ.out).mono ?_;rintro e w1 ⟨bp,bd,br,rfl,hpt,hb1⟩;have yN:=aj hpt;have HB1:=aj (HB0.out.trans (hb1.mono HB0.out.size));have dI:=aj (ay dI.out hb1);have kH:=aj (ay kH.out hb1);have JN:=aj (ay JN.out hb1);clear hb1 hpt)));have x16:w1.cell? ⟨w.heap.size,16,none⟩=some (.int .i64 p.pr.f14):=(ak dI.out 16).trans rfl;go_upto_region 3 with(fail);have Pj:(if (if (n0:Int) < 1 then 1 else (n0:Int)) < p.pr.f14 then p.pr.f14 else if (n0:Int) < 1 then 1 else (n0:Int))=((j9 p l:Nat):Int):=by
  have hk:=HK.out;unfold j9;rw[HN.out];split<;>split<;>omega
 rw[Pj];have hm1:1<=j9 p l/\j9 p l<=256:=by have hk:=HK.out;have:=yO.out;unfold j9;omega
 obtain⟨m,hm⟩:∃ m,j9 p l=m:=⟨_,rfl⟩;rw[hm] at hm1 ⊢;have HM:=aj hm;have HM1:=aj hm1;clear Pj hm hm1 x16;go_upto_block 0 with(fail);go_wp2;go_loopw [10,21] (fun v10 v21 wr=>∃ (x:Int) (i:Nat),v21=.int .i64 x/\aC (x=(i:Int))/\aC (i<=m)/\aC (k30.R 30 wr w1.heap.size (fun _=>True) v10 (nV p l r i))/\aC (Below w1.heap.size w1 wr)) (fun _ v21 _=>m - (intOf v21).toNat)
 case atStart=>exact⟨0,0,rfl,⟨rfl⟩,⟨Nat.zero_le _⟩,⟨Kd.nO _ _ _ _ _⟩,⟨Below.refl _ _⟩⟩
 case round =>
  obtain⟨x,i,rfl,hx,hi,hR,HB⟩:=hrel;have S7:=aj (yN.out.below HB.out);have nu:=aj (ay dI.out HB.out);have nY:=aj (ay kH.out HB.out);have Ik:=aj (ay JN.out HB.out);have r0:wr.cell? ⟨w.heap.size+1,0,none⟩=some (.int .i64 r.f0):=(ak nY.out 0).trans rfl;have r1:wr.cell? ⟨w.heap.size+1,1,none⟩=some (.int .i64 r.f1):=(ak nY.out 1).trans rfl;have VN:=aj (Kd.aM HL.out (HB1.out.trans (HB.out.mono HB1.out.size)));by_cases hlt:i < m
  .have d9:decide (x < (m:Int))=true:=decide_eq_true (by rw[hx.out];omega);have cg:=aj hlt;have q0:0<=x:=by rw[hx.out];omega
   have q2:x<=300:=by rw[hx.out];have:=HM1.out;omega
   have VR:=aj (show g_.f l r.f0 r.f1 x=some ((bG l r i).f0,(bG l r i).f1) by rw[hx.out];exact Fa l r i);have KH:=aj (fU H1.out i);have HIS:=aj (show nV p l r (i+1)=nV p l r i ++ [dO p (eE p) (bG l r i) x] by rw[Fb,hx.out]);clear hlt;go_upto_region 7 with(fail);have y0:=Bx.cell r0;have y1:=Bx.cell r1;have yx:=Bx.blk nu.out;refine nR 9 (.tmp 10) rfl rfl (by kernel_rfl) (by kernel_rfl) ?_;simp only[Nat.reduceSub,List.take_succ_cons,List.take_zero,List.drop_succ_cons,List.drop_zero];go_simp
   repeat(first|(go_big_quiet_step ((first|(go_at_call 22;exact Bx.cu (Fc HN.out (Kd.aM VN.out (Bx.hb _)) HC.out VR.out))|(go_at_call 53;exact Bx.cu (uS p (bG l r i) x (eE p) bp bd br _ (S7.out.below (Bx.hb _)) KH.out (kY p) HK.out.2.2.2.1 HK.out.2.2.2.2.1 HK.out.2.2.2.2.2.1)))))|(go_big_quiet_want;refine jj 27 (.tmp 3) rfl w.heap.size rfl 27 (cG p As cs Am cm) (0,0) _ yx Tryz.underlying27 rfl (cV p As cs Am cm) ?_;go_simp;go_big_quiet_on))
   refine wpQuiet_nil ?_;intro w7 hb7;clear y0 y1 yx r0 r1;go_wp2_with (at_builtin;go_loud(refine Kd.gH k30 (w0:=w1) (W:=w7) w1.heap.size rfl (.tmp 24) (.tmp 33) 28 30 (.agg #[.int .i64 0,.int .i64 0]) 16 rfl Tryz.underlying28 vN rfl (by decide) (by decide) _ (nV p l r i) (dO p (eE p) (bG l r i) x) [.int .i64 (dO p (eE p) (bG l r i) x).f0,.int .i64 (dO p (eE p) (bG l r i) x).f1] (fun _=>True) (fun _=>False) (by rfl) (by rfl) (vG _ _ _ _) (fun _ h=>h.elim) (fun _ _=>trivial) (Kd.dL hR.out hb7) (HB.out.trans (hb7.mono HB.out.size)) (HB.out.trans (hb7.mono HB.out.size)).size (by unfold nV;rw[List.length_map,List.length_range];have:=cg.out;have:=HM1.out;omega) ?_;intro v9 w9 hR9 hB9 _ _));refine oF ?_;go_wp2;go_roundw
   case rel=>exact⟨x+1,i+1,rfl,⟨by rw[hx.out];omega⟩,⟨cg.out⟩,⟨by rw[HIS.out];exact hR9⟩,⟨hB9⟩⟩
   case measure=>have:=cg.out;have:=hx.out;simp[intOf];omega
  .have d9:decide (x < (m:Int))=false:=decide_eq_false (by rw[hx.out];omega);have him:i=m:=by have:=hi.out;omega
   subst him;have z0:wr.cell? ⟨w.heap.size+1+1,0,none⟩=some (.int .i64 0):=(ak Ik.out 0).trans rfl;have z1:wr.cell? ⟨w.heap.size+1+1,1,none⟩=some (.int .i64 0):=(ak Ik.out 1).trans rfl;have HRO:=aj (show 0<=r.f0/\r.f0<=4095/\0<=r.f1/\r.f1<=4095 by have:=fU H1.out 300;unfold bG at this;rw[dif_neg (by have:=yO.out;omega)] at this;exact this);clear hlt;go_wp2_with (first|((with_reducible refine aS (N:=37) rfl ?_);go_loud(refine wpList_load_row rfl 27 _ rfl (w.heap.size) rfl 27 (cG p As cs Am cm) (0,0) _ (by exact nu.out) Tryz.underlying27 rfl (cV p As cs Am cm) ?_))|(go_at_call 53;go_loud(refine(uS p r _ (eE p) bp bd br _ S7.out HRO.out (kY p) HK.out.2.2.2.1 HK.out.2.2.2.2.1 HK.out.2.2.2.2.2.1).mono ?_;rintro e w8 ⟨rfl,hb8⟩;have KI:=aj (ay Ik.out hb8);have z0:w8.cell? ⟨w.heap.size+1+1,0,none⟩=some (.int .i64 0):=(ak KI.out 0).trans rfl;have z1:w8.cell? ⟨w.heap.size+1+1,1,none⟩=some (.int .i64 0):=(ak KI.out 1).trans rfl;have f0:=aB KI.out 0;have f1:=aB KI.out 1)));have hF1:fB (Eq (w.heap.size+1+1)) w8 ((w8.setCell ⟨w.heap.size+1+1,0,none⟩ (.int .i64 (dO p (eE p) r (i:Int)).f0)).setCell ⟨w.heap.size+1+1,1,none⟩ (.int .i64 (dO p (eE p) r (i:Int)).f1)):=((fB.refl _ _).set _ _ _ (.inl rfl)).set _ _ _ (.inl rfl);have aa4:=aY JN.out;have hR8:=Kd.fK (ok':=fun _=>True) (hF1.C (Kd.eS (Kd.dL hR.out hb8)) (fun k hk _ e=>by have:=hk.2.1;omega)) (fun _ _=>trivial);refine bodyPost_ret (vw Tryz.results20 _ _ u10 rfl (w.heap.size+1+1) 30 #[.int .i64 (dO p (eE p) r (i:Int)).f0,.int .i64 (dO p (eE p) r (i:Int)).f1] (0,0) _ rfl (aN (aN KI.out 0 _ rfl) 1 _ rfl) Tryz.underlying30 rfl (by kernel_rfl)) rfl ?_;refine⟨u10,?_,?_,?_⟩
   .show _=Ending.returned (.tuple #[u10,.agg #[.int .i64 (dO p (eE p) r (j9 p l:Nat)).f0,.int .i64 (dO p (eE p) r (j9 p l:Nat)).f1]]);rw[HM.out]
   .show Kd.R k30 30 _ w.heap.size _ u10 (nV p l r (j9 p l));rw[HM.out];exact Kd.fF hR8 HB1.out.size
   .exact((HB1.out.trans (HB.out.mono HB1.out.size)).trans (hb8.mono (HB1.out.trans (HB.out.mono HB1.out.size)).size) |>.setCell (by simp;omega) _).setCell (by simp;omega) _
end Go.Proofs.YtcaallkkeighdaaGreatDoor.P
namespace Go.Proofs.YtcaallkkeighdaaGreatDoor.P
open Go.RowKit aD aQ aR
structure Il(w:World)(bs br:Nat)(A:Option Addr)(c:Nat)(s:List S30)(r:S30):Prop where
 b1:w.heap[bs]? = some (.cells #[.slice A s.length c] 28 (0,0))
 b2:w.heap[br]? = some (.cells #[.int .i64 r.f0,.int .i64 r.f1] 30 (0,0))
 rd:Kd.C k30 w A s.length s
 cap:s.length<=c
theorem Il.below{w w':World}{bs br:Nat}{A:Option Addr}{c:Nat}{s:List S30}{r:S30}(h:Il w bs br A c s r)(hb:Below w.heap.size w w'):Il w' bs br A c s r:=⟨ay h.b1 hb,ay h.b2 hb,Kd.aM h.rd hb,h.cap⟩
theorem Bv(n:Nat)(s:List S30)(r:S30)(A:Option Addr)(c bs br:Nat)(w:World)(h:Il w bs br A c s r) :
  Calls Tryz.prog 101 #[.int .i64 (n:Int),.pointer (some ⟨bs,0,none⟩),.pointer (some ⟨br,0,none⟩)] w fun e w'=>e=.returned (.agg #[.int .i64 (bG s r n).f0,.int .i64 (bG s r n).f1])/\Below w.heap.size w w':=by
 have HB0:=aj ((Below.refl w.heap.size w).alloc (Nat.le_refl _) (.cells #[.int .i64 0,.int .i64 0] 30));have H:=aj (h.below HB0.out);have HZ:=aj (aH w (.cells #[.int .i64 0,.int .i64 0] 30));obtain⟨x,hx⟩:∃ x:Int,(n:Int)=x:=⟨_,rfl⟩;have HF:=aj (show g_.f s r.f0 r.f1 x=some ((bG s r n).f0,(bG s r n).f1) by rw[<-hx];exact Fa s r n);rw[hx];obtain⟨n0,hn0⟩:∃ n,s.length=n:=⟨_,rfl⟩;have HN:=aj hn0;have x0:(w.alloc (.cells #[.int .i64 0,.int .i64 0] 30)).cell? ⟨bs,0,none⟩=some (.slice A n0 c):=by rw[<-hn0];exact(ak H.out.b1 0).trans rfl
 have x1:(w.alloc (.cells #[.int .i64 0,.int .i64 0] 30)).cell? ⟨br,0,none⟩=some (.int .i64 r.f0):=(ak H.out.b2 0).trans rfl;have x2:(w.alloc (.cells #[.int .i64 0,.int .i64 0] 30)).cell? ⟨br,1,none⟩=some (.int .i64 r.f1):=(ak H.out.b2 1).trans rfl;clear h hx hn0;go_enter Tryz.func101,Tryz.ntmps101;go_wp2_with (go_at_call 22;go_loud(refine(Fc HN.out H.out.rd H.out.cap HF.out).mono ?_;rintro e w2 ⟨rfl,hb2⟩;have HZ2:=aj (ay HZ.out hb2);have z0:w2.cell? ⟨w.heap.size,0,none⟩=some (.int .i64 0):=(ak HZ2.out 0).trans rfl;have z1:w2.cell? ⟨w.heap.size,1,none⟩=some (.int .i64 0):=(ak HZ2.out 1).trans rfl;have f0:=aB HZ2.out 0;have f1:=aB HZ2.out 1));refine bodyPost_ret (results_cell_row Tryz.results101 _ _ w.heap.size 30 #[.int .i64 (bG s r n).f0,.int .i64 (bG s r n).f1] (0,0) _ rfl (aN (aN HZ2.out 0 _ rfl) 1 _ rfl) Tryz.underlying30 rfl (by kernel_rfl)) rfl ?_;exact⟨rfl,(((HB0.out.trans (hb2.mono HB0.out.size)).setCell (by simp) _).setCell (by simp) _)⟩
def aX(l:List S75)(i:Nat):S75:=l.getD i z75
theorem sE{l:List S75}{i:Nat}(h:i < l.length):aX l i=l[i]:=by unfold aX;simp[List.getD_eq_getElem?_getD,List.getElem?_eq_getElem h]
theorem jI{l:List S75}{i:Nat}(h:i < l.length):aX l i∈l:=by rw[sE h];exact List.getElem_mem h
theorem NZ(l:List S75)(i:Nat):fL l (i:Int)=aX l i:=by unfold fL aX;simp
def ke(x:S75)(at_:Int):Int:=if x.f0=1 then at_+x.f3 else if x.f0=2 then at_+x.f3 else if x.f0=4 then eM at_ else at_
def eH(l:List S75)(i:Nat):Bool:=if i=l.length then true else if (aX l i).f0=3 then true else (aX l i).f0 == 2 && (decide (0 < i) && (aX l (i - 1)).f0 != 2)
def cW(l:List S75):Nat->Nat->Nat
 | 0,i=>i
 | d+1,i=>if (aX l i).f0=2 then cW l d (i+1) else i
def gD(l:List S75)(i:Nat):Nat:=let j:=if i < l.length/\(aX l i).f0=3 then i+1 else i;cW l (l.length - j) j
theorem fV(l:List S75):∀ d i,i<=cW l d i/\cW l d i<=i+d
 | 0,i=>by simp[cW]
 | d+1,i=>by
  have:=fV l d (i+1);unfold cW;split<;>omega
theorem iP(l:List S75)(i:Nat)(h:i<=l.length):i<=gD l i/\gD l i<=l.length:=by
 unfold gD;simp only[];split
 .have:=fV l (l.length - (i+1)) (i+1);omega
 .have:=fV l (l.length - i) i;omega
def sG(l:List S75)(s:S30)(i:Nat)(en:Int):Int:=en - s.f0+(if i < l.length/\(aX l i).f0=3 then (aX l i).f3 else 0)
def mh(l:List S75)(s:S30)(a:Nat):Nat->Nat->Int->Int->Int->Int->Bool->Int × Int × Bool
 | 0,_,_,_,best,nat,wide=>(best,nat,wide)
 | d+1,i,at_,en,best,nat,wide =>
  if a < i/\eH l i=true then
   if best < 0\/sG l s i en<=s.f1 then
    if s.f1 < sG l s i en then ((i:Int),sG l s i en,true)
    else mh l s a d (i+1) (if i < l.length then ke (aX l i) at_ else at_) (if i < l.length/\(aX l i).f0≠2 then ke (aX l i) at_ else en) (i:Int) (sG l s i en) wide
   else (best,nat,wide)
  else mh l s a d (i+1) (if i < l.length then ke (aX l i) at_ else at_) (if i < l.length/\(aX l i).f0≠2 then ke (aX l i) at_ else en) best nat wide
def tU(l:List S75)(s:S30)(a:Nat):Int × Int × Bool:=mh l s a (l.length+1 - a) a s.f0 s.f0 (-1) 0 false
def GN(l:List S75)(a:Nat)(b:Int):Prop:=∃ n:Nat,b=(n:Int)/\a < n/\n<=l.length/\eH l n=true
theorem qR(l:List S75)(s:S30)(a:Nat):∀ d i at_ en best nat wide,i+d=l.length+1->(best = -1/\(a < i\/a < l.length)/\0 < d\/GN l a best)->GN l a (mh l s a d i at_ en best nat wide).1
 | 0,i,at_,en,best,nat,wide,hi,h=>by
  rcases h with⟨_,_,h⟩|h
  .omega
  .simpa [mh] using h
 | d+1,i,at_,en,best,nat,wide,hi,h=>by
  unfold mh;split
  .rename_i hl
   have hb:GN l a (i:Int):=⟨i,rfl,hl.1,by omega,hl.2⟩;split
   .split
    .exact hb
    .exact qR l s a d (i+1) _ _ _ _ _ (by omega) (.inr hb)
   .rename_i hc
    rcases h with⟨h,_⟩|h
    .omega
    .exact h
  .rename_i hl
   refine qR l s a d (i+1) _ _ _ _ _ (by omega) ?_;rcases h with⟨h,h2,h3⟩|h
   .by_cases hd:d=0
    .subst hd;have hin:i=l.length:=(by omega);refine absurd ⟨?_,?_⟩ hl
     .omega
     .unfold eH;rw[if_pos hin]
    .exact .inl ⟨h,by omega,by omega⟩
   .exact .inr h
theorem Fe(l:List S75)(s:S30)(a:Nat)(h:a < l.length):GN l a (tU l s a).1:=qR l s a _ _ _ _ _ _ _ (by omega) (.inl ⟨rfl,.inr h,by omega⟩)
def dR(l:List S75)(s:S30)(a:Nat):Nat:=(tU l s a).1.toNat
theorem iw(l:List S75)(s:S30)(a:Nat)(h:a < l.length):(tU l s a).1=((dR l s a:Nat):Int)/\a < dR l s a/\dR l s a<=l.length/\eH l (dR l s a)=true:=by
 obtain⟨n,e,h1,h2,h3⟩:=Fe l s a h;have e2:dR l s a=n:=by unfold dR;rw[e];rfl
 rw[e2];exact⟨e,h1,h2,h3⟩
def ny(l:List S75)(b:Nat):Bool:=decide (b < l.length) && (aX l b).f7
def pU(l:List S75)(s:S30)(a:Nat):S72:=⟨(a:Int),((dR l s a:Nat):Int),(tU l s a).2.2,ny l (dR l s a),(tU l s a).2.1⟩
def fW(l:List S75)(S:List S30)(r:S30):Nat->Nat->Nat->List S72
 | 0,_,_=>[]
 | d+1,k,a=>if a < l.length then pU l (bG S r k) a :: fW l S r d (k+1) (gD l (dR l (bG S r k) a)) else []
def jo(l:List S75):Nat:=cW l l.length 0
def iA(l:List S75)(S:List S30)(r:S30):List S72:=if jo l=l.length then [⟨(l.length:Int),(l.length:Int),false,false,0⟩] else fW l S r (l.length+1) 0 (jo l)
theorem qw(l:List S75)(S:List S30)(r:S30):∀ d e k a,l.length - a < d->l.length - a < e->fW l S r d k a=fW l S r e k a
 | 0,_,_,_,h,_=>by omega
 | d+1,0,_,_,_,h=>by omega
 | d+1,e+1,k,a,h1,h2=>by
  unfold fW;split
  .rename_i h
   have hb:=iw l (bG S r k) a h;have hs:=iP l _ hb.2.2.1;rw[qw l S r d e (k+1) _ (by omega) (by omega)]
  .rfl
def bY(f:S75->Int)(l:List S75):Nat->Int
 | 0=>0
 | n+1=>bY f l n+f (aX l n)
def gP(l:List S75):Nat->Nat
 | 0=>0
 | n+1=>if (aX l n).f0=2 then gP l n else n+1
def jQ(x:S75):Int:=if x.f0=3 then 0 else x.f3
def jq(x:S75):Int:=x.f4
def iy(x:S75):Int:=x.f5
theorem wV(l:List S75):∀ n,gP l n<=n
 | 0=>Nat.le_refl _
 | n+1=>by
  have:=wV l n;unfold gP;split<;>omega
theorem Fg(f:S75->Int)(l:List S75)(K:Int)(h:∀ x∈l,0<=f x/\f x<=K)(i:Nat)(hi:i < l.length):bY f l i<=bY f l (i+1)/\bY f l (i+1)<=bY f l i+K:=by
 have:=h _ (jI hi);simp only[bY];omega
theorem qU(f:S75->Int)(l:List S75)(K:Int)(h:∀ x∈l,0<=f x/\f x<=K):∀ d i,i+d<=l.length->bY f l i<=bY f l (i+d)/\bY f l (i+d)<=bY f l i+K * (d:Int)
 | 0,i,_=>by simp
 | d+1,i,hd=>by
  have h1:=qU f l K h d i (by omega);have h2:=Fg f l K h (i+d) (by omega);have e:K * ((d+1:Nat):Int)=K * (d:Int)+K:=by
   have:((d+1:Nat):Int)=(d:Int)+1:=by omega
   rw[this,Int.mul_add,Int.mul_one]
  rw[e,show i+(d+1)=i+d+1 from rfl];omega
theorem dD(f:S75->Int)(l:List S75)(K:Int)(hK:0<=K)(hK2:K<=2097152)(h:∀ x∈l,0<=f x/\f x<=K)(hn:l.length<=8192)(i:Nat)(hi:i<=l.length):0<=bY f l i/\bY f l i<=17179869184:=by
 have h1:=qU f l K h i 0 (by omega);rw[Nat.zero_add] at h1;have h2:bY f l 0=0:=rfl;have h3:K * (i:Int)<=2097152 * 8192:=Int.mul_le_mul hK2 (by omega) (by omega) (by decide);omega
theorem qV{l:List S75}(h:∀ x∈l,cY x):∀ x∈l,0<=jQ x/\jQ x<=2097152:=fun x hx=>by
 have:=(h x hx).w;unfold jQ;split<;>omega
theorem sH{l:List S75}(h:∀ x∈l,cY x):∀ x∈l,0<=jq x/\jq x<=4095:=fun x hx=>(h x hx).s
theorem nB{l:List S75}(h:∀ x∈l,cY x):∀ x∈l,0<=iy x/\iy x<=4095:=fun x hx=>(h x hx).t
def wX(l:List S75)(b:Nat):Prop:=b < l.length/\(aX l b).f0=3
instance (l:List S75) (b:Nat):Decidable (wX l b):=by unfold wX;exact inferInstance
def iB(l:List S75)(a b:Nat):Nat:=if gP l b < a then a else gP l b
theorem vO(l:List S75)(a b:Nat)(ha:a<=l.length)(hb:b<=l.length):a<=iB l a b/\iB l a b<=l.length:=by
 have:=wV l b;unfold iB;split<;>omega
def span(f:S75->Int)(l:List S75)(a b:Nat):Int:=bY f l (iB l a b) - bY f l a
theorem jB(f:S75->Int)(l:List S75)(K:Int)(hK:0<=K)(hK2:K<=2097152)(h:∀ x∈l,0<=f x/\f x<=K)(hn:l.length<=8192)(a b:Nat)(ha:a<=l.length)(hb:b<=l.length):0<=span f l a b/\span f l a b<=17179869184:=by
 have he:=vO l a b ha hb;have h1:=qU f l K h (iB l a b - a) a (by omega);rw[show a+(iB l a b - a)=iB l a b by omega] at h1;have h2:=dD f l K hK hK2 h hn a ha;have h3:=dD f l K hK hK2 h hn (iB l a b) he.2;unfold span;omega
def Fh(l:List S75)(b:Nat):Int:=if wX l b then (aX l b).f3 else 0
theorem Fj(l:List S75)(h:∀ x∈l,cY x)(b:Nat):0<=Fh l b/\Fh l b<=2097152:=by
 unfold Fh;split
 .rename_i hp
  exact(h _ (jI hp.1)).w
 .omega
def nZ(l:List S75)(a b:Nat):Int:=span jQ l a b+Fh l b
theorem wY(l:List S75)(h:∀ x∈l,cY x)(hn:l.length<=8192)(a b:Nat)(ha:a<=l.length)(hb:b<=l.length):0<=nZ l a b/\nZ l a b<=17181966336:=by
 have h1:=jB jQ l 2097152 (by decide) (by decide) (qV h) hn a b ha hb;have h2:=Fj l h b;unfold nZ;omega
def iZ(l:List S75)(room:Int)(a b:Nat):Int × Bool :=
 if nZ l a b=room\/nZ l a b < room/\b=l.length then (0,true)
 else if nZ l a b < room then
  if span jq l a b=0 then (0,false) else (1000 * (room - nZ l a b) / span jq l a b,decide (1000 * (room - nZ l a b) / span jq l a b<=3000))
 else if span iy l a b=0 then (0,false) else (1000 * (nZ l a b - room) / span iy l a b,decide (1000 * (nZ l a b - room) / span iy l a b<=1000))
def Es(l:List S75)(b:Int):Bool:=decide (0<=b/\b < (l.length:Int)) && (decide ((aX l b.toNat).f0=3) && (aX l b.toNat).f7)
def lstart(l:List S75)(i:Int):Nat:=if i < 0 then jo l else gD l i.toNat
def oI(l:List S75)(b:Nat):Int:=if wX l b then (aX l b).f6 else 0
def sI(l:List S75)(room bf:Int)(b:Nat):Int:=10+(iZ l room (lstart l bf) b).1 * (iZ l room (lstart l bf) b).1 / 1000+oI l b
def wZ(l:List S75)(room bf:Int)(b:Nat):Int × Bool :=
 if (iZ l room (lstart l bf) b).2=false then (0,false)
 else (sI l room bf b * sI l room bf b+(if Es l bf=true/\Es l (b:Int)=true then 10000 else 0),true)
def kf(l:List S75):Bool:=decide (jo l=l.length)
def gJ(l:List S75)(bf:Int)(b:Nat):Bool :=
 if b=l.length then decide (lstart l bf < b) || (kf l && decide (bf < 0))
 else eH l b && (decide (lstart l bf < b) && decide (gD l b < l.length))
def GP(l:List S75)(room:Int)(a b:Nat):Bool:=decide (room < span jQ l a b - span iy l a b)
def KJ(l:List S75):Bool:=!(l.any (fun x=>decide (x.f3 < x.f5)))
abbrev Wy:=Int->Int->Option (Int × Int)
def nC(M:Wy)(b n:Int)(x:Int × Int):Wy:=fun b' n'=>if b'=b/\n'=n then some x else M b' n'
def nD(x:Int × Int):Option (Int × Int)->Bool
 | none=>true
 | some y=>decide (x.1 < y.1\/x.1=y.1/\x.2 < y.2)
def eB(M:Wy)(b n:Int):Int × Int:=(M b n).getD (0,0)
def tV(l:List S75)(room:Int)(tm:Bool)(n:Nat)(bf:Int):Nat->Nat->Wy->List Int->Wy × List Int
 | 0,_,M,nx=>(M,nx)
 | d+1,b,M,nx =>
  if (tm && (decide (lstart l bf < b) && GP l room (lstart l bf) b))=true then (M,nx)
  else if gJ l bf b=false then tV l room tm n bf d (b+1) M nx
  else if (wZ l room bf b).2=false then tV l room tm n bf d (b+1) M nx
  else tV l room tm n bf d (b+1)
   (if nD ((eB M bf ((n:Int) - 1)).1+(wZ l room bf b).1,bf) (M b n)=true then nC M b n ((eB M bf ((n:Int) - 1)).1+(wZ l room bf b).1,bf) else M)
   (if (M b n).isNone=true then nx ++ [(b:Int)] else nx)
def C6(l:List S75)(room:Int)(tm:Bool)(n:Nat):List Int->Wy->List Int->Wy × List Int
 | [],M,nx=>(M,nx)
 | bf :: L,M,nx=>C6 l room tm n L (tV l room tm n bf (l.length+1 - (bf+1).toNat) (bf+1).toNat M nx).1 (tV l room tm n bf (l.length+1 - (bf+1).toNat) (bf+1).toNat M nx).2
def nE(n:Nat)(nx:List Int):List Int:=(nx.filter (fun b=>b != (n:Int))).mergeSort (fun a b=>decide (a<=b))
def Fk(l:List S75)(S:List S30)(r:S30)(tm:Bool):Nat->Nat->Wy->List Int->Wy
 | 0,_,M,_=>M
 | d+1,n,M,lv=>if lv=[] then M else Fk l S r tm d (n+1) (C6 l (bG S r n).f1 tm n lv M []).1 (nE l.length (C6 l (bG S r n).f1 tm n lv M []).2)
def w_(l:List S75)(S:List S30)(r:S30):Wy:=Fk l S r (KJ l) (l.length+2) 0 (fun _ _=>none) [-1]
def kZ(M:Wy)(len:Nat):Nat->Nat->Int->Int->Int × Int
 | 0,_,li,fe=>(li,fe)
 | d+1,n,li,fe=>if (M len n).isSome=true/\(li < 0\/(eB M len n).1 < fe) then kZ M len d (n+1) n (eB M len n).1 else kZ M len d (n+1) li fe
def Bw(l:List S75)(room bf b:Int):S72:=⟨(lstart l bf:Int),b,decide (room < nZ l (lstart l bf) b.toNat),Es l b,nZ l (lstart l bf) b.toNat⟩
def mG(l:List S75)(S:List S30)(r:S30)(M:Wy):Nat->Int->List S72
 | 0,_=>[]
 | k+1,b=>Bw l (bG S r k).f1 (eB M b k).2 b :: mG l S r M k (eB M b k).2
def xg(l:List S75)(S:List S30)(r:S30):Int × Int:=kZ (w_ l S r) l.length (l.length+1) 0 (-1) 0
def leastOf(l:List S75)(S:List S30)(r:S30):List S72 × Int × Int :=
 if sD l S r≠0 then ([],0,sD l S r)
 else if kf l=true then ([⟨(l.length:Int),(l.length:Int),false,false,0⟩],100,0)
 else if (xg l S r).1 < 0 then ([],0,6)
 else ((mG l S r (w_ l S r) ((xg l S r).1.toNat+1) l.length).reverse,(xg l S r).2,0)
theorem uV(l:List S75)(room:Int)(h:∀ x∈l,cY x)(hn:l.length<=8192)(hr:0<=room/\room<=4095)(a b:Nat)(ha:a<=l.length)(hb:b<=l.length)(hk:(iZ l room a b).2=true):0<=(iZ l room a b).1/\(iZ l room a b).1<=3000:=by
 have h1:=wY l h hn a b ha hb;have h2:=jB jq l 4095 (by decide) (by decide) (sH h) hn a b ha hb;have h3:=jB iy l 4095 (by decide) (by decide) (nB h) hn a b ha hb;unfold iZ at hk ⊢;split
 .exact⟨Int.le_refl _,by simp⟩
 .rename_i c1
  rw[if_neg c1] at hk;split
  .rename_i c2
   rw[if_pos c2] at hk;split
   .rename_i c3
    rw[if_pos c3] at hk;cases hk
   .rename_i c3
    rw[if_neg c3] at hk;exact⟨Int.ediv_nonneg (by omega) h2.1,of_decide_eq_true hk⟩
  .rename_i c2
   rw[if_neg c2] at hk;split
   .rename_i c3
    rw[if_pos c3] at hk;cases hk
   .rename_i c3
    rw[if_neg c3] at hk;have:=of_decide_eq_true hk;exact⟨Int.ediv_nonneg (by omega) h3.1,by omega⟩
theorem sJ{x K:Int}(h0:0<=x)(h1:x<=K):0<=x * x/\x * x<=K * K:=⟨Int.mul_nonneg h0 h0,Int.mul_le_mul h1 h1 h0 (by omega)⟩
theorem xk(l:List S75)(h:∀ x∈l,cY x)(b:Nat):0<=oI l b/\oI l b<=4095:=by
 unfold oI;split
 .rename_i hp
  exact(h _ (jI hp.1)).c
 .omega
theorem mH(l:List S75)(i:Int)(h:i<=(l.length:Int)):lstart l i<=l.length/\i<=(lstart l i:Int):=by
 unfold lstart;split
 .have:=fV l l.length 0;unfold jo;omega
 .have:=iP l i.toNat (by omega);omega
theorem Im(l:List S75)(room bf:Int)(b:Nat)(h:∀ x∈l,cY x)(hn:l.length<=8192)(hr:0<=room/\room<=4095)(hf:bf<=(l.length:Int))(hb:b<=l.length)(hk:(iZ l room (lstart l bf) b).2=true):10<=sI l room bf b/\sI l room bf b<=13105:=by
 have h1:=uV l room h hn hr (lstart l bf) b (mH l bf hf).1 hb hk;have h2:=sJ h1.1 h1.2;have h3:=xk l h b;unfold sI;omega
theorem Io(l:List S75)(room bf:Int)(b:Nat)(h:∀ x∈l,cY x)(hn:l.length<=8192)(hr:0<=room/\room<=4095)(hf:bf<=(l.length:Int))(hb:b<=l.length):0<=(wZ l room bf b).1/\(wZ l room bf b).1<=200000000:=by
 unfold wZ;split
 .simp
 .rename_i hk
  have h1:=Im l room bf b h hn hr hf hb (by simpa using hk);have h2:=sJ (show 0<=sI l room bf b by omega) h1.2;show 0<=sI l room bf b * sI l room bf b+_/\sI l room bf b * sI l room bf b+_<=200000000;split<;>omega
end Go.Proofs.YtcaallkkeighdaaGreatDoor.P
