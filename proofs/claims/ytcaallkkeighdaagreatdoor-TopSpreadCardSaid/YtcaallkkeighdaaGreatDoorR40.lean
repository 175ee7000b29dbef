/- Bounds of a line's setting;prepare and the walk in the words that Place needs. -/
import Derived.Test.YtcaallkkeighdaaGreatDoorR39
set_option maxRecDepth 100000
set_option maxHeartbeats 16000000
set_option linter.unusedVariables false
set_option linter.unusedSimpArgs false
namespace Go.Proofs.YtcaallkkeighdaaGreatDoor.P
open Go.RowKit aD aQ aR
structure UG(p:Pa)(x:S46):Prop where
 n:(aO p x).l.length<=300
 d:0<=(aO p x).dr/\(aO p x).dr<=262148
 h:0<=(aO p x).hy/\(aO p x).hy<=64
 t:∀ k,k<=(aO p x).l.length->0<=n_ (aO p x).kd (aO p x).ah (aO p x).l x.f2 k/\n_ (aO p x).kd (aO p x).ah (aO p x).l x.f2 k<=1300000
 a:∀ k,k < (aO p x).l.length->(0<=rG (aO p x).kd (aO p x).ah (aO p x).l x.f2 k/\rG (aO p x).kd (aO p x).ah (aO p x).l x.f2 k<=1300000)/\0<=wW (aO p x).kd (aO p x).ah (aO p x).l x.f2 k/\wW (aO p x).kd (aO p x).ah (aO p x).l x.f2 k<=4095
 e : -1400000<=eP p x/\eP p x<=4095
 bn:0<=qg (fA p x)/\qg (fA p x)<=300
 bs:0<=qh (fA p x)/\qh (fA p x)<=409500
theorem Gj(z:Int):0<=(cU qG z).1/\(cU qG z).1<=64:=by
 have:=oD qG z;have e:qG.size=1:=rfl;rw[e] at this;omega
theorem Mu{p:Pa}{x:S46}(hz:p.small)(h0:bB p=0)(hx:gK p x):UG p x:=by
 obtain⟨m1,m2⟩:=uD hz h0 x;have hs:=yA p x;have he:=mT p x;have hn:(aO p x).l.length<=300:=by
  rw[hs.1];exact Nat.le_trans (List.length_filter_le _ _) (yH hz)
 have hc:=zV p (aW p);have hd:0<=(aO p x).dr/\(aO p x).dr<=262148:=by
  rw[hs.2.2.2];split<;>omega
 have hh:0<=(aO p x).hy/\(aO p x).hy<=64:=by
  show 0<=(if x.f5=true then (cU qG (rC p (aO p x).l (aO p x).so)).1 else 0)/\(if x.f5=true then (cU qG (rC p (aO p x).l (aO p x).so)).1 else 0)<=64;split
  .exact Gj _
  .omega
 have hw:=rA (aO p x).kd (aO p x).ah (aO p x).l x.f2 m1 (fun m hm=>(m2 m hm).2) hs.2.2.1 (fun k hk _=>he.2.2 k hk) hx.lx.1;have hx1:=hx.lx;have hx2:=hx.lw;have hT:∀ k,k<=(aO p x).l.length->x.f2<=n_ (aO p x).kd (aO p x).ah (aO p x).l x.f2 k/\n_ (aO p x).kd (aO p x).ah (aO p x).l x.f2 k<=1300000:=fun k hk=>by
  have:=(hw k hk).1;omega
 have hrun:(fA p x).length<=300:=by
  unfold fA;rw[List.length_drop,List.length_take];omega
 have hrm:∀ m∈fA p x,cI m:=fun m hm=>(m2 m (List.mem_of_mem_take (List.mem_of_mem_drop hm))).2.1
 have b1:=yd (fA p x);have b2:=yg (fA p x) hrm;refine⟨hn,hd,hh,fun k hk=>⟨by have:=(hT k hk).1;omega,(hT k hk).2⟩,fun k hk=>?_,?_,by omega,by omega⟩
 .have h1:=(hw k (by omega)).1;have h3:=(hw k (by omega)).2.2 hk;omega
 .have:=hT (aO p x).so he.1;unfold eP;omega
theorem Ei(a e:Int)(h:e<=4095):0<=jt a e/\jt a e<=4095:=by
 unfold jt
 repeat' split
 all_goals omega
theorem Hj{α:Type}{d:Kd α}{e base:Nat}{ok:Nat->Prop}{w:World}{A:Option Addr}{n c:Nat}{xs:List α}(h:d.R e w base ok (.slice A n c) xs):∀ a,A=some a->base<=a.block/\a.block < w.heap.size:=by
 intro a ha;subst ha;have h1:=Kd.ED h;have h2:=Kd.P7 h;obtain⟨inner,ho,_⟩:=h.2;rcases ho.2 with⟨e1,_⟩|⟨g,cap,cur,e1,_⟩
 .injection e1 with e1;cases e1
 .injection e1 with e1 e2 e3;injection e1 with e1;subst e1;exact⟨h2 g rfl,h1 g rfl⟩
theorem JA{e base:Nat}{ok:Nat->Prop}{w:World}{B:Option Addr}{n c:Nat}{xs:List Bool}(h:Kd.bool.R e w base ok (.slice B n c) xs):Kd.C Kd.bool w B n xs/\n<=c/\xs.length=n:=by
 obtain⟨A',c',e1,hc,_,hC⟩:=fX h;injection e1 with e1 e2 e3;subst e1 e2 e3;exact⟨hC,hc,rfl⟩
def RW(w:World)(l:List S99)(kd:List Bool)(n:Nat)(ai si dr hy:Int)(e:Ending)(w':World):Prop:=∃ A c B cb,e=.returned (.agg #[.slice A n c,.slice B n cb,.int .i64 ai,.int .i64 si,.int .i64 dr,.int .i64 hy]) /\
 Kd.C k99 w' A n l/\Kd.C Kd.bool w' B n kd/\n<=c/\(∀ a,A=some a->a.block < w'.heap.size)/\(∀ a,B=some a->a.block < w'.heap.size)/\Below w.heap.size w w'
theorem JB(p:Pa)(x:S46){As Am:Option Addr}{cs cm:Nat}(w:World)(hA:dK w p As cs Am cm)(hz:p.small)(h0:bB p=0)(hx:gK p x)(htab:Lib.TabIs Tryz.prog w "strings.asciiSpace" .u8 Lib.asciiSpaceTab)
  {l:List S99} {kd:List Bool} {n:Nat} {ai si dr hy:Int} (h1:(aO p x).l=l) (h2:(aO p x).kd=kd) (h3:l.length=n) (h4:((aO p x).ah:Int)=ai) (h5:((aO p x).so:Int)=si) (h6:(aO p x).dr=dr) (h7:(aO p x).hy=hy) :
  Calls Tryz.prog 30 #[.agg (cG p As cs Am cm),.agg (tH x)] w (RW w l kd n ai si dr hy):=by
 refine(zE p x w hA hz h0 hx htab).mono ?_;rintro e w' ⟨A,c,B,cb,rfl,hl,hk,hc,hkn,hb⟩;rw[h1,h2] at hkn;rw[h1,h3] at hl hk hc;rw[h2] at hk;have hC:=JA hk;obtain⟨A',c',e1,_,_,UH⟩:=fX hl;injection e1 with e1 e2 e3;subst e1;rw[h3] at UH;refine⟨A,c,B,cb,?_,UH,hC.1,hc,fun a ha=>(Hj hl a ha).2,fun a ha=>(Hj hk a ha).2,hb⟩;rw[h1,h3,h4,h5,h6,h7]
end Go.Proofs.YtcaallkkeighdaaGreatDoor.P
