/- The next level: slices.DeleteFunc without the end,slices.Sort. The walk of functions of the program to their answers in plain Lean;no further condition. Regions that draw their order,whose operations may yield (a call of an iterator's yield): the head quiet in a class of worlds,the rest one behind the other;inside the wide fence. -/
import Derived.Lib.SliceRun
import Derived.Sort.OwnSortedInts
import Derived.OrdersIn
import Derived.TacticsIn
import Derived.Test.YtcaallkkeighdaaGreatDoorR24
set_option maxRecDepth 100000
set_option maxHeartbeats 16000000
set_option linter.unusedVariables false
set_option linter.unusedSimpArgs false
namespace Go.Proofs.YtcaallkkeighdaaGreatDoor.P
open Go.RowKit aD aQ aR
def RI(w:World)(base:Nat)(v:Value)(xs:List Int):Prop:=w.ownsRow base 3 1 v xs.length (jL .i64 xs)
theorem RI.grown{w w':World}{base:Nat}{v:Value}{xs:List Int}{row:Option Nat}(h:RI w base v xs)(hg:w.grownBy w' row)(hne:v.ownBlock=none\/v.ownBlock≠row):RI w' base v xs:=Hl h hg hne
theorem RI.form{w:World}{base:Nat}{v:Value}{xs:List Int}(h:RI w base v xs):v=.slice none 0 0/\xs=[]\/∃ g cap cur,v=.slice (some ⟨g,0,none⟩) xs.length cap/\base<=g/\w.heap[g]? = some (.cells cur 3 (0,0))/\xs.length<=cap/\cap<=maxLen/\cur.size=cap/\cur.toList.take xs.length=jL .i64 xs:=by
 rcases h.2 with⟨e,hz⟩|⟨g,cap,cur,e,h1,h2,h3,h4,h5,h6⟩
 .exact .inl ⟨e,List.length_eq_zero_iff.1 hz⟩
 .exact .inr ⟨g,cap,cur,e,h1,h2,h3,h4,by omega,by rw[Nat.mul_one] at h6;exact h6⟩
theorem RI.cut{w:World}{base g cap:Nat}{xs:List Int}(h:RI w base (.slice (some ⟨g,0,none⟩) xs.length cap) xs)(m:Nat)(hm:m<=xs.length):RI w base (.slice (some ⟨g,0,none⟩) m cap) (xs.take m):=by
 rcases RI.form h with⟨e,_⟩|⟨g',cap',cur,e,h1,h2,h3,h4,h5,h6⟩
 .cases e
 .cases e
  have hl:(xs.take m).length=m:=by rw[List.length_take];omega
  refine⟨by rw[oo];omega,.inr ⟨g,cap,cur,by rw[hl],h1,h2,by omega,h4,by omega,?_⟩⟩;rw[Nat.mul_one,hl];have:(cur.toList.take xs.length).take m=(jL .i64 xs).take m:=by rw[h6]
  rw[List.take_take,Nat.min_eq_left hm] at this;rw[this];unfold jL;rw[List.map_take]
theorem lU(x:Int)(n c bs bc:Nat)(A:Option Addr)(w:World)(h1:w.cell? ⟨bc,0,none⟩=some (.pointer (some ⟨bs,0,none⟩)))(h2:w.cell? ⟨bs,0,none⟩=some (.slice A n c))(b:Bool)(hb:(x == (n:Int))=b) :
  Calls Tryz.prog 94 #[.int .i64 x,.pointer (some ⟨bc,0,none⟩)] w fun e w'=>e=.returned (.bool b)/\w=w':=by
 subst hb;go_enter Tryz.func94,Tryz.ntmps94;go_wp2;go_ret;exact⟨rfl,(by first|rfl|trivial)⟩
def Dt(xs:List Int)(z:Int):Nat->Nat->Int
 | 0,_=>-1
 | d+1,j=>if rd xs j=z then (j:Int) else Dt xs z d (j+1)
theorem Aa(xs:List Int)(z:Int):∀ d j,j+d=xs.length->(Dt xs z d j = -1/\∀ k,j<=k->k < xs.length->rd xs k≠z)\/∃ k,j<=k/\k < xs.length/\Dt xs z d j=(k:Int)/\rd xs k=z/\∀ q,j<=q->q < k->rd xs q≠z
 | 0,j,h=>.inl ⟨rfl,fun k h1 h2=>by omega⟩
 | d+1,j,h=>by
  unfold Dt;by_cases e:rd xs j=z
  .rw[if_pos e];exact .inr ⟨j,Nat.le_refl _,by omega,rfl,e,fun q h1 h2=>by omega⟩
  .rw[if_neg e];rcases Aa xs z d (j+1) (by omega) with⟨h1,h2⟩|⟨k,h1,h2,h3,h4,h5⟩
   .exact .inl ⟨h1,fun k hk hl=>by
     by_cases q:k=j
     .subst q;exact e
     .exact h2 k (by omega) hl⟩
   .exact .inr ⟨k,by omega,h2,h3,h4,fun q hq hk=>by
     by_cases q':q=j
     .subst q';exact e
     .exact h5 q (by omega) hk⟩
theorem sS(xs:List Int)(g cap n c bs bc:Nat)(A:Option Addr)(w:World)(h1:w.cell? ⟨bc,0,none⟩=some (.pointer (some ⟨bs,0,none⟩)))(h2:w.cell? ⟨bs,0,none⟩=some (.slice A n c))(base:Nat)(m:Nat)(hm:xs.length=m)(hR:RI w base (.slice (some ⟨g,0,none⟩) m cap) xs)(hl:xs.length<=100000)(r:Int)(hr:Dt xs (n:Int) xs.length 0=r) :
  Calls Tryz.prog 126 #[.slice (some ⟨g,0,none⟩) m cap,.func (.func 94) #[] #[.pointer (some ⟨bc,0,none⟩)]] w fun e w'=>e=.returned (.int .i64 r)/\w=w':=by
 have HR:=aj hr;have HM:=aj hm;have HRI:=aj hR;rw[hm] at hr hl;have HR2:=aj hr;have hm2:m<=100000:=hl;clear hr hm hR hl;go_enter Tryz.func126,Tryz.ntmps126;go_wp2;go_loopw [8] (fun v8 wr=>∃ (y:Int) (j:Nat),v8=.int .i64 y/\aC (y=(j:Int))/\aC (j<=m)/\aC (Dt xs (n:Int) (m - j) j=r)/\w=wr) (fun v8 _=>m - (intOf v8).toNat)
 case atStart=>exact⟨0,0,rfl,⟨rfl⟩,⟨Nat.zero_le _⟩,⟨HR2.out⟩,(by first|rfl|trivial)⟩
 case round =>
  obtain⟨y,j,rfl,hy,hj,hG,rfl⟩:=hrel;by_cases hlt:j < m
  .have d1:decide (y < (m:Int))=true:=decide_eq_true (by rw[hy.out];omega);have q0:0<=y:=by rw[hy.out];omega
   have q1:y < (m:Int):=by rw[hy.out];omega
   have q3:y<=100000:=by omega
   have p0:=eq_true q0;have p1:=eq_true q1;have hat:=(tJ (by have:=HRI.out;unfold RI at this;rw[HM.out] at this;exact this) y q0 q1).1;rw[hy.out] at hat;have Qz:w.cell? ⟨g,y.toNat,none⟩=some (.int .i64 (rd xs (j:Int))):=by rw[hy.out];exact hat
   have hG2:=hG.out;rw[show m - j=(m - (j+1))+1 by omega,Dt] at hG2;have cg:=aj hlt;by_cases he:rd xs (j:Int)=(n:Int)
   .rw[if_pos he] at hG2;have HG2:=aj hG2;have hb:(rd xs (j:Int) == (n:Int))=true:=(by rw[he];exact beq_self_eq_true _);generalize rd xs (j:Int)=x at *;clear hlt he hG2 hat;go_wp2_with (go_at_call 94;go_loud(refine(lU x n c bs bc A _ h1 h2 true (by assumption)).mono ?_;rintro e w1 ⟨rfl,rfl⟩));go_ret;exact⟨dh (by rw[<-HG2.out,hy.out]),(by first|rfl|trivial)⟩
   .rw[if_neg he] at hG2;have HG2:=aj hG2;have hb:(rd xs (j:Int) == (n:Int))=false:=(by rw[beq_eq_false_iff_ne];exact he);generalize rd xs (j:Int)=x at *;clear hlt he hG2 hat;go_wp2_with (go_at_call 94;go_loud(refine(lU x n c bs bc A _ h1 h2 false (by assumption)).mono ?_;rintro e w1 ⟨rfl,rfl⟩));go_roundw
    case rel=>exact⟨y+1,j+1,rfl,⟨by rw[hy.out];omega⟩,⟨cg.out⟩,HG2,(by first|rfl|trivial)⟩
    case measure=>have:=cg.out;have:=hy.out;simp[intOf];omega
  .have d1:decide (y < (m:Int))=false:=decide_eq_false (by rw[hy.out];omega);have HQ:=aj (show r = -1 by rw[<-hG.out,show m - j=0 by omega];rfl);clear hlt;go_wp2;go_ret;exact⟨dh (by rw[HQ.out]),(by first|rfl|trivial)⟩
structure zq(xs:List Int)(z:Int)(i j:Nat)(ys:List Int):Prop where
 len:ys.length=xs.length
 ij:i<=j
 jn:j<=xs.length
 hd:ys.take i=(xs.take j).filter (fun b=>b != z)
 tl:∀ k,j<=k->rd ys k=rd xs k
theorem BP(xs:List Int)(j:Nat)(h:j < xs.length):xs.take (j+1)=xs.take j ++ [rd xs j]:=by
 rw[List.take_succ_eq_append_getElem h]
 congr 2
 unfold rd;simp[List.getD_eq_getElem?_getD,List.getElem?_eq_getElem h]
theorem zq.skip{xs ys:List Int}{z:Int}{i j:Nat}(h:zq xs z i j ys)(hj:j < xs.length)(hz:rd xs j=z):zq xs z i (j+1) ys :=
 ⟨h.len,by have:=h.ij;omega,hj,by rw[h.hd,BP xs j hj,List.filter_append,hz];simp,fun k hk=>h.tl k (by omega)⟩
theorem zq.keep{xs ys:List Int}{z:Int}{i j:Nat}(h:zq xs z i j ys)(hj:j < xs.length)(hz:rd xs j≠z)(x:Int)(hx:x=rd xs j):zq xs z (i+1) (j+1) (ys.set i x):=by
 have h1:=h.len;have h2:=h.ij;refine⟨by rw[List.length_set];exact h1,by omega,hj,?_,fun k hk=>?_⟩
 .rw[List.take_succ_eq_append_getElem (by rw[List.length_set];omega),List.getElem_set_self,List.take_set_of_le (Nat.le_refl _),h.hd,BP xs j hj,List.filter_append,hx];simp[hz]
 .rw[<-h.tl k (by omega)];unfold rd;rw[List.getD_eq_getElem?_getD,List.getD_eq_getElem?_getD,List.getElem?_set_ne (by show i≠((k:Int)).toNat;rw[Int.toNat_natCast];omega)]
theorem zq.start{xs:List Int}{z:Int}{k:Nat}(hk:k < xs.length)(hz:rd xs k=z)(hb:∀ q,q < k->rd xs q≠z):zq xs z k (k+1) xs:=by
 refine⟨rfl,by omega,hk,?_,fun _ _=>rfl⟩;rw[BP xs k hk,List.filter_append,hz];have:(xs.take k).filter (fun b=>b != z)=xs.take k:=by
  rw[List.filter_eq_self];intro a ha;obtain⟨q,hq,e⟩:=List.mem_iff_getElem.1 ha;rw[List.length_take] at hq;have:=hb q (by omega);rw[List.getElem_take] at e;have e2:rd xs q=a:=by rw[<-e];unfold rd;simp[List.getD_eq_getElem?_getD,List.getElem?_eq_getElem (show q < xs.length by omega)]
  rw[e2] at this
  simpa using this
 rw[this];simp
theorem sU{base g cap:Nat}:∀ (k i:Nat) (w:World) (xs:List Int),i+k<=xs.length->RI w base (.slice (some ⟨g,0,none⟩) xs.length cap) xs->∃ ys,ys.length=xs.length/\ys.take i=xs.take i/\RI (w.setCells g i (List.replicate k (.int .i64 0))) base (.slice (some ⟨g,0,none⟩) ys.length cap) ys/\w.grownBy (w.setCells g i (List.replicate k (.int .i64 0))) (some g)
 | 0,i,w,xs,_,h=>⟨xs,rfl,rfl,h,World.grownBy.refl _ _⟩
 | k+1,i,w,xs,hk,h=>by
  have hs:=zI h (i:Int) 0;rw[Int.toNat_natCast] at hs;have h2:RI (w.setCell ⟨g,i,none⟩ (.int .i64 0)) base (.slice (some ⟨g,0,none⟩) (xs.set i 0).length cap) (xs.set i 0):=by
   unfold RI;rw[List.length_set];exact hs.1
  obtain⟨ys,e1,e2,e3,e4⟩:=sU k (i+1) _ (xs.set i 0) (by rw[List.length_set];omega) h2;refine⟨ys,by rw[e1,List.length_set],?_,e3,hs.2.trans e4⟩;have:(ys.take (i+1)).take i=((xs.set i 0).take (i+1)).take i:=by rw[e2]
  rw[List.take_take,List.take_take,Nat.min_eq_left (by omega),List.take_set_of_le (Nat.le_refl _)] at this;exact this
def Ov(base:Nat)(v:Value)(xs:List Int)(w:World)(e:Ending)(w':World):Prop:=∃ v',e=.returned v'/\RI w' base v' xs/\w.grownBy w' v.ownBlock/\v'.ownBlock=v.ownBlock
theorem zu(xs:List Int)(n c bs bc:Nat)(A:Option Addr)(v:Value)(w:World)(h1:w.cell? ⟨bc,0,none⟩=some (.pointer (some ⟨bs,0,none⟩)))(h2:w.cell? ⟨bs,0,none⟩=some (.slice A n c))(base:Nat)(hR:RI w base v xs)(hbc:v.ownBlock≠some bc)(hbs:v.ownBlock≠some bs)(hl:xs.length<=100000) :
  Calls Tryz.prog 93 #[v,.func (.func 94) #[] #[.pointer (some ⟨bc,0,none⟩)]] w (Ov base v (xs.filter (fun b=>b != (n:Int))) w):=by
 rcases RI.form hR with⟨rfl,rfl⟩|⟨g,cap,cur,rfl,hg1,hg2,hg3,hg4,hg5,hg6⟩
 .have HR:=aj hR;clear hR hl hbc hbs;have hix:Calls Tryz.prog 126 #[.slice none 0 0,.func (.func 94) #[] #[.pointer (some ⟨bc,0,none⟩)]] w fun e w'=>e=.returned (.int .i64 (-1))/\w=w':=by
   go_enter Tryz.func126,Tryz.ntmps126;go_wp2;go_loopw [8] (fun v8 wr=>v8=.int .i64 0/\w=wr) (fun v8 _=>0)
   case atStart=>exact⟨rfl,(by first|rfl|trivial)⟩
   case round =>
    obtain⟨rfl,rfl⟩:=hrel;go_wp2;go_ret;exact⟨rfl,(by first|rfl|trivial)⟩
  go_enter Tryz.func93,Tryz.ntmps93;go_wp2_with (go_at_call 126;go_loud(refine hix.mono ?_;rintro e w1 ⟨rfl,rfl⟩));go_ret;exact⟨_,rfl,HR.out,World.grownBy.refl _ _,rfl⟩
 .have HR:=aj hR;have HN:=aj (show g≠bc/\g≠bs from ⟨fun e=>hbc (by rw[e];rfl),fun e=>hbs (by rw[e];rfl)⟩);obtain⟨m,hm⟩:∃ m,xs.length=m:=⟨_,rfl⟩;have HM:=aj hm;have HL:=aj hl;obtain⟨r,hr⟩:∃ r,Dt xs (n:Int) xs.length 0=r:=⟨_,rfl⟩;have MP:=aj hr;have hsp:=Aa xs (n:Int) xs.length 0 (by omega);rw[hr] at hsp;have hcap:m<=cap:=by omega
  have hm2:m<=100000:=by omega
  have TD:cap<=maxLen:=hg4;unfold maxLen at TD;rw[hm] at hR ⊢;have tF:=aj hR;clear hR hbc hbs hg1 hg2 hg3 hg4 hg5 hg6 hl hr;rcases hsp with⟨e1,e2⟩|⟨k,_,k1,k2,k3,k4⟩
  .subst e1;have HF:=aj (show xs.filter (fun b=>b != (n:Int))=xs by
    rw[List.filter_eq_self];intro a ha;obtain⟨q,hq,e⟩:=List.mem_iff_getElem.1 ha;have:=e2 q (Nat.zero_le _) hq;have e3:rd xs q=a:=(by rw[<-e];unfold rd;simp[List.getD_eq_getElem?_getD,List.getElem?_eq_getElem hq]);rw[e3] at this
    simpa using this)
   clear hm e2;go_enter Tryz.func93,Tryz.ntmps93;go_wp2_with (go_at_call 126;go_loud(refine(sS xs g cap n c bs bc A _ h1 h2 base m HM.out tF.out HL.out (-1) MP.out).mono ?_;rintro e w1 ⟨rfl,rfl⟩));go_ret;exact⟨_,rfl,by rw[HF.out];have:=HR.out;rw[HM.out] at this;exact this,World.grownBy.refl _ _,rfl⟩
  .have HS:=aj (zq.start k1 k3 (fun q hq=>k4 q (Nat.zero_le _) hq));have hk1:k < m:=by omega
   have hkr:r=(k:Int):=k2;have ab0:(r == -1)=false:=by rw[beq_eq_false_iff_ne];omega
   have hr0:0<=r:=by omega
   have hr1:r < (m:Int):=by omega
   have HK:=aj hkr;have HZ:=aj k3;clear hm k1 k2 k3 k4 hkr;go_enter Tryz.func93,Tryz.ntmps93;go_wp2_with (go_at_call 126;go_loud(refine(sS xs g cap n c bs bc A _ h1 h2 base m HM.out tF.out HL.out r MP.out).mono ?_;rintro e w1 ⟨rfl,rfl⟩));have HH:=aj (And.intro h1 h2);clear h1 h2;go_loopw [5,6] (fun v5 v6 wr=>∃ (x y:Int) (i j:Nat) (ys:List Int),v5=.int .i64 x/\v6=.int .i64 y/\aC (x=(i:Int)/\y=(j:Int))/\aC (zq xs (n:Int) i j ys)/\aC (RI wr base (.slice (some ⟨g,0,none⟩) ys.length cap) ys/\w.grownBy wr (some g))) (fun _ v6 _=>m - (intOf v6).toNat)
   case atStart=>exact⟨r,r+1,k,k+1,xs,rfl,rfl,⟨HK.out,by rw[HK.out];omega⟩,HS,⟨HR.out,World.grownBy.refl _ _⟩⟩
   case round =>
    obtain⟨x,y,i,j,ys,rfl,rfl,hxy,hS,QZ⟩:=hrel;have hlen:ys.length=m:=(by rw[hS.out.len,HM.out]);have hc1:wr.cell? ⟨bc,0,none⟩=some (.pointer (some ⟨bs,0,none⟩)):=wF QZ.out.2 HH.out.1 (fun e=>HN.out.1 (by injection e with e;exact e.symm));have hc2:wr.cell? ⟨bs,0,none⟩=some (.slice A n c):=wF QZ.out.2 HH.out.2 (fun e=>HN.out.2 (by injection e with e;exact e.symm));have hij:=hS.out.ij;have hjm:j<=m:=(by rw[<-HM.out];exact hS.out.jn);have x0:0<=x:=(by have:=hxy.out.1;omega);have y0:0<=y:=(by have:=hxy.out.2;omega);have V_:=QZ.out.1;rw[hlen] at V_;have Du:wr.ownsRow base 3 1 (.slice (some ⟨g,0,none⟩) m cap) m (jL .i64 ys):=(by have:=QZ.out.1;unfold RI at this;rw[hlen] at this;exact this);have S0:=aj hlen;by_cases hlt:j < m
    .have d1:decide (y < (m:Int))=true:=decide_eq_true (by have:=hxy.out.2;omega);have y1:y < (m:Int):=(by have:=hxy.out.2;omega);have x1:x < (m:Int):=(by have:=hxy.out.1;omega);have p0:=eq_true y0;have p1:=eq_true y1;have p2:=eq_true x0;have p3:=eq_true x1;have hat:=(tJ Du y y0 y1).1;have hrd:rd ys y=rd xs (j:Int):=(by rw[hxy.out.2];exact hS.out.tl j (Nat.le_refl _));have hax:=tJ Du x x0 x1;obtain⟨XJ,XK⟩:=hax;have cg:=aj hlt;have GX:=aj Du;have Pk:=aj hrd;by_cases he:rd xs (j:Int)=(n:Int)
     .have hb:(rd ys y == (n:Int))=true:=(by rw[hrd,he];exact beq_self_eq_true _);have Tp:=aj (hS.out.skip (by rw[HM.out];exact hlt) he);generalize rd ys y=u at *;clear he hrd hij hjm hlt hlen V_ Du x1 XJ XK;go_wp2_with (go_at_call 94;go_loud(refine(lU u n c bs bc A _ hc1 hc2 true (by assumption)).mono ?_;rintro e w1 ⟨rfl,rfl⟩));go_roundw
      case rel=>exact⟨x,y+1,i,j+1,ys,rfl,rfl,⟨hxy.out.1,by have:=hxy.out.2;omega⟩,Tp,QZ⟩
      case measure=>have:=cg.out;have:=hxy.out.2;simp[intOf];omega
     .have hb:(rd ys y == (n:Int))=false:=(by rw[hrd,beq_eq_false_iff_ne];exact he);have Tp:=aj (hS.out.keep (by rw[HM.out];exact hlt) he (rd ys y) hrd);have HST:=aj (zI Du x (rd ys y));generalize rd ys y=u at *;generalize rd ys x=u2 at *;clear he hrd hij hjm hlt hlen V_ Du;go_wp2_with (go_at_call 94;go_loud(refine(lU u n c bs bc A _ hc1 hc2 false (by assumption)).mono ?_;rintro e w1 ⟨rfl,rfl⟩));go_roundw
      case rel =>
       refine⟨x+1,y+1,i+1,j+1,ys.set i u,rfl,rfl,⟨by have:=hxy.out.1;omega,by have:=hxy.out.2;omega⟩,Tp,⟨?_,QZ.out.2.trans HST.out.2⟩⟩;unfold RI;rw[List.length_set,S0.out];have:=HST.out.1;rw[show x.toNat=i by have:=hxy.out.1;omega] at this ⊢;exact this
      case measure=>have:=cg.out;have:=hxy.out.2;simp[intOf];omega
    .have Q0:j=m:=(by omega);have d1:decide (y < (m:Int))=false:=decide_eq_false (by have:=hxy.out.2;omega);have hxm:x<=(m:Int):=(by have:=hxy.out.1;omega);have Zv:x.toNat=i:=(by have:=hxy.out.1;omega);have him:i < m:=by
      have hl1:(ys.take i).length<=(xs.take m).length - 1:=by
       have h3:=hS.out.hd;rw[Q0] at h3;rw[h3];have h4:=HS.out.ij;have h5:k < m:=hk1;have hz:(n:Int)∈xs.take m:=by
        rw[<-HM.out,List.take_length];have e9:=HZ.out;rw[<-e9];unfold rd;rw[Int.toNat_natCast,List.getD_eq_getElem?_getD,List.getElem?_eq_getElem (show k < xs.length by rw[HM.out];exact h5)];exact List.getElem_mem _
       have:=List.length_filter_lt_length_iff_exists (p:=fun b=>b != (n:Int)) (l:=xs.take m) |>.2 ⟨(n:Int),hz,by simp⟩
       omega
      rw[List.length_take,List.length_take] at hl1;have:=HM.out;omega
     have hcl:∀ ty,(Builtin.clear_ #[107] ty #[.slice (some ⟨g,x.toNat,none⟩) (m - x.toNat) (cap - x.toNat)]).run Tryz.prog wr=.ok (.tuple #[]) (wr.setCells g x.toNat (List.replicate (m - x.toNat) (.int .i64 0))) :=
      fun ty=>Lib.run_clear_slice wr 107 3 ty (.int .i64 0) Tryz.underlying107 (fun w=>by kernel_rfl) rfl rfl g x.toNat _ _ (by omega) (fun t ht=>by
       have:=(tJ Du ((x.toNat+t:Nat):Int) (by omega) (by omega)).1;rw[Int.toNat_natCast] at this;rw[this];rfl) (fun t ht=>by
       have:=(tJ Du ((x.toNat+t:Nat):Int) (by omega) (by omega)).2
       rwa [Int.toNat_natCast] at this)
     have x1:x < (m:Int):=(by omega);have x2:x < (cap:Int):=(by omega);have x3:¬ cap=x.toNat:=(by omega);have x4:x<=(cap:Int):=(by omega);obtain⟨zs,z1,z2,z3,z4⟩:=sU (base:=base) (g:=g) (cap:=cap) (m - x.toNat) x.toNat wr ys (by omega) (by rw[hlen];exact V_);have HZ2:=aj (And.intro (And.intro z1 z2) (And.intro z3 z4));have Zw:=aj Zv;have HJ:=aj Q0;have HIM:=aj him;clear z1 z2 z3 z4 Zv him Q0 hjm hij hlt;go_wp2;go_ret;refine⟨_,rfl,?_,QZ.out.2.trans HZ2.out.2.2,rfl⟩;have hfin:xs.filter (fun b=>b != (n:Int))=zs.take x.toNat:=by
      have h3:=hS.out.hd;rw[HJ.out,<-HM.out,List.take_length] at h3;rw[<-h3,HZ2.out.1.2,Zw.out]
     have hzl:zs.length=m:=(by rw[HZ2.out.1.1,hlen]);rw[hfin];exact RI.cut HZ2.out.2.1 x.toNat (by rw[hzl];have:=Zw.out;have:=HIM.out;omega)
end Go.Proofs.YtcaallkkeighdaaGreatDoor.P
namespace Go.Proofs.YtcaallkkeighdaaGreatDoor.P
open Go.RowKit aD aQ aR
attribute [local go_sem] cN cO dw dA mB
def dH.l0:Nat->Int->List Int->Int->Int->Option (Int)
 | 0,_,_,_,_=>none
 | k+1,x3,x6,x7,x8=>if x8 < x7 then (if 0<=x8 then (if x8 < (x6.length:Int) then (if (rd x6 x8)=x3 then (dH.l0 k x3 x6 x7 (wrap64 (x8+1))) else (some (rd x6 x8))) else (none)) else (none)) else (some x3)
def dH.f(k:Nat)(l0:List Int):Option (Int):=dH.l0 k 0 l0 (l0.length:Int) 0
theorem dH.calls(k:Nat)(A0:Option Addr)(c0:Nat)(l0:List Int)(r:Int)(w:World)(hr0:Kd.C (Kd.int .i64) w A0 l0.length l0)(hc0:l0.length<=c0)(h:dH.f k l0=some r) :
  Calls Tryz.prog 91 #[.slice A0 l0.length c0] w fun e w'=>e=.returned (.int .i64 r)/\aU w w':=by
 have HR0:=aj hr0;have HC0:=aj hc0;clear hr0 hc0;have H:(dH.l0 k 0 l0 (l0.length:Int) 0)=some r:=h;clear h;have H':=aj H;clear H;go_enter Tryz.func91,Tryz.ntmps91;go_wp2;go_loopg [8] k (fun kq v8 w'=>∃ (lG:Int),v8=.int .i64 lG/\aC (dH.l0 kq 0 l0 (l0.length:Int) lG=some r)/\aC (kq<=k)/\aU w w')
 case atStart=>exact⟨(0),(by first|rfl|(simp;done)|(simp[*];done)),H',⟨Nat.le_refl _⟩,by repeat(first|exact aU.refl _|apply aU.step)⟩
 case round =>
  clear H';obtain⟨lG,rfl,HA,HK1,⟨m1,rfl⟩⟩:=hrel;cases gk with
  | zero=>exact absurd HA.out (by simp[dH.l0])
  | succ k1 =>
   have H:=HA.out;clear HA;simp only[dH.l0] at H;by_cases c2:lG < (l0.length:Int)
   .rw[if_pos c2] at H;have wI:decide (lG < (l0.length:Int))=true:=decide_eq_true c2;clear c2;by_cases c3:0<=lG
    .rw[if_pos c3] at H;have yX:decide (0<=lG)=true:=decide_eq_true c3;clear c3;by_cases c4:lG < (l0.length:Int)
     .rw[if_pos c4] at H;have rT:decide (lG < (l0.length:Int))=true:=decide_eq_true c4;clear c4;by_cases c5:(rd l0 lG)=0
      .rw[if_pos c5] at H;have A_:((rd l0 lG) == 0)=true:=beq_iff_eq.mpr c5;have Qf:((rd l0 lG) != 0)=false:=bne_eq_false_iff_eq.mpr c5;clear c5;have H':=aj H;clear H;have p191:0<=(lG:Int):=of_decide_eq_true (by first|(with_reducible assumption)|assumption);have q191:lG < (l0.length:Int):=of_decide_eq_true (by first|(with_reducible assumption)|assumption);obtain⟨ad191,e191,Ow⟩:=Kd.J3 HR0.out lG p191 q191;cases e191
       replace p191:=eq_true p191;replace q191:=eq_true q191;go_wp2;go_roundg k1
       case measure=>have:=HK1.out;omega
       case rel=>exact⟨(wrap64 (lG+1)),(by first|rfl|(simp;done)|(simp[*];done)),H',⟨by have:=HK1.out;omega⟩,by repeat(first|exact aU.refl _|apply aU.step)⟩
      .rw[if_neg c5] at H;have A_:((rd l0 lG) == 0)=false:=beq_eq_false_iff_ne.mpr c5;have Qf:((rd l0 lG) != 0)=true:=bne_iff_ne.mpr c5;obtain rfl:=Option.some.inj H;have p191:0<=(lG:Int):=of_decide_eq_true (by first|(with_reducible assumption)|assumption);have q191:lG < (l0.length:Int):=of_decide_eq_true (by first|(with_reducible assumption)|assumption);obtain⟨ad191,e191,Ow⟩:=Kd.J3 HR0.out lG p191 q191;cases e191
       replace p191:=eq_true p191;replace q191:=eq_true q191;go_wp2;go_ret;exact⟨by first|rfl|(simp;done)|(simp[*];done),by repeat(first|exact aU.refl _|apply aU.step)⟩
     .rw[if_neg c4] at H;exact absurd H (by simp)
    .rw[if_neg c3] at H;exact absurd H (by simp)
   .rw[if_neg c2] at H;have wI:decide (lG < (l0.length:Int))=false:=decide_eq_false c2;clear c2;obtain rfl:=Option.some.inj H;go_wp2;go_ret;exact⟨by first|rfl|(simp;done)|(simp[*];done),by repeat(first|exact aU.refl _|apply aU.step)⟩
def cmp_isNaN_int.f(a0:Int):Option (Bool):=some (a0 != a0)
theorem cmp_isNaN_int.calls(a0:Int)(r:Bool)(w:World)(h:cmp_isNaN_int.f a0=some r) :
  Calls Tryz.prog 125 #[.int .i64 a0] w fun e w'=>e=.returned (.bool r)/\aU w w':=by
 have H:(some (a0 != a0))=some r:=h;clear h;obtain rfl:=Option.some.inj H;go_enter Tryz.func125,Tryz.ntmps125;go_wp2;go_ret;exact⟨by first|rfl|(simp;done)|(simp[*];done),by repeat(first|exact aU.refl _|apply aU.step)⟩
def cmp_Compare_int.f(a0:Int)(a1:Int):Option (Int):=(cmp_isNaN_int.f a0).bind fun t192=>((cmp_isNaN_int.f a1).bind fun t193=>(if t192=true then (if t193=true then (some 0) else (some (-1))) else (if t193=true then (some 1) else (if a0 < a1 then (some (-1)) else (if a0 > a1 then (some 1) else (some 0))))))
theorem cmp_Compare_int.calls(a0:Int)(a1:Int)(r:Int)(w:World)(h:cmp_Compare_int.f a0 a1=some r) :
  Calls Tryz.prog 92 #[.int .i64 a0,.int .i64 a1] w fun e w'=>e=.returned (.int .i64 r)/\aU w w':=by
 have H:((cmp_isNaN_int.f a0).bind fun t192=>((cmp_isNaN_int.f a1).bind fun t193=>(if t192=true then (if t193=true then (some 0) else (some (-1))) else (if t193=true then (some 1) else (if a0 < a1 then (some (-1)) else (if a0 > a1 then (some 1) else (some 0)))))))=some r:=h;clear h;replace H:=Option.bind_eq_some_iff.mp H;obtain⟨t192,A30,H⟩:=H;replace H:((cmp_isNaN_int.f a1).bind fun t193=>(if t192=true then (if t193=true then (some 0) else (some (-1))) else (if t193=true then (some 1) else (if a0 < a1 then (some (-1)) else (if a0 > a1 then (some 1) else (some 0))))))=some r:=H;have A3:=aj A30;clear A30;replace H:=Option.bind_eq_some_iff.mp H;obtain⟨t193,A40,H⟩:=H;replace H:(if t192=true then (if t193=true then (some 0) else (some (-1))) else (if t193=true then (some 1) else (if a0 < a1 then (some (-1)) else (if a0 > a1 then (some 1) else (some 0)))))=some r:=H;have A4:=aj A40;clear A40;by_cases c5:t192=true
 .subst c5;have H1:(if t193=true then (some 0) else (some (-1)))=some r:=by rw[if_pos rfl] at H;exact H
  clear H;have H:=H1;clear H1;by_cases c6:t193=true
  .subst c6;have H1:(some 0)=some r:=by rw[if_pos rfl] at H;exact H
   clear H;have H:=H1;clear H1;obtain rfl:=Option.some.inj H;go_enter Tryz.func92,Tryz.ntmps92;go_wp2_with (first|((with_reducible refine bJ (f:=125) rfl ?_);refine dV (some 8) rfl rfl Tryz.func125 (by kernel_rfl) rfl #[.int .i64 a0] rfl (by(try simp only[List.map_toArray,List.map_cons,List.map_nil]);first|done|rfl|(simp only[List.length_drop,List.length_take];rfl)) ?_;(with_reducible refine(cmp_isNaN_int.calls a0 true _ A3.out).mono ?_);rintro e w' ⟨rfl,⟨nd,rfl⟩⟩;refine⟨_,rfl,?_⟩)|((with_reducible refine bJ (f:=125) rfl ?_);refine dV (some 10) rfl rfl Tryz.func125 (by kernel_rfl) rfl #[.int .i64 a1] rfl (by(try simp only[List.map_toArray,List.map_cons,List.map_nil]);first|done|rfl|(simp only[List.length_drop,List.length_take];rfl)) ?_;(with_reducible refine(cmp_isNaN_int.calls a1 true _ A4.out).mono ?_);rintro e w' ⟨rfl,⟨nd,rfl⟩⟩;refine⟨_,rfl,?_⟩));go_ret;exact⟨by first|rfl|(simp;done)|(simp[*];done),by repeat(first|exact aU.refl _|apply aU.step)⟩
  .replace c6:=Bool.eq_false_iff.mpr c6;subst c6;have H1:(some (-1))=some r:=by rw[if_neg (show ¬ (false=true) by decide)] at H;exact H
   clear H;have H:=H1;clear H1;obtain rfl:=Option.some.inj H;go_enter Tryz.func92,Tryz.ntmps92;go_wp2_with (first|((with_reducible refine bJ (f:=125) rfl ?_);refine dV (some 8) rfl rfl Tryz.func125 (by kernel_rfl) rfl #[.int .i64 a0] rfl (by(try simp only[List.map_toArray,List.map_cons,List.map_nil]);first|done|rfl|(simp only[List.length_drop,List.length_take];rfl)) ?_;(with_reducible refine(cmp_isNaN_int.calls a0 true _ A3.out).mono ?_);rintro e w' ⟨rfl,⟨nd,rfl⟩⟩;refine⟨_,rfl,?_⟩)|((with_reducible refine bJ (f:=125) rfl ?_);refine dV (some 10) rfl rfl Tryz.func125 (by kernel_rfl) rfl #[.int .i64 a1] rfl (by(try simp only[List.map_toArray,List.map_cons,List.map_nil]);first|done|rfl|(simp only[List.length_drop,List.length_take];rfl)) ?_;(with_reducible refine(cmp_isNaN_int.calls a1 false _ A4.out).mono ?_);rintro e w' ⟨rfl,⟨nd,rfl⟩⟩;refine⟨_,rfl,?_⟩));go_ret;exact⟨by first|rfl|(simp;done)|(simp[*];done),by repeat(first|exact aU.refl _|apply aU.step)⟩
 .replace c5:=Bool.eq_false_iff.mpr c5;subst c5;have H1:(if t193=true then (some 1) else (if a0 < a1 then (some (-1)) else (if a0 > a1 then (some 1) else (some 0))))=some r:=by rw[if_neg (show ¬ (false=true) by decide)] at H;exact H
  clear H;have H:=H1;clear H1;by_cases c7:t193=true
  .subst c7;have H1:(some 1)=some r:=by rw[if_pos rfl] at H;exact H
   clear H;have H:=H1;clear H1;obtain rfl:=Option.some.inj H;go_enter Tryz.func92,Tryz.ntmps92;go_wp2_with (first|((with_reducible refine bJ (f:=125) rfl ?_);refine dV (some 8) rfl rfl Tryz.func125 (by kernel_rfl) rfl #[.int .i64 a0] rfl (by(try simp only[List.map_toArray,List.map_cons,List.map_nil]);first|done|rfl|(simp only[List.length_drop,List.length_take];rfl)) ?_;(with_reducible refine(cmp_isNaN_int.calls a0 false _ A3.out).mono ?_);rintro e w' ⟨rfl,⟨nd,rfl⟩⟩;refine⟨_,rfl,?_⟩)|((with_reducible refine bJ (f:=125) rfl ?_);refine dV (some 10) rfl rfl Tryz.func125 (by kernel_rfl) rfl #[.int .i64 a1] rfl (by(try simp only[List.map_toArray,List.map_cons,List.map_nil]);first|done|rfl|(simp only[List.length_drop,List.length_take];rfl)) ?_;(with_reducible refine(cmp_isNaN_int.calls a1 true _ A4.out).mono ?_);rintro e w' ⟨rfl,⟨nd,rfl⟩⟩;refine⟨_,rfl,?_⟩));go_ret;exact⟨by first|rfl|(simp;done)|(simp[*];done),by repeat(first|exact aU.refl _|apply aU.step)⟩
  .replace c7:=Bool.eq_false_iff.mpr c7;subst c7;have H1:(if a0 < a1 then (some (-1)) else (if a0 > a1 then (some 1) else (some 0)))=some r:=by rw[if_neg (show ¬ (false=true) by decide)] at H;exact H
   clear H;have H:=H1;clear H1;by_cases c8:a0 < a1
   .rw[if_pos c8] at H;have Kn:decide (a0 < a1)=true:=decide_eq_true c8;clear c8;obtain rfl:=Option.some.inj H;go_enter Tryz.func92,Tryz.ntmps92;go_wp2_with (first|((with_reducible refine bJ (f:=125) rfl ?_);refine dV (some 8) rfl rfl Tryz.func125 (by kernel_rfl) rfl #[.int .i64 a0] rfl (by(try simp only[List.map_toArray,List.map_cons,List.map_nil]);first|done|rfl|(simp only[List.length_drop,List.length_take];rfl)) ?_;(with_reducible refine(cmp_isNaN_int.calls a0 false _ A3.out).mono ?_);rintro e w' ⟨rfl,⟨nd,rfl⟩⟩;refine⟨_,rfl,?_⟩)|((with_reducible refine bJ (f:=125) rfl ?_);refine dV (some 10) rfl rfl Tryz.func125 (by kernel_rfl) rfl #[.int .i64 a1] rfl (by(try simp only[List.map_toArray,List.map_cons,List.map_nil]);first|done|rfl|(simp only[List.length_drop,List.length_take];rfl)) ?_;(with_reducible refine(cmp_isNaN_int.calls a1 false _ A4.out).mono ?_);rintro e w' ⟨rfl,⟨nd,rfl⟩⟩;refine⟨_,rfl,?_⟩));go_ret;exact⟨by first|rfl|(simp;done)|(simp[*];done),by repeat(first|exact aU.refl _|apply aU.step)⟩
   .rw[if_neg c8] at H;have Kn:decide (a0 < a1)=false:=decide_eq_false c8;clear c8;by_cases c9:a0 > a1
    .rw[if_pos c9] at H;have EK:decide (a1 < a0)=true:=decide_eq_true c9;clear c9;obtain rfl:=Option.some.inj H;go_enter Tryz.func92,Tryz.ntmps92;go_wp2_with (first|((with_reducible refine bJ (f:=125) rfl ?_);refine dV (some 8) rfl rfl Tryz.func125 (by kernel_rfl) rfl #[.int .i64 a0] rfl (by(try simp only[List.map_toArray,List.map_cons,List.map_nil]);first|done|rfl|(simp only[List.length_drop,List.length_take];rfl)) ?_;(with_reducible refine(cmp_isNaN_int.calls a0 false _ A3.out).mono ?_);rintro e w' ⟨rfl,⟨nd,rfl⟩⟩;refine⟨_,rfl,?_⟩)|((with_reducible refine bJ (f:=125) rfl ?_);refine dV (some 10) rfl rfl Tryz.func125 (by kernel_rfl) rfl #[.int .i64 a1] rfl (by(try simp only[List.map_toArray,List.map_cons,List.map_nil]);first|done|rfl|(simp only[List.length_drop,List.length_take];rfl)) ?_;(with_reducible refine(cmp_isNaN_int.calls a1 false _ A4.out).mono ?_);rintro e w' ⟨rfl,⟨nd,rfl⟩⟩;refine⟨_,rfl,?_⟩));go_ret;exact⟨by first|rfl|(simp;done)|(simp[*];done),by repeat(first|exact aU.refl _|apply aU.step)⟩
    .rw[if_neg c9] at H;have EK:decide (a1 < a0)=false:=decide_eq_false c9;clear c9;obtain rfl:=Option.some.inj H;go_enter Tryz.func92,Tryz.ntmps92;go_wp2_with (first|((with_reducible refine bJ (f:=125) rfl ?_);refine dV (some 8) rfl rfl Tryz.func125 (by kernel_rfl) rfl #[.int .i64 a0] rfl (by(try simp only[List.map_toArray,List.map_cons,List.map_nil]);first|done|rfl|(simp only[List.length_drop,List.length_take];rfl)) ?_;(with_reducible refine(cmp_isNaN_int.calls a0 false _ A3.out).mono ?_);rintro e w' ⟨rfl,⟨nd,rfl⟩⟩;refine⟨_,rfl,?_⟩)|((with_reducible refine bJ (f:=125) rfl ?_);refine dV (some 10) rfl rfl Tryz.func125 (by kernel_rfl) rfl #[.int .i64 a1] rfl (by(try simp only[List.map_toArray,List.map_cons,List.map_nil]);first|done|rfl|(simp only[List.length_drop,List.length_take];rfl)) ?_;(with_reducible refine(cmp_isNaN_int.calls a1 false _ A4.out).mono ?_);rintro e w' ⟨rfl,⟨nd,rfl⟩⟩;refine⟨_,rfl,?_⟩));go_ret;exact⟨by first|rfl|(simp;done)|(simp[*];done),by repeat(first|exact aU.refl _|apply aU.step)⟩
end Go.Proofs.YtcaallkkeighdaaGreatDoor.P
namespace Go.Proofs.YtcaallkkeighdaaGreatDoor.P
open Go.RowKit aD aQ aR
section
variable{n:Nat}{P:Program}{ops:Array Oper}{md:Region.Mode}{C:World->Prop}{Q:Exit->Act->World->Prop}
theorem Oper.xJ{o:Oper}{a:Act}{w:World}{K:Act->World->Prop}(h:Oper.wp P o a w K Q):Oper.wpIn Fence.wide n P o a w K Q:=by
 refine⟨fun _ _=>trivial,?_⟩;show o.uponIn Fence.wide n P a K Q ((execOp a.eval o).run P w);unfold Oper.wp at h;generalize (execOp a.eval o).run P w=r at *;have hd:Fence.wide.depth.isSome=true->1<=n:=fun q=>by simp[Fence.wide] at q
 cases r with
 | ok x w' =>
  cases x<;>simp only[Oper.upon,Oper.uponIn] at h ⊢ <;>
   first
    | exact h
    | exact⟨hd,callsIn_wide.2 h⟩
    | exact⟨hd,fun c cs _=>let ⟨v,w',r,s⟩:=h c cs;⟨v,w',r,stepsIn_wide.2 s⟩⟩
    | exact h.elim
 | halt x w'=>cases x<;>simp only[Oper.upon,Oper.uponIn] at h ⊢<;>exact h
theorem zw{i:Nat}{a:Act}{K:Act->Prop}{K':Act->World->Prop}{w:World}(hC:C w)(h:∀ a w',C w'->K a->K' a w')(hh:qOp P ops C i K a):wpOpIn Fence.wide n P ops Q i K' a w:=by
 unfold qOp at hh;unfold wpOpIn;split
 .rename_i ho;simp only[ho] at hh;exact h _ _ hC hh
 .rename_i o ho
  simp only[ho] at hh;split
  .rename_i hw;simp only[hw,if_true] at hh;exact Oper.xJ (Oper.wp_of_quiet hC h hh)
  .rename_i hw;simp only[hw] at hh;exact⟨fun _ _=>trivial,h _ _ hC hh⟩
theorem uZ{m g:Nat}{L:Array Bool->Act->Prop}(hL:∀ listed a w,C w->L listed a->wpAnyIn Fence.wide n P md ops Q g listed a w) :
  ∀ (f:Nat) (listed:Array Bool) (a:Act) (w:World),C w->rW P md ops C m L f listed a->wpAnyIn Fence.wide n P md ops Q (f+g) listed a w
 | 0,listed,a,w,hw,h=>by rw[Nat.zero_add];exact hL _ _ _ hw h
 | f+1,listed,a,w,hw,h=>by
  rw[Nat.add_right_comm];exact⟨fun h0=>absurd h0 h.1,fun i hi=>zw hw (fun a' w' hw' h'=>uZ hL f _ a' w' hw' h') (h.2 i hi).2⟩
theorem oN:∀ (l:List Oper) (k:Nat) (listed:Array Bool) (a:Act) (w:World),(∀ j,l[j]? = ops[k+j]?)->Region.seqB md ops l.length k listed=true->wpListIn Fence.wide n P ops Q l a w->wpAnyIn Fence.wide n P md ops Q l.length listed a w
 | [],_,_,_,_,_,hB,h=>⟨by simpa [Region.seqB] using hB,h⟩
 | o :: l,k,listed,a,w,hl,hB,h=>by
  have h0:ops[k]? = some o:=by simpa using (hl 0).symm
  simp only[List.length_cons,Region.seqB,Bool.and_eq_true,decide_eq_true_eq] at hB;refine⟨fun h1=>(by rw[hB.1] at h1;cases h1),fun i hi=>?_⟩;rw[hB.1] at hi;obtain rfl:=List.mem_singleton.1 hi;have ih:=fun a w=>oN l (i+1) (listed.setIfInBounds i true) a w (fun j=>by have:=hl (j+1);simpa [Nat.add_assoc,Nat.add_comm 1 j] using this) hB.2
  unfold wpOpIn;simp only[h0];unfold wpListIn at h;split at h
  .rename_i hw;rw[if_pos hw];exact Oper.wpIn_mono ih h
  .rename_i hw;rw[if_neg hw];exact⟨fun _ _=>trivial,ih _ _ h.2⟩
theorem u_{l:List Oper}(k m g f:Nat){listed:Array Bool}{a:Act}{w:World}(hsel:Region.noSelect l.toArray=true)(hs:Region.sinkB md l.toArray m=true)(hc:Region.chainB md l.toArray m=true)(hm:m < l.length)(hk:k<=m)(hg:g=l.length - m)(hf:f=l.length - k)
  (inv:HeadInv md l.toArray m listed) (hB:Region.lexHead md l.toArray g (m - k) k listed=true) (hw:C w)
  (h:wpQuiet P l.toArray C (fun a'=>∀ w',C w'->wpListIn Fence.wide n P l.toArray Q (l.drop m) a' w') ((l.drop k).take (m - k)) a):wpAnyIn Fence.wide n P md l.toArray Q f listed a w:=by
 have hlen:((l.drop k).take (m - k)).length=m - k:=by simp;omega
 have H:=tQ (P:=P) (ops:=l.toArray) (md:=md) (C:=C) (n:=m) (g:=g) hsel hs hc (by simpa using hm) ((l.drop k).take (m - k)) k listed a (fun j hj=>by
  have hj':j < m - k:=by rw[hlen] at hj;exact hj
  simp[List.getElem?_take,hj']) (by rw[hlen];omega) inv (by rw[hlen];exact hB) h
 have hdl:(l.drop m).length=g:=by simp[hg]
 have:=uZ (n:=n) (Q:=Q) (g:=g) (fun listed' a' w' hw' hL=>by
  have h1:=oN (n:=n) (Q:=Q) (l.drop m) m listed' a' w' (fun j=>by simp) (by rw[hdl];exact hL.1) (hL.2 w' hw');rw[hdl] at h1;exact h1) _ _ _ _ hw H
 rw[hlen] at this
 rwa [show m - k+g=f by omega] at this
theorem uf{id:Nat}{a:Act}{w:World}{l:List Oper}(m:Nat)(hm:P.follows .mixedOrders=true)(hB:Region.lexTailB .any l.toArray m=true)
  (h:wpQuiet P l.toArray (fun w'=>∃ i:Bx w,w'=i.W) (fun a'=>∀ w',Below w.heap.size w w'->wpListIn Fence.wide n P l.toArray Q (l.drop m) a' w') (l.take m) a):(Code.region id l.toArray true).wpIn Fence.wide n P Q a w:=by
 simp only[Region.lexTailB,Bool.and_eq_true,decide_eq_true_eq] at hB;obtain⟨⟨⟨⟨hsel,hn⟩,hs⟩,hc⟩,hlex⟩:=hB
 have inv0:HeadInv .any l.toArray m (Array.replicate l.toArray.size false) :=
  ⟨by simp,fun j oj _ hl=>(by rw[getD_replicate_false] at hl;cases hl),fun t _ ht=>getD_in (by simpa using ht) (getD_replicate_false _ _)⟩
 refine wpIn_region_any hm ?_;refine u_ (C:=fun w'=>∃ i:Bx w,w'=i.W) (l:=l) 0 m (l.toArray.size - m) l.toArray.size hsel hs hc (by simpa using hn) (Nat.zero_le _) (by simp) (by simp) inv0 hlex ⟨⟨_,(Below.refl _ w).drew⟩,rfl⟩ ?_;rw[List.drop_zero,Nat.sub_zero]
 suffices hh:∀ (l':List Oper) (a:Act),wpQuiet P l.toArray (fun w'=>∃ i:Bx w,w'=i.W) (fun a'=>∀ w',Below w.heap.size w w'->wpListIn Fence.wide n P l.toArray Q (l.drop m) a' w') l' a->wpQuiet P l.toArray (fun w'=>∃ i:Bx w,w'=i.W) (fun a'=>∀ w',(∃ i:Bx w,w'=i.W)->wpListIn Fence.wide n P l.toArray Q (l.drop m) a' w') l' a from hh _ _ h
 intro l'
 induction l' with
 | nil=>rintro a h w' ⟨i,rfl⟩;exact h _ i.hb
 | cons o rest ih =>
  intro a h;unfold wpQuiet at h ⊢;split
  .rename_i hw;rw[if_pos hw] at h;exact Oper.quiet_mono (fun a' h'=>ih a' h') h
  .rename_i hw;rw[if_neg hw] at h;exact ih _ h
end
end Go.Proofs.YtcaallkkeighdaaGreatDoor.P
