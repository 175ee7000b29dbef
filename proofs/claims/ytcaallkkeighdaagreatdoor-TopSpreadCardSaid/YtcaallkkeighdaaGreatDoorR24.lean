/- least.setter's follows,ratio,demerits answer as the plain functions. Contracts of Go's library at this program: slices.Sort;the conditions stand in each statement. -/
import Derived.Shelf.Sort.Plain
import Derived.Shelf.Slices.In.SortNone
import Derived.Test.YtcaallkkeighdaaGreatDoorR23
set_option maxRecDepth 100000
set_option maxHeartbeats 16000000
set_option linter.unusedVariables false
set_option linter.unusedSimpArgs false
namespace Go.Proofs.YtcaallkkeighdaaGreatDoor.P
open Go.RowKit aD aQ aR
attribute [local go_sem] cN cO dw dA
theorem lu{w:World}{bs n:Nat}{l:List S75}{A:Option Addr}{c:Nat}{A2:Option Addr}{m c2:Nat}{r:S30}{S:List S30}{g4 g5 g6 g7:Nat}(h:M4 w bs n l A c A2 m c2 r S g4 g5 g6 g7)(bf y:Int)(b:Nat)(hf0 : -1<=bf)(hf1:bf<=(n:Int))(hy:y=(b:Int))(hb:b<=n)(q:Bool)(hq:gJ l bf b=q) :
  Calls Tryz.prog 89 #[.pointer (some ⟨bs,0,none⟩),.int .i64 bf,.int .i64 y] w fun e w'=>e=.returned (.bool q)/\Below w.heap.size w w':=by
 have H:=aj h;have HY:=aj hy;have HN:=aj h.hn;have HN8:=aj h.hn8;have HF:=aj (And.intro hf0 hf1);have Eu:=aj hb;have x0:w.cell? ⟨bs,0,none⟩=some (.slice A n c):=(ak h.st.box 0).trans rfl;obtain⟨a,ha⟩:∃ a:Int,((lstart l bf:Nat):Int)=a:=⟨_,rfl⟩;have HA:=aj ha;have r0:0<=y:=by omega
 by_cases xH:b=n
 .have d1:(y == (n:Int))=true:=by rw[hy,xH];exact beq_self_eq_true _
  have hq':(decide (lstart l bf < b) || (kf l && decide (bf < 0)))=q:=by rw[<-hq];unfold gJ;rw[if_pos (by rw[h.hn];exact xH)]
  by_cases hlt:lstart l bf < b
  .have d2:decide (a < y)=true:=decide_eq_true (by omega);have HQ:=aj (show true=q by rw[<-hq',decide_eq_true hlt];rfl);clear h hy hb hf0 hf1 ha xH hq hq' hlt;go_enter Tryz.func89,Tryz.ntmps89;go_wp2_with (go_at_call 47;go_loud(refine(dP H.out.st HN.out HN8.out bf HF.out.1 HF.out.2 a HA.out).mono ?_;rintro e w1 ⟨rfl,rfl⟩));go_ret;exact⟨dQ HQ.out.symm,Below.refl _ _⟩
  .have d2:decide (a < y)=false:=decide_eq_false (by omega);have HQ:=aj (show(kf l && decide (bf < 0))=q by rw[<-hq',decide_eq_false hlt];rfl);obtain⟨em,hem⟩:∃ em,kf l=em:=⟨_,rfl⟩;have Ou:=aj hem;clear h hy hb hf0 hf1 ha xH hq hq' hlt;cases em with
   | true =>
    have HQ2:=aj (show decide (bf < 0)=q by rw[<-HQ.out,hem];rfl);clear hem;go_enter Tryz.func89,Tryz.ntmps89;go_wp2_with (first|(go_at_call 47;go_loud(refine(dP H.out.st HN.out HN8.out bf HF.out.1 HF.out.2 a HA.out).mono ?_;rintro e w1 ⟨rfl,rfl⟩))|(go_at_call 45;go_loud(refine(kJ H.out.st HN.out HN8.out true Ou.out).mono ?_;rintro e w2 ⟨rfl,hb2⟩)));go_ret;exact⟨dQ (by first|exact HQ2.out.symm|(rw[<-HQ2.out];simp)),hb2⟩
   | false =>
    have HQ2:=aj (show false=q by rw[<-HQ.out,hem];rfl);clear hem;go_enter Tryz.func89,Tryz.ntmps89;go_wp2_with (first|(go_at_call 47;go_loud(refine(dP H.out.st HN.out HN8.out bf HF.out.1 HF.out.2 a HA.out).mono ?_;rintro e w1 ⟨rfl,rfl⟩))|(go_at_call 45;go_loud(refine(kJ H.out.st HN.out HN8.out false Ou.out).mono ?_;rintro e w2 ⟨rfl,hb2⟩)));go_ret;exact⟨dQ HQ2.out.symm,hb2⟩
 .have d1:(y == (n:Int))=false:=by rw[beq_eq_false_iff_ne];omega
  have hq':(eH l b && (decide (lstart l bf < b) && decide (gD l b < l.length)))=q:=by rw[<-hq];unfold gJ;rw[if_neg (by rw[h.hn];exact xH)]
  obtain⟨lg,QX⟩:∃ lg,eH l b=lg:=⟨_,rfl⟩;have Lj:=aj QX;have e0:(lstart l y:Int)=((gD l b:Nat):Int):=by unfold lstart;rw[if_neg (by omega),hy];rfl
  obtain⟨a2,ha2⟩:∃ a:Int,((lstart l y:Nat):Int)=a:=⟨_,rfl⟩;have HA2:=aj ha2;cases lg with
  | false =>
   have HQ:=aj (show false=q by rw[<-hq',QX];rfl);clear h hy hb hf0 hf1 ha xH hq hq' QX e0 ha2;go_enter Tryz.func89,Tryz.ntmps89;go_upto_region 4 with(go_at_call 47;go_loud(refine(dP H.out.st HN.out HN8.out bf HF.out.1 HF.out.2 a HA.out).mono ?_;rintro e w1 ⟨rfl,rfl⟩));have y0:=Bx.cell x0;refine aZ (by kernel_rfl) (by kernel_rfl) ?_
   repeat(go_big_quiet_step ((go_at_call 123;exact Bx.cu ((nG (H.out.below (Bx.hb _)).st HN.out HN8.out y b HY.out Eu.out false Lj.out).mono (fun e w' ⟨q,q2⟩=>⟨q,by rw[<-q2];exact Below.refl _ _⟩)))))
   refine wpQuiet_nil ?_;intro w7 hb7;clear y0;go_wp2;go_ret;exact⟨dQ HQ.out.symm,hb7⟩
  | true =>
   by_cases hlt:lstart l bf < b
   .have d2:decide (a < y)=true:=decide_eq_true (by omega);have HQ:=aj (show decide (a2 < (n:Int))=q by rw[<-hq',QX,decide_eq_true hlt,<-ha2,e0,<-h.hn];simp);have VO:=aj (show -1<=y/\y<=(n:Int) by omega);clear h hy hb hf0 hf1 ha xH hq hq' QX hlt e0 ha2;go_enter Tryz.func89,Tryz.ntmps89;go_upto_region 4 with(go_at_call 47;go_loud(refine(dP H.out.st HN.out HN8.out bf HF.out.1 HF.out.2 a HA.out).mono ?_;rintro e w1 ⟨rfl,rfl⟩));have y0:=Bx.cell x0;refine aZ (by kernel_rfl) (by kernel_rfl) ?_
    repeat(go_big_quiet_step ((first|(go_at_call 123;exact Bx.cu ((nG (H.out.below (Bx.hb _)).st HN.out HN8.out y b HY.out Eu.out true Lj.out).mono (fun e w' ⟨q,q2⟩=>⟨q,by rw[<-q2];exact Below.refl _ _⟩)))|(go_at_call 47;exact Bx.cu ((dP (H.out.below (Bx.hb _)).st HN.out HN8.out y VO.out.1 VO.out.2 a2 HA2.out).mono (fun e w' ⟨q,q2⟩=>⟨q,by rw[<-q2];exact Below.refl _ _⟩))))))
    refine wpQuiet_nil ?_;intro w7 hb7;clear y0;go_wp2;go_ret;exact⟨dQ HQ.out.symm,hb7⟩
   .have d2:decide (a < y)=false:=decide_eq_false (by omega);have HQ:=aj (show false=q by rw[<-hq',QX,decide_eq_false hlt];rfl);clear h hy hb hf0 hf1 ha xH hq hq' QX hlt e0 ha2;go_enter Tryz.func89,Tryz.ntmps89;go_upto_region 4 with(go_at_call 47;go_loud(refine(dP H.out.st HN.out HN8.out bf HF.out.1 HF.out.2 a HA.out).mono ?_;rintro e w1 ⟨rfl,rfl⟩));have y0:=Bx.cell x0;refine aZ (by kernel_rfl) (by kernel_rfl) ?_
    repeat(go_big_quiet_step ((go_at_call 123;exact Bx.cu ((nG (H.out.below (Bx.hb _)).st HN.out HN8.out y b HY.out Eu.out true Lj.out).mono (fun e w' ⟨q,q2⟩=>⟨q,by rw[<-q2];exact Below.refl _ _⟩)))))
    refine wpQuiet_nil ?_;intro w7 hb7;clear y0;go_wp2;go_ret;exact⟨dQ HQ.out.symm,hb7⟩
theorem sR{w:World}{bs n:Nat}{l:List S75}{A:Option Addr}{c:Nat}{A2:Option Addr}{m c2:Nat}{r:S30}{S:List S30}{g4 g5 g6 g7:Nat}(h:M4 w bs n l A c A2 m c2 r S g4 g5 g6 g7)(x y z:Int)(a b k:Nat)(hx:x=(a:Int))(hy:y=(b:Int))(hz:z=(k:Int))(ha:a<=n)(hb:b<=n)(v:Int)(ok:Bool)(hq:iZ l (bG S r k).f1 a b=(v,ok)) :
  Calls Tryz.prog 124 #[.pointer (some ⟨bs,0,none⟩),.int .i64 x,.int .i64 y,.int .i64 z] w fun e w'=>e=.returned (.tuple #[.int .i64 v,.bool ok])/\Below w.heap.size w w':=by
 have H:=aj h;have HX:=aj (And.intro hx ha);have HY:=aj (And.intro hy hb);have HZ:=aj hz;have x0:w.cell? ⟨bs,0,none⟩=some (.slice A n c):=(ak h.st.box 0).trans rfl;have x1:w.cell? ⟨bs,1,none⟩=some (.slice A2 m c2):=(ak h.st.box 1).trans rfl;have x2:w.cell? ⟨bs,2,none⟩=some (.int .i64 r.f0):=(ak h.st.box 2).trans rfl;have x3:w.cell? ⟨bs,3,none⟩=some (.int .i64 r.f1):=(ak h.st.box 3).trans rfl;obtain⟨R,hR⟩:∃ R,(bG S r k).f1=R:=⟨_,rfl⟩;obtain⟨X,hX⟩:∃ X,(bG S r k).f0=X:=⟨_,rfl⟩;have GX:=aj (show 0<=R/\R<=4095 by have:=fU h.h0 k;omega);rw[hR] at hq;have HR:=aj (And.intro hX hR);have hE:=vO l a b (by rw[h.hn];exact ha) (by rw[h.hn];exact hb);have he:=BN l a b x hx;obtain⟨u,hu⟩:∃ z:Int,((iB l a b:Nat):Int)=z:=⟨_,rfl⟩;rw[hu] at he;have HE:=aj he;have HU:=aj (And.intro hu.symm (show iB l a b<=n by have:=h.hn;omega));obtain⟨W,hW⟩:∃ W,nZ l a b=W:=⟨_,rfl⟩;have HW:=aj hW;have Pb:=aj (show 0<=W/\W<=17181966336 by rw[<-hW];exact wY l h.hi (by rw[h.hn];exact h.hn8) a b (by rw[h.hn];exact ha) (by rw[h.hn];exact hb));have HQ:=aj hq;have hf30:=BO X R;have q0:0<=x:=by omega
 have q1:x < (n:Int)+1:=by omega
 have r0:0<=y:=by omega
 have r1:y < (n:Int)+1:=by omega
 have u0:0<=u:=by omega
 have u1:u < (n:Int)+1:=by have:=h.hn;omega
 clear h hx hy ha hb hz hR hX hE hu hW hq he;go_enter Tryz.func124,Tryz.ntmps124;go_upto_region 1 with(fail);have y1:=Bx.cell x1;have y2:=Bx.cell x2;have y3:=Bx.cell x3;refine aZ (by kernel_rfl) (by kernel_rfl) ?_
 repeat(go_big_quiet_step ((first|(go_at_call 48;exact Bx.cu (xG (H.out.below (Bx.hb _)) x y a b HX.out.1 HY.out.1 HX.out.2 HY.out.2 W HW.out))|(go_at_call 22;exact Bx.cu (vR (Kd.aM H.out.hs (Bx.hb _)) H.out.hm H.out.hc2 z k HZ.out X R HR.out.1 HR.out.2)))))
 refine wpQuiet_nil ?_;intro w1 hb1;have H':=aj (H.out.below hb1);have HB1:=aj hb1;clear y1 y2 y3 x0 x1 x2 x3 hf30 hb1;have x0:w1.cell? ⟨bs,0,none⟩=some (.slice A n c):=(ak H'.out.st.box 0).trans rfl;have x7:w1.cell? ⟨bs,7,none⟩=some (.slice (some ⟨g7,0,none⟩) (n+1) (n+1)):=(ak H'.out.st.box 7).trans rfl;have t7:=jF H'.out.st.r7 y b HY.out.1 HY.out.2;have he:=HE.out;generalize (gP l b:Int)=s7 at *;go_upto_region 3 with(fail);have hwr:=Pb.out;have hrr:=GX.out;clear x7 t7 he;by_cases c1:W=R
 .have d1:(W == R)=true:=by simp[c1]
  have HQ2:=aj (show v=0/\ok=true by
   have:=HQ.out;unfold iZ at this;rw[HW.out,if_pos (.inl c1)] at this;exact⟨(congrArg Prod.fst this).symm,(congrArg Prod.snd this).symm⟩)
  clear c1;go_wp2;go_ret2;exact⟨mq HQ2.out.1 HQ2.out.2,HB1.out⟩
 .have d1:(W == R)=false:=by simpa using c1
  by_cases H6:W < R
  .have d2:decide (W < R)=true:=decide_eq_true H6;by_cases c3:b=n
   .have d3:(y == (n:Int))=true:=(by rw[HY.out.1,c3];exact beq_self_eq_true _);have HQ2:=aj (show v=0/\ok=true by
     have:=HQ.out;unfold iZ at this;rw[HW.out,if_pos (.inr ⟨H6,by rw[H.out.hn];exact c3⟩)] at this;exact⟨(congrArg Prod.fst this).symm,(congrArg Prod.snd this).symm⟩)
    clear c1 H6 c3;go_wp2;go_ret2;exact⟨mq HQ2.out.1 HQ2.out.2,HB1.out⟩
   .have d3:(y == (n:Int))=false:=(by rw[beq_eq_false_iff_ne,HY.out.1];omega);have hq2:=HQ.out;unfold iZ at hq2;rw[HW.out,if_neg (by rintro(q|q);exact c1 q;exact c3 (q.2.trans H.out.hn)),if_pos H6] at hq2;have hsp:=jB jq l 4095 (by decide) (by decide) (sH H.out.hi) (by rw[H.out.hn];exact H.out.hn8) a b (by rw[H.out.hn];exact HX.out.2) (by rw[H.out.hn];exact HY.out.2);have xo:w1.cell? ⟨bs,5,none⟩=some (.slice (some ⟨g5,0,none⟩) (n+1) (n+1)):=(ak H'.out.st.box 5).trans rfl;have t5:=jF H'.out.st.r5 x a HX.out.1 HX.out.2;have Tx:=jF H'.out.st.r5 u (iB l a b) HU.out.1 HU.out.2;have hs1:=dD jq l 4095 (by decide) (by decide) (sH H.out.hi) (by rw[H.out.hn];exact H.out.hn8) (iB l a b) (by rw[H.out.hn];exact HU.out.2);have hs2:=dD jq l 4095 (by decide) (by decide) (sH H.out.hi) (by rw[H.out.hn];exact H.out.hn8) a (by rw[H.out.hn];exact HX.out.2);have hes:bY jq l (iB l a b) - bY jq l a=span jq l a b:=rfl;obtain⟨G,hG⟩:∃ G,span jq l a b=G:=⟨_,rfl⟩;rw[hG] at hes hsp hq2;have HQ2:=aj hq2;generalize bY jq l (iB l a b)=e5 at *;generalize bY jq l a=a5 at *;have hw5:IntKind.i64.wrap (e5 - a5)=e5 - a5:=IntWalk.i64_in _ (by omega);clear c1 c3 hG hq2;go_upto_region 7 with(fail);have yo:=Bx.cell xo;have yt:=Bx.cell t5;have XH:=Bx.cell Tx;have HC2:=aj H6;clear H6;refine aZ (by kernel_rfl) (by kernel_rfl) ?_
    repeat(go_big_quiet_step (fail))
    refine wpQuiet_nil ?_;intro w7 hb7;clear yo yt XH xo t5 Tx hw5 hs1 hs2 hes;have HB7:=aj (HB1.out.trans (hb7.mono HB1.out.size));by_cases c4:G=0
    .have d4:(G == 0)=true:=(by simp[c4]);have HQ3:=aj (show v=0/\ok=false by
      have:=HQ2.out;rw[if_pos c4] at this;exact⟨(congrArg Prod.fst this).symm,(congrArg Prod.snd this).symm⟩)
     clear c4;go_wp2;go_ret2;exact⟨mq HQ3.out.1 HQ3.out.2,HB7.out⟩
    .have d4:(G == 0)=false:=(by simpa using c4);have HQ3:=aj (show v=1000 * (R - W) / G/\ok=decide (1000 * (R - W) / G<=3000) by
      have:=HQ2.out;rw[if_neg c4] at this;exact⟨(congrArg Prod.fst this).symm,(congrArg Prod.snd this).symm⟩)
     have hG0:0 < G:=(by omega);have hN0:0<=1000 * (R - W):=(by have:=HC2.out;omega);have hN1:1000 * (R - W)<=5000000:=(by omega);obtain⟨D,hD⟩:∃ D,1000 * (R - W) / G=D:=⟨_,rfl⟩;have HD:=aj hD;have hD0:0<=D:=(by rw[<-hD];exact Int.ediv_nonneg hN0 (by omega));have hD1:D<=5000000:=(by rw[<-hD];exact Int.le_trans (Int.ediv_le_self _ hN0) hN1);clear c4;go_wp2;go_ret2;exact⟨mq (by first|exact HQ3.out.1|(rw[HQ3.out.1,HD.out])) (by first|exact HQ3.out.2|(rw[HQ3.out.2,HD.out])),HB7.out⟩
  .have d2:decide (W < R)=false:=decide_eq_false H6;have hq2:=HQ.out;unfold iZ at hq2;rw[HW.out,if_neg (by rintro(q|q);exact c1 q;exact H6 q.1),if_neg H6] at hq2;have hsp:=jB iy l 4095 (by decide) (by decide) (nB H.out.hi) (by rw[H.out.hn];exact H.out.hn8) a b (by rw[H.out.hn];exact HX.out.2) (by rw[H.out.hn];exact HY.out.2);have xo:w1.cell? ⟨bs,6,none⟩=some (.slice (some ⟨g6,0,none⟩) (n+1) (n+1)):=(ak H'.out.st.box 6).trans rfl;have t5:=jF H'.out.st.r6 x a HX.out.1 HX.out.2;have Tx:=jF H'.out.st.r6 u (iB l a b) HU.out.1 HU.out.2;have hs1:=dD iy l 4095 (by decide) (by decide) (nB H.out.hi) (by rw[H.out.hn];exact H.out.hn8) (iB l a b) (by rw[H.out.hn];exact HU.out.2);have hs2:=dD iy l 4095 (by decide) (by decide) (nB H.out.hi) (by rw[H.out.hn];exact H.out.hn8) a (by rw[H.out.hn];exact HX.out.2);have hes:bY iy l (iB l a b) - bY iy l a=span iy l a b:=rfl;obtain⟨G,hG⟩:∃ G,span iy l a b=G:=⟨_,rfl⟩;rw[hG] at hes hsp hq2;have HQ2:=aj hq2;generalize bY iy l (iB l a b)=e5 at *;generalize bY iy l a=a5 at *;have hw5:IntKind.i64.wrap (e5 - a5)=e5 - a5:=IntWalk.i64_in _ (by omega);have hge:0<=W - R:=by omega
   clear c1 H6 hG hq2;go_upto_region 12 with(fail);have yo:=Bx.cell xo;have yt:=Bx.cell t5;have XH:=Bx.cell Tx;have Tz:=aj hge;clear hge;refine aZ (by kernel_rfl) (by kernel_rfl) ?_
   repeat(go_big_quiet_step (fail))
   refine wpQuiet_nil ?_;intro w7 hb7;clear yo yt XH xo t5 Tx hw5 hs1 hs2 hes;have HB7:=aj (HB1.out.trans (hb7.mono HB1.out.size));by_cases c4:G=0
   .have d4:(G == 0)=true:=(by simp[c4]);have HQ3:=aj (show v=0/\ok=false by
     have:=HQ2.out;rw[if_pos c4] at this;exact⟨(congrArg Prod.fst this).symm,(congrArg Prod.snd this).symm⟩)
    clear c4;go_wp2;go_ret2;exact⟨mq HQ3.out.1 HQ3.out.2,HB7.out⟩
   .have d4:(G == 0)=false:=(by simpa using c4);have HQ3:=aj (show v=1000 * (W - R) / G/\ok=decide (1000 * (W - R) / G<=1000) by
     have:=HQ2.out;rw[if_neg c4] at this;exact⟨(congrArg Prod.fst this).symm,(congrArg Prod.snd this).symm⟩)
    have hG0:0 < G:=(by omega);have hN0:0<=1000 * (W - R):=(by have:=Tz.out;omega);have hN1:1000 * (W - R)<=20000000000000:=(by omega);obtain⟨D,hD⟩:∃ D,1000 * (W - R) / G=D:=⟨_,rfl⟩;have HD:=aj hD;have hD0:0<=D:=(by rw[<-hD];exact Int.ediv_nonneg hN0 (by omega));have hD1:D<=20000000000000:=(by rw[<-hD];exact Int.le_trans (Int.ediv_le_self _ hN0) hN1);clear c4;go_wp2;go_ret2;exact⟨mq (by first|exact HQ3.out.1|(rw[HQ3.out.1,HD.out])) (by first|exact HQ3.out.2|(rw[HQ3.out.2,HD.out])),HB7.out⟩
theorem xI{w:World}{bs n:Nat}{l:List S75}{A:Option Addr}{c:Nat}{A2:Option Addr}{m c2:Nat}{r:S30}{S:List S30}{g4 g5 g6 g7:Nat}(h:M4 w bs n l A c A2 m c2 r S g4 g5 g6 g7)(bf y z:Int)(b k:Nat)(hf0 : -1<=bf)(hf1:bf<=(n:Int))(hy:y=(b:Int))(hz:z=(k:Int))(hb:b<=n)(D:Int)(ok:Bool)(hq:wZ l (bG S r k).f1 bf b=(D,ok)) :
  Calls Tryz.prog 90 #[.pointer (some ⟨bs,0,none⟩),.int .i64 bf,.int .i64 y,.int .i64 z] w fun e w'=>e=.returned (.tuple #[.int .i64 D,.bool ok])/\Below w.heap.size w w':=by
 have H:=aj h;have HY:=aj (And.intro hy hb);have HZ:=aj hz;have HF:=aj (And.intro hf0 hf1);obtain⟨a,ha⟩:∃ a:Int,((lstart l bf:Nat):Int)=a:=⟨_,rfl⟩;have HA:=aj ha;have JR:=aj (mH l bf (by rw[h.hn];exact hf1)).1;obtain⟨R,hR⟩:∃ R,(bG S r k).f1=R:=⟨_,rfl⟩;have GX:=aj (show 0<=R/\R<=4095 by have:=fU h.h0 k;omega);have HR:=aj hR;rw[hR] at hq;obtain⟨v,ok1,hv⟩:∃ v ok1,iZ l R (lstart l bf) b=(v,ok1):=⟨_,_,rfl⟩;have HV:=aj (show iZ l (bG S r k).f1 (lstart l bf) b=(v,ok1) by rw[hR];exact hv);have HV2:=aj hv;have HQ:=aj hq;have r0:0<=y:=by omega
 cases ok1 with
 | false =>
  have HQ2:=aj (show D=0/\ok=false by
   have:=HQ.out;unfold wZ at this;rw[if_pos (by rw[hv])] at this;exact⟨(congrArg Prod.fst this).symm,(congrArg Prod.snd this).symm⟩)
  clear h hy hz hf0 hf1 ha hR hv hb hq;go_enter Tryz.func90,Tryz.ntmps90;go_wp2_with (first|(go_at_call 47;go_loud(refine(dP H.out.st H.out.hn H.out.hn8 bf HF.out.1 HF.out.2 a HA.out).mono ?_;rintro e w1 ⟨rfl,rfl⟩))|(go_at_call 124;go_loud(refine(sR H.out a y z (lstart l bf) b k HA.out.symm HY.out.1 HZ.out (by rw[<-H.out.hn];exact JR.out) HY.out.2 v false HV.out).mono ?_;rintro e w2 ⟨rfl,hb2⟩)));go_ret2;exact⟨mq HQ2.out.1 HQ2.out.2,hb2⟩
 | true =>
  have hrr:=uV l R H.out.hi (by rw[h.hn];exact h.hn8) GX.out (lstart l bf) b JR.out (by rw[h.hn];exact hb) (by rw[hv]);rw[hv] at hrr;have hv0:0<=v/\v<=3000:=hrr;have hvv:=sJ hv0.1 hv0.2;have hc:=xk l H.out.hi b;have TA:sI l R bf b=10+v * v / 1000+oI l b:=by unfold sI;rw[hv]
  have HQ2:=aj (show D=sI l R bf b * sI l R bf b+(if Es l bf=true/\Es l (b:Int)=true then 10000 else 0)/\ok=true by
   have:=HQ.out;unfold wZ at this;rw[if_neg (by rw[hv];simp)] at this;exact⟨(congrArg Prod.fst this).symm,(congrArg Prod.snd this).symm⟩)
  have HO:=aj TA;clear h hy hz hf0 hf1 ha hR hv hb hq hrr TA;go_enter Tryz.func90,Tryz.ntmps90;go_upto_region 5 with(first|(go_at_call 47;go_loud(refine(dP H.out.st H.out.hn H.out.hn8 bf HF.out.1 HF.out.2 a HA.out).mono ?_;rintro e w1 ⟨rfl,rfl⟩))|(go_at_call 124;go_loud(refine(sR H.out a y z (lstart l bf) b k HA.out.symm HY.out.1 HZ.out (by rw[<-H.out.hn];exact JR.out) HY.out.2 v true HV.out).mono ?_;rintro e w2 ⟨rfl,hb2⟩;have H':=aj (H.out.below hb2);have HB2:=aj hb2;have x0:w2.cell? ⟨bs,0,none⟩=some (.slice A n c):=(ak H'.out.st.box 0).trans rfl;clear hb2)));obtain⟨ip,Zt⟩:∃ ip,decide (wX l b)=ip:=⟨_,rfl⟩;have TB:=aj Zt;clear Zt;go_cut [44] (fun v44 wc=>v44=.bool ip/\w2=wc)
  case first =>
   by_cases hlt:b < n
   .have d1:decide (y < (n:Int))=true:=decide_eq_true (by have:=HY.out.1;omega);have q1:y < (n:Int):=of_decide_eq_true d1;have p0:=eq_true r0;have p1:=eq_true q1;obtain⟨ad,e0,k0,_⟩:=eD H'.out.st.hl y r0 q1;cases e0
    rw[dn HY.out.1] at k0;by_cases h3:(aX l b).f0=3
    .have hg:((aX l b).f0 == 3)=true:=(by simp[h3]);have HC:=aj (show true=ip by rw[<-TB.out,decide_eq_true ⟨by rw[H.out.hn];exact hlt,h3⟩]);generalize (aX l b).f0=g at *;clear h3 hlt;go_wp2;go_meet
     case rel=>exact⟨by rw[HC.out],(by first|rfl|trivial)⟩
    .have hg:((aX l b).f0 == 3)=false:=(by simpa using h3);have HC:=aj (show false=ip by rw[<-TB.out,decide_eq_false (fun q=>h3 q.2)]);generalize (aX l b).f0=g at *;clear h3 hlt;go_wp2;go_meet
     case rel=>exact⟨by rw[<-HC.out],(by first|rfl|trivial)⟩
   .have d1:decide (y < (n:Int))=false:=decide_eq_false (by have:=HY.out.1;omega);have HC:=aj (show false=ip by rw[<-TB.out,decide_eq_false (fun q=>hlt (by have:=q.1;have:=H.out.hn;omega))]);clear hlt;go_wp2;go_meet
    case rel=>exact⟨by rw[<-HC.out],(by first|rfl|trivial)⟩
  case rest =>
   obtain⟨rfl,rfl⟩:=hcut;go_upto_if 44 with(fail);go_cut [12] (fun v12 wc=>v12=.int .i64 (oI l b)/\w2=wc)
   case first =>
    cases ip with
    | false =>
     have HC:=aj (show 0=oI l b by unfold oI;rw[if_neg (of_decide_eq_false TB.out)]);go_wp2;go_meet
     case rel=>exact⟨by rw[<-HC.out],(by first|rfl|trivial)⟩
    | true =>
     have QY:=of_decide_eq_true TB.out;have q1:y < (n:Int):=(by have:=QY.1;have:=HY.out.1;have:=H.out.hn;omega);have p0:=eq_true r0;have p1:=eq_true q1;obtain⟨ad,e0,_,_,_,_,_,_,k6,_⟩:=eD H'.out.st.hl y r0 q1;cases e0
     rw[dn HY.out.1] at k6;have HC:=aj (show(aX l b).f6=oI l b by unfold oI;rw[if_pos QY]);generalize (aX l b).f6=f6 at *;clear QY;go_wp2;go_meet
     case rel=>exact⟨by rw[HC.out],(by first|rfl|trivial)⟩
   case rest =>
   obtain⟨rfl,rfl⟩:=hcut;have K_:=aj (show Es l (b:Int)=Es l y by rw[HY.out.1]);generalize oI l b=C at *;have w1:IntKind.i64.wrap (v * v)=v * v:=IntWalk.i64_in _ (by omega);have w1':wrap64 (v * v)=v * v:=dN _ (by omega);have w2':0<=v * v:=hvv.1;have w3':v * v<=9000000:=hvv.2;go_upto_region 8 with(fail);have hO:10<=10+v * v / 1000+C/\10+v * v / 1000+C<=13105:=by omega
   have HO2:=HO.out;obtain⟨O,Zu⟩:∃ O,10+v * v / 1000+C=O:=⟨_,rfl⟩;rw[Zu] at hO HO2 ⊢;have V9:=sJ (show 0<=O by omega) hO.2;have HO3:=aj HO2;have v1:IntKind.i64.wrap (O * O)=O * O:=IntWalk.i64_in _ (by omega);have v1':wrap64 (O * O)=O * O:=dN _ (by omega);clear w1 w1' w2' w3' Zu HO2 hvv hc;go_upto_region 9 with(fail);obtain⟨Q,XI⟩:∃ Q,O * O=Q:=⟨_,rfl⟩;have HQQ:=aj XI;rw[XI] at V9 ⊢;have hq0:0<=Q:=V9.1;have hq1:Q<=200000000:=by have:=V9.2;omega
   clear v1 v1' V9 hO XI;have HD:=aj (show D=Q+(if Es l bf=true/\Es l y=true then 10000 else 0) by rw[HQ2.out.1,HO3.out,HQQ.out,K_.out]);cases hA:Es l bf with
   | false =>
    have HD2:=aj (show D=Q by rw[HD.out,hA,if_neg (by simp)];omega);go_wp2_with (go_at_call 49;go_loud(refine(lT H'.out.st H'.out.hn H'.out.hn8 _ _ (by assumption)).mono ?_;rintro e w3 ⟨rfl,rfl⟩));go_ret2;exact⟨mq HD2.out HQ2.out.2,HB2.out⟩
   | true =>
    cases hB:Es l y with
    | false =>
     have HD2:=aj (show D=Q by rw[HD.out,hA,hB,if_neg (by simp)];omega);go_wp2_with (go_at_call 49;go_loud(refine(lT H'.out.st H'.out.hn H'.out.hn8 _ _ (by assumption)).mono ?_;rintro e w3 ⟨rfl,rfl⟩));go_ret2;exact⟨mq HD2.out HQ2.out.2,HB2.out⟩
    | true =>
     have HD2:=aj (show D=Q+10000 by rw[HD.out,hA,hB,if_pos ⟨rfl,rfl⟩]);go_wp2_with (go_at_call 49;go_loud(refine(lT H'.out.st H'.out.hn H'.out.hn8 _ _ (by assumption)).mono ?_;rintro e w3 ⟨rfl,rfl⟩));go_ret2;exact⟨mq HD2.out HQ2.out.2,HB2.out⟩
end Go.Proofs.YtcaallkkeighdaaGreatDoor.P
namespace Go.Proofs
open Go.Shelf
def Tryz.lays189_ren:Go.Shelf.Ren:=⟨fun|189=>95|125=>128|257=>127|128=>152|129=>153|294=>143|295=>144|296=>145|297=>146|298=>147|299=>148|216=>149|300=>150|301=>151|328=>166|329=>167|330=>168|331=>169|332=>170|215=>125|343=>176|n=>n,fun|28=>107|3=>3|46=>193|0=>0|51=>220|53=>222|4=>4|183=>214|182=>213|131=>161|5=>5|9=>9|218=>237|222=>241|228=>251|229=>94|n=>n,fun|n=>n⟩
theorem Tryz.lays189:Go.Proofs.Lays.n189 Tryz.prog Tryz.lays189_ren:={
 mixed:=by kernel_rfl
 f125:=Tryz.func128.trans (congrArg some (by kernel_rfl))
 f128:=Tryz.func152.trans (congrArg some (by kernel_rfl))
 f129:=Tryz.func153.trans (congrArg some (by kernel_rfl))
 f189:=Tryz.func95.trans (congrArg some (by kernel_rfl))
 f215:=Tryz.func125.trans (congrArg some (by kernel_rfl))
 f216:=Tryz.func149.trans (congrArg some (by kernel_rfl))
 f257:=Tryz.func127.trans (congrArg some (by kernel_rfl))
 f294:=Tryz.func143.trans (congrArg some (by kernel_rfl))
 f295:=Tryz.func144.trans (congrArg some (by kernel_rfl))
 f296:=Tryz.func145.trans (congrArg some (by kernel_rfl))
 f297:=Tryz.func146.trans (congrArg some (by kernel_rfl))
 f298:=Tryz.func147.trans (congrArg some (by kernel_rfl))
 f299:=Tryz.func148.trans (congrArg some (by kernel_rfl))
 f300:=Tryz.func150.trans (congrArg some (by kernel_rfl))
 f301:=Tryz.func151.trans (congrArg some (by kernel_rfl))
 f328:=Tryz.func166.trans (congrArg some (by kernel_rfl))
 f329:=Tryz.func167.trans (congrArg some (by kernel_rfl))
 f330:=Tryz.func168.trans (congrArg some (by kernel_rfl))
 f331:=Tryz.func169.trans (congrArg some (by kernel_rfl))
 f332:=Tryz.func170.trans (congrArg some (by kernel_rfl))
 f343:=Tryz.func176.trans (congrArg some (by kernel_rfl))
 t0:=Tryz.underlying0
 a0:=Tryz.isAgg0
 z0:=Tryz.sizeOf0
 v0:=Tryz.zeroValue0
 t3:=Tryz.underlying3
 a3:=Tryz.isAgg3
 z3:=Tryz.sizeOf3
 v3:=Tryz.zeroValue3
 t4:=Tryz.underlying4
 a4:=Tryz.isAgg4
 z4:=Tryz.sizeOf4
 v4:=Tryz.zeroValue4
 t5:=Tryz.underlying5
 a5:=Tryz.isAgg5
 z5:=Tryz.sizeOf5
 v5:=Tryz.zeroValue5
 t9:=Tryz.underlying9
 a9:=Tryz.isAgg9
 z9:=Tryz.sizeOf9
 v9:=Tryz.zeroValue9
 t28:=Tryz.underlying107
 a28:=Tryz.isAgg107
 z28:=Tryz.sizeOf107
 v28:=Tryz.zeroValue107
 t46:=Tryz.underlying193
 a46:=Tryz.isAgg193
 z46:=Tryz.sizeOf193
 v46:=Tryz.zeroValue193
 t51:=Tryz.underlying220
 a51:=Tryz.isAgg220
 z51:=Tryz.sizeOf220
 v51:=Tryz.zeroValue220
 t53:=Tryz.underlying222
 a53:=Tryz.isAgg222
 z53:=Tryz.sizeOf222
 v53:=Tryz.zeroValue222
 t131:=Tryz.underlying161
 a131:=Tryz.isAgg161
 z131:=Tryz.sizeOf161
 v131:=Tryz.zeroValue161
 t182:=Tryz.underlying213
 a182:=Tryz.isAgg213
 z182:=Tryz.sizeOf213
 v182:=Tryz.zeroValue213
 t183:=Tryz.underlying214
 a183:=Tryz.isAgg214
 z183:=Tryz.sizeOf214
 v183:=Tryz.zeroValue214
 t218:=Tryz.underlying237
 a218:=Tryz.isAgg237
 z218:=Tryz.sizeOf237
 v218:=Tryz.zeroValue237
 t222:=Tryz.underlying241
 a222:=Tryz.isAgg241
 z222:=Tryz.sizeOf241
 v222:=Tryz.zeroValue241
 t228:=Tryz.underlying251
 a228:=Tryz.isAgg251
 z228:=Tryz.sizeOf251
 v228:=Tryz.zeroValue251
 t229:=Tryz.underlying94
 a229:=Tryz.isAgg94
 z229:=Tryz.sizeOf94
 v229:=Tryz.zeroValue94 }
open Go.Sort Go.RowKit in
theorem Tryz.slices_Sort_int(blk off cap:Nat)(zs:List Int)(w:World)(hH:Holds (Value.int .i64) w blk off zs.toArray)(hblk:blk < w.heap.size)(hsz:zs.length < 4611686018427387904) :
  Calls Tryz.prog 95 #[.slice (some ⟨blk,off,none⟩) zs.length cap] w fun e w' =>
   e=.returned (.tuple #[])/\∃ n os,w'=grow (putRow (Value.int .i64) (Sort.ahead w n) blk off (zs.mergeSort fun x y=>decide (x<=y)).toArray) os:=Any.slices_Sort_int Tryz.lays189 blk off cap zs w hH hblk hsz
open Go.RowKit Go.Sort in
theorem Tryz.slices_Sort_int_none(p:Option Addr)(cap:Nat)(w:World) :
  Calls Tryz.prog 95 #[.slice p 0 cap] w fun e w'=>e=.returned (.tuple #[])/\w'=w:=Any.slices_Sort_int_none Tryz.lays189 p cap w
end Go.Proofs
