/- least.setter's start,legal,hyphen,empty answer as the plain functions. least.setter's natural,full,ratio,follows,demerits answer as the plain functions. -/
import Derived.Test.YtcaallkkeighdaaGreatDoorR22
set_option maxRecDepth 100000
set_option maxHeartbeats 16000000
set_option linter.unusedVariables false
set_option linter.unusedSimpArgs false
namespace Go.Proofs.YtcaallkkeighdaaGreatDoor.P
open Go.RowKit aD aQ aR
attribute [local go_sem] cN cO dw dA
theorem zo.below{w w':World}{bs n:Nat}{l:List S75}{A:Option Addr}{c:Nat}{A2:Option Addr}{m c2:Nat}{r:S30}{g4 g5 g6 g7:Nat}(h:zo w bs n l A c A2 m c2 r g4 g5 g6 g7)(hb:Below w.heap.size w w'):zo w' bs n l A c A2 m c2 r g4 g5 g6 g7 :=
 ⟨ay h.box hb,ay h.r4 hb,ay h.r5 hb,ay h.r6 hb,ay h.r7 hb,Kd.aM h.hl hb⟩
def qC(l:List S75)(i:Int):Nat:=if i < 0 then 0 else if wX l i.toNat then i.toNat+1 else i.toNat
theorem Dr(l:List S75)(i:Int):lstart l i=cW l (l.length - qC l i) (qC l i):=by
 unfold lstart qC;split
 .rfl
 .unfold gD wX;rfl
theorem LA(l:List S75)(i:Int)(h:i<=(l.length:Int)):qC l i<=l.length:=by
 unfold qC;split
 .omega
 .split
  .rename_i h2
   have:=h2.1;omega
  .omega
theorem dP{w:World}{bs n:Nat}{l:List S75}{A:Option Addr}{c:Nat}{A2:Option Addr}{m c2:Nat}{r:S30}{g4 g5 g6 g7:Nat}(h:zo w bs n l A c A2 m c2 r g4 g5 g6 g7)(hn:l.length=n)(hn8:n<=8192)(i:Int)(h0 : -1<=i)(h1:i<=(n:Int))(a:Int)(ha:(lstart l i:Int)=a) :
  Calls Tryz.prog 47 #[.pointer (some ⟨bs,0,none⟩),.int .i64 i] w fun e w'=>e=.returned (.int .i64 a)/\w=w':=by
 have H:=aj h;have HN:=aj hn;have HN8:=aj hn8;have HA:=aj ha;have H1:=aj h1;have x0:w.cell? ⟨bs,0,none⟩=some (.slice A n c):=(ak h.box 0).trans rfl;obtain⟨J,hJ⟩:∃ J,qC l i=J:=⟨_,rfl⟩;have HJ:=aj hJ;have HJL:=aj (show J<=n by rw[<-hJ,<-hn];exact LA l i (by omega));have HG:=aj (show((cW l (n - J) J:Nat):Int)=a by rw[<-ha,Dr,hJ,hn]);clear h hn ha hJ;go_enter Tryz.func47,Tryz.ntmps47;go_upto_if 6 with(fail);go_cut [1] (fun v1 wc=>v1=.int .i64 (J:Int)/\w=wc)
 case first =>
  by_cases hneg:i < 0
  .have d1:decide (i < 0)=true:=decide_eq_true hneg;have HQ:=aj (show J=0 by rw[<-HJ.out];unfold qC;rw[if_pos hneg]);clear hneg;rw[d1];go_wp2;go_meet
   case rel=>exact⟨by rw[HQ.out];rfl,(by first|rfl|trivial)⟩
  .have d1:decide (i < 0)=false:=decide_eq_false hneg;rw[d1];by_cases hlt:i < (n:Int)
   .have d2:decide (i < (n:Int))=true:=decide_eq_true hlt;have q0:0<=i:=(by omega);have p0:=eq_true q0;have p1:=eq_true hlt;obtain⟨ad,e0,k0,_⟩:=eD H.out.hl i q0 hlt;cases e0
    rw[dn (show i=(i.toNat:Int) by omega)] at k0;by_cases h3:(aX l i.toNat).f0=3
    .have hg:((aX l i.toNat).f0 == 3)=true:=(by simp[h3]);have HQ:=aj (show i+1=(J:Int) by rw[<-HJ.out];unfold qC;rw[if_neg hneg,if_pos ⟨by rw[HN.out];omega,h3⟩];omega);generalize (aX l i.toNat).f0=g at *;clear hneg h3;go_wp2;go_meet
     case rel=>exact⟨by rw[HQ.out],(by first|rfl|trivial)⟩
    .have hg:((aX l i.toNat).f0 == 3)=false:=(by simpa using h3);have HQ:=aj (show i=(J:Int) by rw[<-HJ.out];unfold qC;rw[if_neg hneg,if_neg (fun q=>h3 q.2)];omega);generalize (aX l i.toNat).f0=g at *;clear hneg h3;go_wp2;go_meet
     case rel=>exact⟨by rw[HQ.out],(by first|rfl|trivial)⟩
   .have d2:decide (i < (n:Int))=false:=decide_eq_false hlt;have HQ:=aj (show i=(J:Int) by rw[<-HJ.out];unfold qC;rw[if_neg hneg,if_neg (fun q=>by have:=q.1;have:=HN.out;omega)];omega);clear hneg hlt;go_wp2;go_meet
    case rel=>exact⟨by rw[HQ.out],(by first|rfl|trivial)⟩
 case rest =>
  obtain⟨rfl,rfl⟩:=hcut;go_wp2;go_loopw [1] (fun v1 wr=>∃ (y:Int) (j:Nat),v1=.int .i64 y/\aC (y=(j:Int))/\aC (j<=n)/\aC (((cW l (n - j) j:Nat):Int)=a)/\w=wr) (fun v1 _=>n - (intOf v1).toNat)
  case atStart=>exact⟨J,J,rfl,⟨rfl⟩,HJL,HG,(by first|rfl|trivial)⟩
  case round =>
   obtain⟨y,j,rfl,hy,hj,hR,rfl⟩:=hrel;by_cases h1:j < n
   .have d1:decide (y < (n:Int))=true:=decide_eq_true (by rw[hy.out];omega);have q0:0<=y:=(by rw[hy.out];omega);have q1:y < (n:Int):=(by rw[hy.out];omega);have q3:y<=8192:=(by rw[hy.out];have:=HN8.out;omega);have p0:=eq_true q0;have p1:=eq_true q1;obtain⟨ad,e0,k0,_⟩:=eD H.out.hl y q0 q1;cases e0
    rw[dn hy.out] at k0;have H1:=aj h1;by_cases h3:(aX l j).f0=2
    .have hg:((aX l j).f0 == 2)=true:=(by simp[h3]);have HQ:=aj (show((cW l (n - (j+1)) (j+1):Nat):Int)=a by rw[<-hR.out,<-HN.out];exact congrArg Int.ofNat (tY (by rw[HN.out];exact h1) h3).symm);generalize (aX l j).f0=g at *;clear h1 h3;go_wp2;go_roundw
     case rel=>exact⟨y+1,j+1,rfl,⟨by rw[hy.out];omega⟩,⟨H1.out⟩,HQ,(by first|rfl|trivial)⟩
     case measure=>have:=H1.out;have:=hy.out;simp[intOf];omega
    .have hg:((aX l j).f0 == 2)=false:=(by simpa using h3);have HQ:=aj (show y=a by rw[hy.out,<-hR.out,<-HN.out];exact(congrArg Int.ofNat (tZ (by rw[HN.out];exact h1) h3)).symm);generalize (aX l j).f0=g at *;clear h1 h3;go_wp2;go_ret;exact⟨dh HQ.out.symm,(by first|rfl|trivial)⟩
   .have d1:decide (y < (n:Int))=false:=decide_eq_false (by rw[hy.out];omega);have HQ:=aj (show y=a by rw[hy.out,<-hR.out,<-HN.out];exact(congrArg Int.ofNat (xE (by have:=hj.out;have:=HN.out;omega))).symm);clear h1;go_wp2;go_ret;exact⟨dh HQ.out.symm,(by first|rfl|trivial)⟩
theorem lT{w:World}{bs n:Nat}{l:List S75}{A:Option Addr}{c:Nat}{A2:Option Addr}{m c2:Nat}{r:S30}{g4 g5 g6 g7:Nat}(h:zo w bs n l A c A2 m c2 r g4 g5 g6 g7)(hn:l.length=n)(hn8:n<=8192)(i:Int)(b:Bool)(hb:Es l i=b) :
  Calls Tryz.prog 49 #[.pointer (some ⟨bs,0,none⟩),.int .i64 i] w fun e w'=>e=.returned (.bool b)/\w=w':=by
 have H:=aj h;have HN:=aj hn;have x0:w.cell? ⟨bs,0,none⟩=some (.slice A n c):=(ak h.box 0).trans rfl;by_cases hr:0<=i/\i < (n:Int)
 .obtain⟨q0,q1⟩:=hr;have d1:decide (0<=i)=true:=decide_eq_true q0;have d2:decide (i < (n:Int))=true:=decide_eq_true q1;have p0:=eq_true q0;have p1:=eq_true q1;obtain⟨ad,e0,k0,_,_,_,_,_,_,k7⟩:=eD H.out.hl i q0 q1;cases e0
  rw[dn (show i=(i.toNat:Int) by omega)] at k0 k7;have hh:Es l i=(decide ((aX l i.toNat).f0=3) && (aX l i.toNat).f7):=by unfold Es;rw[hn,decide_eq_true ⟨q0,q1⟩];rfl
  rw[hh] at hb;have HB:=aj hb;clear h hn hh hb;by_cases h3:(aX l i.toNat).f0=3
  .have hg:((aX l i.toNat).f0 == 3)=true:=by simp[h3]
   have HQ:=aj (show(aX l i.toNat).f7=b by rw[<-HB.out,decide_eq_true h3];rfl);generalize (aX l i.toNat).f0=g at *;generalize (aX l i.toNat).f7=g7' at *;clear h3;go_enter Tryz.func49,Tryz.ntmps49;go_wp2;go_ret;exact⟨dQ HQ.out.symm,(by first|rfl|trivial)⟩
  .have hg:((aX l i.toNat).f0 == 3)=false:=by simpa using h3
   have HQ:=aj (show false=b by rw[<-HB.out,decide_eq_false h3];rfl);generalize (aX l i.toNat).f0=g at *;clear h3;go_enter Tryz.func49,Tryz.ntmps49;go_wp2;go_ret;exact⟨dQ HQ.out.symm,(by first|rfl|trivial)⟩
 .have HQ:=aj (show false=b by rw[<-hb];unfold Es;rw[hn,decide_eq_false hr];rfl);clear h hn hb;by_cases q0:0<=i
  .have d1:decide (0<=i)=true:=decide_eq_true q0;have d2:decide (i < (n:Int))=false:=decide_eq_false (fun q=>hr ⟨q0,q⟩);clear hr q0;go_enter Tryz.func49,Tryz.ntmps49;go_wp2;go_ret;exact⟨dQ HQ.out.symm,(by first|rfl|trivial)⟩
  .have d1:decide (0<=i)=false:=decide_eq_false q0;clear hr q0;go_enter Tryz.func49,Tryz.ntmps49;go_wp2;go_ret;exact⟨dQ HQ.out.symm,(by first|rfl|trivial)⟩
theorem nG{w:World}{bs n:Nat}{l:List S75}{A:Option Addr}{c:Nat}{A2:Option Addr}{m c2:Nat}{r:S30}{g4 g5 g6 g7:Nat}(h:zo w bs n l A c A2 m c2 r g4 g5 g6 g7)(hn:l.length=n)(hn8:n<=8192)(x:Int)(i:Nat)(hx:x=(i:Int))(hi:i<=n)(b:Bool)(hb:eH l i=b) :
  Calls Tryz.prog 123 #[.pointer (some ⟨bs,0,none⟩),.int .i64 x] w fun e w'=>e=.returned (.bool b)/\w=w':=by
 have H:=aj h;have HN:=aj hn;have x0:w.cell? ⟨bs,0,none⟩=some (.slice A n c):=(ak h.box 0).trans rfl;by_cases he:i=n
 .have d1:(x == (n:Int))=true:=by rw[hx,he];exact beq_self_eq_true _
  have HQ:=aj (show true=b by rw[<-hb];unfold eH;rw[if_pos (by rw[hn];exact he)]);clear h hn hb hx he hi;go_enter Tryz.func123,Tryz.ntmps123;go_wp2;go_ret;exact⟨dQ HQ.out.symm,(by first|rfl|trivial)⟩
 .have d1:(x == (n:Int))=false:=by rw[beq_eq_false_iff_ne];omega
  have q0:0<=x:=by omega
  have q1:x < (n:Int):=by omega
  have p0:=eq_true q0;have p1:=eq_true q1;obtain⟨ad,e0,k0,_⟩:=eD H.out.hl x q0 q1;cases e0
  rw[dn hx] at k0;by_cases h3:(aX l i).f0=3
  .have hg:((aX l i).f0 == 3)=true:=by simp[h3]
   have HQ:=aj (show true=b by rw[<-hb];unfold eH;rw[if_neg (by rw[hn];exact he),if_pos h3]);generalize (aX l i).f0=g at *;clear h hn hb hx he hi h3;go_enter Tryz.func123,Tryz.ntmps123;go_wp2;go_ret;exact⟨dQ HQ.out.symm,(by first|rfl|trivial)⟩
  .have hg:((aX l i).f0 == 3)=false:=by simpa using h3
   by_cases h2:(aX l i).f0=2
   .have hg2:((aX l i).f0 == 2)=true:=(by simp[h2]);by_cases hz:0 < x
    .have d2:decide (0 < x)=true:=decide_eq_true hz;have r0:0<=x - 1:=(by omega);have r0':1<=x:=(by omega);have r1:x - 1 < (n:Int):=(by omega);have t0:=eq_true r0;have t1:=eq_true r1;have hx1:x - 1=((i - 1:Nat):Int):=(by omega);obtain⟨J1,e0',V6,_⟩:=eD H.out.hl (x - 1) r0 r1;cases e0'
     rw[dn hx1] at V6;have XB:=V6;rw[show(x - 1).toNat=x.toNat - 1 by omega] at XB;have hfin:eH l i=((aX l (i - 1)).f0 != 2):=(by unfold eH;rw[if_neg (by rw[hn];exact he),if_neg h3,hg2,decide_eq_true (by omega)];rfl);have hw:wrap64 (x - 1)=x - 1:=dN _ (by omega);by_cases h4:(aX l (i - 1)).f0=2
     .have hg4:((aX l (i - 1)).f0 != 2)=false:=(by simp[h4]);have HQ:=aj (show false=b by rw[<-hb,hfin,hg4]);generalize (aX l i).f0=g at *;generalize (aX l (i - 1)).f0=g' at *;clear h hn hb hx he hi h3 h2 h4 hfin hx1;go_enter Tryz.func123,Tryz.ntmps123;go_wp2;go_ret;exact⟨dQ HQ.out.symm,(by first|rfl|trivial)⟩
     .have hg4:((aX l (i - 1)).f0 != 2)=true:=(by simpa using h4);have HQ:=aj (show true=b by rw[<-hb,hfin,hg4]);generalize (aX l i).f0=g at *;generalize (aX l (i - 1)).f0=g' at *;clear h hn hb hx he hi h3 h2 h4 hfin hx1;go_enter Tryz.func123,Tryz.ntmps123;go_wp2;go_ret;exact⟨dQ HQ.out.symm,(by first|rfl|trivial)⟩
    .have d2:decide (0 < x)=false:=decide_eq_false hz;have HQ:=aj (show false=b by rw[<-hb];unfold eH;rw[if_neg (by rw[hn];exact he),if_neg h3,hg2,decide_eq_false (by omega)];rfl);generalize (aX l i).f0=g at *;clear h hn hb hx he hi h3 h2 hz;go_enter Tryz.func123,Tryz.ntmps123;go_wp2;go_ret;exact⟨dQ HQ.out.symm,(by first|rfl|trivial)⟩
   .have hg2:((aX l i).f0 == 2)=false:=(by simpa using h2);have HQ:=aj (show false=b by rw[<-hb];unfold eH;rw[if_neg (by rw[hn];exact he),if_neg h3,hg2];rfl);generalize (aX l i).f0=g at *;clear h hn hb hx he hi h3 h2;go_enter Tryz.func123,Tryz.ntmps123;go_wp2;go_ret;exact⟨dQ HQ.out.symm,(by first|rfl|trivial)⟩
theorem kJ{w:World}{bs n:Nat}{l:List S75}{A:Option Addr}{c:Nat}{A2:Option Addr}{m c2:Nat}{r:S30}{g4 g5 g6 g7:Nat}(h:zo w bs n l A c A2 m c2 r g4 g5 g6 g7)(hn:l.length=n)(hn8:n<=8192)(b:Bool)(hb:kf l=b) :
  Calls Tryz.prog 45 #[.pointer (some ⟨bs,0,none⟩)] w fun e w'=>e=.returned (.bool b)/\Below w.heap.size w w':=by
 have H:=aj h;have HN:=aj hn;have HN8:=aj hn8;have x0:w.cell? ⟨bs,0,none⟩=some (.slice A n c):=(ak h.box 0).trans rfl;obtain⟨G,hG⟩:∃ G:Int,((lstart l (-1):Nat):Int)=G:=⟨_,rfl⟩;have HG:=aj hG;have HQ:=aj (show b=(G == (n:Int)) by
  rw[<-hb,<-hG,<-hn,Bool.eq_iff_iff];unfold kf;rw[decide_eq_true_iff,beq_iff_eq];have e:lstart l (-1)=jo l:=rfl;rw[e];omega)
 clear h hn hb hG;go_enter Tryz.func45,Tryz.ntmps45;go_upto_region 1 with(fail);have y0:=Bx.cell x0;refine aZ (by kernel_rfl) (by kernel_rfl) ?_
 repeat(go_big_quiet_step ((go_at_call 47;exact Bx.cu ((dP (H.out.below (Bx.hb _)) HN.out HN8.out (-1) (by decide) (by omega) G HG.out).mono (fun e w' ⟨q,q2⟩=>⟨q,by rw[<-q2];exact Below.refl _ _⟩)))))
 refine wpQuiet_nil ?_;intro w7 hb7;clear y0;go_wp2;go_ret;exact⟨dQ HQ.out,hb7⟩
end Go.Proofs.YtcaallkkeighdaaGreatDoor.P
namespace Go.Proofs.YtcaallkkeighdaaGreatDoor.P
open Go.RowKit aD aQ aR
attribute [local go_sem] cN cO dw dA
structure M4(w:World)(bs n:Nat)(l:List S75)(A:Option Addr)(c:Nat)(A2:Option Addr)(m c2:Nat)(r:S30)(S:List S30)(g4 g5 g6 g7:Nat):Prop where
 st:zo w bs n l A c A2 m c2 r g4 g5 g6 g7
 hs:Kd.C k30 w A2 m S
 hm:S.length=m
 hc2:m<=c2
 h0:bV S r=0
 hi:∀ x∈l,cY x
 hn:l.length=n
 hn8:n<=8192
 hc:n<=c
theorem M4.below{w w':World}{bs n:Nat}{l:List S75}{A:Option Addr}{c:Nat}{A2:Option Addr}{m c2:Nat}{r:S30}{S:List S30}{g4 g5 g6 g7:Nat}(h:M4 w bs n l A c A2 m c2 r S g4 g5 g6 g7)(hb:Below w.heap.size w w'):M4 w' bs n l A c A2 m c2 r S g4 g5 g6 g7 :=
 ⟨h.st.below hb,Kd.aM h.hs hb,h.hm,h.hc2,h.h0,h.hi,h.hn,h.hn8,h.hc⟩
theorem jF{w:World}{g n:Nat}{f:Nat->Int}(h:IQ w g (gS f n n))(x:Int)(i:Nat)(hx:x=(i:Int))(hi:i<=n):w.cell? ⟨g,x.toNat,none⟩=some (.int .i64 (f i)) :=
 h.cell (by rw[show x.toNat=i by omega];exact kP f n n i hi hi)
theorem mq{k:IntKind}{a a':Int}{b b':Bool}(h:a'=a)(h2:b'=b):Ending.returned (.tuple #[.int k a,.bool b])=.returned (.tuple #[.int k a',.bool b']):=by rw[h,h2]
theorem BN(l:List S75)(a b:Nat)(x:Int)(hx:x=(a:Int)):(if (gP l b:Int) < x then x else (gP l b:Int))=((iB l a b:Nat):Int):=by
 unfold iB;by_cases q:gP l b < a
 .rw[if_pos (by omega),if_pos q,hx]
 .rw[if_neg (by omega),if_neg q]
theorem xG{w:World}{bs n:Nat}{l:List S75}{A:Option Addr}{c:Nat}{A2:Option Addr}{m c2:Nat}{r:S30}{S:List S30}{g4 g5 g6 g7:Nat}(h:M4 w bs n l A c A2 m c2 r S g4 g5 g6 g7)(x y:Int)(a b:Nat)(hx:x=(a:Int))(hy:y=(b:Int))(ha:a<=n)(hb:b<=n)(N:Int)(hN:nZ l a b=N) :
  Calls Tryz.prog 48 #[.pointer (some ⟨bs,0,none⟩),.int .i64 x,.int .i64 y] w fun e w'=>e=.returned (.int .i64 N)/\Below w.heap.size w w':=by
 have H:=aj h;have HX:=aj (And.intro hx ha);have HY:=aj (And.intro hy hb);have dF:=aj hN;have x0:w.cell? ⟨bs,0,none⟩=some (.slice A n c):=(ak h.st.box 0).trans rfl;have x4:w.cell? ⟨bs,4,none⟩=some (.slice (some ⟨g4,0,none⟩) (n+1) (n+1)):=(ak h.st.box 4).trans rfl;have x7:w.cell? ⟨bs,7,none⟩=some (.slice (some ⟨g7,0,none⟩) (n+1) (n+1)):=(ak h.st.box 7).trans rfl;have t7:=jF h.st.r7 y b hy hb;have t4:=jF h.st.r4 x a hx ha;have hE:=vO l a b (by rw[h.hn];exact ha) (by rw[h.hn];exact hb);have he:=BN l a b x hx;obtain⟨z,hz⟩:∃ z:Int,((iB l a b:Nat):Int)=z:=⟨_,rfl⟩;have V8:=jF h.st.r4 z (iB l a b) hz.symm (by have:=h.hn;omega);have z0:0<=z:=by omega
 have z1:z < (n:Int)+1:=by have:=h.hn;omega
 have hs1:=dD jQ l 2097152 (by decide) (by decide) (qV h.hi) (by rw[h.hn];exact h.hn8) (iB l a b) (by omega);have hs2:=dD jQ l 2097152 (by decide) (by decide) (qV h.hi) (by rw[h.hn];exact h.hn8) a (by rw[h.hn];exact ha);have yZ:=aj (show bY jQ l (iB l a b) - bY jQ l a=span jQ l a b from rfl);have q0:0<=x:=by omega
 have q1:x < (n:Int)+1:=by omega
 have r0:0<=y:=by omega
 have r1:y < (n:Int)+1:=by omega
 rw[hz] at he;have HE:=aj he;generalize (gP l b:Int)=s7 at *;generalize bY jQ l (iB l a b)=e4 at *;generalize bY jQ l a=a4 at *;clear h hx hy ha hb hN hE hz he;go_enter Tryz.func48,Tryz.ntmps48;go_upto_region 1 with(fail);go_cut [7] (fun v7 wc=>v7=.int .i64 (span jQ l a b)/\aC (Below w.heap.size w wc))
 case first =>
  have y4:=Bx.cell x4;have y7:=Bx.cell x7;have u7:=Bx.cell t7;have u4:=Bx.cell t4;have XG:=Bx.cell V8;have he:=HE.out;refine aZ (by kernel_rfl) (by kernel_rfl) ?_
  repeat(go_big_quiet_step (fail))
  refine wpQuiet_nil ?_;intro w7 hb7;clear y4 y7 u7 u4 XG;go_wp2;go_meet
  case rel=>exact⟨by rw[yZ.out],⟨hb7⟩⟩
 case rest =>
  obtain⟨rfl,Tw⟩:=hcut;have H':=aj (H.out.below Tw.out);have VY:wc.cell? ⟨bs,0,none⟩=some (.slice A n c):=(ak H'.out.st.box 0).trans rfl;have hsp:=jB jQ l 2097152 (by decide) (by decide) (qV H.out.hi) (by rw[H.out.hn];exact H.out.hn8) a b (by rw[H.out.hn];exact HX.out.2) (by rw[H.out.hn];exact HY.out.2);clear x0 x4 x7 t7 t4 V8 z0 z1 hs1 hs2;by_cases hlt:b < n
  .have d1:decide (y < (n:Int))=true:=decide_eq_true (by have:=HY.out.1;omega);have p0:=eq_true r0;have q1':y < (n:Int):=of_decide_eq_true d1;have p1:=eq_true q1';obtain⟨ad,e0,k0,_,_,k3,_⟩:=eD H'.out.st.hl y r0 q1';cases e0
   rw[dn HY.out.1] at k0 k3;have hw:=(H.out.hi _ (jI (l:=l) (i:=b) (by rw[H.out.hn];exact hlt))).w;by_cases h3:(aX l b).f0=3
   .have hg:((aX l b).f0 == 3)=true:=(by simp[h3]);have HQ:=aj (show N=span jQ l a b+(aX l b).f3 by rw[<-dF.out];unfold nZ Fh;rw[if_pos ⟨by rw[H.out.hn];exact hlt,h3⟩]);generalize (aX l b).f0=g at *;generalize (aX l b).f3=f3 at *;generalize span jQ l a b=sp at *;clear h3 hlt;go_wp2;go_ret;exact⟨dh HQ.out,Tw.out⟩
   .have hg:((aX l b).f0 == 3)=false:=(by simpa using h3);have HQ:=aj (show N=span jQ l a b by rw[<-dF.out];unfold nZ Fh;rw[if_neg (fun q=>h3 q.2)];omega);generalize (aX l b).f0=g at *;generalize span jQ l a b=sp at *;clear h3 hlt;go_wp2;go_ret;exact⟨dh HQ.out,Tw.out⟩
  .have d1:decide (y < (n:Int))=false:=decide_eq_false (by have:=HY.out.1;omega);have HQ:=aj (show N=span jQ l a b by rw[<-dF.out];unfold nZ Fh;rw[if_neg (fun q=>hlt (by have:=q.1;have:=H.out.hn;omega))];omega);generalize span jQ l a b=sp at *;clear hlt;go_wp2;go_ret;exact⟨dh HQ.out,Tw.out⟩
theorem vR{w:World}{A2:Option Addr}{m c2:Nat}{S:List S30}{r:S30}(hs:Kd.C k30 w A2 m S)(hm:S.length=m)(hc2:m<=c2)(z:Int)(k:Nat)(hz:z=(k:Int))(X R:Int)(hX:(bG S r k).f0=X)(hR:(bG S r k).f1=R) :
  Calls Tryz.prog 22 #[.slice A2 m c2,.agg #[.int .i64 r.f0,.int .i64 r.f1],.int .i64 z] w fun e w'=>e=.returned (.agg #[.int .i64 X,.int .i64 R])/\Below w.heap.size w w':=by
 subst hm hz hX hR;exact Fc rfl hs hc2 (Fa S r k)
theorem BO(X R:Int)(W:World):(Instr.field 30 (.agg #[.int .i64 X,.int .i64 R]) 1).run Tryz.prog W=.ok (.int .i64 R) W:=by kernel_rfl
theorem Ds{w:World}{bs n:Nat}{l:List S75}{A:Option Addr}{c:Nat}{A2:Option Addr}{m c2:Nat}{r:S30}{S:List S30}{g4 g5 g6 g7:Nat}(h:M4 w bs n l A c A2 m c2 r S g4 g5 g6 g7)(x y z:Int)(a b k:Nat)(hx:x=(a:Int))(hy:y=(b:Int))(hz:z=(k:Int))(ha:a<=n)(hb:b<=n)(hk:k<=100000)(q:Bool)(hq:GP l (bG S r k).f1 a b=q) :
  Calls Tryz.prog 88 #[.pointer (some ⟨bs,0,none⟩),.int .i64 x,.int .i64 y,.int .i64 z] w fun e w'=>e=.returned (.bool q)/\Below w.heap.size w w':=by
 have H:=aj h;have HZ:=aj hz;have x1:w.cell? ⟨bs,1,none⟩=some (.slice A2 m c2):=(ak h.st.box 1).trans rfl;have x2:w.cell? ⟨bs,2,none⟩=some (.int .i64 r.f0):=(ak h.st.box 2).trans rfl;have x3:w.cell? ⟨bs,3,none⟩=some (.int .i64 r.f1):=(ak h.st.box 3).trans rfl;have x4:w.cell? ⟨bs,4,none⟩=some (.slice (some ⟨g4,0,none⟩) (n+1) (n+1)):=(ak h.st.box 4).trans rfl;have x6:w.cell? ⟨bs,6,none⟩=some (.slice (some ⟨g6,0,none⟩) (n+1) (n+1)):=(ak h.st.box 6).trans rfl;have x7:w.cell? ⟨bs,7,none⟩=some (.slice (some ⟨g7,0,none⟩) (n+1) (n+1)):=(ak h.st.box 7).trans rfl;have t7:=jF h.st.r7 y b hy hb;have t4:=jF h.st.r4 x a hx ha;have t6:=jF h.st.r6 x a hx ha;have hE:=vO l a b (by rw[h.hn];exact ha) (by rw[h.hn];exact hb);have he:=BN l a b x hx;obtain⟨u,hu⟩:∃ z:Int,((iB l a b:Nat):Int)=z:=⟨_,rfl⟩;have V8:=jF h.st.r4 u (iB l a b) hu.symm (by have:=h.hn;omega);have t6e:=jF h.st.r6 u (iB l a b) hu.symm (by have:=h.hn;omega);have z0:0<=u:=by omega
 have z1:u < (n:Int)+1:=by have:=h.hn;omega
 have hs1:=dD jQ l 2097152 (by decide) (by decide) (qV h.hi) (by rw[h.hn];exact h.hn8) (iB l a b) (by omega);have hs2:=dD jQ l 2097152 (by decide) (by decide) (qV h.hi) (by rw[h.hn];exact h.hn8) a (by rw[h.hn];exact ha);have hs3:=dD iy l 4095 (by decide) (by decide) (nB h.hi) (by rw[h.hn];exact h.hn8) (iB l a b) (by omega);have hs4:=dD iy l 4095 (by decide) (by decide) (nB h.hi) (by rw[h.hn];exact h.hn8) a (by rw[h.hn];exact ha);obtain⟨R,hR⟩:∃ R,(bG S r k).f1=R:=⟨_,rfl⟩;obtain⟨X,hX⟩:∃ X,(bG S r k).f0=X:=⟨_,rfl⟩;rw[hR] at hq;have HR:=aj (And.intro hX hR);have hQ:decide (R < bY jQ l (iB l a b) - bY jQ l a - (bY iy l (iB l a b) - bY iy l a))=q:=hq;have HQ:=aj hQ;have q0:0<=x:=by omega
 have q1:x < (n:Int)+1:=by omega
 have r0:0<=y:=by omega
 have r1:y < (n:Int)+1:=by omega
 rw[hu] at he;generalize (gP l b:Int)=s7 at *;generalize bY jQ l (iB l a b)=e4 at *;generalize bY jQ l a=a4 at *;generalize bY iy l (iB l a b)=e6 at *;generalize bY iy l a=a6 at *;have w1:IntKind.i64.wrap (e4 - a4)=e4 - a4:=IntWalk.i64_in _ (by omega);have w2:IntKind.i64.wrap (e6 - a6)=e6 - a6:=IntWalk.i64_in _ (by omega);have w3:IntKind.i64.wrap (e4 - a4 - (e6 - a6))=e4 - a4 - (e6 - a6):=IntWalk.i64_in _ (by omega);clear h hx hy ha hb hE hu hR hX hq hQ hz;have hf30:=BO X R;go_enter Tryz.func88,Tryz.ntmps88;go_upto_region 2 with(fail);have y1:=Bx.cell x1;have y2:=Bx.cell x2;have y3:=Bx.cell x3;have y4:=Bx.cell x4;have y6:=Bx.cell x6;have u4:=Bx.cell t4;have XG:=Bx.cell V8;have u6:=Bx.cell t6;have u6e:=Bx.cell t6e;refine aZ (by kernel_rfl) (by kernel_rfl) ?_
 repeat(first|go_big_quiet_step ((go_at_call 22;exact Bx.cu (vR (Kd.aM H.out.hs (Bx.hb _)) H.out.hm H.out.hc2 z k HZ.out X R HR.out.1 HR.out.2))))
 refine wpQuiet_nil ?_;intro w7 hb7;clear y1 y2 y3 y4 y6 u4 XG u6 u6e;go_wp2;go_ret;exact⟨dQ HQ.out.symm,hb7⟩
end Go.Proofs.YtcaallkkeighdaaGreatDoor.P
