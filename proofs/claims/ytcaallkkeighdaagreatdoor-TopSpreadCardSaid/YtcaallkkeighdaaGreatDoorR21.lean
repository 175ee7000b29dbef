/- The breaker's lines,one behind the other;first.Break answers as the plain breakOf. first.Break answers as the plain breakOf,of items and a profile that may be. -/
import Derived.Test.YtcaallkkeighdaaGreatDoorR20
set_option maxRecDepth 100000
set_option maxHeartbeats 16000000
set_option linter.unusedVariables false
set_option linter.unusedSimpArgs false
namespace Go.Proofs.YtcaallkkeighdaaGreatDoor.P
open Go.RowKit aD aQ aR
def M0(l:List S75)(S:List S30)(r:S30)(k a:Nat):List S72:=fW l S r (l.length+1) k a
theorem Ln{l:List S75}{S:List S30}{r:S30}{k a:Nat}(h:a < l.length):M0 l S r k a=pU l (bG S r k) a :: M0 l S r (k+1) (gD l (dR l (bG S r k) a)):=by
 have hb:=iw l (bG S r k) a h;have hs:=iP l _ hb.2.2.1;unfold M0;rw[fW,if_pos h,qw l S r l.length (l.length+1) (k+1) _ (by omega) (by omega)]
theorem Oj{l:List S75}{S:List S30}{r:S30}{k a:Nat}(h:¬ a < l.length):M0 l S r k a=[]:=by
 unfold M0;rw[fW,if_neg h]
def Lp(wp:World)(A:Option Addr)(c n bs br:Nat)(T:List S72)(e:Ending)(w':World):Prop:=(∃ u,e=.returned u)/\∃ v',Dn wp A c n bs br v' T w'
theorem QV{wp:World}{b a n:Nat}{x:Int}{l:List S75}(hb:wp.heap.size=b)(hx:(a:Int)=x)(hn:l.length=n)(A:Option Addr)(c:Nat)(bs br:Nat)(A2:Option Addr)(c2:Nat)(S:List S30)(r:S30)(v:Value)(out:List S72)(w:World)(hF:Le wp A c l bs br A2 c2 S r)(hS:Dn wp A c n bs br v out w)(ha:a < n)(ho:out.length<=8192) :
  Calls Tryz.prog 103 #[.pointer (some ⟨b,0,none⟩),.int .i64 x] w (Lf wp A c l bs br S r out a):=by
 subst hb hx hn;exact Fx wp A c l bs br A2 c2 S r v out a w hF hS ha ho
theorem Ol{b i R:Nat}{x:Int}{l:List S75}(hx:(i:Int)=x)(A:Option Addr)(c:Nat)(f v:Value)(w:World)(h:vD w b A c l f v)(hi:i<=l.length)(hn:l.length<=8192)(hr:gD l i=R) :
  Calls Tryz.prog 104 #[.pointer (some ⟨b,0,none⟩),.int .i64 x] w fun e w'=>e=.returned (.int .i64 (R:Int))/\w'=w:=by
 subst hx;exact zn l i R A c b f v w h hi hn hr
theorem BM(wp:World)(A:Option Addr)(c:Nat)(l:List S75)(bs br:Nat)(A2:Option Addr)(c2:Nat)(S:List S30)(r:S30)(a:Nat)(w:World)(hF:Le wp A c l bs br A2 c2 S r)(hS:Dn wp A c l.length bs br (.slice none 0 0) [] w) :
  Calls Tryz.prog 102 #[.int .i64 (a:Int),.int .i64 (l.length:Int),.func (.func 103) #[.pointer (some ⟨wp.heap.size,0,none⟩)] #[],.func (.func 104) #[.pointer (some ⟨wp.heap.size,0,none⟩)] #[]] w (Lp wp A c l.length bs br (M0 l S r 0 a)):=by
 have HF:=aj hF;have HS:=aj hS;have HN8:=aj hF.len;obtain⟨n,hnn⟩:∃ n,l.length=n:=⟨_,rfl⟩;have dF:=aj hnn;obtain⟨b,hb⟩:∃ b,wp.heap.size=b:=⟨_,rfl⟩;have Eu:=aj hb;obtain⟨x,hx⟩:∃ x:Int,(a:Int)=x:=⟨_,rfl⟩;have HX:=aj hx.symm;obtain⟨T,hT⟩:∃ T,M0 l S r 0 a=T:=⟨_,rfl⟩;have HT:=aj hT;rw[hnn] at HS HN8;rw[hb,hnn,hx,hT];clear hF hS hnn hb hx hT;go_enter Tryz.func102,Tryz.ntmps102;go_wp2;go_loopw [8] (fun v8 wr=>∃ (y:Int) (i:Nat) (v:Value) (out:List S72),v8=.int .i64 y/\aC (y=(i:Int))/\aC (out.length<=i/\out.length<=n)/\aC (out ++ M0 l S r out.length i=T)/\aC (Dn wp A c n bs br v out wr)) (fun v8 _=>n - (intOf v8).toNat)
 case atStart=>exact⟨x,a,.slice none 0 0,[],rfl,HX,⟨Nat.zero_le _,Nat.zero_le _⟩,⟨HT.out⟩,HS⟩
 case round =>
  clear HS;obtain⟨y,i,v,out,rfl,hy,ho,hT,HS⟩:=hrel;by_cases hin:i < n
  .have d1:decide (y < (n:Int))=true:=decide_eq_true (by rw[hy.out];omega);have Oh:=aj hin;have Lr:=aj hy.out.symm;have hst:=hT.out;rw[Ln (by rw[dF.out];exact hin)] at hst;obtain⟨N,hN⟩:∃ N,dR l (bG S r out.length) i=N:=⟨_,rfl⟩;have hsp:=iw l (bG S r out.length) i (by rw[dF.out];exact hin);rw[hN] at hst hsp;have zf:=aj (And.intro hsp.2.1 hsp.2.2.1);obtain⟨M,hM⟩:∃ M,gD l N=M:=⟨_,rfl⟩;have hsr:=iP l N hsp.2.2.1;rw[hM] at hst hsr;have HST:=aj hst;have Sx:=aj hsr;have HM:=aj hM;have HN:=aj hN;clear hin hst hsp hsr hN hM hT;go_wp2_with (first|(go_at_call 103;go_loud(refine(QV Eu.out Lr.out dF.out A c bs br A2 c2 S r v out _ HF.out HS.out Oh.out (by have:=ho.out;have:=HN8.out;omega)).mono ?_;rintro e w2 ⟨rfl,v2,hS2⟩;rw[HN.out];have HS2:=aj hS2))|(go_at_call 104;go_loud(refine(Ol rfl A c (lf bs br) v2 _ (show vD w2 b A c l (lf bs br) v2 from ⟨by rw[<-Eu.out];exact HS2.out.blk,Kd.aM HF.out.rd HS2.out.hb,HF.out.cap⟩) zf.out.2 HF.out.len HM.out).mono ?_;rintro e w3 ⟨rfl,q_⟩;have q_:=q_.symm;subst q_)));go_roundw
   case rel =>
    refine⟨(M:Int),M,v2,_,rfl,⟨rfl⟩,⟨?_⟩,⟨?_⟩,⟨by have:=HS2.out;rw[dF.out] at this;exact this⟩⟩
    .rw[List.length_append,List.length_singleton];have:=ho.out;have:=zf.out;have:=Sx.out;have:=dF.out;have:=Oh.out;omega
    .rw[List.length_append,List.length_singleton,List.append_assoc];exact HST.out
   case measure=>have:=Oh.out;have:=hy.out;have:=zf.out;have:=Sx.out;simp[intOf];omega
  .have d1:decide (y < (n:Int))=false:=decide_eq_false (by rw[hy.out];omega);have HE:=aj (show out=T by have:=hT.out;rw[Oj (by rw[dF.out];exact hin),List.append_nil] at this;exact this);clear hin;go_wp2;go_end0;exact⟨⟨_,rfl⟩,v,by rw[<-HE.out];exact HS.out⟩
def Ls(l:List S75)(S:List S30)(r:S30)(w:World)(e:Ending)(w':World):Prop:=∃ v,e=.returned (.tuple #[v,.int .i64 0])/\k72.R 72 w' w.heap.size (fun _=>True) v (iA l S r)/\Below w.heap.size w w'
theorem Lu{l:List S30}{r:S30}{A:Option Addr}{c m:Nat}(hm:l.length=m)(w:World)(hl:Kd.C k30 w A l.length l)(hc:l.length<=c)(h:bV l r=0) :
  Calls Tryz.prog 51 #[.slice A m c,.agg #[.int .i64 r.f0,.int .i64 r.f1]] w fun e w'=>e=.returned (.int .i64 0)/\Below w.heap.size w w':=by
 subst hm;exact jm l r A c w hl hc 0 h
theorem Lv{l:List S75}{A:Option Addr}{c n:Nat}(hn':l.length=n)(w:World)(hl:Kd.C k75 w A l.length l)(hc:l.length<=c)(h:∀ x∈l,cY x)(hn:l.length<=8192):Calls Tryz.prog 86 #[.slice A n c] w fun e w'=>e=.returned (.int .i64 0)/\Below w.heap.size w w':=by
 subst hn';exact m_ l A c w hl hc h hn
theorem Lw{wp:World}{b a n:Nat}{x:Int}{l:List S75}(hb:wp.heap.size=b)(hx:(a:Int)=x)(hn:l.length=n)(A:Option Addr)(c:Nat)(bs br:Nat)(A2:Option Addr)(c2:Nat)(S:List S30)(r:S30)(w:World)(hF:Le wp A c l bs br A2 c2 S r)(hS:Dn wp A c n bs br (.slice none 0 0) [] w) :
  Calls Tryz.prog 102 #[.int .i64 x,.int .i64 (n:Int),.func (.func 103) #[.pointer (some ⟨b,0,none⟩)] #[],.func (.func 104) #[.pointer (some ⟨b,0,none⟩)] #[]] w (Lp wp A c n bs br (M0 l S r 0 a)):=by
 subst hb hx hn;exact BM wp A c l bs br A2 c2 S r a w hF hS
theorem Dq(l:List S75)(A:Option Addr)(c:Nat)(S:List S30)(A2:Option Addr)(c2:Nat)(r:S30)(w:World)(hl:Kd.C k75 w A l.length l)(hc:l.length<=c)(h:∀ x∈l,cY x)(hn:l.length<=8192)(hs:Kd.C k30 w A2 S.length S)(hc2:S.length<=c2)(h0:bV S r=0) :
  Calls Tryz.prog 54 #[.slice A l.length c,.slice A2 S.length c2,.agg #[.int .i64 r.f0,.int .i64 r.f1]] w (Ls l S r w):=by
 have HL:=aj hl;have HC:=aj hc;have HI:=aj h;have HN:=aj hn;have HS:=aj hs;have HC2:=aj hc2;have H0:=aj h0;obtain⟨n,hnn⟩:∃ n,l.length=n:=⟨_,rfl⟩;have dF:=aj hnn;obtain⟨m,hmm⟩:∃ m,S.length=m:=⟨_,rfl⟩;have JM:=aj hmm;rw[hnn,hmm];have hb0:=((Below.refl w.heap.size w).alloc (Nat.le_refl _) (.cells #[.slice A2 m c2] 28)).alloc (by simp) (.cells #[.int .i64 r.f0,.int .i64 r.f1] 30);have hk1:=aP (aH w (.cells #[.slice A2 m c2] 28)) (.cells #[.int .i64 r.f0,.int .i64 r.f1] 30);have hk2:=aH (w.alloc (.cells #[.slice A2 m c2] 28)) (.cells #[.int .i64 r.f0,.int .i64 r.f1] 30);rw[World.size_alloc] at hk2;have HB0:=aj hb0;have HK1:=aj hk1;have HK2:=aj hk2;clear hl hc h hn hs hc2 h0 hnn hmm hb0 hk1 hk2;go_enter Tryz.func54,Tryz.ntmps54;go_upto_region 4 with(go_at_call 86;go_loud(refine(Lv dF.out _ (Kd.aM HL.out HB0.out) HC.out HI.out HN.out).mono ?_;rintro e w1 ⟨rfl,hb1⟩;have HB1:=aj (HB0.out.trans (hb1.mono HB0.out.size));have HK1:=aj (ay HK1.out hb1);have HK2:=aj (ay HK2.out hb1)));have x0:w1.cell? ⟨w.heap.size,0,none⟩=some (.slice A2 m c2):=(ak HK1.out 0).trans rfl;have x1:w1.cell? ⟨w.heap.size+1,0,none⟩=some (.int .i64 r.f0):=(ak HK2.out 0).trans rfl;have x2:w1.cell? ⟨w.heap.size+1,1,none⟩=some (.int .i64 r.f1):=(ak HK2.out 1).trans rfl;go_upto_region 7 with(go_at_call 51;go_loud(refine(Lu JM.out _ (Kd.aM HS.out HB1.out) HC2.out H0.out).mono ?_;rintro e w2 ⟨rfl,hb2⟩;have HB2:=aj (HB1.out.trans (hb2.mono HB1.out.size));have HK1:=aj (ay HK1.out hb2);have HK2:=aj (ay HK2.out hb2)));have HF:=aj (show Le w2 A c l w.heap.size (w.heap.size+1) A2 c2 S r from ⟨Kd.aM HL.out HB2.out,HC.out,⟨by rw[JM.out];exact HK1.out,HK2.out,Kd.aM HS.out HB2.out,HC2.out⟩,H0.out,HI.out,HN.out⟩);go_upto_block 0 with(fail);have dI:=aj ((Below.refl w2.heap.size w2).alloc (Nat.le_refl _) (.cells #[.slice A n c,lf w.heap.size (w.heap.size+1),.slice none 0 0] 171));have IU:=aj (show Dn w2 A c n w.heap.size (w.heap.size+1) (.slice none 0 0) [] (w2.alloc (.cells #[.slice A n c,lf w.heap.size (w.heap.size+1),.slice none 0 0] 171)) from ⟨dI.out,aH _ _,Kd.nO _ _ _ _ _⟩);obtain⟨G,hG⟩:∃ G,jo l=G:=⟨_,rfl⟩;have HG:=aj hG;have jr:=aj (show G<=n by rw[<-hG,<-dF.out];have:=fV l l.length 0;unfold jo;omega);obtain⟨b,hb⟩:∃ b,w2.heap.size=b:=⟨_,rfl⟩;have qx:=aj hb;obtain⟨W3,hW3⟩:∃ W,w2.alloc (.cells #[.slice A n c,lf w.heap.size (w.heap.size+1),.slice none 0 0] 171)=W:=⟨_,rfl⟩;have Tt:w2.alloc (.cells #[.slice A n c,.func (.func 101) #[] #[.pointer (some ⟨w.heap.size,0,none⟩),.pointer (some ⟨w.heap.size+1,0,none⟩)],.slice none 0 0] 171)=W3:=hW3;rw[hW3] at dI IU;rw[Tt,hb];have HL3:=aj (Kd.aM HL.out (HB2.out.trans (dI.out.mono HB2.out.size)));clear hW3 Tt hG hb;go_cut [11] from 27 to 40 (fun v11 wc=>v11=.int .i64 (G:Int)/\W3=wc)
 case first =>
  go_wp2;go_loopw [11] (fun v11 wr=>∃ (y:Int) (j:Nat),v11=.int .i64 y/\aC (y=(j:Int))/\aC (j<=n)/\aC (cW l (n - j) j=G)/\W3=wr) (fun v11 _=>n - (intOf v11).toNat)
  case atStart=>exact⟨0,0,rfl,⟨rfl⟩,⟨Nat.zero_le _⟩,⟨by rw[<-HG.out,<-dF.out];rfl⟩,(by first|rfl|trivial)⟩
  case round =>
   obtain⟨y,j,rfl,hy,hj,hR,rfl⟩:=hrel;by_cases h1:j < n
   .have d1:decide (y < (n:Int))=true:=decide_eq_true (by rw[hy.out];omega);have q0:0<=y:=(by rw[hy.out];omega);have q1:y < (n:Int):=(by rw[hy.out];omega);have q3:y<=8192:=(by rw[hy.out];have:=HN.out;have:=dF.out;omega);have p0:=eq_true q0;have p1:=eq_true q1;obtain⟨ad,e0,k0,_⟩:=eD HL3.out y q0 (by rw[dF.out];exact q1);cases e0
    rw[dn hy.out] at k0;have H1:=aj h1;by_cases h3:(aX l j).f0=2
    .have hg:((aX l j).f0 == 2)=true:=(by simp[h3]);have HQ:=aj (show cW l (n - (j+1)) (j+1)=G by rw[<-hR.out,<-dF.out];exact(tY (by rw[dF.out];exact h1) h3).symm);generalize (aX l j).f0=g at *;clear h1 h3;go_wp2;go_roundw
     case rel=>exact⟨y+1,j+1,rfl,⟨by rw[hy.out];omega⟩,⟨H1.out⟩,HQ,(by first|rfl|trivial)⟩
     case measure=>have:=H1.out;have:=hy.out;simp[intOf];omega
    .have hg:((aX l j).f0 == 2)=false:=(by simpa using h3);have HQ:=aj (show y=(G:Int) by rw[hy.out,<-hR.out,<-dF.out];exact(congrArg Int.ofNat (tZ (by rw[dF.out];exact h1) h3)).symm);generalize (aX l j).f0=g at *;clear h1 h3;go_wp2;go_meet
     case rel=>exact⟨by rw[HQ.out],(by first|rfl|trivial)⟩
   .have d1:decide (y < (n:Int))=false:=decide_eq_false (by rw[hy.out];omega);have HQ:=aj (show y=(G:Int) by rw[hy.out,<-hR.out,<-dF.out];exact(congrArg Int.ofNat (xE (by have:=hj.out;have:=dF.out;omega))).symm);clear h1;go_wp2;go_meet
    case rel=>exact⟨by rw[HQ.out],(by first|rfl|trivial)⟩
 case rest =>
  obtain⟨rfl,rfl⟩:=hcut;have HB3:=aj (HB2.out.trans (dI.out.mono HB2.out.size));obtain⟨x,hx⟩:∃ x:Int,(G:Int)=x:=⟨_,rfl⟩;have HX:=aj hx;rw[hx];by_cases hgn:G=n
  .have d1:(x == (n:Int))=true:=by rw[<-hx,hgn];exact beq_self_eq_true _
   have HF2:=aj (show iA l S r=[⟨(n:Int),(n:Int),false,false,0⟩] by unfold iA;rw[if_pos (by rw[HG.out,dF.out];exact hgn),dF.out]);clear hx hgn;go_wp2_with ((with_reducible refine aS (N:=50) rfl ?_);go_loud(refine Kd.O5 k72 (w0:=w) (W:=W3) w.heap.size 72 rfl (N:=50) rfl (xs:=[⟨(n:Int),(n:Int),false,false,0⟩]) (inner:=[.int .i64 (n:Int),.int .i64 (n:Int),.bool false,.bool false,.int .i64 0]) (ok:=fun _=>True) (uJ:=fun _=>False) ?_ ?_ (fun _ h=>h.elim) trivial HB3.out HB3.out.size (by simp) ?_;(focus (first|(go_simp;done)|(go_simp;rfl)));(focus (exact(iY.none _ _).snoc (pQ _ _ _ _) rfl));intro v3 w3 hR3 hb3 hg3 aa5));go_ret2;exact⟨v3,rfl,by rw[HF2.out];exact hR3,hb3⟩
  .have d1:(x == (n:Int))=false:=by rw[beq_eq_false_iff_ne];omega
   have HF2:=aj (show iA l S r=M0 l S r 0 G by unfold iA;rw[if_neg (by rw[HG.out,dF.out];exact hgn),HG.out];rfl);clear hx hgn;go_wp2_with (go_at_call 102;go_loud(refine(Lw qx.out HX.out dF.out A c _ _ A2 c2 S r _ HF.out IU.out).mono ?_;rintro e w4 ⟨⟨u,rfl⟩,v4,hS4⟩;have HS4:=aj hS4;have hk4:=HS4.out.blk;rw[qx.out] at hk4;have x4:w4.cell? ⟨b,2,none⟩=some v4:=(ak hk4 2).trans rfl));go_ret2;exact⟨v4,rfl,by rw[HF2.out];exact Kd.fF HS4.out.row (by have:=HB2.out.size;omega),HB2.out.trans (HS4.out.hb.mono HB2.out.size)⟩
end Go.Proofs.YtcaallkkeighdaaGreatDoor.P
