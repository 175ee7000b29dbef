/- set's walk through a line's masses. the closures of set.Place. -/
import Derived.Test.YtcaallkkeighdaaGreatDoorR35
set_option maxRecDepth 100000
set_option maxHeartbeats 16000000
set_option linter.unusedVariables false
set_option linter.unusedSimpArgs false
namespace Go.Proofs.YtcaallkkeighdaaGreatDoor.P
open Go.RowKit aD aQ aR
def SF(kd:List Bool)(k:Nat)(m:S99)(a:Int):Int:=if kd.getD k false=true then a+m.f5 else a
def Rx(ah:Nat)(k:Nat)(m:S99)(a:Int):Int:=if k < ah then 0 else if m.f2=4 then eM a - a else m.f4
def n_(kd:List Bool)(ah:Nat)(l:List S99)(x:Int):Nat->Int
 | 0=>x
 | k+1=>SF kd k (aV l k) (n_ kd ah l x k)+Rx ah k (aV l k) (SF kd k (aV l k) (n_ kd ah l x k))
def rG(kd:List Bool)(ah:Nat)(l:List S99)(x:Int)(k:Nat):Int:=SF kd k (aV l k) (n_ kd ah l x k)
def wW(kd:List Bool)(ah:Nat)(l:List S99)(x:Int)(k:Nat):Int:=Rx ah k (aV l k) (rG kd ah l x k)
theorem DU(kd:List Bool)(ah:Nat)(l:List S99)(x:Int)(k:Nat):n_ kd ah l x (k+1)=rG kd ah l x k+wW kd ah l x k:=rfl
def ju(b:Nat)(S:Nat->Prop)(w w':World):Prop:=w.heap.size<=w'.heap.size/\∀ g,g<=b->g < w.heap.size->¬ S g->w'.heap[g]? = w.heap[g]?
theorem ju.refl(b:Nat)(S:Nat->Prop)(w:World):ju b S w w:=⟨Nat.le_refl _,fun _ _ _ _=>rfl⟩
theorem ju.trans{b:Nat}{S:Nat->Prop}{w1 w2 w3:World}(h:ju b S w1 w2)(k:ju b S w2 w3):ju b S w1 w3 :=
 ⟨Nat.le_trans h.1 k.1,fun g h1 h2 h3=>(k.2 g h1 (Nat.lt_of_lt_of_le h2 h.1) h3).trans (h.2 g h1 h2 h3)⟩
theorem ju.below{b:Nat}{S:Nat->Prop}{w w':World}(h:Below w.heap.size w w'):ju b S w w':=⟨h.size,fun g _ h2 _=>h.block g h2⟩
theorem ju.blk{b:Nat}{S:Nat->Prop}{w w':World}(h:ju b S w w'){g:Nat}{o:Obj}(hb:w.heap[g]? = some o)(h1:g<=b)(h2:¬ S g):w'.heap[g]? = some o:=(h.2 g h1 (aY hb) h2).trans hb
theorem ju.cell{b:Nat}{S:Nat->Prop}{w w':World}(h:ju b S w w'){p:Addr}{v:Value}(hc:w.cell? p=some v)(h1:p.block<=b)(h2:¬ S p.block):w'.cell? p=some v :=
 (World.cell?_of_block (w:=w) (h.2 p.block h1 (World.block_lt_of_cell? w p hc) h2)).trans hc
theorem gF(a:Addr)(n:Nat):(a.add n).block=a.block:=by unfold Addr.add;split<;>rfl
theorem Ry(l:List S99)(kd:List Bool)(n:Nat)(hn:l.length=n)(A B:Option Addr)(c cb:Nat)(a so:Int)(an sn:Nat)(d h x:Int) (w:World)(hl:Kd.C k99 w A n l)(hk:Kd.C Kd.bool w B n kd)(hc:n<=c)(hn8:n<=4096)(hM:∀ m∈l,cI m)(ha:a=(an:Int))(hs:so=(sn:Int))(h2:sn<=n)(z:Int)(hz:n_ kd an l x sn=z)
  (hT:∀ k,k < sn->(0<=n_ kd an l x k/\n_ kd an l x k<=900000000)/\(0<=rG kd an l x k/\rG kd an l x k<=900000000)) (hW:∀ k,k < sn->0<=wW kd an l x k/\wW kd an l x k<=4095)
  (S:Nat->Prop) (I:Nat->World->Prop) (hS:∀ g,S g->g < w.heap.size) (Un:∀ ad,A=some ad->¬ S ad.block) (Uo:∀ ad,B=some ad->¬ S ad.block)
  (h0:∀ o,I 0 (w.alloc o)) (hI:∀ k W W',I k W->Below W.heap.size W W'->I k W')
  (Uq:∀ k W,k < sn->I k W->w.heap.size < W.heap.size->Calls Tryz.prog 32 #[.int .i64 (k:Int),.int .i64 (rG kd an l x k),.int .i64 (wW kd an l x k)] W fun e W'=>e=.returned (.tuple #[])/\I (k+1) W'/\ju w.heap.size S W W') :
  Calls Tryz.prog 31 #[.agg #[.slice A n c,.slice B n cb,.int .i64 a,.int .i64 so,.int .i64 d,.int .i64 h],.int .i64 x,.func (.func 32) #[] #[]] w fun e w'=>e=.returned (.int .i64 z)/\I sn w'/\ju w.heap.size S w w':=by
 have HL:=aj hl;have HK:=aj hk;have HM:=aj hM;have HN:=aj (And.intro hn hn8);have HT:=aj hT;have HW:=aj hW;have HS:=aj hS;have tT:=aj (And.intro Un Uo);have HI:=aj hI;have Yu:=aj Uq;have HZ:=aj hz;have JR:=aj ha;have HB0:=aj (And.intro (h0 (.cells #[.slice A n c,.slice B n cb,.int .i64 a,.int .i64 so,.int .i64 d,.int .i64 h] 90)) ((Below.refl w.heap.size w).alloc (Nat.le_refl _) (.cells #[.slice A n c,.slice B n cb,.int .i64 a,.int .i64 so,.int .i64 d,.int .i64 h] 90)));have HX:=aj (aH w (.cells #[.slice A n c,.slice B n cb,.int .i64 a,.int .i64 so,.int .i64 d,.int .i64 h] 90));have hcut:=J4 (P:=Tryz.prog) 82 99 .i64 Tryz.underlying82 rfl A n c so (by omega) (by omega) hc (w.alloc (.cells #[.slice A n c,.slice B n cb,.int .i64 a,.int .i64 so,.int .i64 d,.int .i64 h] 90));rw[show so.toNat=sn by omega] at hcut;have H2:=aj (show sn<=n/\sn<=4096 by omega);clear hl hk hM hn hn8 hT hW hS Un Uo hI Uq hz ha h2 h0 hs hc;go_enter Tryz.func31,Tryz.ntmps31;go_wp2;clear hcut;obtain⟨w0,hw0⟩:∃ w0,w.alloc (.cells #[.slice A n c,.slice B n cb,.int .i64 a,.int .i64 so,.int .i64 d,.int .i64 h] 90)=w0:=⟨_,rfl⟩;rw[hw0] at HB0 HX ⊢;have HW0:=aj (show w.heap.size < w0.heap.size by rw[<-hw0,World.size_alloc];omega);clear hw0;obtain⟨b,hb⟩:∃ b,w.heap.size=b:=⟨_,rfl⟩;have mK:=aj hb;rw[hb] at HX HW0 ⊢;clear hb;go_loopw [7,18] (fun v7 v18 wr=>∃ (q y:Int) (k:Nat),v7=.int .i64 q/\v18=.int .i64 y/\aC (y=(k:Int)/\k<=sn)/\aC (n_ kd an l x k=q)/\aC (I k wr/\ju b S w0 wr)) (fun _ v18 _=>sn - (intOf v18).toNat)
 case atStart=>exact⟨x,0,0,rfl,rfl,⟨rfl,Nat.zero_le _⟩,⟨rfl⟩,⟨HB0.out.1,ju.refl _ _ _⟩⟩
 case round =>
  obtain⟨q,y,k,rfl,rfl,hy,hq,hI⟩:=hrel;by_cases hlt:k < sn
  .have d1:decide (y < (sn:Int))=true:=decide_eq_true (by rw[hy.out.1];omega);have q0:0<=y:=by rw[hy.out.1];omega
   have q1:y < (n:Int):=by rw[hy.out.1];have:=H2.out;omega
   have q2:y < (sn:Int):=by rw[hy.out.1];omega
   have q3:y<=4096:=by have:=H2.out;omega
   obtain⟨ad,e0,k0,k1,k2,k3,k4,k5⟩:=eV HL.out y q0 q1;obtain⟨ad2,e1,kb⟩:=Kd.Gp HK.out y q0 q1;subst e0;subst e1;have hA1:=tT.out.1 ad rfl;have hA2:=tT.out.2 ad2 rfl;have hbl:∀ {p:Addr} {v:Value},w.cell? p=some v->¬ S p.block->wr.cell? p=some v:=fun hc hS=>hI.out.2.cell ((HB0.out.2.cell (World.block_lt_of_cell? w _ hc)).trans hc) (by have:=World.block_lt_of_cell? w _ hc;rw[mK.out] at this;omega) hS
   replace k0:=hbl k0 (by rw[gF];exact hA1);replace k1:=hbl k1 (by show ¬ S (ad.add _).block;rw[gF];exact hA1);replace k2:=hbl k2 (by show ¬ S (ad.add _).block;rw[gF];exact hA1);replace k3:=hbl k3 (by show ¬ S (ad.add _).block;rw[gF];exact hA1);replace k4:=hbl k4 (by show ¬ S (ad.add _).block;rw[gF];exact hA1);replace k5:=hbl k5 (by show ¬ S (ad.add _).block;rw[gF];exact hA1);replace kb:=hbl kb (by rw[gF];exact hA2);have hbx:wr.heap[b]? = some (.cells #[.slice (some ad) n c,.slice (some ad2) n cb,.int .i64 a,.int .i64 so,.int .i64 d,.int .i64 h] 90 (0,0)):=hI.out.2.blk HX.out (Nat.le_refl _) (fun hs=>by have:=HS.out _ hs;rw[mK.out] at this;omega);have hmm:cI (aV l y):=HM.out _ (by rw[hy.out.1];exact o_ (by rw[HN.out.1];have:=H2.out;omega));have hT:=HT.out k hlt;have hW:=HW.out k hlt;have OO:=Yu.out k;have hrd:vZ false kd y=kd.getD k false:=by rw[hy.out.1];unfold vZ;simp
   rw[hrd] at kb;have Ur:=hq.out;have IY:=aj (DU kd an l x k);obtain⟨f,hf⟩:∃ f,rG kd an l x k=f:=⟨_,rfl⟩;obtain⟨g,hg⟩:∃ f,wW kd an l x k=f:=⟨_,rfl⟩;rw[hf,hg] at IY OO;have hf2:=hf;have hg2:=hg;unfold rG SF at hf2;unfold wW Rx at hg2;rw[hf] at hg2 hT;rw[hg] at hW;rw[Ur] at hf2 hT;rw[<-hy.out.1] at hf2 hg2 OO;obtain⟨m,hm⟩:∃ m,aV l y=m:=⟨_,rfl⟩;rw[hm] at k0 k1 k2 k3 k4 k5 hf2 hg2 hmm;obtain⟨kk,hkk⟩:∃ kk,kd.getD k false=kk:=⟨_,rfl⟩;rw[hkk] at kb hf2;have cg:=aj hlt;have dI:=aj hbx;have F3:=aj OO;have HF:=aj hf2;have HG:=aj hg2;have Us:=aj (show(a > y↔k < an) by rw[JR.out,hy.out.1];omega);obtain⟨⟨t0,t1⟩,⟨t2,t3⟩⟩:=hT;obtain⟨g0,g1⟩:=hW;obtain⟨m0,m1,m2,m3⟩:=hmm;have z0:=cM k0 (.cells #[.int .i64 0,.int .i64 0,.int .i64 0,.int .i64 0,.int .i64 0,.int .i64 0] 99);have p0:=eq_true q0;have p1:=eq_true q1;have p2:=eq_true q2;clear hlt hm hkk hf hg hf2 hg2 hrd Ur OO hbl hA1 hA2 hbx;go_upto_region 5 with(fail);have tF:=aj (aH wr (.cells #[.int .i64 m.f0,.int .i64 m.f1,.int .i64 m.f2,.int .i64 m.f3,.int .i64 m.f4,.int .i64 m.f5] 99));have lI:=aj (show Below wr.heap.size wr (wr.alloc (.cells #[.int .i64 m.f0,.int .i64 m.f1,.int .i64 m.f2,.int .i64 m.f3,.int .i64 m.f4,.int .i64 m.f5] 99)) from (Below.refl _ _).alloc (Nat.le_refl _) _);have xW:=aj (ay dI.out lI.out);replace kb:=(lI.out.cell (World.block_lt_of_cell? wr _ kb)).trans kb;obtain⟨bm,F4⟩:∃ bm,wr.heap.size=bm:=⟨_,rfl⟩;rw[F4] at tF ⊢;clear F4 k0 k1 k2 k3 k4 k5 z0;generalize wr.alloc (.cells #[.int .i64 m.f0,.int .i64 m.f1,.int .i64 m.f2,.int .i64 m.f3,.int .i64 m.f4,.int .i64 m.f5] 99)=w5 at *;have e2:w5.cell? ⟨bm,2,none⟩=some (.int .i64 m.f2):=(ak tF.out 2).trans rfl;have e4:w5.cell? ⟨bm,4,none⟩=some (.int .i64 m.f4):=(ak tF.out 4).trans rfl;have e5:w5.cell? ⟨bm,5,none⟩=some (.int .i64 m.f5):=(ak tF.out 5).trans rfl;have b1:w5.cell? ⟨b,1,none⟩=some (.slice (some ad2) n cb):=(ak xW.out 1).trans rfl;have b2:w5.cell? ⟨b,2,none⟩=some (.int .i64 a):=(ak xW.out 2).trans rfl;go_upto_if 27 with(fail);clear kb b1;go_cut [7] (fun v7 wc=>v7=.int .i64 f/\wc=w5)
   case first =>
    cases kk with
    | true =>
     have HF2:=HF.out;rw[if_pos rfl] at HF2;have HF3:=aj HF2;have r0:0<=q+m.f5:=(by omega);clear HF2;go_wp2;go_meet
     case rel=>exact⟨by rw[<-HF3.out],(by first|rfl|trivial)⟩
    | false =>
     have HF2:=HF.out;rw[if_neg (by decide)] at HF2;have HF3:=aj HF2;clear HF2;go_wp2;go_meet
     case rel=>exact⟨by rw[<-HF3.out],(by first|rfl|trivial)⟩
   case rest =>
    obtain⟨rfl,rfl⟩:=hcut;by_cases hka:k < an
    .have d2:decide (y < a)=true:=decide_eq_true (by have:=Us.out;omega);have HG2:=aj (show g=0 by have:=HG.out;rw[if_pos hka] at this;exact this.symm);obtain rfl:g=0:=HG2.out;clear hka;go_wp2_with (first|(go_at_call 32;go_loud(refine(F3.out _ cg.out (HI.out k wr _ hI.out.1 lI.out) (by have h1:=HW0.out;have h2:=hI.out.2.1;have h3:=(lI.out).size;rw[mK.out];omega)).mono ?_;rintro e w7 ⟨rfl,hI7,hS7⟩;rw[mK.out] at hS7;have HI7:=aj (And.intro hI7 ((hI.out.2.trans (ju.below lI.out)).trans hS7));clear hI7 hS7)));go_roundw
     case rel=>exact⟨f,y+1,k+1,rfl,rfl,⟨by rw[hy.out.1];omega,cg.out⟩,⟨by rw[IY.out];omega⟩,HI7⟩
     case measure=>have:=cg.out;have:=hy.out;simp[intOf];omega
    .have d2:decide (y < a)=false:=decide_eq_false (by have:=Us.out;omega);by_cases c4:m.f2=4
     .have d3:(m.f2 == 4)=true:=beq_iff_eq.mpr c4;have HG2:=aj (show eM f - f=g by have:=HG.out;rw[if_neg hka,if_pos c4] at this;exact this);obtain⟨st,hst⟩:∃ st,eM f=st:=⟨_,rfl⟩;have HST:=aj hst;have Ut:st - f=g:=(by rw[<-hst];exact HG2.out);have Sz:=aj Ut;have s1:0<=st - f:=(by omega);have s2:st - f<=4095:=(by omega);clear hka c4 hst Ut;go_upto_region 12 with(first|(go_at_call 73;go_loud(refine(wT f _ (by omega) (by omega)).mono ?_;rintro e w6 ⟨rfl,hb6⟩;rw[HST.out];have HB6:=aj (lI.out.trans (hb6.mono lI.out.size));clear hb6)));rw[Sz.out];go_wp2_with (first|(go_at_call 32;go_loud(refine(F3.out _ cg.out (HI.out k wr _ hI.out.1 HB6.out) (by have h1:=HW0.out;have h2:=hI.out.2.1;have h3:=(HB6.out).size;rw[mK.out];omega)).mono ?_;rintro e w7 ⟨rfl,hI7,hS7⟩;rw[mK.out] at hS7;have HI7:=aj (And.intro hI7 ((hI.out.2.trans (ju.below HB6.out)).trans hS7));clear hI7 hS7)));go_roundw
      case rel=>exact⟨f+g,y+1,k+1,rfl,rfl,⟨by rw[hy.out.1];omega,cg.out⟩,⟨IY.out⟩,HI7⟩
      case measure=>have:=cg.out;have:=hy.out;simp[intOf];omega
     .have d3:(m.f2 == 4)=false:=beq_eq_false_iff_ne.mpr c4;have HG2:=aj (show m.f4=g by have:=HG.out;rw[if_neg hka,if_neg c4] at this;exact this);rw[HG2.out] at e4;clear hka c4;go_wp2_with (first|(go_at_call 32;go_loud(refine(F3.out _ cg.out (HI.out k wr _ hI.out.1 lI.out) (by have h1:=HW0.out;have h2:=hI.out.2.1;have h3:=(lI.out).size;rw[mK.out];omega)).mono ?_;rintro e w7 ⟨rfl,hI7,hS7⟩;rw[mK.out] at hS7;have HI7:=aj (And.intro hI7 ((hI.out.2.trans (ju.below lI.out)).trans hS7));clear hI7 hS7)));go_roundw
      case rel=>exact⟨f+g,y+1,k+1,rfl,rfl,⟨by rw[hy.out.1];omega,cg.out⟩,⟨IY.out⟩,HI7⟩
      case measure=>have:=cg.out;have:=hy.out;simp[intOf];omega
  .have d1:decide (y < (sn:Int))=false:=decide_eq_false (by rw[hy.out.1];omega);have hks:k=sn:=by have:=hy.out;omega
   have HE:=aj (show q=z by rw[<-hq.out,<-HZ.out,hks]);have HI2:=aj (show I sn wr by rw[<-hks];exact hI.out.1);clear hlt hks;go_wp2;go_ret;refine⟨dh (by rw[HE.out]),HI2.out,?_⟩;rw[mK.out];exact(ju.below HB0.out.2).trans hI.out.2
theorem Rz(l:List S99)(kd:List Bool)(n:Nat)(hn:l.length=n)(A B:Option Addr)(c cb:Nat)(a so:Int)(an sn:Nat)(d h x:Int)(x1 x2 x3 x4 x5 x6 x7:Nat)(w:World)(hl:Kd.C k99 w A n l)(hk:Kd.C Kd.bool w B n kd)(hc:n<=c)(hn8:n<=4096)(hM:∀ m∈l,cI m)(ha:a=(an:Int))(hs:so=(sn:Int))(h2:sn<=n)(z:Int)(hz:n_ kd an l x sn=z)
  (hT:∀ k,k < sn->(0<=n_ kd an l x k/\n_ kd an l x k<=900000000)/\(0<=rG kd an l x k/\rG kd an l x k<=900000000)) (hW:∀ k,k < sn->0<=wW kd an l x k/\wW kd an l x k<=4095)
  (S:Nat->Prop) (I:Nat->World->Prop) (hS:∀ g,S g->g < w.heap.size) (Un:∀ ad,A=some ad->¬ S ad.block) (Uo:∀ ad,B=some ad->¬ S ad.block)
  (h0:∀ o,I 0 (w.alloc o)) (hI:∀ k W W',I k W->Below W.heap.size W W'->I k W')
  (Uq:∀ k W,k < sn->I k W->w.heap.size < W.heap.size->Calls Tryz.prog 40 #[.int .i64 (k:Int),.int .i64 (rG kd an l x k),.int .i64 (wW kd an l x k),.pointer (some ⟨x1,0,none⟩),.pointer (some ⟨x2,0,none⟩),.pointer (some ⟨x3,0,none⟩),.pointer (some ⟨x4,0,none⟩),.pointer (some ⟨x5,0,none⟩),.pointer (some ⟨x6,0,none⟩),.pointer (some ⟨x7,0,none⟩)] W fun e W'=>e=.returned (.tuple #[])/\I (k+1) W'/\ju w.heap.size S W W') :
  Calls Tryz.prog 31 #[.agg #[.slice A n c,.slice B n cb,.int .i64 a,.int .i64 so,.int .i64 d,.int .i64 h],.int .i64 x,.func (.func 40) #[] #[.pointer (some ⟨x1,0,none⟩),.pointer (some ⟨x2,0,none⟩),.pointer (some ⟨x3,0,none⟩),.pointer (some ⟨x4,0,none⟩),.pointer (some ⟨x5,0,none⟩),.pointer (some ⟨x6,0,none⟩),.pointer (some ⟨x7,0,none⟩)]] w fun e w'=>e=.returned (.int .i64 z)/\I sn w'/\ju w.heap.size S w w':=by
 have HL:=aj hl;have HK:=aj hk;have HM:=aj hM;have HN:=aj (And.intro hn hn8);have HT:=aj hT;have HW:=aj hW;have HS:=aj hS;have tT:=aj (And.intro Un Uo);have HI:=aj hI;have Yu:=aj Uq;have HZ:=aj hz;have JR:=aj ha;have HB0:=aj (And.intro (h0 (.cells #[.slice A n c,.slice B n cb,.int .i64 a,.int .i64 so,.int .i64 d,.int .i64 h] 90)) ((Below.refl w.heap.size w).alloc (Nat.le_refl _) (.cells #[.slice A n c,.slice B n cb,.int .i64 a,.int .i64 so,.int .i64 d,.int .i64 h] 90)));have HX:=aj (aH w (.cells #[.slice A n c,.slice B n cb,.int .i64 a,.int .i64 so,.int .i64 d,.int .i64 h] 90));have hcut:=J4 (P:=Tryz.prog) 82 99 .i64 Tryz.underlying82 rfl A n c so (by omega) (by omega) hc (w.alloc (.cells #[.slice A n c,.slice B n cb,.int .i64 a,.int .i64 so,.int .i64 d,.int .i64 h] 90));rw[show so.toNat=sn by omega] at hcut;have H2:=aj (show sn<=n/\sn<=4096 by omega);clear hl hk hM hn hn8 hT hW hS Un Uo hI Uq hz ha h2 h0 hs hc;go_enter Tryz.func31,Tryz.ntmps31;go_wp2;clear hcut;obtain⟨w0,hw0⟩:∃ w0,w.alloc (.cells #[.slice A n c,.slice B n cb,.int .i64 a,.int .i64 so,.int .i64 d,.int .i64 h] 90)=w0:=⟨_,rfl⟩;rw[hw0] at HB0 HX ⊢;have HW0:=aj (show w.heap.size < w0.heap.size by rw[<-hw0,World.size_alloc];omega);clear hw0;obtain⟨b,hb⟩:∃ b,w.heap.size=b:=⟨_,rfl⟩;have mK:=aj hb;rw[hb] at HX HW0 ⊢;clear hb;go_loopw [7,18] (fun v7 v18 wr=>∃ (q y:Int) (k:Nat),v7=.int .i64 q/\v18=.int .i64 y/\aC (y=(k:Int)/\k<=sn)/\aC (n_ kd an l x k=q)/\aC (I k wr/\ju b S w0 wr)) (fun _ v18 _=>sn - (intOf v18).toNat)
 case atStart=>exact⟨x,0,0,rfl,rfl,⟨rfl,Nat.zero_le _⟩,⟨rfl⟩,⟨HB0.out.1,ju.refl _ _ _⟩⟩
 case round =>
  obtain⟨q,y,k,rfl,rfl,hy,hq,hI⟩:=hrel;by_cases hlt:k < sn
  .have d1:decide (y < (sn:Int))=true:=decide_eq_true (by rw[hy.out.1];omega);have q0:0<=y:=by rw[hy.out.1];omega
   have q1:y < (n:Int):=by rw[hy.out.1];have:=H2.out;omega
   have q2:y < (sn:Int):=by rw[hy.out.1];omega
   have q3:y<=4096:=by have:=H2.out;omega
   obtain⟨ad,e0,k0,k1,k2,k3,k4,k5⟩:=eV HL.out y q0 q1;obtain⟨ad2,e1,kb⟩:=Kd.Gp HK.out y q0 q1;subst e0;subst e1;have hA1:=tT.out.1 ad rfl;have hA2:=tT.out.2 ad2 rfl;have hbl:∀ {p:Addr} {v:Value},w.cell? p=some v->¬ S p.block->wr.cell? p=some v:=fun hc hS=>hI.out.2.cell ((HB0.out.2.cell (World.block_lt_of_cell? w _ hc)).trans hc) (by have:=World.block_lt_of_cell? w _ hc;rw[mK.out] at this;omega) hS
   replace k0:=hbl k0 (by rw[gF];exact hA1);replace k1:=hbl k1 (by show ¬ S (ad.add _).block;rw[gF];exact hA1);replace k2:=hbl k2 (by show ¬ S (ad.add _).block;rw[gF];exact hA1);replace k3:=hbl k3 (by show ¬ S (ad.add _).block;rw[gF];exact hA1);replace k4:=hbl k4 (by show ¬ S (ad.add _).block;rw[gF];exact hA1);replace k5:=hbl k5 (by show ¬ S (ad.add _).block;rw[gF];exact hA1);replace kb:=hbl kb (by rw[gF];exact hA2);have hbx:wr.heap[b]? = some (.cells #[.slice (some ad) n c,.slice (some ad2) n cb,.int .i64 a,.int .i64 so,.int .i64 d,.int .i64 h] 90 (0,0)):=hI.out.2.blk HX.out (Nat.le_refl _) (fun hs=>by have:=HS.out _ hs;rw[mK.out] at this;omega);have hmm:cI (aV l y):=HM.out _ (by rw[hy.out.1];exact o_ (by rw[HN.out.1];have:=H2.out;omega));have hT:=HT.out k hlt;have hW:=HW.out k hlt;have OO:=Yu.out k;have hrd:vZ false kd y=kd.getD k false:=by rw[hy.out.1];unfold vZ;simp
   rw[hrd] at kb;have Ur:=hq.out;have IY:=aj (DU kd an l x k);obtain⟨f,hf⟩:∃ f,rG kd an l x k=f:=⟨_,rfl⟩;obtain⟨g,hg⟩:∃ f,wW kd an l x k=f:=⟨_,rfl⟩;rw[hf,hg] at IY OO;have hf2:=hf;have hg2:=hg;unfold rG SF at hf2;unfold wW Rx at hg2;rw[hf] at hg2 hT;rw[hg] at hW;rw[Ur] at hf2 hT;rw[<-hy.out.1] at hf2 hg2 OO;obtain⟨m,hm⟩:∃ m,aV l y=m:=⟨_,rfl⟩;rw[hm] at k0 k1 k2 k3 k4 k5 hf2 hg2 hmm;obtain⟨kk,hkk⟩:∃ kk,kd.getD k false=kk:=⟨_,rfl⟩;rw[hkk] at kb hf2;have cg:=aj hlt;have dI:=aj hbx;have F3:=aj OO;have HF:=aj hf2;have HG:=aj hg2;have Us:=aj (show(a > y↔k < an) by rw[JR.out,hy.out.1];omega);obtain⟨⟨t0,t1⟩,⟨t2,t3⟩⟩:=hT;obtain⟨g0,g1⟩:=hW;obtain⟨m0,m1,m2,m3⟩:=hmm;have z0:=cM k0 (.cells #[.int .i64 0,.int .i64 0,.int .i64 0,.int .i64 0,.int .i64 0,.int .i64 0] 99);have p0:=eq_true q0;have p1:=eq_true q1;have p2:=eq_true q2;clear hlt hm hkk hf hg hf2 hg2 hrd Ur OO hbl hA1 hA2 hbx;go_upto_region 5 with(fail);have tF:=aj (aH wr (.cells #[.int .i64 m.f0,.int .i64 m.f1,.int .i64 m.f2,.int .i64 m.f3,.int .i64 m.f4,.int .i64 m.f5] 99));have lI:=aj (show Below wr.heap.size wr (wr.alloc (.cells #[.int .i64 m.f0,.int .i64 m.f1,.int .i64 m.f2,.int .i64 m.f3,.int .i64 m.f4,.int .i64 m.f5] 99)) from (Below.refl _ _).alloc (Nat.le_refl _) _);have xW:=aj (ay dI.out lI.out);replace kb:=(lI.out.cell (World.block_lt_of_cell? wr _ kb)).trans kb;obtain⟨bm,F4⟩:∃ bm,wr.heap.size=bm:=⟨_,rfl⟩;rw[F4] at tF ⊢;clear F4 k0 k1 k2 k3 k4 k5 z0;generalize wr.alloc (.cells #[.int .i64 m.f0,.int .i64 m.f1,.int .i64 m.f2,.int .i64 m.f3,.int .i64 m.f4,.int .i64 m.f5] 99)=w5 at *;have e2:w5.cell? ⟨bm,2,none⟩=some (.int .i64 m.f2):=(ak tF.out 2).trans rfl;have e4:w5.cell? ⟨bm,4,none⟩=some (.int .i64 m.f4):=(ak tF.out 4).trans rfl;have e5:w5.cell? ⟨bm,5,none⟩=some (.int .i64 m.f5):=(ak tF.out 5).trans rfl;have b1:w5.cell? ⟨b,1,none⟩=some (.slice (some ad2) n cb):=(ak xW.out 1).trans rfl;have b2:w5.cell? ⟨b,2,none⟩=some (.int .i64 a):=(ak xW.out 2).trans rfl;go_upto_if 27 with(fail);clear kb b1;go_cut [7] (fun v7 wc=>v7=.int .i64 f/\wc=w5)
   case first =>
    cases kk with
    | true =>
     have HF2:=HF.out;rw[if_pos rfl] at HF2;have HF3:=aj HF2;have r0:0<=q+m.f5:=(by omega);clear HF2;go_wp2;go_meet
     case rel=>exact⟨by rw[<-HF3.out],(by first|rfl|trivial)⟩
    | false =>
     have HF2:=HF.out;rw[if_neg (by decide)] at HF2;have HF3:=aj HF2;clear HF2;go_wp2;go_meet
     case rel=>exact⟨by rw[<-HF3.out],(by first|rfl|trivial)⟩
   case rest =>
    obtain⟨rfl,rfl⟩:=hcut;by_cases hka:k < an
    .have d2:decide (y < a)=true:=decide_eq_true (by have:=Us.out;omega);have HG2:=aj (show g=0 by have:=HG.out;rw[if_pos hka] at this;exact this.symm);obtain rfl:g=0:=HG2.out;clear hka;go_wp2_with (first|(go_at_call 40;go_loud(refine(F3.out _ cg.out (HI.out k wr _ hI.out.1 lI.out) (by have h1:=HW0.out;have h2:=hI.out.2.1;have h3:=(lI.out).size;rw[mK.out];omega)).mono ?_;rintro e w7 ⟨rfl,hI7,hS7⟩;rw[mK.out] at hS7;have HI7:=aj (And.intro hI7 ((hI.out.2.trans (ju.below lI.out)).trans hS7));clear hI7 hS7)));go_roundw
     case rel=>exact⟨f,y+1,k+1,rfl,rfl,⟨by rw[hy.out.1];omega,cg.out⟩,⟨by rw[IY.out];omega⟩,HI7⟩
     case measure=>have:=cg.out;have:=hy.out;simp[intOf];omega
    .have d2:decide (y < a)=false:=decide_eq_false (by have:=Us.out;omega);by_cases c4:m.f2=4
     .have d3:(m.f2 == 4)=true:=beq_iff_eq.mpr c4;have HG2:=aj (show eM f - f=g by have:=HG.out;rw[if_neg hka,if_pos c4] at this;exact this);obtain⟨st,hst⟩:∃ st,eM f=st:=⟨_,rfl⟩;have HST:=aj hst;have Ut:st - f=g:=(by rw[<-hst];exact HG2.out);have Sz:=aj Ut;have s1:0<=st - f:=(by omega);have s2:st - f<=4095:=(by omega);clear hka c4 hst Ut;go_upto_region 12 with(first|(go_at_call 73;go_loud(refine(wT f _ (by omega) (by omega)).mono ?_;rintro e w6 ⟨rfl,hb6⟩;rw[HST.out];have HB6:=aj (lI.out.trans (hb6.mono lI.out.size));clear hb6)));rw[Sz.out];go_wp2_with (first|(go_at_call 40;go_loud(refine(F3.out _ cg.out (HI.out k wr _ hI.out.1 HB6.out) (by have h1:=HW0.out;have h2:=hI.out.2.1;have h3:=(HB6.out).size;rw[mK.out];omega)).mono ?_;rintro e w7 ⟨rfl,hI7,hS7⟩;rw[mK.out] at hS7;have HI7:=aj (And.intro hI7 ((hI.out.2.trans (ju.below HB6.out)).trans hS7));clear hI7 hS7)));go_roundw
      case rel=>exact⟨f+g,y+1,k+1,rfl,rfl,⟨by rw[hy.out.1];omega,cg.out⟩,⟨IY.out⟩,HI7⟩
      case measure=>have:=cg.out;have:=hy.out;simp[intOf];omega
     .have d3:(m.f2 == 4)=false:=beq_eq_false_iff_ne.mpr c4;have HG2:=aj (show m.f4=g by have:=HG.out;rw[if_neg hka,if_neg c4] at this;exact this);rw[HG2.out] at e4;clear hka c4;go_wp2_with (first|(go_at_call 40;go_loud(refine(F3.out _ cg.out (HI.out k wr _ hI.out.1 lI.out) (by have h1:=HW0.out;have h2:=hI.out.2.1;have h3:=(lI.out).size;rw[mK.out];omega)).mono ?_;rintro e w7 ⟨rfl,hI7,hS7⟩;rw[mK.out] at hS7;have HI7:=aj (And.intro hI7 ((hI.out.2.trans (ju.below lI.out)).trans hS7));clear hI7 hS7)));go_roundw
      case rel=>exact⟨f+g,y+1,k+1,rfl,rfl,⟨by rw[hy.out.1];omega,cg.out⟩,⟨IY.out⟩,HI7⟩
      case measure=>have:=cg.out;have:=hy.out;simp[intOf];omega
  .have d1:decide (y < (sn:Int))=false:=decide_eq_false (by rw[hy.out.1];omega);have hks:k=sn:=by have:=hy.out;omega
   have HE:=aj (show q=z by rw[<-hq.out,<-HZ.out,hks]);have HI2:=aj (show I sn wr by rw[<-hks];exact hI.out.1);clear hlt hks;go_wp2;go_ret;refine⟨dh (by rw[HE.out]),HI2.out,?_⟩;rw[mK.out];exact(ju.below HB0.out.2).trans hI.out.2
end Go.Proofs.YtcaallkkeighdaaGreatDoor.P
namespace Go.Proofs.YtcaallkkeighdaaGreatDoor.P
open Go.RowKit aD aQ aR
attribute [local go_sem] kL
theorem DV(a b c:Value)(w:World):Calls Tryz.prog 32 #[a,b,c] w fun e w'=>e=.returned (.tuple #[])/\w=w':=by
 go_enter Tryz.func32,Tryz.ntmps32;go_wp2;refine bodyPost_end (results_none rfl _ _ _) rfl ?_;exact⟨rfl,rfl⟩
def partOf(ex:Int)(m:S99):Int:=if ex < 0 then m.f4 / 3 else 1
theorem F5(m:S99)(w:World):Calls Tryz.prog 37 #[.agg (Au m)] w fun e w'=>e=.returned (.int .i64 1)/\Below w.heap.size w w':=by
 have HB0:=aj ((Below.refl w.heap.size w).alloc (Nat.le_refl _) (.cells (Au m) 99));go_enter Tryz.func37,Tryz.ntmps37;go_wp2;go_ret;exact⟨rfl,HB0.out⟩
theorem F6(m:S99)(hm:cI m)(w:World):Calls Tryz.prog 38 #[.agg (Au m)] w fun e w'=>e=.returned (.int .i64 (m.f4 / 3))/\Below w.heap.size w w':=by
 have HB0:=aj ((Below.refl w.heap.size w).alloc (Nat.le_refl _) (.cells (Au m) 99));obtain⟨h1,h2,_,_⟩:=hm;have t3:m.f4.tdiv 3=m.f4 / 3:=Int.tdiv_eq_ediv_of_nonneg h1;have t4:0<=m.f4 / 3:=by omega
 have t5:m.f4 / 3<=1365:=by omega
 go_enter Tryz.func38,Tryz.ntmps38;go_wp2;go_ret;exact⟨rfl,HB0.out⟩
def nM(sp:Bool)(ex k al:Int):Int:=if sp=true then (ex * k).tdiv al else 0
theorem pq(sp:Bool)(ex k al:Int)(b1 b2 b3 b4:Nat)(w:World)(h1:w.cell? ⟨b1,0,none⟩=some (.bool sp))(h2:w.cell? ⟨b2,0,none⟩=some (.int .i64 ex))(h3:w.cell? ⟨b3,0,none⟩=some (.int .i64 k))(h4:w.cell? ⟨b4,0,none⟩=some (.int .i64 al))
  (hp : -100000000000000000<=ex * k/\ex * k<=100000000000000000) (ha:sp=true->1<=al) (r:Int) (hr:nM sp ex k al=r) :
  Calls Tryz.prog 39 #[.pointer (some ⟨b1,0,none⟩),.pointer (some ⟨b2,0,none⟩),.pointer (some ⟨b3,0,none⟩),.pointer (some ⟨b4,0,none⟩)] w fun e w'=>e=.returned (.int .i64 r)/\w=w':=by
 obtain⟨p1,p2⟩:=hp;cases sp with
 | false =>
  have HR:=aj (show r=0 by rw[<-hr];rfl);clear hr ha;go_enter Tryz.func39,Tryz.ntmps39;go_wp2;go_ret;exact⟨dh HR.out,rfl⟩
 | true =>
  have h5:=ha rfl;have HR:=aj (show r=(ex * k).tdiv al by rw[<-hr];rfl);have e1:wrap64 (ex * k)=ex * k:=dN _ (by omega);have e2:IntKind.i64.wrap (ex * k)=ex * k:=IntWalk.i64_in _ (by omega);have hab:=Int.natAbs_tdiv_le_natAbs (ex * k) al;have e3:wrap64 ((ex * k).tdiv al)=(ex * k).tdiv al:=dN _ (by omega);have e4:IntKind.i64.wrap ((ex * k).tdiv al)=(ex * k).tdiv al:=IntWalk.i64_in _ (by omega);have n0:(al == 0)=false:=by rw[beq_eq_false_iff_ne];omega
  have n1:¬ al=0:=by omega
  clear hr ha hab;go_enter Tryz.func39,Tryz.ntmps39;go_wp2;go_ret;exact⟨dh HR.out,rfl⟩
end Go.Proofs.YtcaallkkeighdaaGreatDoor.P
