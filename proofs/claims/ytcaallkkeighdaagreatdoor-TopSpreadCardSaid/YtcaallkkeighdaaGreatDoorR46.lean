/- quiretop.TopSpread answers true. -/
import Derived.Test.YtcaallkkeighdaaGreatDoorR45
import Derived.Test.YtcaallkkeighdaaGreatDoorR43
set_option maxRecDepth 100000
set_option maxHeartbeats 16000000
set_option linter.unusedVariables false
set_option linter.unusedSimpArgs false
namespace Go.Proofs.YtcaallkkeighdaaGreatDoor.P
open Go.RowKit aD aQ aR
def spP(p:Pa):Pa:=⟨p.tx,p.sp,⟨p.pr.f0,p.pr.f1,1,p.pr.f3,p.pr.f4,p.pr.f5,p.pr.f6,p.pr.f7,p.pr.f8,p.pr.f9,p.pr.f10,p.pr.f11,p.pr.f12,1,0,p.pr.f15,p.pr.f16⟩,p.lb,p.ma⟩
theorem aj7{w w':World}{A:Option Addr}{n:Nat}{xs:List S123}(h:Kd.C k123 w A n xs)(hb:∀ a,A=some a->w'.heap[a.block]? = w.heap[a.block]?):Kd.C k123 w' A n xs:=by
 obtain⟨h1,h2,h3⟩:=h;refine⟨h1,h2,fun hp=>?_⟩;obtain⟨ad,e,hc⟩:=h3 hp;refine⟨ad,e,fun j p hj=>?_⟩;obtain⟨cs,hl,hk,hcell⟩:=hc j p hj;exact⟨cs,hl,hk,fun i u hu=>(World.cell?_of_block (w:=w) (by rw[gF];exact hb ad e)).trans (hcell i u hu)⟩
theorem aj8{w w':World}{A:Option Addr}{n:Nat}{xs:List ByteArray}(h:Kd.string.C w A n xs)(hb:∀ a,A=some a->w'.heap[a.block]? = w.heap[a.block]?):Kd.string.C w' A n xs:=by
 obtain⟨h1,h2,h3⟩:=h;refine⟨h1,h2,fun hp=>?_⟩;obtain⟨ad,e,hc⟩:=h3 hp;refine⟨ad,e,fun j p hj=>?_⟩;obtain⟨cs,hl,hk,hcell⟩:=hc j p hj;exact⟨cs,hl,hk,fun i u hu=>(World.cell?_of_block (w:=w) (by rw[gF];exact hb ad e)).trans (hcell i u hu)⟩
theorem dK.keep{w w':World}{p:Pa}{As Am:Option Addr}{cs cm:Nat}(h:dK w p As cs Am cm)(b1:∀ a,As=some a->w'.heap[a.block]? = w.heap[a.block]?)(b2:∀ a,Am=some a->w'.heap[a.block]? = w.heap[a.block]?):dK w' p As cs Am cm:=⟨aj7 h.sp b1,h.cs,aj8 h.ma b2,h.cm⟩
theorem dK.ao8{w:World}{p:Pa}{As Am:Option Addr}{cs cm:Nat}(h:dK w p As cs Am cm):dK w (spP p) As cs Am cm:=⟨h.sp,h.cs,h.ma,h.cm⟩
theorem al1{p:Pa}{S:List S30}{r:S30}(H:Spr p){x:S46}(hx:x∈iQ p S r):((leastOf (cT p) (eF p S r).1 (eF p S r).2).2.2=0->x.f6=0\/x.f6=1)/\((leastOf (cT p) (eF p S r).1 (eF p S r).2).2.2≠0->x.f6=2\/x.f6=3):=by
 unfold iQ at hx;have h:=ae5 _ _ _ _ _ _ _ _ _ x hx;rw[ah4 H] at h;refine⟨fun q=>?_,fun q=>?_⟩
 .rw[if_pos q] at h;exact h.2 rfl
 .rw[if_neg q] at h;exact h.1 rfl
theorem am2{p:Pa}{S:List S30}{r:S30}(hL:DL p S r):0 < (iQ p S r).length:=by
 have h:=Ge hL;unfold iQ;rw[mQ];cases hP:(Jh p S r).1 with
 | nil=>rw[hP] at h;exact h.elim
 | cons a b=>simp
theorem ah6{p:Pa}{x:S46}(h:gK p x):0<=x.f2/\x.f2<=4095/\0<=x.f3/\x.f3<=4095:=by
 have h1:=h.lx;have h2:=h.lw;omega
def ao9(tx:ByteArray)(x:S46)(w:World)(v:Value)(w':World):Prop:=∃ b,v=.bool (!b)/\(b=true->af9 tx x)/\Below w.heap.size w w'
def al2:Bool × List (List Nat × List Nat):=(true,[([],[]),([],[]),([0,1],[0,1]),([2],[2]),([3],[3]),([4],[4]),([5],[5]),([6],[6]),([7,6],[6,7]),([6],[6]),([6],[6]),([9,10,6],[6,9,10]),([11,6],[6,11]),([8,12,6,6],[6,8,12]),([13,6],[6,13]),([6,14],[6,14])])
def an6:List Nat:=[0,0,3,7,15,31,63,127,255,127,127,1663,3711,8191,16383,32767]
theorem al3:jZ .any (opsOf Tryz.f4 19)=al2:=by kernel_rfl
theorem aj9:kC al2.2 an6=true:=by kernel_rfl
def al4:Bool × List (List Nat × List Nat):=(true,[([],[]),([],[]),([],[]),([1,2],[1,2]),([3],[3]),([0,4],[0,4]),([5],[5]),([6],[6]),([6],[6]),([7,5,0,1,2,3,4,5,6,7],[7]),([8,9,0,1,2,3,4,5,6,7,8,9],[8])])
def an7:List Nat:=[0,0,0,6,14,31,63,127,127,255,1023]
theorem al5:jZ .any (opsOf Tryz.f4 20)=al4:=by kernel_rfl
theorem ak0:kC al4.2 an7=true:=by kernel_rfl
theorem ad7(hP:Gi)(p:Pa){As Am:Option Addr}{cs cm ns:Nat}(S:List S30)(r:S30)(A:Option Addr)(c:Nat)(w:World)(hA:dK w p As cs Am cm)(hlb:p.lb.size<=maxLen)(hmk:∀ m∈p.ma,m.size<=maxLen)(hs32:p.sp.length * 32<=140737488355328)(hm16:p.ma.length * 16<=140737488355328)(hn:S.length=ns)(hl:Kd.C k30 w A ns S)(hc:ns<=c)
  (htab:Lib.TabIs Tryz.prog w "strings.asciiSpace" .u8 Lib.asciiSpaceTab) :
  Calls Tryz.prog 4 #[.agg (cG p As cs Am cm),.slice A ns c,.agg #[.int .i64 r.f0,.int .i64 r.f1]] w fun e w'=>e=.returned (.bool true)/\Below w.heap.size w w':=by
 have Mp:=aj hP;have HA:=aj hA;have HT:=aj htab;have Ph:=aj (And.intro hlb hmk);have wN:=aj (And.intro hs32 hm16);have HSL:=aj (And.intro hn (And.intro hl hc));have HB0:=aj (((Below.refl w.heap.size w).alloc (Nat.le_refl _) (.cells (cG p As cs Am cm) 27)).alloc (by simp) (.cells #[.int .i64 r.f0,.int .i64 r.f1] 30));have dI:=aj (aP (aH w (.cells (cG p As cs Am cm) 27)) (.cells #[.int .i64 r.f0,.int .i64 r.f1] 30));have nj:=aH (w.alloc (.cells (cG p As cs Am cm) 27)) (.cells #[.int .i64 r.f0,.int .i64 r.f1] 30);rw[World.size_alloc] at nj;have kH:=aj nj;clear hP hA htab hlb hmk hn hl hc nj hs32 hm16;go_enter Tryz.func4,Tryz.ntmps4;go_upto_region 1 with(fail);obtain⟨bx,hbx⟩:∃ bx,w.heap.size=bx:=⟨_,rfl⟩;have mK:=aj hbx;rw[hbx] at dI kH ⊢;generalize (w.alloc (.cells (cG p As cs Am cm) 27)).alloc (.cells #[.int .i64 r.f0,.int .i64 r.f1] 30)=w0 at *;clear hbx;go_upto_region 2 with(go_at_call 5;go_loud(refine(Ed Mp.out _ (eG HT.out HB0.out)).mono ?_;rintro e w1 ⟨rfl,hb1⟩;have HB1:=aj (HB0.out.trans (hb1.mono HB0.out.size));have oY:=aj (ay dI.out hb1);have tg:=aj (ay kH.out hb1);clear hb1));go_upto_region 3 with(first|((with_reducible refine aS (N:=22) rfl ?_);go_loud(refine wpList_load_row rfl 27 _ rfl bx rfl 27 (cG p As cs Am cm) (0,0) _ (by exact oY.out) Tryz.underlying27 rfl (cV _ _ _ _ _) ?_))|(go_at_call 11;go_loud(refine(ah9 p _ (dK.below HA.out HB1.out) wN.out.1 wN.out.2).mono ?_;rintro e w2 ⟨As2,cs2,Am2,cm2,rfl,hA2,hb2,hq1,hq2⟩;have HB2:=aj (HB1.out.trans (hb2.mono HB1.out.size));have nu:=aj (ay oY.out hb2);have nY:=aj (ay tg.out hb2);have HA2:=aj hA2;have HQ2:=aj (And.intro hq1 hq2);have cg:=aj (aY tg.out);clear hb2 hA2 hq1 hq2))|(refine ux rfl 27 _ _ rfl bx (cG p As2 cs2 Am2 cm2) rfl rfl 27 (cG p As cs Am cm) (by exact nu.out) (cV _ _ _ _ _) rfl (af2 _ _ _ _ _ _ _) ?_;intro w3 hw3 hk3 hB3 hs3;have HW3:=aj (And.intro hw3 (And.intro hk3 (And.intro hB3 hs3)));clear hw3 hk3 hB3 hs3));have um:=aj HW3.out.1;have UK:=aj (show w3.heap[bx+1]? = some (.cells #[.int .i64 r.f0,.int .i64 r.f1] 30 (0,0)) by rw[HW3.out.2.1 (bx+1) (by omega)];exact nY.out);have HB3:=aj (show Below w.heap.size w w3 from HW3.out.2.2.1 _ _ HB2.out (by have:=mK.out;omega));have HA3:=aj (show dK w3 p As2 cs2 Am2 cm2 from dK.keep HA2.out (fun a ha=>HW3.out.2.1 _ (by have:=HQ2.out.1 a ha;have:=cg.out;omega)) (fun a ha=>HW3.out.2.1 _ (by have:=HQ2.out.2 a ha;have:=cg.out;omega)));have y4:w3.cell? ⟨bx,4,none⟩=some (.int .i64 p.pr.f2):=(ak um.out 4).trans rfl;have y15:w3.cell? ⟨bx,15,none⟩=some (.int .i64 p.pr.f13):=(ak um.out 15).trans rfl;have y16:w3.cell? ⟨bx,16,none⟩=some (.int .i64 p.pr.f14):=(ak um.out 16).trans rfl;have f4:=aB um.out 4;have f15:=aB um.out 15;have f16:=aB um.out 16;clear HW3 nu nY oY tg dI kH;go_upto_region 4 with(fail);clear y4 y15 y16 f4 f15 f16;obtain⟨p2,hp2⟩:∃ q,spP p=q:=⟨_,rfl⟩;have DM:=aj (show(((w3.setCell ⟨bx,4,none⟩ (.int .i64 1)).setCell ⟨bx,15,none⟩ (.int .i64 1)).setCell ⟨bx,16,none⟩ (.int .i64 0)).heap[bx]? = some (.cells (cG p2 As2 cs2 Am2 cm2) 27 (0,0)) from by
  rw[<-hp2];exact aN (aN (aN um.out 4 _ rfl) 15 _ rfl) 16 _ rfl)
 have uw:=aj (cw (p:=⟨bx,16,none⟩) (cw (p:=⟨bx,15,none⟩) (cw (p:=⟨bx,4,none⟩) UK.out (by show bx+1≠bx;omega) (.int .i64 1)) (by show bx+1≠bx;omega) (.int .i64 1)) (by show bx+1≠bx;omega) (.int .i64 0));have HB4:=aj (show Below w.heap.size w (((w3.setCell ⟨bx,4,none⟩ (.int .i64 1)).setCell ⟨bx,15,none⟩ (.int .i64 1)).setCell ⟨bx,16,none⟩ (.int .i64 0)) from by
  have h:w.heap.size<=bx:=by have:=mK.out;omega
  exact((HB3.out.setCell h _).setCell h _).setCell h _)
 have hne:∀ a:Addr,w.heap.size+2<=a.block\/bx < a.block->a.block≠bx:=fun a h=>by have:=mK.out;omega
 have hoth:∀ g,g≠bx->(((w3.setCell ⟨bx,4,none⟩ (.int .i64 1)).setCell ⟨bx,15,none⟩ (.int .i64 1)).setCell ⟨bx,16,none⟩ (.int .i64 0)).heap[g]? = w3.heap[g]?:=fun g hg=>by
  rw[Below.heap_setCell _ ⟨bx,16,none⟩ _ g hg,Below.heap_setCell _ ⟨bx,15,none⟩ _ g hg,Below.heap_setCell _ ⟨bx,4,none⟩ _ g hg]
 have HA4:=aj (show dK (((w3.setCell ⟨bx,4,none⟩ (.int .i64 1)).setCell ⟨bx,15,none⟩ (.int .i64 1)).setCell ⟨bx,16,none⟩ (.int .i64 0)) p2 As2 cs2 Am2 cm2 from by
  rw[<-hp2];exact(dK.keep HA3.out (fun a ha=>hoth _ (by have:=HQ2.out.1 a ha;have:=cg.out;omega)) (fun a ha=>hoth _ (by have:=HQ2.out.2 a ha;have:=cg.out;omega))).ao8)
 have HP2:=aj hp2;clear hne hoth hp2 um UK HB3 HA3 HA2 HQ2;generalize ((w3.setCell ⟨bx,4,none⟩ (.int .i64 1)).setCell ⟨bx,15,none⟩ (.int .i64 1)).setCell ⟨bx,16,none⟩ (.int .i64 0)=w4 at *;obtain⟨lb,UZ⟩:∃ b,Cd p2=b:=⟨_,rfl⟩;have Lj:=aj UZ;clear UZ;obtain⟨ob,Jy⟩:∃ b,(lb || decide (300 < ns))=b:=⟨_,rfl⟩;have UE:=aj Jy;go_cut [36] (fun v36 wc=>v36=.bool ob/\Below w4.heap.size w4 wc)
 case first =>
  cases lb with
  | true =>
   have HE:=aj (show true=ob from Jy);clear Jy;go_wp2_with (first|((with_reducible refine aS (N:=30) rfl ?_);go_loud(refine wpList_load_row rfl 27 _ rfl bx rfl 27 (cG p2 As2 cs2 Am2 cm2) (0,0) _ (by exact DM.out) Tryz.underlying27 rfl (cV _ _ _ _ _) ?_))|(go_at_call 6;go_loud(refine(vo p2 _ _ Lj.out).mono ?_;rintro e w5 ⟨rfl,hb5⟩)));go_meet
   case rel=>exact⟨by rw[HE.out],hb5⟩
  | false =>
   obtain⟨q,hq⟩:∃ q,decide ((300:Int) < (ns:Int))=q:=⟨_,rfl⟩;have hq2:decide (300 < ns)=q:=by rw[<-hq];exact decide_eq_decide.2 (by omega)
   have HE:=aj (show q=ob by rw[<-Jy,<-hq2];rfl);clear Jy;go_wp2_with (first|((with_reducible refine aS (N:=30) rfl ?_);go_loud(refine wpList_load_row rfl 27 _ rfl bx rfl 27 (cG p2 As2 cs2 Am2 cm2) (0,0) _ (by exact DM.out) Tryz.underlying27 rfl (cV _ _ _ _ _) ?_))|(go_at_call 6;go_loud(refine(vo p2 _ _ Lj.out).mono ?_;rintro e w5 ⟨rfl,hb5⟩)));go_meet
   case rel=>exact⟨by rw[HE.out],hb5⟩
 case rest =>
  obtain⟨rfl,hb5⟩:=hcut;have HB5:=aj (HB4.out.trans (hb5.mono HB4.out.size));have xW:=aj (ay DM.out hb5);have am3:=aj (ay uw.out hb5);have HA5:=aj (dK.below HA4.out hb5);clear hb5 Jy;cases ob with
  | true =>
   go_wp2;go_ret;exact⟨rfl,HB5.out⟩
  | false =>
   have HO2:=aj (show lb=false/\ns<=300 by
    have h:=UE.out;rw[Bool.or_eq_false_iff] at h;exact⟨h.1,by have:=of_decide_eq_false h.2;omega⟩)
   have HZ:=aj (show p2.small from ME (by rw[Lj.out];exact HO2.out.1) (by rw[<-HP2.out];exact Ph.out.1) (by rw[<-HP2.out];exact Ph.out.2));have r0:wc.cell? ⟨bx+1,0,none⟩=some (.int .i64 r.f0):=(ak am3.out 0).trans rfl;have r1:wc.cell? ⟨bx+1,1,none⟩=some (.int .i64 r.f1):=(ak am3.out 1).trans rfl;by_cases hp:iI p2 S r=0
   .have PY:=aj hp;have H0:=aj (pX hp).1;obtain⟨L,hL⟩:∃ L,iQ p2 S r=L:=⟨_,rfl⟩;have HL:=aj hL;obtain⟨nl,hnl⟩:∃ n,L.length=n:=⟨_,rfl⟩;have nQ:=aj hnl;obtain⟨I,hI⟩:∃ I,cT p2=I:=⟨_,rfl⟩;have HI:=aj hI;obtain⟨ni,hni⟩:∃ n,I.length=n:=⟨_,rfl⟩;have Ws:=aj hni;have mS:=aj (show ∀ x∈I,cY x by rw[<-hI];exact sY HZ.out H0.out);have HN8:=aj (show ni<=8192 by have:=pW HZ.out (p:=p2);rw[hI,hni] at this;omega);clear hp hL hnl hI hni;go_upto_region 7 with(first|((with_reducible refine aS (N:=39) rfl ?_);go_loud(refine wpList_load_row rfl 27 _ rfl bx rfl 27 (cG p2 As2 cs2 Am2 cm2) (0,0) _ (by exact xW.out) Tryz.underlying27 rfl (cV _ _ _ _ _) ?_))|(go_at_call 7;go_loud(refine(Ap p2 S r A c _ HSL.out.1 HA5.out HZ.out (Kd.aM HSL.out.2.1 HB5.out) HSL.out.2.2 PY.out (eG HT.out HB5.out)).mono ?_;rintro e w6 ⟨v,rfl,hR,hb6,hLO⟩;rw[HL.out] at hR;have HAD:=aj (show ∀ A c,v=.slice A L.length c->∀ a,A=some a->∃ g,a=⟨g,0,none⟩ from fun A c e a ha=>by(subst e;exact RP hR a ha));obtain⟨A4,c4,e4,hc4,ha4,hC4⟩:=fX hR;have Wp:=aj (HAD.out A4 c4 e4);rw[nQ.out] at e4 hc4 hC4;subst e4;have HC4:=aj hC4;have HB6:=aj (HB5.out.trans (hb6.mono HB5.out.size));have Rv:=aj (ay xW.out hb6);have Ug:=aj (ay am3.out hb6);have HA6:=aj (dK.below HA5.out hb6);have HLY:=aj hLO;clear hb6 hR hc4 ha4 hC4 hLO)));clear r0 r1;go_upto_region 8 with(first|((with_reducible refine aS (N:=46) rfl ?_);go_loud(refine wpList_load_row rfl 27 _ rfl bx rfl 27 (cG p2 As2 cs2 Am2 cm2) (0,0) _ (by exact Rv.out) Tryz.underlying27 rfl (cV _ _ _ _ _) ?_))|(go_at_call 12;go_loud(refine(DG p2 _ HA6.out HZ.out H0.out (eG HT.out HB6.out)).mono ?_;rintro e w7 ⟨v7,rfl,hR7,hb7⟩;rw[HI.out] at hR7;obtain⟨A5,c5,e5,hc5,ha5,hC5⟩:=fX hR7;rw[Ws.out] at e5 hc5 hC5;subst e5;have HC5:=aj (And.intro hC5 hc5);have HC47:=aj (Kd.aM HC4.out hb7);have HB7:=aj (HB6.out.trans (hb7.mono HB6.out.size));have ap0:=aj (ay Rv.out hb7);have ap1:=aj (ay Ug.out hb7);have HA7:=aj (dK.below HA6.out hb7);clear hR7 hb7 hc5 ha5 hC5)));obtain⟨lv,hlv⟩:∃ b,iH I=b:=⟨_,rfl⟩;have HLV:=aj hlv;obtain⟨S2,q2,hq2⟩:∃ S2 q2,eF p2 S r=(S2,q2):=⟨_,_,rfl⟩;have HQ2:=aj hq2;obtain⟨m2,hm2⟩:∃ n,S2.length=n:=⟨_,rfl⟩;have HM2:=aj hm2;have HQ0:=aj (show bV S2 q2=0 by have:=(Al p2 S r H0.out (pX PY.out).2).1;rw[hq2] at this;exact this);have HN0:=aj (show 0 < nl by rw[<-nQ.out,<-HL.out];exact am2 HLY.out);have HFL:=aj (show lv=false->Spr p2 from fun q=>⟨HZ.out,H0.out,by rw[<-HP2.out];rfl,by rw[<-HP2.out];rfl,by rw[<-HP2.out];rfl,by rw[HI.out,HLV.out];exact q⟩);obtain⟨ls,hls⟩:∃ b,(lv || decide ((leastOf I S2 q2).2.2≠0))=b:=⟨_,rfl⟩;have HLS:=aj hls;clear hlv hq2 hm2 hls;go_cut [72] (fun v72 wc=>v72=.bool ls/\Below w7.heap.size w7 wc)
    case first =>
     cases lv with
     | true =>
      have HE:=aj (show true=ls from HLS.out);go_wp2_with (go_at_call 13;go_loud(refine(G6 Ws.out _ HC5.out.1 HC5.out.2 HN8.out true HLV.out).mono ?_;rintro e w8 ⟨rfl,hb8⟩));go_meet
      case rel=>exact⟨by rw[HE.out],hb8⟩
     | false =>
      have hm0:dJ L 0∈iQ p2 S r:=by
       rw[HL.out];exact Ec (k:=0) (by rw[nQ.out];exact HN0.out)
      have hfg:=al1 (HFL.out rfl) hm0;rw[HI.out,HQ2.out] at hfg;have d1:((nl:Int) == 0)=false:=(by rw[beq_eq_false_iff_ne];have:=HN0.out;omega);have q1:(0:Int) < (nl:Int):=(by have:=HN0.out;omega);obtain⟨ad,e0,_,_,_,_,_,_,k6⟩:=EJ HC47.out 0 (Int.le_refl _) q1;obtain⟨g,hg⟩:=Wp.out ad e0;subst e0 hg;rw[ak2] at k6;obtain⟨f,hf⟩:∃ f,(dJ L 0).f6=f:=⟨_,rfl⟩;rw[hf] at k6 hfg;have HK6:=aj k6;have p1:=eq_true q1;have HE:=aj (show ∀ b:Bool,(f=0\/f=1->b=false)->(f=2\/f=3->b=true)->b=ls from fun b h1 h2=>by
       have h:=HLS.out;rw[Bool.false_or] at h;by_cases q:(leastOf I S2 q2).2.2=0
       .rw[decide_eq_false (fun r=>r q)] at h;rw[<-h];exact h1 (hfg.1 q)
       .rw[decide_eq_true q] at h;rw[<-h];exact h2 (hfg.2 q))
      have hf4:f=0\/f=1\/f=2\/f=3:=by
       by_cases q:(leastOf I S2 q2).2.2=0
       .rcases hfg.1 q with q|q
        .exact .inl q
        .exact .inr (.inl q)
       .rcases hfg.2 q with q|q
        .exact .inr (.inr (.inl q))
        .exact .inr (.inr (.inr q))
      clear hm0 hfg hf k6;rcases hf4 with rfl|rfl|rfl|rfl
      all_goals go_wp2_with (go_at_call 13;go_loud(refine(G6 Ws.out _ HC5.out.1 HC5.out.2 HN8.out false HLV.out).mono ?_;rintro e w8 ⟨rfl,hb8⟩;have k6:=bH hb8 HK6.out))
      all_goals go_meet
      all_goals exact⟨congrArg Value.bool (HE.out _ (by decide) (by decide)),hb8⟩
    case rest =>
     obtain⟨rfl,hb8⟩:=hcut;have HB8:=aj (HB7.out.trans (hb8.mono HB7.out.size));have an8:=aj (ay ap0.out hb8);have an9:=aj (ay ap1.out hb8);have HA8:=aj (dK.below HA7.out hb8);have HC48:=aj (Kd.aM HC47.out hb8);have HC58:=aj (Kd.aM HC5.out.1 hb8);clear hb8;cases ls with
     | true =>
      go_wp2;go_ret;exact⟨rfl,HB8.out⟩
     | false =>
      have hls:=HLS.out;rw[Bool.or_eq_false_iff] at hls;have yZ:=aj (HFL.out hls.1);have HL0:=aj (show(leastOf I S2 q2).2.2=0 from by
       have:=of_decide_eq_false hls.2;by_cases q:(leastOf I S2 q2).2.2=0
       .exact q
       .exact absurd q this)
      have zh:=aj (show sD I S2 q2=0 from by
       have h:=HLV.out;rw[hls.1] at h;unfold sD;rw[if_pos HQ0.out,if_neg (by rw[h];decide)])
      clear hls HFL HLS;have r0:wc.cell? ⟨bx+1,0,none⟩=some (.int .i64 r.f0):=(ak an9.out 0).trans rfl;have r1:wc.cell? ⟨bx+1,1,none⟩=some (.int .i64 r.f1):=(ak an9.out 1).trans rfl;go_upto_region 11 with(first|((with_reducible refine aS (N:=75) rfl ?_);go_loud(refine wpList_load_row rfl 27 _ rfl bx rfl 27 (cG p2 As2 cs2 Am2 cm2) (0,0) _ (by exact an8.out) Tryz.underlying27 rfl (cV _ _ _ _ _) ?_))|(go_at_call 14;go_loud(refine(ae6 p2 S r A c _ HSL.out.1 HA8.out HZ.out (Kd.aM HSL.out.2.1 HB8.out) HSL.out.2.2 PY.out).mono ?_;rintro e w9 ⟨v9,rfl,hR9,hb9⟩;rw[HQ2.out] at hR9;rw[HQ2.out];obtain⟨A9,c9,e9,hc9,ha9,hC9⟩:=fX hR9;rw[HM2.out] at e9 hc9 hC9;subst e9;have HC9:=aj (And.intro hC9 hc9);have HB9:=aj (HB8.out.trans (hb9.mono HB8.out.size));have ap2:=aj (ay an8.out hb9);have HA9:=aj (dK.below HA8.out hb9);have HC49:=aj (Kd.aM HC48.out hb9);have HC59:=aj (Kd.aM HC58.out hb9);clear hR9 hb9 hc9 ha9 hC9)));clear r0 r1;have PE:Below w9.heap.size w9 (w9.alloc (.cells #[.int .i64 q2.f0,.int .i64 q2.f1] 30)):=(Below.refl _ _).alloc (Nat.le_refl _) _;have HO10:=aj (aH w9 (.cells #[.int .i64 q2.f0,.int .i64 q2.f1] 30));have HB10:=aj (HB9.out.trans (PE.mono HB9.out.size));have am7:=aj (ay ap2.out PE);have HA10:=aj (dK.below HA9.out PE);have HC410:=aj (Kd.aM HC49.out PE);have HC510:=aj (Kd.aM HC59.out PE);have HC910:=aj (Kd.aM HC9.out.1 PE);clear PE;obtain⟨bo,PE⟩:∃ b,w9.heap.size=b:=⟨_,rfl⟩;rw[PE] at HO10 ⊢;clear PE;generalize w9.alloc (.cells #[.int .i64 q2.f0,.int .i64 q2.f1] 30)=w10 at *;go_upto_region 13 with(fail);have r0:w10.cell? ⟨bo,0,none⟩=some (.int .i64 q2.f0):=(ak HO10.out 0).trans rfl;have r1:w10.cell? ⟨bo,1,none⟩=some (.int .i64 q2.f1):=(ak HO10.out 1).trans rfl;obtain⟨dd,UF⟩:∃ d,(leastOf I S2 q2).2.1=d:=⟨_,rfl⟩;have Wi:=aj UF;clear UF;go_upto_region 16 with(go_at_call 15;go_loud(refine(BR I A5 ni c5 S2 A9 m2 c9 q2 _ Ws.out HM2.out HC510.out HC5.out.2 mS.out HN8.out HC910.out HC9.out.2 HQ0.out zh.out).mono ?_;rintro e w11 ⟨v11,rfl,hR11,hb11,hok⟩;rw[HL0.out,Wi.out];have hd0:0<=dd:=(by have:=(hok HL0.out).1;rw[Wi.out] at this;exact this);have d1:decide (dd < 0)=false:=decide_eq_false (by omega);have HB11:=aj (HB10.out.trans (hb11.mono HB10.out.size));have ap3:=aj (ay am7.out hb11);have HA11:=aj (dK.below HA10.out hb11);have HC411:=aj (Kd.aM HC410.out hb11);clear hR11 hb11 hok));clear r0 r1 d1 hd0;have yO:=aj (show zC p2 0 L by rw[<-HL.out];exact Gf HZ.out PY.out HLY.out);have R6:=aj (show nl<=602 by rw[<-nQ.out,<-HL.out];exact OZ HZ.out PY.out HLY.out);clear HO10 HC910 HC510 HC410 am7 HA10 HC59 HC49 HC9 ap2 HA9 HC58 HC48 an8 an9 HA8 HC5 HC47 ap0 ap1 HA7 Rv Ug HA6 HC4 xW am3 HA5;go_wp2;go_loopw [18] (fun v18 wq=>∃ (y:Int) (i:Nat),v18=.int .i64 y/\aC (y=(i:Int)/\i<=nl)/\aC (Below w11.heap.size w11 wq)) (fun v18 _=>nl - (intOf v18).toNat)
      case atStart=>exact⟨0,0,rfl,⟨rfl,Nat.zero_le _⟩,⟨Below.refl _ _⟩⟩
      case round =>
       obtain⟨y,i,rfl,hy,hB⟩:=hrel;have HB:=aj (HB11.out.trans (hB.out.mono HB11.out.size));have a1:IntKind.i64.wrap (y+1)=y+1:=IntWalk.i64_in _ (by have:=R6.out;have:=hy.out;omega);have a2:wrap64 (y+1)=y+1:=dN _ (by have:=R6.out;have:=hy.out;omega);by_cases hlt:i+1 < nl
       .have d1:decide (y+1 < (nl:Int))=true:=decide_eq_true (by have:=hy.out.1;omega);have q0:0<=y:=(by have:=hy.out.1;omega);have q1:y < (nl:Int):=(by have:=hy.out.1;omega);have ai3:=aj hlt;have TV:=aj (And.intro q0 q1);obtain⟨ad,e0,k0,k1,k2,k3,k4,k5,k6⟩:=EJ (Kd.aM HC411.out hB.out) y q0 q1;subst e0;obtain⟨x,hx⟩:∃ x,dJ L y=x:=⟨_,rfl⟩;have HX:=aj (show dJ (iQ p2 S r) (i:Int)=x by rw[HL.out,<-hy.out.1];exact hx);have uX:=aj (show gK p2 x from zC.all yO.out x (by rw[<-hx,hy.out.1];exact Ec (by rw[nQ.out];omega)));rw[hx] at k0 k1 k2 k3 k4 k5 k6;have M_:=aj (And.intro k2 k3);have p0:=eq_true q0;have p1:=eq_true q1;have hP:=ay ap3.out hB.out;clear hlt hx;by_cases hf:x.f6=0
        .have HF:=aj hf;have d2:(x.f6 != 0)=false:=(by rw[hf];rfl);clear hf;have ZP:=aj (And.intro k0 (And.intro k1 (And.intro k2 (And.intro k3 (And.intro k4 (And.intro k5 k6))))));have kx:wr.cell? ⟨bx,0,none⟩=some (.string p2.tx):=(ak hP 0).trans rfl;go_upto_region 19 with(fail);go_cut [120] (fun v120 wc=>ao9 p2.tx x wr v120 wc)
         case first =>
          refine wB (n:=16) (S:=fun w'=>Below wr.heap.size wr w') (ds:=[]) #[aq,aq,aq,aq,aq,aq,aq,aq,aq,aq,aq,aq,aq,aq,aq,aq] (by kernel_rfl) rfl rfl ((Below.refl _ wr).drew) (fun hHeld=>?_);refine mA al3 aj9 (fun dX ud=>?_);refine bW (i:=0) (N:=(some 105)) (v:=?_) (a':=?_) #[au,aq,aq,aq,aq,aq,aq,aq,aq,aq,aq,aq,aq,aq,aq,aq] rfl rfl (bF dX.out (by kernel_rfl)) (fun _ _ _ h=>h) (Or.inl ⟨by rfl,?_⟩) ?_ ?_;rotate_left
          .intro w';go_simp
           with_reducible rfl
          rotate_left
          .simp only[Act.put,aE,aI,aJ,bC];rfl
          refine bW (i:=1) (N:=(some 106)) (v:=?_) (a':=?_) #[au,au,aq,aq,aq,aq,aq,aq,aq,aq,aq,aq,aq,aq,aq,aq] rfl rfl (bF dX.out (by kernel_rfl)) (fun _ _ _ h=>h) (Or.inl ⟨by rfl,?_⟩) ?_ ?_;rotate_left
          .intro w';go_simp
           with_reducible rfl
          rotate_left
          .simp only[Act.put,aE,aI,aJ,bC];rfl
          refine bW (i:=2) (N:=(some 107)) (v:=?_) (a':=?_) #[au,au,au,aq,aq,aq,aq,aq,aq,aq,aq,aq,aq,aq,aq,aq] rfl rfl (bF dX.out (by kernel_rfl)) (fun _ _ _ h=>h) (Or.inl ⟨by rfl,?_⟩) ?_ ?_;rotate_left
          .intro w';go_simp
           with_reducible rfl
          rotate_left
          .simp only[Act.put,aE,aI,aJ,bC];rfl
          refine bW (i:=3) (N:=(some 108)) (v:=?_) (a':=?_) #[au,au,au,au,aq,aq,aq,aq,aq,aq,aq,aq,aq,aq,aq,aq] rfl rfl (bF dX.out (by kernel_rfl)) (fun _ _ _ h=>h) (Or.inl ⟨by rfl,?_⟩) ?_ ?_;rotate_left
          .intro w';go_simp
           with_reducible rfl
          rotate_left
          .simp only[Act.put,aE,aI,aJ,bC];rfl
          refine gY (i:=4) (N:=(some 109)) (v:=?_) (a':=?_) #[au,au,au,au,au,aq,aq,aq,aq,aq,aq,aq,aq,aq,aq,aq] rfl rfl (dB dX.out ud.out (by kernel_rfl)) (fun _ _ _ h=>h) (Or.inl ⟨by rfl,?_⟩) hHeld ?_ ?_;rotate_left
          .intro w' hS;have Ts:=True.intro;have s6:=(hS.cell (World.block_lt_of_cell? _ _ k6)).trans k6;go_simp
           with_reducible rfl
          rotate_left
          .simp only[Act.put,aE,aI,aJ,bC];rfl
          refine bW (i:=5) (N:=(some 110)) (v:=?_) (a':=?_) #[au,au,au,au,au,au,aq,aq,aq,aq,aq,aq,aq,aq,aq,aq] rfl rfl (bF dX.out (by kernel_rfl)) (fun _ _ _ h=>h) (Or.inl ⟨by rfl,?_⟩) ?_ ?_;rotate_left
          .intro w';go_simp
           with_reducible rfl
          rotate_left
          .simp only[Act.put,aE,aI,aJ,bC];rfl
          refine bW (i:=6) (N:=(some 111)) (v:=?_) (a':=?_) #[au,au,au,au,au,au,au,aq,aq,aq,aq,aq,aq,aq,aq,aq] rfl rfl (bF dX.out (by kernel_rfl)) (fun _ _ _ h=>h) (Or.inl ⟨by rfl,?_⟩) ?_ ?_;rotate_left
          .intro w';go_simp
           with_reducible rfl
          rotate_left
          .simp only[Act.put,aE,aI,aJ,bC];rfl
          refine bW (i:=7) (N:=(some 112)) (v:=?_) (a':=?_) #[au,au,au,au,au,au,au,au,aq,aq,aq,aq,aq,aq,aq,aq] rfl rfl (bF dX.out (by kernel_rfl)) (fun _ _ _ h=>h) (Or.inl ⟨by rfl,?_⟩) ?_ ?_;rotate_left
          .intro w';go_simp
           with_reducible rfl
          rotate_left
          .simp only[Act.put,aE,aI,aJ,bC];rfl
          refine gY (i:=8) (N:=(some 113)) (v:=?_) (a':=?_) #[au,au,au,au,au,au,au,au,au,aq,aq,aq,aq,aq,aq,aq] rfl rfl (dB dX.out ud.out (by kernel_rfl)) (fun _ _ _ h=>h) (Or.inl ⟨by rfl,?_⟩) hHeld ?_ ?_;rotate_left
          .intro w' hS;have Ts:=True.intro;have s6:=(hS.cell (World.block_lt_of_cell? _ _ kx)).trans kx;go_simp
           with_reducible rfl
          rotate_left
          .simp only[Act.put,aE,aI,aJ,bC];rfl
          refine bW (i:=9) (N:=(some 114)) (v:=?_) (a':=?_) #[au,au,au,au,au,au,au,au,au,au,aq,aq,aq,aq,aq,aq] rfl rfl (bF dX.out (by kernel_rfl)) (fun _ _ _ h=>h) (Or.inl ⟨by rfl,?_⟩) ?_ ?_;rotate_left
          .intro w';go_simp
           with_reducible rfl
          rotate_left
          .simp only[Act.put,aE,aI,aJ,bC];rfl
          refine bW (i:=10) (N:=(some 115)) (v:=?_) (a':=?_) #[au,au,au,au,au,au,au,au,au,au,au,aq,aq,aq,aq,aq] rfl rfl (bF dX.out (by kernel_rfl)) (fun _ _ _ h=>h) (Or.inl ⟨by rfl,?_⟩) ?_ ?_;rotate_left
          .intro w';go_simp
           with_reducible rfl
          rotate_left
          .simp only[Act.put,aE,aI,aJ,bC];rfl
          refine bW (i:=11) (N:=(some 116)) (v:=?_) (a':=?_) #[au,au,au,au,au,au,au,au,au,au,au,au,aq,aq,aq,aq] rfl rfl (bF dX.out (by kernel_rfl)) (fun _ _ _ h=>h) (Or.inl ⟨by rfl,?_⟩) ?_ ?_;rotate_left
          .intro w';go_simp
           with_reducible rfl
          rotate_left
          .simp only[Act.put,aE,aI,aJ,bC];rfl
          refine gY (i:=12) (N:=(some 117)) (v:=?_) (a':=?_) #[au,au,au,au,au,au,au,au,au,au,au,au,au,aq,aq,aq] rfl rfl (dB dX.out ud.out (by kernel_rfl)) (fun _ _ _ h=>h) (Or.inl ⟨by rfl,?_⟩) hHeld ?_ ?_;rotate_left
          .intro w' hS;have Ts:=True.intro;have s0:=(hS.cell (World.block_lt_of_cell? _ _ k0)).trans k0;have s1:=(hS.cell (World.block_lt_of_cell? _ _ k1)).trans k1;have s2:=(hS.cell (World.block_lt_of_cell? _ _ k2)).trans k2;have s3:=(hS.cell (World.block_lt_of_cell? _ _ k3)).trans k3;have s4:=(hS.cell (World.block_lt_of_cell? _ _ k4)).trans k4;have s5:=(hS.cell (World.block_lt_of_cell? _ _ k5)).trans k5;have s6:=(hS.cell (World.block_lt_of_cell? _ _ k6)).trans k6;go_simp
           with_reducible rfl
          rotate_left
          .simp only[Act.put,aE,aI,aJ,bC];rfl
          refine Cz (i:=13) (N:=(some 118)) #[au,au,au,au,au,au,au,au,au,au,au,au,au,au,aq,aq] rfl rfl (jy dX.out (by kernel_rfl)) (by decide) (fun K hK=>?_);refine O7 Tryz.func16 (by kernel_rfl) rfl #[.string p2.tx,.agg #[.int .i64 x.f0,.int .i64 x.f1,.int .i64 x.f2,.int .i64 x.f3,.int .i64 x.f4,.bool x.f5,.int .i64 x.f6]] (by rfl) rfl rfl (by simp only[List.map_toArray,List.map_cons,List.map_nil];rfl) ?_;refine(ai2 p2.tx x uX.out.f.1 uX.out.f.2.1 uX.out.f.2.2 HZ.out.tx _).mono ?_;rintro e w12 ⟨bl,rfl,hbl,hb12⟩;have HB12:=aj (show Below wr.heap.size wr w12 from (Below.refl _ wr).drew.trans (hb12.mono (Nat.le_refl _)));have Oz:=aj hbl;clear hbl hb12;refine⟨_,rfl,?_⟩;refine hK.out _ _ (HB12.out) (fun hHeld=>?_);clear hK K;refine zL (a':=?_) ?_ ?_;rotate_left
          .show Act.put _ (some 118) _=_;simp only[Act.put,aE,aI,aJ,bC];rfl
          refine bW (i:=14) (N:=(some 119)) (v:=?_) (a':=?_) #[au,au,au,au,au,au,au,au,au,au,au,au,au,au,au,aq] rfl rfl (bF dX.out (by kernel_rfl)) (fun _ _ _ h=>h) (Or.inl ⟨by rfl,?_⟩) ?_ ?_;rotate_left
          .intro w';go_simp
           with_reducible rfl
          rotate_left
          .simp only[Act.put,aE,aI,aJ,bC];rfl
          refine bW (i:=15) (N:=(some 120)) (v:=?_) (a':=?_) #[au,au,au,au,au,au,au,au,au,au,au,au,au,au,au,au] rfl rfl (bF dX.out (by kernel_rfl)) (fun _ _ _ h=>h) (Or.inl ⟨by rfl,?_⟩) ?_ ?_;rotate_left
          .intro w';go_simp
           with_reducible rfl
          rotate_left
          .simp only[Act.put,aE,aI,aJ,bC];rfl
          refine CB (rQ dX.out (by kernel_rfl)) ?_;go_wp2;go_meet
          case rel=>exact⟨bl,rfl,Oz.out,HB12.out⟩
         case rest =>
          obtain⟨bl,rfl,hbl,hbk⟩:=hcut;have qD:=aj (hB.out.trans (hbk.mono hB.out.size));have JQ:=aj (HB.out.trans (hbk.mono HB.out.size));have Oz:=aj hbl;clear hbl d2 kx k0 k1 k2 k3 k4 k5 k6;cases bl with
          | false =>
           clear hbk;go_wp2;go_roundw
           case rel=>exact⟨y+1,i+1,rfl,⟨by have:=hy.out.1;omega,by have:=ai3.out;omega⟩,qD⟩
           case measure=>have:=ai3.out;have:=hy.out;simp[intOf];omega
          | true =>
           obtain⟨n0,n1,n2,n3,n4,n5,n6⟩:=ZP.out;have m0:=bH hbk n0;have m1:=bH hbk n1;have m2:=bH hbk n2;have m3:=bH hbk n3;have m4:=bH hbk n4;have m5:=bH hbk n5;have m6:=bH hbk n6;have hPk:=ay hP hbk;have Wf:=aj (show rD p2 x false=x.f2+x.f3 from ah5 yZ.out HLY.out (by rw[HI.out,HQ2.out];exact HL0.out) (by rw[HL.out,nQ.out];exact ai3.out) HX.out uX.out.f.2.2 HF.out (Oz.out rfl));have jr:=aj (show(gb p2 x false).length<=10000 from Nat.le_trans (O0 HZ.out H0.out) (by decide));have ZS:=aj (ah6 uX.out);have HGB:=aj (show gb p2 x false≠[]->-100000000000000000<=rD p2 x false/\rD p2 x false<=100000000000000000 from fun _=>by
            have:=ZS.out;rw[Wf.out];omega)
           have Sl:=aj (And.intro m2 m3);clear hbk n0 n1 n2 n3 n4 n5 n6;go_upto_region 20 with(fail);go_cut [19,20] (fun v19 v20 wd=>v19=.int .i64 (x.f2+x.f3)/\v20=.int .i64 0/\Below wc.heap.size wc wd)
           case first =>
            refine wB (n:=11) (S:=fun w'=>Below wc.heap.size wc w') (ds:=[]) #[aq,aq,aq,aq,aq,aq,aq,aq,aq,aq,aq] (by kernel_rfl) rfl rfl ((Below.refl _ wc).drew) (fun hHeld=>?_);refine mA al5 ak0 (fun dX ud=>?_);refine gY (i:=0) (N:=(some 122)) (v:=?_) (a':=?_) #[au,aq,aq,aq,aq,aq,aq,aq,aq,aq,aq] rfl rfl (dB dX.out ud.out (by kernel_rfl)) (fun _ _ _ h=>h) (Or.inl ⟨by rfl,?_⟩) hHeld ?_ ?_;rotate_left
            .intro w' hS;refine Eq.trans (vQ 27 (.tmp 3) (by rfl) bx (by rfl) 27 (cG p2 As2 cs2 Am2 cm2) (0,0) _ (ay hPk hS) Tryz.underlying27 rfl (cV _ _ _ _ _)) ?_
             with_reducible rfl
            rotate_left
            .simp only[Act.put,aE,aI,aJ,bC];rfl
            refine bW (i:=1) (N:=(some 123)) (v:=?_) (a':=?_) #[au,au,aq,aq,aq,aq,aq,aq,aq,aq,aq] rfl rfl (bF dX.out (by kernel_rfl)) (fun _ _ _ h=>h) (Or.inl ⟨by rfl,?_⟩) ?_ ?_;rotate_left
            .intro w';go_simp
             with_reducible rfl
            rotate_left
            .simp only[Act.put,aE,aI,aJ,bC];rfl
            refine bW (i:=2) (N:=(some 124)) (v:=?_) (a':=?_) #[au,au,au,aq,aq,aq,aq,aq,aq,aq,aq] rfl rfl (bF dX.out (by kernel_rfl)) (fun _ _ _ h=>h) (Or.inl ⟨by rfl,?_⟩) ?_ ?_;rotate_left
            .intro w';go_simp
             with_reducible rfl
            rotate_left
            .simp only[Act.put,aE,aI,aJ,bC];rfl
            refine bW (i:=3) (N:=(some 125)) (v:=?_) (a':=?_) #[au,au,au,au,aq,aq,aq,aq,aq,aq,aq] rfl rfl (bF dX.out (by kernel_rfl)) (fun _ _ _ h=>h) (Or.inl ⟨by rfl,?_⟩) ?_ ?_;rotate_left
            .intro w';go_simp
             with_reducible rfl
            rotate_left
            .simp only[Act.put,aE,aI,aJ,bC];rfl
            refine gY (i:=4) (N:=(some 126)) (v:=?_) (a':=?_) #[au,au,au,au,au,aq,aq,aq,aq,aq,aq] rfl rfl (dB dX.out ud.out (by kernel_rfl)) (fun _ _ _ h=>h) (Or.inl ⟨by rfl,?_⟩) hHeld ?_ ?_;rotate_left
            .intro w' hS;have Ts:=True.intro;have s0:=(hS.cell (World.block_lt_of_cell? _ _ m0)).trans m0;have s1:=(hS.cell (World.block_lt_of_cell? _ _ m1)).trans m1;have s2:=(hS.cell (World.block_lt_of_cell? _ _ m2)).trans m2;have s3:=(hS.cell (World.block_lt_of_cell? _ _ m3)).trans m3;have s4:=(hS.cell (World.block_lt_of_cell? _ _ m4)).trans m4;have s5:=(hS.cell (World.block_lt_of_cell? _ _ m5)).trans m5;have s6:=(hS.cell (World.block_lt_of_cell? _ _ m6)).trans m6;go_simp
             with_reducible rfl
            rotate_left
            .simp only[Act.put,aE,aI,aJ,bC];rfl
            refine Cz (i:=5) (N:=(some 127)) #[au,au,au,au,au,au,aq,aq,aq,aq,aq] rfl rfl (jy dX.out (by kernel_rfl)) (by decide) (fun K hK=>?_);refine O7 Tryz.func17 (by kernel_rfl) rfl #[.agg (cG p2 As2 cs2 Am2 cm2),.agg #[.int .i64 x.f0,.int .i64 x.f1,.int .i64 x.f2,.int .i64 x.f3,.int .i64 x.f4,.bool x.f5,.int .i64 x.f6],.bool false] (by rfl) rfl rfl (by simp only[List.map_toArray,List.map_cons,List.map_nil];rfl) ?_;refine(ac4 p2 x false _ (fun W hW=>Mp.out p2 x false W (dK.below HA11.out (qD.out.drew.trans (hW.mono qD.out.drew.size))) HZ.out H0.out uX.out (eG HT.out (JQ.out.drew.trans (hW.mono JQ.out.drew.size)))) _ rfl jr.out HGB.out (x.f2+x.f3) Wf.out).mono ?_;rintro e w13 ⟨rfl,hb13⟩;have HB13:=aj (show Below wc.heap.size wc w13 from (Below.refl _ wc).drew.trans (hb13.mono (Nat.le_refl _)));clear hb13;refine⟨_,rfl,?_⟩;refine hK.out _ _ (HB13.out) (fun hHeld=>?_);clear hK K;refine zL (a':=?_) ?_ ?_;rotate_left
            .show Act.put _ (some 127) _=_;simp only[Act.put,aE,aI,aJ,bC];rfl
            refine bW (i:=6) (N:=(some 121)) (v:=?_) (a':=?_) #[au,au,au,au,au,au,au,aq,aq,aq,aq] rfl rfl (bF dX.out (by kernel_rfl)) (fun _ _ _ h=>h) (Or.inl ⟨by rfl,?_⟩) ?_ ?_;rotate_left
            .intro w';go_simp
             with_reducible rfl
            rotate_left
            .simp only[Act.put,aE,aI,aJ,bC];rfl
            refine bW (i:=7) (N:=(some 128)) (v:=?_) (a':=?_) #[au,au,au,au,au,au,au,au,aq,aq,aq] rfl rfl (bF dX.out (by kernel_rfl)) (fun _ _ _ h=>h) (Or.inl ⟨by rfl,?_⟩) ?_ ?_;rotate_left
            .intro w';go_simp
             with_reducible rfl
            rotate_left
            .simp only[Act.put,aE,aI,aJ,bC];rfl
            refine bW (i:=8) (N:=(some 129)) (v:=?_) (a':=?_) #[au,au,au,au,au,au,au,au,au,aq,aq] rfl rfl (bF dX.out (by kernel_rfl)) (fun _ _ _ h=>h) (Or.inl ⟨by rfl,?_⟩) ?_ ?_;rotate_left
            .intro w';go_simp
             with_reducible rfl
            rotate_left
            .simp only[Act.put,aE,aI,aJ,bC];rfl
            refine bW (i:=9) (N:=(some 19)) (v:=?_) (a':=?_) #[au,au,au,au,au,au,au,au,au,au,aq] rfl rfl (bF dX.out (by kernel_rfl)) (fun _ _ _ h=>h) (Or.inl ⟨by rfl,?_⟩) ?_ ?_;rotate_left
            .intro w';go_simp
             with_reducible rfl
            rotate_left
            .simp only[Act.put,aE,aI,aJ,bC];rfl
            refine bW (i:=10) (N:=(some 20)) (v:=?_) (a':=?_) #[au,au,au,au,au,au,au,au,au,au,au] rfl rfl (bF dX.out (by kernel_rfl)) (fun _ _ _ h=>h) (Or.inl ⟨by rfl,?_⟩) ?_ ?_;rotate_left
            .intro w';go_simp
             with_reducible rfl
            rotate_left
            .simp only[Act.put,aE,aI,aJ,bC];rfl
            refine CB (rQ dX.out (by kernel_rfl)) ?_;go_wp2;go_meet
            case rel=>exact⟨rfl,rfl,HB13.out⟩
           case rest =>
            obtain⟨rfl,rfl,hbd⟩:=hcut;have Br:=aj (qD.out.trans (hbd.mono qD.out.size));have y2:=Bx.cell (bH hbd Sl.out.1);have y3:=Bx.cell (bH hbd Sl.out.2);have a3:IntKind.i64.wrap (x.f2+x.f3)=x.f2+x.f3:=IntWalk.i64_in _ (by have:=ZS.out;omega);have a4:wrap64 (x.f2+x.f3)=x.f2+x.f3:=dN _ (by have:=ZS.out;omega);clear hbd m0 m1 m2 m3 m4 m5 m6 hPk;go_upto_region 21 with(fail);refine aZ (by kernel_rfl) (by kernel_rfl) ?_
            repeat(go_big_quiet_step (fail))
            refine wpQuiet_nil ?_;intro w14 hb14;clear y2 y3;have HB14:=aj (Br.out.trans (hb14.mono Br.out.size));clear hb14;go_wp2;go_roundw
            case rel=>exact⟨y+1,i+1,rfl,⟨by have:=hy.out.1;omega,by have:=ai3.out;omega⟩,HB14⟩
            case measure=>have:=ai3.out;have:=hy.out;simp[intOf];omega
        .have d2:(x.f6 != 0)=true:=bne_iff_ne.mpr hf;have y6:=Bx.cell k6;clear hf k0 k1 k2 k3 k4 k5 k6;go_upto_region 19 with(fail);refine aZ (by kernel_rfl) (by kernel_rfl) ?_
         repeat(go_big_quiet_step (fail))
         refine wpQuiet_nil ?_;intro w12 hb12;clear y6;have HB12:=aj (hB.out.trans (hb12.mono hB.out.size));clear hb12;go_wp2;go_roundw
         case rel=>exact⟨y+1,i+1,rfl,⟨by have:=hy.out.1;omega,by have:=ai3.out;omega⟩,HB12⟩
         case measure=>have:=ai3.out;have:=hy.out;simp[intOf];omega
       .have d1:decide (y+1 < (nl:Int))=false:=decide_eq_false (by have:=hy.out.1;omega);clear hlt;go_wp2;go_ret;exact⟨rfl,HB.out⟩
   .obtain⟨e0,he0⟩:∃ e0,iI p2 S r=e0:=⟨_,rfl⟩;have PY:=aj (And.intro he0 (show e0≠0 by rw[<-he0];exact hp));have d1:(e0 != 0)=true:=bne_iff_ne.mpr PY.out.2;clear hp he0;go_upto_region 7 with(first|((with_reducible refine aS (N:=39) rfl ?_);go_loud(refine wpList_load_row rfl 27 _ rfl bx rfl 27 (cG p2 As2 cs2 Am2 cm2) (0,0) _ (by exact xW.out) Tryz.underlying27 rfl (cV _ _ _ _ _) ?_))|(go_at_call 7;go_loud(refine(OH p2 S r A c _ HSL.out.1 HA5.out HZ.out (Kd.aM HSL.out.2.1 HB5.out) HSL.out.2.2 e0 PY.out.1 PY.out.2).mono ?_;rintro e w6 ⟨rfl,hb6⟩;have HB6:=aj (HB5.out.trans (hb6.mono HB5.out.size));have Rv:=aj (ay xW.out hb6);have HA6:=aj (dK.below HA5.out hb6);clear hb6)));clear r0 r1;by_cases hq:bB p2=0
    .have H0:=aj hq;clear hq;go_wp2_with (first|((with_reducible refine aS (N:=46) rfl ?_);go_loud(refine wpList_load_row rfl 27 _ rfl bx rfl 27 (cG p2 As2 cs2 Am2 cm2) (0,0) _ (by exact Rv.out) Tryz.underlying27 rfl (cV _ _ _ _ _) ?_))|(go_at_call 12;go_loud(refine(DG p2 _ HA6.out HZ.out H0.out (eG HT.out HB6.out)).mono ?_;rintro e w7 ⟨v7,rfl,hR7,hb7⟩;have HB7:=aj (HB6.out.trans (hb7.mono HB6.out.size));clear hR7 hb7)));go_ret;exact⟨rfl,HB7.out⟩
    .obtain⟨e1,he1⟩:∃ e1,bB p2=e1:=⟨_,rfl⟩;have H1:=aj (And.intro he1 (show e1≠0 by rw[<-he1];exact hq));clear hq he1;go_wp2_with (first|((with_reducible refine aS (N:=46) rfl ?_);go_loud(refine wpList_load_row rfl 27 _ rfl bx rfl 27 (cG p2 As2 cs2 Am2 cm2) (0,0) _ (by exact Rv.out) Tryz.underlying27 rfl (cV _ _ _ _ _) ?_))|(go_at_call 12;go_loud(refine(aj0 p2 _ HA6.out HZ.out e1 H1.out.1 H1.out.2).mono ?_;rintro e w7 ⟨rfl,hb7⟩;have HB7:=aj (HB6.out.trans (hb7.mono HB6.out.size));clear hb7)));go_ret;exact⟨rfl,HB7.out⟩
end Go.Proofs.YtcaallkkeighdaaGreatDoor.P
