/- metric.Masses answers as the plain massesOf: for every paragraph of at most 300 bytes,spans and marks. -/
import Derived.IntWalk
import Derived.Test.YtcaallkkeighdaaGreatDoorQ10
set_option maxRecDepth 100000
set_option maxHeartbeats 16000000
set_option linter.unusedVariables false
set_option linter.unusedSimpArgs false
namespace Go.Proofs.YtcaallkkeighdaaGreatDoor.P
open Go.RowKit aD aQ aR
def LkM (p:Pa) (As:Option Addr) (cs:Nat) (Am:Option Addr) (cm:Nat) (w wr:World) (bp bl be:Nat) (st:qc) (cl:S50) (v5 v9:Value) (out:List S99) (r:Ending) (w':World):Prop :=
 r=.returned (.agg #[.int .i64 (dG st cl).f0,.int .i64 (dG st cl).f1,.int .i64 (dG st cl).f2])/\∃ A' c',H8 p As cs Am cm w w' bp bl be A' c' (JI st cl).1 (JI st cl).2 v5 v9 out/\fB (fun k=>k=bl\/k=be) wr w'
theorem NS (p:Pa) {As:Option Addr} {cs:Nat} {Am:Option Addr} {cm:Nat} {w wr:World} {bp bl be:Nat} {A:Option Addr} {c:Nat} (st:qc) (cl:S50) {v5 v9:Value} {out:List S99} (n:Nat) (hok:zR p st n) (h:H8 p As cs Am cm w wr bp bl be A c st.sp st.en v5 v9 out) :
  Calls Tryz.prog 106 #[.int .i64 cl.f0,.pointer (some ⟨bl,0,none⟩),.pointer (some ⟨be,0,none⟩)] wr (LkM p As cs Am cm w wr bp bl be st cl v5 v9 out) :=
 (CT st.sp st.en cl.f0 A c bl be wr h.lk hok.sp (fun x q=>(hok.lk x q).2) hok.ln hok.en.1 hok.en.2 w.heap.size (by have:=h.ord;omega) (by have:=h.ord;omega) (h.VL hok.sp)).mono fun e w' ⟨e1,A',c',hl,hA,hF⟩=>⟨e1,A',c',h.look hl hA hF,hF⟩
theorem GF {w:World} {c1 c2 c3:Array Value} {t1 t2:TypeId} (h:c3=c2):aC (Below w.heap.size w ((w.alloc (.cells c1 t1)).alloc (.cells c3 t2)))/\aC (((w.alloc (.cells c1 t1)).alloc (.cells c3 t2)).heap[w.heap.size]? = some (.cells c1 t1 (0,0)))/\aC (((w.alloc (.cells c1 t1)).alloc (.cells c3 t2)).heap[w.heap.size+1]? = some (.cells c2 t2 (0,0))):=by
 subst h;exact ⟨⟨((Below.refl _ _).alloc (Nat.le_refl _) _).alloc (by simp) _⟩,⟨aP (aH _ _) _⟩,⟨by have:=aH (w.alloc (.cells c1 t1)) (.cells c3 t2);rwa [World.size_alloc] at this⟩⟩
def Pc (p:Pa) (st:qc) (cl:S50) (w w4:World) (v8:Value) (we:World):Prop:=∃ (Am2:Option Addr) (cm2:Nat),v8=.slice Am2 (fN p st cl).ma.length cm2/\aC (Kd.string.C w Am2 (fN p st cl).ma.length (fN p st cl).ma/\(fN p st cl).ma.length<=cm2)/\aC (Below w4.heap.size w4 we)/\aC (we.heap[w4.heap.size]? = some (.cells #[.int .i64 (dG st cl).f0,.int .i64 (dG st cl).f1,.int .i64 (dG st cl).f2] 121 (0,0)))/\aC (we.heap[w4.heap.size+1]? = some (.cells #[.int .i64 cl.f0,.int .i64 cl.f1,.int .i64 cl.f2,.int .i64 (cA p (dG st cl)),.int .i64 (iM p cl (dG st cl) (vL st.ma)),.int .i64 0] 99 (0,0)))
def W9 (p:Pa) (st:qc) (cl:S50) (we:World) (v10 v17 v121:Value) (wf:World):Prop :=
 v10=.bool st.kn/\v17=.bool (shows cl.f2)/\v121=.bool (shows cl.f2 && (dG st cl).f2 == 1 && st.kn && st.ps == cA p (dG st cl))/\aC (Below we.heap.size we wf)
theorem H9 (p:Pa):∀ (l:List S50) (s:qc),s.kn=false->(tR p s l).kn=true->iO p s l≠[]/\((iO p s l).getLast?.getD z99).f3=(tR p s l).ps
 | [],s,h0,h=>by rw [show tR p s []=s from rfl,h0] at h;cases h
 | c :: l,s,_,_=>by
  refine ⟨by simp [iO],?_⟩
  suffices hh:∀ (l:List S50) (s:qc) (c:S50),((iO p s (c :: l)).getLast?.getD z99).f3=(tR p s (c :: l)).ps from hh l s c
  intro l
  induction l with
  | nil=>intro s c;rfl
  | cons d l ih =>
   intro s c;have:=ih (fN p s c) d;simp only [iO,tR] at this ⊢;rw [List.getLast?_cons_cons];exact this
theorem wL (W:World) (x:S99):∀ j u,(oC x)[j]? = some u->(W.alloc (.cells #[.int .i64 x.f0,.int .i64 x.f1,.int .i64 x.f2,.int .i64 x.f3,.int .i64 x.f4,.int .i64 x.f5] 99)).cell? ((⟨W.heap.size,0,none⟩:Addr).add j)=some u:=World.news_of_block (cs:=#[.int .i64 x.f0,.int .i64 x.f1,.int .i64 x.f2,.int .i64 x.f3,.int .i64 x.f4,.int .i64 x.f5]) (t:=99) (fr:=(0,0)) (heap_alloc_new W _)
theorem wM (x:S99):∀ u∈oC x,u.oneCell'=true:=by simp [oC,Value.oneCell']
def Qr (p:Pa) (w:World) (e:Ending) (w':World):Prop:=∃ v,e=.returned (.tuple #[v,.int .i64 0])/\Kd.R k99 99 w' w.heap.size (fun _=>True) v (iO p (r8 p) (cQ p.tx))/\Below w.heap.size w w'
theorem H_ (p:Pa) {As Am:Option Addr} {cs cm:Nat} (w:World) (hA:dK w p As cs Am cm) (hz:p.small) (h0:bB p=0):Calls Tryz.prog 26 #[.agg (cG p As cs Am cm)] w (Qr p w):=by
 have HA:=aj hA;have HZ:=aj hz;have H0:=aj h0;have hw:=(gI h0).1;have HW:=aj hw;clear hA hz h0 hw;have hB0:Below w.heap.size w (w.alloc (.cells (cG p As cs Am cm) 27)):=(Below.refl _ _).alloc (Nat.le_refl _) _;have hbx:=aH w (.cells (cG p As cs Am cm) 27);have HB0:=aj hB0;have dI:=aj hbx;clear hB0 hbx;go_enter Tryz.func26,Tryz.ntmps26;go_upto_region 2 with (first | ((with_reducible refine aS (N:=18) rfl ?_);go_loud (refine wpList_load_row rfl 27 _ rfl (w.heap.size) rfl 27 (cG p As cs Am cm) (0,0) _ (by exact dI.out) Tryz.underlying27 rfl (cV p As cs Am cm) ?_))|(go_at_call 28;go_loud (refine (rY p _ (dK.below HA.out HB0.out) HZ.out).mono ?_;rintro e w1 ⟨rfl,hb1⟩;rw [H0.out];have HB1:=aj (HB0.out.trans (hb1.mono HB0.out.size));have dI:=aj (ay dI.out hb1);clear hb1)));have x0:w1.cell? ⟨w.heap.size,0,none⟩=some (.string p.tx):=(ak dI.out 0).trans rfl;have x1:w1.cell? ⟨w.heap.size,1,none⟩=some (.slice As p.sp.length cs):=(ak dI.out 1).trans rfl;have x20:w1.cell? ⟨w.heap.size,20,none⟩=some (.slice Am p.ma.length cm):=(ak dI.out 20).trans rfl;go_upto_block 0 with (first | (go_at_call 8;go_loud (refine (CN p.tx HW.out _).mono ?_;rintro e w2 ⟨v5,rfl,hs2,hb2⟩;obtain ⟨A5,c5,rfl,hc5,hr5⟩:=Kd.fG hs2;have yZ:=aj hs2;have HB2:=aj (HB1.out.trans (hb2.mono HB1.out.size));have dI:=aj (ay dI.out hb2);have x0:=bH hb2 x0;have x1:=bH hb2 x1;have x20:=bH hb2 x20;clear hs2 hb2 hc5 hr5))|(go_at_call 61;go_loud (refine (CR p.sp As cs _ (Kd.aM HA.out.sp HB2.out)).mono ?_;rintro e w3 ⟨rfl,rfl⟩;have x20:=cM (cM x20 (.cells #[.slice As p.sp.length cs] 22)) (.cells #[.int .i64 (kW p.sp)] 3))));go_wp2;clear x0 x1 x20;have hM:H8 p As cs Am cm w ((w2.alloc (.cells #[.slice As p.sp.length cs] 22)).alloc (.cells #[.int .i64 (kW p.sp)] 3)) w.heap.size w2.heap.size (w2.heap.size+1) As cs p.sp (kW p.sp) (.slice A5 (cQ p.tx).length c5) (.slice none 0 0) []:=by
  have hB2:=HB2.out;have hs:=yZ.out;have hb:Below w2.heap.size w2 ((w2.alloc (.cells #[.slice As p.sp.length cs] 22)).alloc (.cells #[.int .i64 (kW p.sp)] 3)):=((Below.refl _ _).alloc (Nat.le_refl _) _).alloc (by simp) _;have hlt:=aY dI.out;have hF:fB (fun _=>False) w2 ((w2.alloc (.cells #[.slice As p.sp.length cs] 22)).alloc (.cells #[.int .i64 (kW p.sp)] 3)):=fB.ji hb (Nat.le_refl _);have hW:Below w.heap.size w ((w2.alloc (.cells #[.slice As p.sp.length cs] 22)).alloc (.cells #[.int .i64 (kW p.sp)] 3)):=hB2.trans (hb.mono hB2.size);have hn:=aH (w2.alloc (.cells #[.slice As p.sp.length cs] 22)) (.cells #[.int .i64 (kW p.sp)] 3);rw [World.size_alloc] at hn;refine ⟨hW,⟨Nat.le_refl _,hlt,Nat.lt_succ_self _,by simp⟩,hF.blk dI.out id,⟨by omega,aP (aH _ _) _,hn,Kd.aM HA.out.sp hW,HA.out.cs⟩,fun hne ad e=>?_,Kd.fK (Kd.fF (hF.C (Kd.eS hs) (fun _ _ _=>id)) (Nat.zero_le _)) (fun k hk=>hk.2.2.1),World.ownsRow_nil _ _ _ _⟩;subst e;obtain ⟨ad2,e2,k0,_⟩:=jH HA.out.sp 0 (by omega) (by have:=List.length_pos_iff.mpr hne;omega);cases e2
  exact World.block_lt_of_cell? w _ (by simpa [add_zero'] using k0)
 go_loopw [8,9,10,11,36] (fun v8 v9 v10 v11 v36 wr=>∃ (x:Int) (i:Nat) (st:qc) (A:Option Addr) (c:Nat) (Sk:Option Addr) (NT:Nat),v36=.int .i64 x/\v8=.slice Sk st.ma.length NT/\v10=.bool st.kn/\v11=.int .u8 st.bf/\aC (x=(i:Int))/\aC (i<=(cQ p.tx).length)/\aC (st=tR p (r8 p) ((cQ p.tx).take i))/\aC (Kd.string.C w Sk st.ma.length st.ma/\st.ma.length<=NT)/\aC (H8 p As cs Am cm w wr w.heap.size w2.heap.size (w2.heap.size+1) A c st.sp st.en (.slice A5 (cQ p.tx).length c5) v9 (iO p (r8 p) ((cQ p.tx).take i)))) (fun _ _ _ _ v36 _=>(cQ p.tx).length - (intOf v36).toNat)
 case atStart=>exact ⟨0,0,r8 p,As,cs,Am,cm,rfl,rfl,rfl,rfl,⟨rfl⟩,⟨Nat.zero_le _⟩,⟨rfl⟩,⟨HA.out.ma,HA.out.cm⟩,⟨hM⟩⟩
 case round =>
  clear hM HB2 yZ dI HB0;obtain ⟨x,i,st,A,c,Sk,NT,rfl,rfl,rfl,rfl,hx,hi,hst,hma,HM⟩:=hrel;obtain ⟨out,hout⟩:∃ out,iO p (r8 p) ((cQ p.tx).take i)=out:=⟨_,rfl⟩;rw [hout] at HM;have Ky:=aj hout;clear hout;by_cases hlt:i < (cQ p.tx).length
  .have cg:=aj hlt
   have d9:decide (x < ((cQ p.tx).length:Int))=true:=decide_eq_true (by rw [hx.out];omega);have q0:0<=x:=by rw [hx.out];omega
   have q1:x < ((cQ p.tx).length:Int):=by rw [hx.out];omega
   obtain ⟨A6,c6,e6,_,hC6⟩:=Kd.fG HM.out.cl;injection e6 with e61 e62 e63;subst e61;obtain ⟨ad,e0,k0,k1,k2⟩:=Ki hC6 x q0 q1;cases e0
   have hcm:(cQ p.tx)[i]∈cQ p.tx:=List.getElem_mem hlt;have hrd:kS (cQ p.tx) x=(cQ p.tx)[i]:=by rw [hx.out];unfold kS;simp [List.getD_eq_getElem?_getD,List.getElem?_eq_getElem hlt]
   have Zd:(cQ p.tx).take (i+1)=(cQ p.tx).take i ++ [(cQ p.tx)[i]]:=List.take_succ_eq_append_getElem hlt;have tD:(cQ p.tx).drop i=(cQ p.tx)[i] :: (cQ p.tx).drop (i+1):=List.drop_eq_getElem_cons hlt;rw [hrd] at k0 k1 k2;have Kz:=aj Zd;have JJ:=aj tD;clear hrd Zd tD e62 e63 hC6;generalize (cQ p.tx)[i]=cl at *;obtain ⟨b,_,hb,hcl⟩:=oB p.tx _ _ cl hcm;have VN:=aj hcl;have HB:=aj hb;clear hcl hb hcm hlt;have hn3:=HZ.out.tx;have hpos:0 < p.tx.size:=by have:=HB.out;omega
   have hok:zR p st (refsOf (cl :: (cQ p.tx).drop (i+1))):=by
    rw [hst.out];have:=GA ((cQ p.tx).take i) ((cQ p.tx).drop i) (r8 p) (by rw [List.take_append_drop];exact r9 HZ.out H0.out hpos);rw [JJ.out] at this;exact this
   have CU:=aj hok;have p0:=eq_true q0;have p1:=eq_true q1;have z0:=cM k0 (.cells #[.int .i64 0,.int .i64 0,.int .i64 0] 50);clear hok hn3 hpos;go_upto_region 12 with (fail);have hM0:=HM.out.more (wc:=wr.alloc (.cells #[.int .i64 cl.f0,.int .i64 cl.f1,.int .i64 cl.f2] 50)) ((Below.refl _ _).alloc (Nat.le_refl _) _);have hgc:=aH wr (.cells #[.int .i64 cl.f0,.int .i64 cl.f1,.int .i64 cl.f2] 50);obtain ⟨W0,hW0⟩:∃ W0,wr.alloc (.cells #[.int .i64 cl.f0,.int .i64 cl.f1,.int .i64 cl.f2] 50)=W0:=⟨_,rfl⟩;rw [hW0] at hM0 hgc ⊢;have HM0:=aj hM0;have Qs:=aj hgc;have sj:=aj HM.out.ord;have y0:W0.cell? ⟨wr.heap.size,0,none⟩=some (.int .i64 cl.f0):=(ak hgc 0).trans rfl;clear hW0 hM0 hgc z0 HM;go_upto_region 13 with (first | (go_at_call 106;go_loud (refine (NS p st cl _ CU.out HM0.out).mono ?_;rintro e w4 ⟨rfl,A7,c7,hm7,hF7⟩;have HM1:=aj hm7;have Qs:=aj (hF7.blk Qs.out (by have:=sj.out;omega));clear hm7 hF7 HM0 y0;have y0:w4.cell? ⟨wr.heap.size,0,none⟩=some (.int .i64 cl.f0):=(ak Qs.out 0).trans rfl;have y1:w4.cell? ⟨wr.heap.size,1,none⟩=some (.int .i64 cl.f1):=(ak Qs.out 1).trans rfl;have y2:w4.cell? ⟨wr.heap.size,2,none⟩=some (.int .i64 cl.f2):=(ak Qs.out 2).trans rfl;have y3:=aY Qs.out)));go_upto_if 55 with (fail);go_cut [] from 56 to 59 (fun wc=>aC (Below w4.heap.size w4 wc)/\aC (wc.heap[w4.heap.size]? = some (.cells #[.int .i64 (dG st cl).f0,.int .i64 (dG st cl).f1,.int .i64 (dG st cl).f2] 121 (0,0)))/\aC (wc.heap[w4.heap.size+1]? = some (.cells #[.int .i64 cl.f0,.int .i64 cl.f1,.int .i64 cl.f2,.int .i64 (cA p (dG st cl)),.int .i64 0,.int .i64 0] 99 (0,0))))
   case first=>as_aux_lemma =>
    have x2:w4.cell? ⟨w.heap.size,2,none⟩=some (.int .i64 p.pr.f0):=(ak HM1.out.box 2).trans rfl;have x3:=aY HM1.out.box;by_cases z:(dG st cl).f0=0
    .have b1:((dG st cl).f0 == 0)=true:=beq_iff_eq.mpr z
     have SY:=aj (show cA p (dG st cl)=p.pr.f0 by unfold cA;rw [if_pos z]);clear z;go_wp2;go_meet;exact GF (by rw [SY.out])
    .have b1:((dG st cl).f0 == 0)=false:=beq_eq_false_iff_ne.mpr z
     have SY:=aj (show cA p (dG st cl)=(dG st cl).f0 by unfold cA;rw [if_neg z]);clear z;go_wp2;go_meet;exact GF (by rw [SY.out])
   case rest =>
    obtain ⟨Eo,za,JK⟩:=hcut;clear y0 y1 y2 y3;have HC:=aj (HM1.out.more Eo.out);have HG2:=aj (ay Qs.out Eo.out);have c0:wc.cell? ⟨wr.heap.size,0,none⟩=some (.int .i64 cl.f0):=(ak HG2.out 0).trans rfl;have c1:wc.cell? ⟨wr.heap.size,1,none⟩=some (.int .i64 cl.f1):=(ak HG2.out 1).trans rfl;have c2:wc.cell? ⟨wr.heap.size,2,none⟩=some (.int .i64 cl.f2):=(ak HG2.out 2).trans rfl;have l0:wc.cell? ⟨w4.heap.size,0,none⟩=some (.int .i64 (dG st cl).f0):=(ak za.out 0).trans rfl;have l1:wc.cell? ⟨w4.heap.size,1,none⟩=some (.int .i64 (dG st cl).f1):=(ak za.out 1).trans rfl;have l2:wc.cell? ⟨w4.heap.size,2,none⟩=some (.int .i64 (dG st cl).f2):=(ak za.out 2).trans rfl;have m3:wc.cell? ⟨w4.heap.size+1,3,none⟩=some (.int .i64 (cA p (dG st cl))):=(ak JK.out 3).trans rfl;have t0:wc.cell? ⟨w.heap.size,0,none⟩=some (.string p.tx):=(ak HC.out.box 0).trans rfl;have hix:(0:Int)<=cl.f0:=(by rw [VN.out];show (0:Int)<=(b:Int);omega);have hiy:cl.f0 < (p.tx.size:Int):=(by have:=HB.out;rw [VN.out];show (b:Int) < _;omega);have MW:=nN p.tx cl.f0;have p6:=eq_true hix;have p7:=eq_true hiy;go_upto_region 17 with (fail);go_cut [17] from 65 to 72 (fun v17 wd=>v17=.bool (shows cl.f2)/\aC (wd=wc))
    case first=>as_aux_lemma =>
     by_cases e1:cl.f2=1
     .have b1:(cl.f2 == 1)=true:=beq_iff_eq.mpr e1
      have HS:=aj (show shows cl.f2=true by unfold shows;rw [b1];rfl);clear e1;go_wp2;go_meet;exact ⟨by rw [HS.out],⟨rfl⟩⟩
     .have b1:(cl.f2 == 1)=false:=beq_eq_false_iff_ne.mpr e1
      by_cases e2:cl.f2=2
      .have b2:(cl.f2 == 2)=true:=beq_iff_eq.mpr e2
       have HS:=aj (show shows cl.f2=true by unfold shows;rw [b1,b2];rfl);clear e1 e2;go_wp2;go_meet;exact ⟨by rw [HS.out],⟨rfl⟩⟩
      .have b2:(cl.f2 == 2)=false:=beq_eq_false_iff_ne.mpr e2
       have HS:=aj (show shows cl.f2=false by unfold shows;rw [b1,b2];rfl);clear e1 e2;go_wp2;go_meet;exact ⟨by rw [HS.out],⟨rfl⟩⟩
    case rest =>
     obtain ⟨rfl,hwd⟩:=hcut;obtain rfl:=hwd.out;go_upto_block 2 with (fail);go_cut [8,17] from 73 to 100 (fun v8 v17 we=>v17=.bool (shows cl.f2)/\Pc p st cl w w4 v8 we)
     case first=>as_aux_lemma =>
      by_cases e1:shows cl.f2=true
      .have MU:=aj e1
       have Ia:=aj (show (iM p cl (dG st cl) (vL st.ma))=fC (bt p.tx cl.f0) (cA p (dG st cl))+(dG st cl).f1 by unfold iM;rw [e1];rfl);have vM:=aj (show (fN p st cl).ma=st.ma by show (if cl.f2=7 then st.ma.tail else st.ma)=st.ma;rw [if_neg (fun q=>by rw [q] at e1;cases e1)]);rw [e1];clear e1;have hsz:=CU.out.size cl;have hlk:=CU.out.look cl;have hwr:=kT (bt p.tx cl.f0) (cA p (dG st cl)) (by omega) (by omega);have hz0:0<=cA p (dG st cl):=(by omega);have hz1:cA p (dG st cl)<=64:=hsz.2;have qP:wrap64 (fC (bt p.tx cl.f0) (cA p (dG st cl))+(dG st cl).f1)=fC (bt p.tx cl.f0) (cA p (dG st cl))+(dG st cl).f1:=dN _ (by omega);have wN:=aj qP;have HZ0:=aj hz0;have HZ1:=aj hz1;have y3:=Bx.cell m3;have y4:=Bx.cell l1;clear hsz hlk hwr qP hz0 hz1;go_upto_region 19 with (fail);refine cE 8 (by kernel_rfl) (by kernel_rfl) ?_;simp only [List.take_succ_cons,List.take_zero,List.drop_succ_cons,List.drop_zero]
       repeat (go_big_quiet_step ((go_at_call 62;exact Bx.of_same (qJ _ _ _ HZ0.out HZ1.out))))
       refine wpQuiet_nil ?_;intro w7 hb7;have qP:=wN.out;have wO:=ay JK.out hb7;have KA:=ay za.out hb7;have m4:w7.cell? ⟨w4.heap.size+1,4,none⟩=some (.int .i64 0):=(ak wO 4).trans rfl;have fz:=aB wO 4;clear y3 y4;go_wp2;go_meet;exact ⟨by rw [MU.out],Sk,NT,by rw [vM.out],⟨by rw [vM.out];exact hma.out⟩,⟨(Eo.out.trans (hb7.mono Eo.out.size)).setCell (by simp) _⟩,⟨cw KA (by simp) _⟩,⟨aN wO 4 _ (by rw [Ia.out];rfl)⟩⟩
      .have MX:shows cl.f2=false:=by simpa using e1
       have MU:=aj MX;by_cases e3:cl.f2=3
       .have b3:(cl.f2 == 3)=true:=beq_iff_eq.mpr e3
        have Ia:=aj (show (iM p cl (dG st cl) (vL st.ma))=fC (bt p.tx cl.f0) (cA p (dG st cl))+(dG st cl).f1 by unfold iM;rw [b3,Bool.or_true];rfl);have vM:=aj (show (fN p st cl).ma=st.ma by show (if cl.f2=7 then st.ma.tail else st.ma)=st.ma;rw [if_neg (by omega)]);rw [MX];clear e1 MX e3;have hsz:=CU.out.size cl;have hlk:=CU.out.look cl;have hwr:=kT (bt p.tx cl.f0) (cA p (dG st cl)) (by omega) (by omega);have hz0:0<=cA p (dG st cl):=(by omega);have hz1:cA p (dG st cl)<=64:=hsz.2;have qP:wrap64 (fC (bt p.tx cl.f0) (cA p (dG st cl))+(dG st cl).f1)=fC (bt p.tx cl.f0) (cA p (dG st cl))+(dG st cl).f1:=dN _ (by omega);have wN:=aj qP;have HZ0:=aj hz0;have HZ1:=aj hz1;have y3:=Bx.cell m3;have y4:=Bx.cell l1;clear hsz hlk hwr qP hz0 hz1;go_upto_region 19 with (fail);refine cE 8 (by kernel_rfl) (by kernel_rfl) ?_;simp only [List.take_succ_cons,List.take_zero,List.drop_succ_cons,List.drop_zero]
        repeat (go_big_quiet_step ((go_at_call 62;exact Bx.of_same (qJ _ _ _ HZ0.out HZ1.out))))
        refine wpQuiet_nil ?_;intro w7 hb7;have qP:=wN.out;have wO:=ay JK.out hb7;have KA:=ay za.out hb7;have m4:w7.cell? ⟨w4.heap.size+1,4,none⟩=some (.int .i64 0):=(ak wO 4).trans rfl;have fz:=aB wO 4;clear y3 y4;go_wp2;go_meet;exact ⟨by rw [MU.out],Sk,NT,by rw [vM.out],⟨by rw [vM.out];exact hma.out⟩,⟨(Eo.out.trans (hb7.mono Eo.out.size)).setCell (by simp) _⟩,⟨cw KA (by simp) _⟩,⟨aN wO 4 _ (by rw [Ia.out];rfl)⟩⟩
       .have b3:(cl.f2 == 3)=false:=beq_eq_false_iff_ne.mpr e3
        by_cases e7:cl.f2=7
        .have b7:(cl.f2 == 7)=true:=beq_iff_eq.mpr e7
         have hsz:=CU.out.size cl;have HZ0:=aj (show 0<=cA p (dG st cl) by omega);have HZ1:=aj hsz.2;have hml:0 < st.ma.length:=(by rw [CU.out.ma,jP,if_pos e7];omega);have NU:=aj hml;obtain ⟨adm,ea,km⟩:=Kd.zJ (Kd.aM hma.out.1 HC.out.below) 0 (by omega) (by omega);cases ea
         simp only [Int.toNat_zero,add_zero'] at km;have hhd:vZ ByteArray.empty st.ma 0=vL st.ma:=(by unfold vZ vL;cases st.ma<;>rfl);rw [hhd] at km;have Sl:=aj (show (vL st.ma).size<=4096 by
          unfold vL;cases hs:st.ma with
          | nil=>decide
          | cons m l =>
           have:=CU.out.Si m (by rw [hs];simp);unfold gB gN at this;simp only [Bool.and_eq_true,decide_eq_true_eq] at this;show m.size<=4096;omega)
         have Ia:=aj (show (iM p cl (dG st cl) (vL st.ma))=ox (vL st.ma) (cA p (dG st cl)) by unfold iM;rw [MX,b3,if_neg (by decide),if_pos e7]);have vM:=aj (show (fN p st cl).ma=st.ma.drop 1 by show (if cl.f2=7 then st.ma.tail else st.ma)=_;rw [if_pos e7,List.drop_one]);have Qt:=aj (Kd.mW (m:=1) hma.out.1 hml hma.out.2);have hq1:(0:Int) < (st.ma.length:Int):=(by omega);have hq2:=hma.out.2;rw [MX];have y3:=Bx.cell m3;have y4:=Bx.cell km;clear e1 MX e3 e7 hsz hhd;generalize hmn:st.ma.length=mn at *;have HMN:=aj hmn;clear hmn;go_upto_region 21 with (fail);refine cE 7 (by kernel_rfl) (by kernel_rfl) ?_;simp only [List.take_succ_cons,List.take_zero,List.drop_succ_cons,List.drop_zero]
         repeat (go_big_quiet_step ((go_at_call 63;exact Bx.cu (wJ _ _ _ HZ0.out HZ1.out Sl.out))))
         refine wpQuiet_nil ?_;intro w7 hb7;have wO:=ay JK.out hb7;have KA:=ay za.out hb7;have m4:w7.cell? ⟨w4.heap.size+1,4,none⟩=some (.int .i64 0):=(ak wO 4).trans rfl;have fz:=aB wO 4;clear y3 y4;have hfin:∀ (A2:Option Addr) (k:Nat),A2=(if NT=1 then some adm else (some adm).map (·.add (1 * Kd.string.sz)))->k=NT - 1->Pc p st cl w w4 (.slice A2 (mn - 1) k) (w7.setCell ⟨w4.heap.size+1,4,none⟩ (.int .i64 (ox (vL st.ma) (cA p (dG st cl))))):=by
          intro A2 k hA2 hk;have hd:=Qt.out;rw [<-hA2] at hd;have hle:(st.ma.drop 1).length=mn - 1:=(by rw [List.length_drop,HMN.out]);exact ⟨A2,k,by rw [vM.out,hle],⟨by rw [vM.out];exact ⟨hd,by rw [hle];omega⟩⟩,⟨(Eo.out.trans (hb7.mono Eo.out.size)).setCell (by simp) _⟩,⟨cw KA (by simp) _⟩,⟨aN wO 4 _ (by rw [Ia.out];rfl)⟩⟩
         have CV:=aj hfin;clear hfin;by_cases hc1:NT=1
         .subst hc1
          go_wp2;go_meet;refine ⟨by rw [MU.out],?_⟩;have:=CV.out (some adm) 0 (by simp) (by omega)
          rwa [show mn - 1=0 by omega] at this
         .go_wp2
          go_meet;exact ⟨by rw [MU.out],CV.out _ _ (by rw [if_neg hc1];show _=some (adm.add (1 * 1));have:=bM adm 0 1 (by omega);rw [add_zero'] at this;simpa using this.symm) rfl⟩
        .have b7:(cl.f2 == 7)=false:=beq_eq_false_iff_ne.mpr e7
         have Ia:=aj (show (iM p cl (dG st cl) (vL st.ma))=0 by unfold iM;rw [MX,b3,if_neg (by decide),if_neg e7]);have vM:=aj (show (fN p st cl).ma=st.ma by show (if cl.f2=7 then st.ma.tail else st.ma)=st.ma;rw [if_neg e7]);rw [MX];clear e1 MX e3 e7;go_wp2;go_meet;exact ⟨by rw [MU.out],Sk,NT,by rw [vM.out],⟨by rw [vM.out];exact hma.out⟩,Eo,za,⟨by rw [Ia.out];exact JK.out⟩⟩
     case rest =>
      obtain ⟨rfl,Am2,cm2,rfl,SZ,Eo,za,JK⟩:=hcut;clear c0 c1 c2 l0 l1 l2 m3 t0 HC HG2;have HC:=aj (HM1.out.more Eo.out);obtain ⟨A9,c9,e9,_,hC9⟩:=Kd.fG (GD HC.out.row);subst e9;have l2:wc.cell? ⟨w4.heap.size,2,none⟩=some (.int .i64 (dG st cl).f2):=(ak za.out 2).trans rfl;have m3:wc.cell? ⟨w4.heap.size+1,3,none⟩=some (.int .i64 (cA p (dG st cl))):=(ak JK.out 3).trans rfl;have HC9:=aj hC9;clear hC9;obtain ⟨n9,hn9⟩:∃ n,out.length=n:=⟨_,rfl⟩;have HN9:=aj hn9;have hlen:out.length=i:=(by rw [<-Ky.out,pT,List.length_take];have:=cg.out;omega);have hi3:(n9:Int)<=300:=(by rw [<-hn9,hlen];have:=cg.out;have:=kE p.tx p.tx.size 0;have:=HZ.out.tx;unfold cQ at *;omega);have S0:=aj hlen;have HI3:=aj hi3;rw [hn9];clear hn9 hlen hi3;go_upto_region 23 with (fail);go_cut [10,17,121] from 101 to 121 (fun v10 v17 v121 wf=>W9 p st cl wc v10 v17 v121 wf)
      case first=>as_aux_lemma =>
       have y2:=Bx.cell l2;have y3:=Bx.cell m3;cases hs1:shows cl.f2 with
       | false =>
        have HS1:=aj hs1;clear hs1;refine aZ (by kernel_rfl) (by kernel_rfl) ?_
        repeat (go_big_quiet_step (fail))
        refine wpQuiet_nil ?_;intro w7 hb7;go_wp2;go_meet;exact ⟨rfl,by rw [HS1.out],by rw [HS1.out];rfl,⟨hb7⟩⟩
       | true =>
        have HS1:=aj hs1;clear hs1;by_cases e2:(dG st cl).f2=1
        .have b2:((dG st cl).f2 == 1)=true:=beq_iff_eq.mpr e2
         have HS2:=aj b2;clear e2;cases hk:st.kn with
         | false =>
          have HK:=aj hk;clear hk;refine aZ (by kernel_rfl) (by kernel_rfl) ?_
          repeat (go_big_quiet_step (fail))
          refine wpQuiet_nil ?_;intro w7 hb7;go_wp2;go_meet;exact ⟨by rw [HK.out],by rw [HS1.out],by rw [HS1.out,HS2.out,HK.out];rfl,⟨hb7⟩⟩
         | true =>
          have HK:=aj hk;have hl:=H9 p ((cQ p.tx).take i) (r8 p) rfl (by rw [<-hst.out];exact hk);rw [<-hst.out,Ky.out] at hl;have hpos:0 < n9:=(by rw [<-HN9.out];exact List.length_pos_iff.mpr hl.1);clear hk;have hi3:=HI3.out;have g1:(0:Int)<=(n9:Int) - 1:=(by omega);have g2:(n9:Int) - 1 < (n9:Int):=(by omega);have hn':=HN9.out;obtain ⟨a9,e9,_,_,_,k3,_⟩:=eV HC9.out ((n9:Int) - 1) g1 (by rw [hn'];omega);cases e9
          have hlast:(aV out ((n9:Int) - 1)).f3=st.ps:=by
           rw [<-hl.2];unfold aV;rw [show ((n9:Int) - 1).toNat=out.length - 1 by omega,List.getD_eq_getElem?_getD,<-List.getLast?_eq_getElem?]
          rw [hlast] at k3;have k4:=k3;rw [show ((n9:Int) - 1).toNat=n9 - 1 by omega] at k4;have y4:=Bx.cell k3;have y5:=Bx.cell k4;have hw:IntKind.i64.wrap ((n9:Int) - 1)=(n9:Int) - 1:=IntWalk.i64_in _ (by omega);clear hl hlast hn' HC9;refine aZ (by kernel_rfl) (by kernel_rfl) ?_
          repeat (go_big_quiet_step (fail))
          refine wpQuiet_nil ?_;intro w7 hb7;clear hw;go_wp2;go_meet;exact ⟨by rw [HK.out],by rw [HS1.out],by rw [HS1.out,HS2.out,HK.out];rfl,⟨hb7⟩⟩
        .have b2:((dG st cl).f2 == 1)=false:=beq_eq_false_iff_ne.mpr e2
         have HS2:=aj b2;clear e2;cases hk:st.kn with
         | false =>
          have HK:=aj hk;clear hk;refine aZ (by kernel_rfl) (by kernel_rfl) ?_
          repeat (go_big_quiet_step (fail))
          refine wpQuiet_nil ?_;intro w7 hb7;go_wp2;go_meet;exact ⟨by rw [HK.out],by rw [HS1.out],by rw [HS1.out,HS2.out];rfl,⟨hb7⟩⟩
         | true =>
          have HK:=aj hk;clear hk;refine aZ (by kernel_rfl) (by kernel_rfl) ?_
          repeat (go_big_quiet_step (fail))
          refine wpQuiet_nil ?_;intro w7 hb7;go_wp2;go_meet;exact ⟨by rw [HK.out],by rw [HS1.out],by rw [HS1.out,HS2.out];rfl,⟨hb7⟩⟩
      case rest =>
       obtain ⟨rfl,rfl,rfl,Ib⟩:=hcut;have Qu:=aj (ay za.out Ib.out);have Ic:=aj (ay JK.out Ib.out);have Qv:=aj (Eo.out.trans (Ib.out.mono Eo.out.size));clear Ib l2 m3 HC HC9 Eo za JK;have hsz:=CU.out.size cl;have HZ0:=aj (show 0<=cA p (dG st cl) by omega);have HZ1:=aj hsz.2;clear hsz;obtain ⟨kc,hkc⟩:∃ q,(shows cl.f2 && (dG st cl).f2 == 1 && st.kn && st.ps == cA p (dG st cl))=q:=⟨_,rfl⟩;rw [hkc];have Ze:=aj (show (iN p cl (dG st cl) st.kn st.bf st.ps)=if kc=true then kU st.bf (bt p.tx cl.f0) (cA p (dG st cl)) else 0 by unfold iN;rw [hkc]);clear hkc;go_upto_if 121 with (fail);go_cut [121] from 122 to 127 (fun v121 wg=>aC (Below w4.heap.size w4 wg)/\aC (wg.heap[w4.heap.size]? = some (.cells #[.int .i64 (dG st cl).f0,.int .i64 (dG st cl).f1,.int .i64 (dG st cl).f2] 121 (0,0)))/\aC (wg.heap[w4.heap.size+1]? = some (.cells #[.int .i64 cl.f0,.int .i64 cl.f1,.int .i64 cl.f2,.int .i64 (cA p (dG st cl)),.int .i64 (iM p cl (dG st cl) (vL st.ma)),.int .i64 (iN p cl (dG st cl) st.kn st.bf st.ps)] 99 (0,0))))
       case first=>as_aux_lemma =>
        have m3:wc.cell? ⟨w4.heap.size+1,3,none⟩=some (.int .i64 (cA p (dG st cl))):=(ak Ic.out 3).trans rfl;have m5:wc.cell? ⟨w4.heap.size+1,5,none⟩=some (.int .i64 0):=(ak Ic.out 5).trans rfl;have fz:=aB Ic.out 5;cases kc with
        | true =>
         go_wp2_with (go_at_call 64;go_loud (refine (ER _ _ _ _ HZ0.out HZ1.out).mono ?_;rintro e w7 ⟨rfl,⟨nd,rfl⟩⟩));go_meet;exact ⟨⟨(aA Qv.out nd).setCell (by simp) _⟩,⟨cw (bU Qu.out nd) (by simp) _⟩,⟨aN (bU Ic.out nd) 5 _ (by rw [Ze.out];rfl)⟩⟩
        | false =>
         go_wp2;go_meet;exact ⟨Qv,Qu,⟨by rw [Ze.out];exact Ic.out⟩⟩
       case rest =>
        obtain ⟨Eo,za,JK⟩:=hcut;clear Qv Qu Ic;have HC:=aj (HM1.out.more Eo.out);have hrow:=HC.out.row;rw [HN9.out] at hrow;have l2:wc.cell? ⟨w4.heap.size,2,none⟩=some (.int .i64 (dG st cl).f2):=(ak za.out 2).trans rfl;have NV:=aj hrow;have eY:=HC.out.ord;have JL:=aj eY;clear hrow eY;have hx1:x<=300:=(by have:=cg.out;have:=kE p.tx p.tx.size 0;have:=HZ.out.tx;rw [hx.out];unfold cQ at *;omega);have W_:∃ z wv kv:Int,mg p st cl=⟨cl.f0,cl.f1,cl.f2,z,wv,kv⟩/\wc.heap[w4.heap.size+1]? = some (.cells #[.int .i64 cl.f0,.int .i64 cl.f1,.int .i64 cl.f2,.int .i64 z,.int .i64 wv,.int .i64 kv] 99 (0,0)):=⟨_,_,_,rfl,JK.out⟩;obtain ⟨z,wv,kv,hmm,Zf⟩:=W_;have JM:=aj hmm;have HG3:=aj Zf;clear hmm Zf JK;have m0:wc.cell? ⟨w4.heap.size+1,0,none⟩=some (.int .i64 cl.f0):=(ak HG3.out 0).trans rfl;have m1:wc.cell? ⟨w4.heap.size+1,1,none⟩=some (.int .i64 cl.f1):=(ak HG3.out 1).trans rfl;have m2:wc.cell? ⟨w4.heap.size+1,2,none⟩=some (.int .i64 cl.f2):=(ak HG3.out 2).trans rfl;have m3:wc.cell? ⟨w4.heap.size+1,3,none⟩=some (.int .i64 z):=(ak HG3.out 3).trans rfl;have m4:wc.cell? ⟨w4.heap.size+1,4,none⟩=some (.int .i64 wv):=(ak HG3.out 4).trans rfl;have m5:wc.cell? ⟨w4.heap.size+1,5,none⟩=some (.int .i64 kv):=(ak HG3.out 5).trans rfl;obtain ⟨i0,hi0,hz0,hz1,hz2⟩:=info_parts J8;cases hs:shows cl.f2 with
        | true =>
         have Xa:=aj (show (fN p st cl).kn=((dG st cl).f2 == 1) by show (shows cl.f2 && (dG st cl).f2 == 1)=_;rw [hs];rfl);clear hs;go_wp2_with (first | (at_builtin;go_loud (refine wpList_append_own _ rfl (.tmp 135) (.tmp 137) 82 (by rfl) (w2.heap.size+1+1) 99 i0 (.agg #[.int .i64 0,.int .i64 0,.int .i64 0,.int .i64 0,.int .i64 0,.int .i64 0]) 6 48 Tryz.underlying82 hi0 hz0 hz1 hz2 rfl (by decide) (.slice A9 n9 c9) n9 (jk out) (by rfl) (NV.out.alloc _) ⟨wc.heap.size,0,none⟩ 1 1 (oC ⟨cl.f0,cl.f1,cl.f2,z,wv,kv⟩) (by rfl) (by rfl) (wL _ _) (wM _) (by have:=HI3.out;simp only [maxLen];omega) (by have:=HI3.out;omega) (by have:=JL.out;simp;omega) ?_;intro v' w8 hown' hgrow _)));go_roundw
         case rel =>
          refine ⟨x+1,i+1,fN p st cl,A7,c7,Am2,cm2,rfl,rfl,by rw [Xa.out],rfl,⟨by rw [hx.out];omega⟩,⟨cg.out⟩,⟨by rw [Kz.out,tS,<-hst.out]⟩,SZ,⟨?_⟩⟩;rw [Kz.out,qQ,Ky.out,<-hst.out];have hg2:=hgrow;rw [<-HN9.out] at hg2;rw [JM.out];exact HC.out.grow (x:=⟨cl.f0,cl.f1,cl.f2,z,wv,kv⟩) (by rw [HN9.out];exact hown') hg2
         case measure=>have:=hx.out;have:=cg.out;simp [intOf];omega
        | false =>
         have Xa:=aj (show (fN p st cl).kn=false by show (shows cl.f2 && (dG st cl).f2 == 1)=_;rw [hs];rfl);clear hs;go_wp2_with (first | (at_builtin;go_loud (refine wpList_append_own _ rfl (.tmp 135) (.tmp 137) 82 (by rfl) (w2.heap.size+1+1) 99 i0 (.agg #[.int .i64 0,.int .i64 0,.int .i64 0,.int .i64 0,.int .i64 0,.int .i64 0]) 6 48 Tryz.underlying82 hi0 hz0 hz1 hz2 rfl (by decide) (.slice A9 n9 c9) n9 (jk out) (by rfl) (NV.out.alloc _) ⟨wc.heap.size,0,none⟩ 1 1 (oC ⟨cl.f0,cl.f1,cl.f2,z,wv,kv⟩) (by rfl) (by rfl) (wL _ _) (wM _) (by have:=HI3.out;simp only [maxLen];omega) (by have:=HI3.out;omega) (by have:=JL.out;simp;omega) ?_;intro v' w8 hown' hgrow _)));go_roundw
         case rel =>
          refine ⟨x+1,i+1,fN p st cl,A7,c7,Am2,cm2,rfl,rfl,by rw [Xa.out],rfl,⟨by rw [hx.out];omega⟩,⟨cg.out⟩,⟨by rw [Kz.out,tS,<-hst.out]⟩,SZ,⟨?_⟩⟩;rw [Kz.out,qQ,Ky.out,<-hst.out];have hg2:=hgrow;rw [<-HN9.out] at hg2;rw [JM.out];exact HC.out.grow (x:=⟨cl.f0,cl.f1,cl.f2,z,wv,kv⟩) (by rw [HN9.out];exact hown') hg2
         case measure=>have:=hx.out;have:=cg.out;simp [intOf];omega
  .have d9:decide (x < ((cQ p.tx).length:Int))=false:=decide_eq_false (by rw [hx.out];omega)
   go_wp2;go_ret2;have hil:i=(cQ p.tx).length:=by have:=hi.out;omega
   have hR:=GD HM.out.row;rw [<-Ky.out,hil,List.take_length] at hR;exact ⟨_,rfl,Kd.fF hR (by have:=HM.out.ord;omega),HM.out.below⟩
end Go.Proofs.YtcaallkkeighdaaGreatDoor.P
