/- quiretop.TopSets answers true. -/
import Derived.Test.YtcaallkkeighdaaGreatDoorQ42
set_option maxRecDepth 100000
set_option maxHeartbeats 16000000
set_option linter.unusedVariables false
set_option linter.unusedSimpArgs false
namespace Go.Proofs.YtcaallkkeighdaaGreatDoor.P
open Go.RowKit aD aQ aR
def Mz:Bool × List (List Nat × List Nat):=(true,[([],[]),([],[]),([],[]),([1,2],[1,2]),([3],[3]),([],[]),([],[]),([6],[6]),([7],[7]),([5,8],[5,8]),([0,4,9],[0,4,9]),([10],[10]),([11],[11]),([11],[11]),([12,10,0,1,2,3,4,5,6,7,8,9,10,11,12],[12]),([13,14,0,1,2,3,4,5,6,7,8,9,10,11,12,13,14],[13])])
def R4:List Nat:=[0,0,0,6,14,0,0,64,192,480,1023,2047,4095,4095,8191,32767]
theorem MC:jZ .any (opsOf Tryz.f3 15)=Mz:=by kernel_rfl
theorem JE:kC Mz.2 R4=true:=by kernel_rfl
theorem ME {p:Pa} (h:Cd p=false) (hl:p.lb.size<=maxLen) (hm:∀ m∈p.ma,m.size<=maxLen):p.small:=by
 unfold Cd at h;simp only [Bool.or_eq_false_iff,decide_eq_false_iff_not] at h;exact ⟨by omega,by omega,by omega,hl,hm⟩
theorem Ek {p:Pa} (hz:p.small):(cQ p.tx).length<=300:=by
 have h1:=nI p.tx p.tx.size 0;have h2:=hz.tx;show (cP p.tx p.tx.size 0).length<=300;omega
theorem JF {l:List S46} {k:Nat} (h:k < l.length):l.drop k=dJ l (k:Int) :: l.drop (k+1):=by
 rw [List.drop_eq_getElem_cons h];unfold dJ;simp [List.getD_eq_getElem?_getD,List.getElem?_eq_getElem h]
theorem JG {l:List S48} {k:Nat} (h:k < l.length):l.drop k=iG l (k:Int) :: l.drop (k+1):=by
 rw [List.drop_eq_getElem_cons h];unfold iG;simp [List.getD_eq_getElem?_getD,List.getElem?_eq_getElem h]
theorem JH {l:List S50} {k:Nat} (h:k < l.length):l.drop k=kS l (k:Int) :: l.drop (k+1):=by
 rw [List.drop_eq_getElem_cons h];unfold kS;simp [List.getD_eq_getElem?_getD,List.getElem?_eq_getElem h]
theorem UY {l:List S48} {k:Nat} (h:k < l.length):l[k]? = some (iG l (k:Int)):=by
 unfold iG;simp [List.getD_eq_getElem?_getD,List.getElem?_eq_getElem h]
theorem R5 {n:Nat}:∀ {P:List S72},yR n P->P.length<=n+1
 | [],h=>h.elim
 | p :: Q,h=>by
  have h1:=yR.len h;have h2:=(yR.one h 0 (by simp)).1;have h3:0<=p.f0:=h2;simp only [List.length_cons];omega
theorem OZ {p:Pa} {S:List S30} {r:S30} (hz:p.small) (h:iI p S r=0) (hL:DL p S r):(iQ p S r).length<=602:=by
 unfold iQ;rw [mQ];have h1:=R5 (Ge hL);have h2:=pW hz;omega
theorem O0 {p:Pa} {x:S46} {last:Bool} (hz:p.small) (h0:bB p=0):(gb p x last).length<=400:=by
 have h1:(pH p x last).length<=300:=by
  have h:=congrArg List.length (yF (x:=x) (last:=last) hz h0);rw [List.length_map] at h;rw [h];unfold JY;refine Nat.le_trans (List.length_filter_le _ _) ?_;rw [List.length_map];exact Ek hz
 have h2:=Eb p x last;rw [vX,List.length_append];omega
theorem drop_nil' {α:Type} (l:List α) (i:Nat) (h:l.length<=i):l.drop i=[]:=List.drop_eq_nil_of_le h
theorem MG (p:Pa) (h0:bB p=0):eE p=ig p (aW p):=by unfold eE;rw [if_pos h0]
theorem Gl {s:ByteArray} {k:Nat} (h:k < (cQ s).length) (hf:(kS (cQ s) (k:Int)).f0=0):k=0:=by
 by_cases e:k=0
 .exact e
 .exfalso
  have hst:=lX s s.size 0;have h1:=List.pairwise_iff_getElem.1 hst 0 k (by show 0 < (cQ s).length;omega) h (by omega);have h2:=jG (List.getElem_mem (l:=cQ s) (n:=0) (by omega));have e1:kS (cQ s) (k:Int)=(cQ s)[k]:=by
   unfold kS;simp [List.getD_eq_getElem?_getD,List.getElem?_eq_getElem h]
  rw [e1] at hf;have h3:((cQ s)[0]'(by omega)).f1<=((cQ s)[k]).f0:=h1;omega
theorem zH (hP:Gi) (p:Pa) {As Am:Option Addr} {cs cm ns:Nat} (S:List S30) (r:S30) (A:Option Addr) (c:Nat) (w:World) (hA:dK w p As cs Am cm) (hlb:p.lb.size<=maxLen) (hmk:∀ m∈p.ma,m.size<=maxLen) (hn:S.length=ns) (hl:Kd.C k30 w A ns S) (hc:ns<=c)
  (htab:Lib.TabIs Tryz.prog w "strings.asciiSpace" .u8 Lib.asciiSpaceTab) :
  Calls Tryz.prog 3 #[.agg (cG p As cs Am cm),.slice A ns c,.agg #[.int .i64 r.f0,.int .i64 r.f1]] w fun e w'=>e=.returned (.bool true)/\Below w.heap.size w w':=by
 have Mp:=aj hP;have HA:=aj hA;have HT:=aj htab;have Ph:=aj (And.intro hlb hmk);have HSL:=aj (And.intro hn (And.intro hl hc));have HB0:=aj (((Below.refl w.heap.size w).alloc (Nat.le_refl _) (.cells (cG p As cs Am cm) 27)).alloc (by simp) (.cells #[.int .i64 r.f0,.int .i64 r.f1] 30));have dI:=aj (aP (aH w (.cells (cG p As cs Am cm) 27)) (.cells #[.int .i64 r.f0,.int .i64 r.f1] 30));have nj:=aH (w.alloc (.cells (cG p As cs Am cm) 27)) (.cells #[.int .i64 r.f0,.int .i64 r.f1] 30);rw [World.size_alloc] at nj;have kH:=aj nj;obtain ⟨lb,UZ⟩:∃ b,Cd p=b:=⟨_,rfl⟩;have Lj:=aj UZ;clear hP hA htab hlb hmk hn hl hc nj UZ;go_enter Tryz.func3,Tryz.ntmps3;go_upto_region 1 with (fail);obtain ⟨bx,hbx⟩:∃ bx,w.heap.size=bx:=⟨_,rfl⟩;have mK:=aj hbx;rw [hbx] at dI kH ⊢;generalize (w.alloc (.cells (cG p As cs Am cm) 27)).alloc (.cells #[.int .i64 r.f0,.int .i64 r.f1] 30)=w0 at *;clear hbx;go_upto_region 2 with (go_at_call 5;go_loud (refine (Ed Mp.out _ (eG HT.out HB0.out)).mono ?_;rintro e w1 ⟨rfl,hb1⟩;have HB1:=aj (HB0.out.trans (hb1.mono HB0.out.size));have oY:=aj (ay dI.out hb1);have tg:=aj (ay kH.out hb1);clear hb1));obtain ⟨ob,Jy⟩:∃ b,(lb || decide (300 < ns))=b:=⟨_,rfl⟩;have UE:=aj Jy;go_cut [27] (fun v27 wc=>v27=.bool ob/\Below w1.heap.size w1 wc)
 case first =>
  cases lb with
  | true =>
   have HE:=aj (show true=ob from Jy);clear Jy;go_wp2_with (first | ((with_reducible refine aS (N:=21) rfl ?_);go_loud (refine wpList_load_row rfl 27 _ rfl bx rfl 27 (cG p As cs Am cm) (0,0) _ (by exact oY.out) Tryz.underlying27 rfl (cV _ _ _ _ _) ?_))|(go_at_call 6;go_loud (refine (vo p _ _ Lj.out).mono ?_;rintro e w2 ⟨rfl,hb2⟩)));go_meet
   case rel=>exact ⟨by rw [HE.out],hb2⟩
  | false =>
   obtain ⟨q,hq⟩:∃ q,decide ((300:Int) < (ns:Int))=q:=⟨_,rfl⟩;have hq2:decide (300 < ns)=q:=by rw [<-hq];exact decide_eq_decide.2 (by omega)
   have HE:=aj (show q=ob by rw [<-Jy,<-hq2];rfl);clear Jy;go_wp2_with (first | ((with_reducible refine aS (N:=21) rfl ?_);go_loud (refine wpList_load_row rfl 27 _ rfl bx rfl 27 (cG p As cs Am cm) (0,0) _ (by exact oY.out) Tryz.underlying27 rfl (cV _ _ _ _ _) ?_))|(go_at_call 6;go_loud (refine (vo p _ _ Lj.out).mono ?_;rintro e w2 ⟨rfl,hb2⟩)));go_meet
   case rel=>exact ⟨by rw [HE.out],hb2⟩
 case rest =>
  obtain ⟨rfl,hb2⟩:=hcut;have HB2:=aj (HB1.out.trans (hb2.mono HB1.out.size));have nu:=aj (ay oY.out hb2);have nY:=aj (ay tg.out hb2);clear hb2 Jy;cases ob with
  | true =>
   go_wp2;go_ret;exact ⟨rfl,HB2.out⟩
  | false =>
   have HO2:=aj (show lb=false/\ns<=300 by
    have h:=UE.out;rw [Bool.or_eq_false_iff] at h;exact ⟨h.1,by have:=of_decide_eq_false h.2;omega⟩)
   have HZ:=aj (show p.small from ME (by rw [Lj.out];exact HO2.out.1) Ph.out.1 Ph.out.2);have r0:wc.cell? ⟨bx+1,0,none⟩=some (.int .i64 r.f0):=(ak nY.out 0).trans rfl;have r1:wc.cell? ⟨bx+1,1,none⟩=some (.int .i64 r.f1):=(ak nY.out 1).trans rfl;by_cases hp:iI p S r=0
   .have PY:=aj hp
    have H0:=aj (pX hp).1;obtain ⟨L,hL⟩:∃ L,iQ p S r=L:=⟨_,rfl⟩;have HL:=aj hL;obtain ⟨nl,hnl⟩:∃ n,L.length=n:=⟨_,rfl⟩;have nQ:=aj hnl;clear hp hL hnl;go_upto_region 7 with (first | ((with_reducible refine aS (N:=30) rfl ?_);go_loud (refine wpList_load_row rfl 27 _ rfl bx rfl 27 (cG p As cs Am cm) (0,0) _ (by exact nu.out) Tryz.underlying27 rfl (cV _ _ _ _ _) ?_))|(go_at_call 7;go_loud (refine (Ap p S r A c _ HSL.out.1 (dK.below HA.out HB2.out) HZ.out (Kd.aM HSL.out.2.1 HB2.out) HSL.out.2.2 PY.out (eG HT.out HB2.out)).mono ?_;rintro e w4 ⟨v,rfl,hR,hb4,hLO⟩;rw [HL.out] at hR;obtain ⟨A4,c4,e4,hc4,ha4,hC4⟩:=fX hR;rw [nQ.out] at e4 hc4 hC4;subst e4;have HC4:=aj hC4;have uX:=aj hLO;have HB4:=aj (HB2.out.trans (hb4.mono HB2.out.size));have DM:=aj (ay nu.out hb4);clear hR hc4 ha4 hC4 hLO hb4)));clear r0 r1;obtain ⟨K,hK⟩:∃ K,cQ p.tx=K:=⟨_,rfl⟩;have HK:=aj hK;obtain ⟨nk,hnk⟩:∃ n,K.length=n:=⟨_,rfl⟩;have PI:=aj hnk;have yZ:=aj (show iK.f 0 p.tx=some (K,0) from by
     show some (gL p.tx)=some (K,0);unfold gL;rw [if_pos (gI H0.out).1,hK])
    clear hK hnk;have x0:w4.cell? ⟨bx,0,none⟩=some (.string p.tx):=(ak DM.out 0).trans rfl;go_upto_region 8 with (go_at_call 8;go_loud (refine (iK.calls 0 p.tx K 0 _ yZ.out).mono ?_;rintro e w5 ⟨v5,rfl,hR5,hb5⟩;obtain ⟨A5,c5,e5,hc5,ha5,hC5⟩:=fX hR5;rw [PI.out] at e5 hc5 hC5;subst e5;have HC5:=aj hC5;have HC45:=aj (Kd.aM HC4.out hb5);have HB5:=aj (HB4.out.trans (hb5.mono HB4.out.size));have xW:=aj (ay DM.out hb5);clear hR5 hc5 ha5 hC5 hb5));clear x0;obtain ⟨dp,hdp⟩:∃ d,eE p=d:=⟨_,rfl⟩;have Qt:=aj hdp;go_upto_region 9 with (first | ((with_reducible refine aS (N:=46) rfl ?_);go_loud (refine wpList_load_row rfl 27 _ rfl bx rfl 27 (cG p As cs Am cm) (0,0) _ (by exact xW.out) Tryz.underlying27 rfl (cV _ _ _ _ _) ?_))|(go_at_call 9;go_loud (refine (wQ p _ (dK.below HA.out HB5.out) HZ.out).mono ?_;rintro e w6 ⟨rfl,hb6⟩;rw [H0.out,Qt.out];have HC56:=aj (Kd.aM HC5.out hb6);have HC46:=aj (Kd.aM HC45.out hb6);have HB6:=aj (HB5.out.trans (hb6.mono HB5.out.size));have Rv:=aj (ay xW.out hb6);clear hb6)));have yO:=aj (show zC p 0 L by rw [<-HL.out];exact Gf HZ.out PY.out uX.out);have Wt:=aj (show L.flatMap (JY p)=K.map Ct by rw [<-HL.out,<-HK.out];exact Mn HZ.out PY.out uX.out);have R6:=aj (show nl<=602 by rw [<-nQ.out,<-HL.out];exact OZ HZ.out PY.out uX.out);have JJ:=aj (show 0<=dp/\dp<=262148 by rw [<-Qt.out];exact kY p);have YV:=aj (show nk<=300 by rw [<-PI.out,<-HK.out];exact Ek HZ.out);go_wp2;clear HC45 HC5 xW DM nu oY dI nY tg kH;go_loopw [14,15] (fun v14 v15 wq=>∃ (a y:Int) (k i:Nat),v14=.int .i64 a/\v15=.int .i64 y/\aC (y=(i:Int)/\i<=nl)/\aC (a=(k:Int)/\k<=nk/\(K.drop k).map Ct=(L.drop i).flatMap (JY p))/\aC (Below w6.heap.size w6 wq)) (fun _ v15 _=>nl - (intOf v15).toNat)
    case atStart=>exact ⟨0,0,0,0,rfl,rfl,⟨rfl,Nat.zero_le _⟩,⟨rfl,Nat.zero_le _,by rw [List.drop_zero,List.drop_zero];exact Wt.out.symm⟩,⟨Below.refl _ _⟩⟩
    case round =>
     obtain ⟨a,y,k,i,rfl,rfl,hy,ha,hB⟩:=hrel;have HB:=aj (HB6.out.trans (hB.out.mono HB6.out.size));by_cases hlt:i < nl
     .have d1:decide (y < (nl:Int))=true:=decide_eq_true (by have:=hy.out.1;omega)
      have q0:0<=y:=(by have:=hy.out.1;omega);have q1:y < (nl:Int):=(by have:=hy.out.1;omega);have cg:=aj hlt;obtain ⟨ad,e0,k0,k1,k2,k3,k4,k5,k6⟩:=EJ (Kd.aM HC46.out hB.out) y q0 q1;have HE0:=aj e0;subst e0;obtain ⟨x,hx⟩:∃ x,dJ L y=x:=⟨_,rfl⟩;have KL:=aj (show L.drop i=x :: L.drop (i+1) by
       have h:=JF (l:=L) (k:=i) (by rw [nQ.out];exact hlt);rw [<-hy.out.1,hx] at h;exact h)
      have uX:=aj (show gK p x from zC.all yO.out x (List.mem_of_mem_drop (i:=i) (by rw [KL.out];simp)));rw [hx] at k0 k1 k2 k3 k4 k5 k6;obtain ⟨la,hla⟩:∃ la,(y == (nl:Int) - 1)=la:=⟨_,rfl⟩;obtain ⟨Gs,YW⟩:∃ G,gb p x la=G:=⟨_,rfl⟩;have U0:=aj YW;obtain ⟨nq,YX⟩:∃ n,Gs.length=n:=⟨_,rfl⟩;have U1:=aj YX;have hP:=ay Rv.out hB.out;have TV:=aj (And.intro q0 q1);have R7:=aj (show nq<=400 by rw [<-YX,<-YW];exact O0 HZ.out H0.out);have M_:=aj (And.intro k0 (And.intro k1 (And.intro k2 k5)));have p0:=eq_true q0;have p1:=eq_true q1;have a1:IntKind.i64.wrap ((nl:Int) - 1)=(nl:Int) - 1:=IntWalk.i64_in _ (by have:=R6.out;omega);have LX:wrap64 ((nl:Int) - 1)=(nl:Int) - 1:=dN _ (by have:=R6.out;omega);clear hlt hx YW YX;go_upto_region 15 with (fail);go_cut [16,17] (fun v16 v17 wc=>∃ Aq cq,v16=.slice Aq nq cq/\v17=.int .i64 0/\Kd.C k48 wc Aq nq Gs/\Below wr.heap.size wr wc)
      case first =>
       refine wB (n:=16) (S:=fun w'=>Below wr.heap.size wr w') (ds:=[]) #[false,false,false,false,false,false,false,false,false,false,false,false,false,false,false,false] (by kernel_rfl) rfl rfl ((Below.refl _ wr).drew) (fun hHeld=>?_);refine mA MC JE (fun dX ud=>?_);refine gY (i:=0) (N:=(some 63)) (v:=?_) (a':=?_) #[true,false,false,false,false,false,false,false,false,false,false,false,false,false,false,false] rfl rfl (dB dX.out ud.out (by kernel_rfl)) (fun _ _ _ h=>h) (Or.inl ⟨by rfl,?_⟩) hHeld ?_ ?_;rotate_left
       .intro w' hS
        refine Eq.trans (vQ 27 (.tmp 3) (by rfl) bx (by rfl) 27 (cG p As cs Am cm) (0,0) _ (ay hP hS) Tryz.underlying27 rfl (cV _ _ _ _ _)) ?_
        with_reducible rfl
       rotate_left
       .simp only [Act.put,aE,aI,aJ,bC]
        rfl
       refine bW (i:=1) (N:=(some 64)) (v:=?_) (a':=?_) #[true,true,false,false,false,false,false,false,false,false,false,false,false,false,false,false] rfl rfl (bF dX.out (by kernel_rfl)) (fun _ _ _ h=>h) (Or.inl ⟨by rfl,?_⟩) ?_ ?_;rotate_left
       .intro w'
        go_simp
        with_reducible rfl
       rotate_left
       .simp only [Act.put,aE,aI,aJ,bC]
        rfl
       refine bW (i:=2) (N:=(some 65)) (v:=?_) (a':=?_) #[true,true,true,false,false,false,false,false,false,false,false,false,false,false,false,false] rfl rfl (bF dX.out (by kernel_rfl)) (fun _ _ _ h=>h) (Or.inl ⟨by rfl,?_⟩) ?_ ?_;rotate_left
       .intro w'
        go_simp
        with_reducible rfl
       rotate_left
       .simp only [Act.put,aE,aI,aJ,bC]
        rfl
       refine bW (i:=3) (N:=(some 66)) (v:=?_) (a':=?_) #[true,true,true,true,false,false,false,false,false,false,false,false,false,false,false,false] rfl rfl (bF dX.out (by kernel_rfl)) (fun _ _ _ h=>h) (Or.inl ⟨by rfl,?_⟩) ?_ ?_;rotate_left
       .intro w'
        go_simp
        with_reducible rfl
       rotate_left
       .simp only [Act.put,aE,aI,aJ,bC]
        rfl
       refine gY (i:=4) (N:=(some 67)) (v:=?_) (a':=?_) #[true,true,true,true,true,false,false,false,false,false,false,false,false,false,false,false] rfl rfl (dB dX.out ud.out (by kernel_rfl)) (fun _ _ _ h=>h) (Or.inl ⟨by rfl,?_⟩) hHeld ?_ ?_;rotate_left
       .intro w' hS
        have Ts:=True.intro;have s0:=(hS.cell (World.block_lt_of_cell? _ _ k0)).trans k0;have s1:=(hS.cell (World.block_lt_of_cell? _ _ k1)).trans k1;have s2:=(hS.cell (World.block_lt_of_cell? _ _ k2)).trans k2;have s3:=(hS.cell (World.block_lt_of_cell? _ _ k3)).trans k3;have s4:=(hS.cell (World.block_lt_of_cell? _ _ k4)).trans k4;have s5:=(hS.cell (World.block_lt_of_cell? _ _ k5)).trans k5;have s6:=(hS.cell (World.block_lt_of_cell? _ _ k6)).trans k6;go_simp
        with_reducible rfl
       rotate_left
       .simp only [Act.put,aE,aI,aJ,bC]
        rfl
       refine bW (i:=5) (N:=(some 68)) (v:=?_) (a':=?_) #[true,true,true,true,true,true,false,false,false,false,false,false,false,false,false,false] rfl rfl (bF dX.out (by kernel_rfl)) (fun _ _ _ h=>h) (Or.inl ⟨by rfl,?_⟩) ?_ ?_;rotate_left
       .intro w'
        go_simp
        with_reducible rfl
       rotate_left
       .simp only [Act.put,aE,aI,aJ,bC]
        rfl
       refine bW (i:=6) (N:=(some 69)) (v:=?_) (a':=?_) #[true,true,true,true,true,true,true,false,false,false,false,false,false,false,false,false] rfl rfl (bF dX.out (by kernel_rfl)) (fun _ _ _ h=>h) (Or.inl ⟨by rfl,?_⟩) ?_ ?_;rotate_left
       .intro w'
        go_simp
        with_reducible rfl
       rotate_left
       .simp only [Act.put,aE,aI,aJ,bC]
        rfl
       refine bW (i:=7) (N:=(some 70)) (v:=?_) (a':=?_) #[true,true,true,true,true,true,true,true,false,false,false,false,false,false,false,false] rfl rfl (bF dX.out (by kernel_rfl)) (fun _ _ _ h=>h) (Or.inl ⟨by rfl,?_⟩) ?_ ?_;rotate_left
       .intro w'
        go_simp
        with_reducible rfl
       rotate_left
       .simp only [Act.put,aE,aI,aJ,bC]
        rfl
       refine bW (i:=8) (N:=(some 71)) (v:=?_) (a':=?_) #[true,true,true,true,true,true,true,true,true,false,false,false,false,false,false,false] rfl rfl (bF dX.out (by kernel_rfl)) (fun _ _ _ h=>h) (Or.inl ⟨by rfl,?_⟩) ?_ ?_;rotate_left
       .intro w'
        go_simp
        with_reducible rfl
       rotate_left
       .simp only [Act.put,aE,aI,aJ,bC]
        rfl
       refine bW (i:=9) (N:=(some 72)) (v:=?_) (a':=?_) #[true,true,true,true,true,true,true,true,true,true,false,false,false,false,false,false] rfl rfl (bF dX.out (by kernel_rfl)) (fun _ _ _ h=>h) (Or.inl ⟨by rfl,?_⟩) ?_ ?_;rotate_left
       .intro w'
        go_simp
        with_reducible rfl
       rotate_left
       .simp only [Act.put,aE,aI,aJ,bC]
        rfl
       refine Cz (i:=10) (N:=(some 73)) #[true,true,true,true,true,true,true,true,true,true,true,false,false,false,false,false] rfl rfl (jy dX.out (by kernel_rfl)) (by decide) (fun K hK=>?_);refine O7 Tryz.func10 (by kernel_rfl) rfl #[.agg (cG p As cs Am cm),.agg #[.int .i64 x.f0,.int .i64 x.f1,.int .i64 x.f2,.int .i64 x.f3,.int .i64 x.f4,.bool x.f5,.int .i64 x.f6],.bool la] (by rfl) rfl rfl (by simp only [List.map_toArray,List.map_cons,List.map_nil];rfl) ?_;refine (Mp.out p x la _ (dK.below HA.out (HB.out.drew)) HZ.out H0.out uX.out (eG HT.out HB.out.drew)).mono ?_;rintro e w7 ⟨v6,rfl,hR6,hb6⟩;rw [U0.out] at hR6;obtain ⟨Aq,cq,e6,O_,haq,YZ⟩:=fX hR6;rw [U1.out] at e6 O_ YZ;subst e6;have Y0:=aj YZ;have OX:=aj (show Below wr.heap.size wr w7 from (Below.refl _ wr).drew.trans (hb6.mono (Nat.le_refl _)));clear hR6 hb6 O_ haq YZ;refine ⟨_,rfl,?_⟩;refine hK.out _ _ (OX.out) (fun hHeld=>?_);clear hK K;refine zL (a':=?_) ?_ ?_;rotate_left
       .show Act.put _ (some 73) _=_
        simp only [Act.put,aE,aI,aJ,bC];rfl
       refine bW (i:=11) (N:=(some 62)) (v:=?_) (a':=?_) #[true,true,true,true,true,true,true,true,true,true,true,true,false,false,false,false] rfl rfl (bF dX.out (by kernel_rfl)) (fun _ _ _ h=>h) (Or.inl ⟨by rfl,?_⟩) ?_ ?_;rotate_left
       .intro w'
        go_simp
        with_reducible rfl
       rotate_left
       .simp only [Act.put,aE,aI,aJ,bC]
        rfl
       refine bW (i:=12) (N:=(some 74)) (v:=?_) (a':=?_) #[true,true,true,true,true,true,true,true,true,true,true,true,true,false,false,false] rfl rfl (bF dX.out (by kernel_rfl)) (fun _ _ _ h=>h) (Or.inl ⟨by rfl,?_⟩) ?_ ?_;rotate_left
       .intro w'
        go_simp
        with_reducible rfl
       rotate_left
       .simp only [Act.put,aE,aI,aJ,bC]
        rfl
       refine bW (i:=13) (N:=(some 75)) (v:=?_) (a':=?_) #[true,true,true,true,true,true,true,true,true,true,true,true,true,true,false,false] rfl rfl (bF dX.out (by kernel_rfl)) (fun _ _ _ h=>h) (Or.inl ⟨by rfl,?_⟩) ?_ ?_;rotate_left
       .intro w'
        go_simp
        with_reducible rfl
       rotate_left
       .simp only [Act.put,aE,aI,aJ,bC]
        rfl
       refine bW (i:=14) (N:=(some 16)) (v:=?_) (a':=?_) #[true,true,true,true,true,true,true,true,true,true,true,true,true,true,true,false] rfl rfl (bF dX.out (by kernel_rfl)) (fun _ _ _ h=>h) (Or.inl ⟨by rfl,?_⟩) ?_ ?_;rotate_left
       .intro w'
        go_simp
        with_reducible rfl
       rotate_left
       .simp only [Act.put,aE,aI,aJ,bC]
        rfl
       refine bW (i:=15) (N:=(some 17)) (v:=?_) (a':=?_) #[true,true,true,true,true,true,true,true,true,true,true,true,true,true,true,true] rfl rfl (bF dX.out (by kernel_rfl)) (fun _ _ _ h=>h) (Or.inl ⟨by rfl,?_⟩) ?_ ?_;rotate_left
       .intro w'
        go_simp
        with_reducible rfl
       rotate_left
       .simp only [Act.put,aE,aI,aJ,bC]
        rfl
       refine CB (rQ dX.out (by kernel_rfl)) ?_;go_wp2;go_meet
       case rel=>exact ⟨Aq,cq,rfl,rfl,Y0.out,OX.out⟩
      case rest =>
       obtain ⟨Aq,cq,rfl,rfl,O_,vJ⟩:=hcut;have Y0:=aj O_;have JT:=aj vJ;obtain ⟨R,hR⟩:∃ R,(L.drop (i+1)).flatMap (JY p)=R:=⟨_,rfl⟩;have HR:=aj hR;have Tz:=aj (show ∀ (n:Nat) (g:S48),Gs[n]? = some g->g.f0=g.f1->n+1=nq/\x.f5=true/\g.f0=x.f1 from by
        intro n g h1 h2;have h:=Jr (last:=la) HZ.out H0.out uX.out (n:=n) (g:=g) (by rw [U0.out];exact h1) h2;rw [U0.out,U1.out] at h;exact h)
       have Yl:=aj (show ∀ g∈Gs,g.f0≠g.f1->x.f0<=g.f0/\g.f1<=x.f1/\(x.f2<=g.f2\/g.f0=0/\x.f2 - dp<=g.f2) from by
        intro g h1 h2;have h:=Js (last:=la) HZ.out H0.out uX.out (g:=g) (by rw [U0.out];exact h1) h2;rw [<-MG p H0.out,Qt.out] at h;exact h)
       have SG:=aj (show (K.drop k).map Ct=(Gs.filter M9).map Gd ++ R by
        rw [ha.out.2.2,KL.out,List.flatMap_cons,hR,<-Ml (last:=la) HZ.out H0.out uX.out,U0.out])
       clear O_ vJ hR hla p0 p1 a1 LX k0 k1 k2 k3 k4 k5 k6 hP;go_wp2;go_loopw [14,18] (fun v14 v18 wq=>∃ (a z:Int) (k n:Nat),v14=.int .i64 a/\v18=.int .i64 z/\aC (z=(n:Int)/\n<=nq)/\aC (a=(k:Int)/\k<=nk/\(K.drop k).map Ct=((Gs.drop n).filter M9).map Gd ++ R)/\aC (Below wc.heap.size wc wq)) (fun _ v18 _=>nq - (intOf v18).toNat)
       case atStart=>exact ⟨a,0,k,0,rfl,rfl,⟨rfl,Nat.zero_le _⟩,⟨ha.out.1,ha.out.2.1,by rw [List.drop_zero];exact SG.out⟩,⟨Below.refl _ _⟩⟩
       case round =>
        clear ha SG;obtain ⟨a,z,k,n,rfl,rfl,hz,ha,hB2⟩:=hrel;have tE:=aj (JT.out.trans (hB2.out.mono JT.out.size));by_cases hn:n < nq
        .have d1:decide (z < (nq:Int))=true:=decide_eq_true (by have:=hz.out.1;omega)
         have q0:0<=z:=(by have:=hz.out.1;omega);have q1:z < (nq:Int):=(by have:=hz.out.1;omega);have HN:=aj hn;obtain ⟨ad2,e2,g0,g1,g2,g3⟩:=Kl (Kd.aM Y0.out hB2.out) z q0 q1;subst e2;obtain ⟨g,hg⟩:∃ g,iG Gs z=g:=⟨_,rfl⟩;have HGI:=aj (show Gs.drop n=g :: Gs.drop (n+1) by
          have h:=JG (l:=Gs) (k:=n) (by rw [U1.out];exact hn);rw [<-hz.out.1,hg] at h;exact h)
         have HGT:=aj (show Gs[n]? = some g by
          have h:=UY (l:=Gs) (k:=n) (by rw [U1.out];exact hn);rw [<-hz.out.1,hg] at h;exact h)
         rw [hg] at g0 g1 g2 g3;have q5:z<=1000000:=(by have:=R7.out;have:=hz.out;omega);have p0:=eq_true q0;have p1:=eq_true q1;have HG0:=aj (And.intro g0 (And.intro g1 g2));clear hn hg;go_upto_region 21 with (fail);by_cases hne:g.f0=g.f1
         .have hge:=Tz.out n g HGT.out hne
          have d2:(g.f0 == g.f1)=true:=beq_iff_eq.mpr hne;have vM:=aj (show (K.drop k).map Ct=((Gs.drop (n+1)).filter M9).map Gd ++ R by
           have h:=ha.out.2.2;rw [HGI.out,List.filter_cons_of_neg (by unfold M9;rw [hne];simp)] at h;exact h)
          have d3:(z != (nq:Int) - 1)=false:=(by rw [bne_eq_false_iff_eq];have:=hz.out.1;omega);have d4:(g.f0 != x.f1)=false:=(by rw [bne_eq_false_iff_eq];exact hge.2.2);have hx5:=hge.2.1;have y0:=Bx.cell g0;have y1:=Bx.cell g1;clear hge;refine aZ (by kernel_rfl) (by kernel_rfl) ?_
          repeat (go_big_quiet_step (fail))
          refine wpQuiet_nil ?_;intro w8 hb8;clear y0 y1;have HB8:=aj (hB2.out.trans (hb8.mono hB2.out.size));have y0:=Bx.cell ((hb8.cell (World.block_lt_of_cell? _ _ HG0.out.1)).trans HG0.out.1);have HW8:=aj (tE.out.trans (hb8.mono tE.out.size));have y5:=Bx.cell ((HW8.out.cell (World.block_lt_of_cell? _ _ M_.out.2.2.2)).trans M_.out.2.2.2);rw [hx5] at y5;have y6:=Bx.cell ((HW8.out.cell (World.block_lt_of_cell? _ _ M_.out.2.1)).trans M_.out.2.1);have a1:IntKind.i64.wrap ((nq:Int) - 1)=(nq:Int) - 1:=IntWalk.i64_in _ (by have:=R7.out;omega);have LX:wrap64 ((nq:Int) - 1)=(nq:Int) - 1:=dN _ (by have:=R7.out;omega);have p2:=eq_true TV.out.1;have p3:=eq_true TV.out.2;clear hb8 hx5 hne g0 g1 g2 g3;go_upto_region 22 with (fail);refine aZ (by kernel_rfl) (by kernel_rfl) ?_
          repeat (go_big_quiet_step (fail))
          refine wpQuiet_nil ?_;intro w9 hb9;clear y0 y5 y6;have HB9:=aj (HB8.out.trans (hb9.mono HB8.out.size));clear hb9;go_wp2;go_roundw
          case rel=>exact ⟨a,z+1,k,n+1,rfl,rfl,⟨by have:=hz.out.1;omega,HN.out⟩,⟨ha.out.1,ha.out.2.1,vM.out⟩,HB9⟩
          case measure=>have:=HN.out;have:=hz.out;simp [intOf];omega
         .have d2:(g.f0 == g.f1)=false:=beq_eq_false_iff_ne.mpr hne
          have WE:=Yl.out g (List.mem_of_getElem? HGT.out) hne;have hKn:=ha.out.2.2;rw [HGI.out,List.filter_cons_of_pos (by unfold M9;exact bne_iff_ne.mpr hne),List.map_cons,List.cons_append] at hKn;have hkl:k < nk:=by
           by_cases q:k < nk
           .exact q
           .rw [drop_nil' K k (by rw [PI.out];omega)] at hKn
            cases hKn
          have hdk:=JH (l:=K) (k:=k) (by rw [PI.out];exact hkl);rw [<-ha.out.1] at hdk;have r0:0<=a:=(by have:=ha.out.1;omega);have r1:a < (nk:Int):=(by have:=ha.out.1;omega);obtain ⟨ad3,e3,c0,c1,_⟩:=Ki (Kd.aM HC56.out (hB.out.trans (tE.out.mono hB.out.size))) a r0 r1;subst e3;obtain ⟨kk,hkk⟩:∃ kk,kS K a=kk:=⟨_,rfl⟩;rw [hkk] at hdk c0 c1;rw [hdk,List.map_cons] at hKn;injection hKn with hK1 hK2;have hf0:kk.f0=g.f0:=(by unfold Ct Gd at hK1;injection hK1);have hf1:kk.f1=g.f1:=(by unfold Ct Gd at hK1;injection hK1);rw [hf0] at c0;rw [hf1] at c1;have HKZ:=aj (show g.f0=0->k=0 by
           intro q;refine Gl (s:=p.tx) (k:=k) (by rw [HK.out,PI.out];exact hkl) ?_;rw [HK.out,<-ha.out.1,hkk,hf0];exact q)
          have vM:=aj hK2;have Jd:=aj hkl;have d3:decide ((nk:Int)<=a)=false:=decide_eq_false (by omega);have d4:decide (g.f0 < x.f0)=false:=decide_eq_false (by have:=WE.1;omega);have d5:decide (x.f1 < g.f1)=false:=decide_eq_false (by have:=WE.2.1;omega);have za:=aj WE.2.2;have HC3:=aj (And.intro c0 c1);have y0:=Bx.cell g0;have y1:=Bx.cell g1;clear WE hkl hdk hkk hK1 hK2 hf0 hf1;refine aZ (by kernel_rfl) (by kernel_rfl) ?_
          repeat (go_big_quiet_step (fail))
          refine wpQuiet_nil ?_;intro w8 hb8;clear y0 y1;have HB8:=aj (hB2.out.trans (hb8.mono hB2.out.size));have HW8:=aj (tE.out.trans (hb8.mono tE.out.size));have y0:=Bx.cell ((hb8.cell (World.block_lt_of_cell? _ _ HG0.out.1)).trans HG0.out.1);have y1:=Bx.cell ((hb8.cell (World.block_lt_of_cell? _ _ HG0.out.2.1)).trans HG0.out.2.1);have y2:=Bx.cell ((hb8.cell (World.block_lt_of_cell? _ _ HC3.out.1)).trans HC3.out.1);have y3:=Bx.cell ((hb8.cell (World.block_lt_of_cell? _ _ HC3.out.2)).trans HC3.out.2);have y4:=Bx.cell ((HW8.out.cell (World.block_lt_of_cell? _ _ M_.out.1)).trans M_.out.1);have y5:=Bx.cell ((HW8.out.cell (World.block_lt_of_cell? _ _ M_.out.2.1)).trans M_.out.2.1);have p2:=eq_true TV.out.1;have p3:=eq_true TV.out.2;have p4:=eq_true r0;have p5:=eq_true r1;have r2:a<=1000000:=(by have:=YV.out;omega);have HG2:=aj ((hb8.cell (World.block_lt_of_cell? _ _ HG0.out.2.2)).trans HG0.out.2.2);clear hb8 hne g0 g1 g2 g3 c0 c1;go_upto_region 24 with (fail);refine aZ (by kernel_rfl) (by kernel_rfl) ?_
          repeat (go_big_quiet_step (fail))
          refine wpQuiet_nil ?_;intro w9 hb9;clear y0 y1 y2 y3 y4 y5;have HB9:=aj (HB8.out.trans (hb9.mono HB8.out.size));have HW9:=aj (HW8.out.trans (hb9.mono HW8.out.size));have l2:w9.cell? ⟨(ad.add (y.toNat * 7)).block,(ad.add (y.toNat * 7)).off+2,none⟩=some (.int .i64 x.f2):=(HW9.out.cell (World.block_lt_of_cell? _ _ M_.out.2.2.1)).trans M_.out.2.2.1;have g2:w9.cell? ⟨(ad2.add (z.toNat * 4)).block,(ad2.add (z.toNat * 4)).off+2,none⟩=some (.int .i64 g.f2):=(hb9.cell (World.block_lt_of_cell? _ _ HG2.out)).trans HG2.out;have hlx:=uX.out.lx;have tD:=JJ.out;have a2:IntKind.i64.wrap (x.f2 - dp)=x.f2 - dp:=IntWalk.i64_in _ (by omega);have Wg:wrap64 (x.f2 - dp)=x.f2 - dp:=dN _ (by omega);clear hb9 hlx tD;by_cases ck:k=0
          .have d6:(a == 0)=true:=beq_iff_eq.mpr (by have:=ha.out.1;omega)
           have d7:decide (g.f2 < x.f2 - dp)=false:=decide_eq_false (by have:=za.out;have:=JJ.out;omega);clear ck;go_wp2;go_roundw
           case rel=>exact ⟨a+1,z+1,k+1,n+1,rfl,rfl,⟨by have:=hz.out.1;omega,HN.out⟩,⟨by have:=ha.out.1;omega,Jd.out,vM.out⟩,HB9⟩
           case measure=>have:=HN.out;have:=hz.out;simp [intOf];omega
          .have d6:(a == 0)=false:=beq_eq_false_iff_ne.mpr (by have:=ha.out.1;omega)
           have d7:decide (g.f2 < x.f2)=false:=decide_eq_false (by
            rcases za.out with h | h
            .omega
            .exact absurd (HKZ.out h.1) ck)
           clear ck;go_wp2;go_roundw
           case rel=>exact ⟨a+1,z+1,k+1,n+1,rfl,rfl,⟨by have:=hz.out.1;omega,HN.out⟩,⟨by have:=ha.out.1;omega,Jd.out,vM.out⟩,HB9⟩
           case measure=>have:=HN.out;have:=hz.out;simp [intOf];omega
        .have d1:decide (z < (nq:Int))=false:=decide_eq_false (by have:=hz.out.1;omega)
         have SG:=aj (show (K.drop k).map Ct=R by
          have h:=ha.out.2.2;rw [drop_nil' Gs n (by rw [U1.out];omega)] at h;exact h)
         have q5:y<=1000000:=(by have:=R6.out;have:=hy.out;have:=cg.out;omega);clear hn;go_wp2;go_roundw
         case rel=>exact ⟨a,y+1,k,i+1,rfl,rfl,⟨by have:=hy.out.1;omega,cg.out⟩,⟨ha.out.1,ha.out.2.1,by rw [SG.out];exact HR.out.symm⟩,⟨hB.out.trans (tE.out.mono hB.out.size)⟩⟩
         case measure=>have:=cg.out;have:=hy.out;simp [intOf];omega
     .have d1:decide (y < (nl:Int))=false:=decide_eq_false (by have:=hy.out.1;omega)
      have hke:k=nk:=by
       have h:=ha.out.2.2;rw [drop_nil' L i (by rw [nQ.out];omega),List.flatMap_nil] at h;have h2:=congrArg List.length h;rw [List.length_map,List.length_drop,PI.out] at h2;have:=ha.out.2.1;simp at h2;omega
      have hae:a=(nk:Int):=(by rw [<-hke];exact ha.out.1);have d2:(a == (nk:Int))=true:=beq_iff_eq.mpr hae;clear hlt hke hae;go_wp2;go_ret;exact ⟨rfl,HB.out⟩
   .obtain ⟨e0,he0⟩:∃ e0,iI p S r=e0:=⟨_,rfl⟩
    have PY:=aj (And.intro he0 (show e0≠0 by rw [<-he0];exact hp));have d1:(e0 != 0)=true:=bne_iff_ne.mpr PY.out.2;clear hp he0;go_wp2_with (first | ((with_reducible refine aS (N:=30) rfl ?_);go_loud (refine wpList_load_row rfl 27 _ rfl bx rfl 27 (cG p As cs Am cm) (0,0) _ (by exact nu.out) Tryz.underlying27 rfl (cV _ _ _ _ _) ?_))|(go_at_call 7;go_loud (refine (OH p S r A c _ HSL.out.1 (dK.below HA.out HB2.out) HZ.out (Kd.aM HSL.out.2.1 HB2.out) HSL.out.2.2 e0 PY.out.1 PY.out.2).mono ?_;rintro e w4 ⟨rfl,hb4⟩)));go_ret;exact ⟨rfl,HB2.out.trans (hb4.mono HB2.out.size)⟩
end Go.Proofs.YtcaallkkeighdaaGreatDoor.P
