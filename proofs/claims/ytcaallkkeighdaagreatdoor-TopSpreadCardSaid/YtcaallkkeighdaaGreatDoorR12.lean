/- metric.Masses at every paragraph;set.capital,set.Drop,item.body answer as plain functions of it. What package para takes off a line's slot: its label's room,its parts,the inner slot. Tools of these texts: a region that draws,whose first operation only hands a slot's value on,whose head only reads,whose callees make memory of their own. -/
import Derived.Test.YtcaallkkeighdaaGreatDoorR11
set_option maxRecDepth 100000
set_option maxHeartbeats 16000000
set_option linter.unusedVariables false
set_option linter.unusedSimpArgs false
namespace Go.Proofs.YtcaallkkeighdaaGreatDoor.P
open Go.RowKit aD aQ aR
attribute [local go_sem] cN cO dw dA
def Qw(p:Pa)(w:World)(e:Ending)(w':World):Prop:=∃ v,e=.returned (.tuple #[v,.int .i64 (bB p)])/\Kd.R k99 99 w' w.heap.size (fun _=>True) v (aW p)/\Below w.heap.size w w'
theorem kG(p:Pa){As Am:Option Addr}{cs cm:Nat}(w:World)(hA:dK w p As cs Am cm)(hz:p.small):Calls Tryz.prog 26 #[.agg (cG p As cs Am cm)] w (Qw p w):=by
 by_cases h0:bB p=0
 .refine(H_ p w hA hz h0).mono ?_;rintro e w' ⟨v,rfl,hR,hB⟩;exact⟨v,by rw[h0],by unfold aW;rw[if_pos h0];exact hR,hB⟩
 .have HA:=aj hA;have HZ:=aj hz;have hm:aW p=[]:=by unfold aW;rw[if_neg h0]
  have HM:=aj hm;have b0:(bB p != 0)=true:=by simpa using h0
  have HB0:=aj ((Below.refl w.heap.size w).alloc (Nat.le_refl _) (.cells (cG p As cs Am cm) 27));have dI:=aj (aH w (.cells (cG p As cs Am cm) 27));clear hA hz hm h0;go_enter Tryz.func26,Tryz.ntmps26;go_wp2_with (first|((with_reducible refine aS (N:=18) rfl ?_);go_loud(refine wpList_load_row rfl 27 _ rfl (w.heap.size) rfl 27 (cG p As cs Am cm) (0,0) _ (by exact dI.out) Tryz.underlying27 rfl (cV p As cs Am cm) ?_))|(go_at_call 28;go_loud(refine(rY p _ (dK.below HA.out HB0.out) HZ.out).mono ?_;rintro e w1 ⟨rfl,hb1⟩;have HB1:=aj (HB0.out.trans (hb1.mono HB0.out.size));clear hb1)));go_ret2;exact⟨_,rfl,by rw[HM.out];exact Kd.nO _ _ _ _ _,HB1.out⟩
theorem oD(s:ByteArray)(z:Int):0<=(cU s z).1/\(cU s z).1<=64 * (s.size:Int):=by
 unfold cU;split
 .simp;omega
 .split
  .simp;omega
  .have:=jh s z (by omega) (by omega) s.size 0;exact this
def ig(p:Pa)(l:List S99):Int:=if p.pr.f14 < 2\/(l.headD z99).f2≠1 then 0 else (cU (p.tx.extract 0 1) (if 64 < p.pr.f0 * p.pr.f14 then 64 else p.pr.f0 * p.pr.f14)).1+4
theorem qu(p:Pa){As Am A:Option Addr}{cs cm c:Nat}(l:List S99)(w:World)(hl:Kd.C k99 w A l.length l)(hp:l≠[]->0 < p.tx.size)(h1:1<=p.pr.f0/\p.pr.f0<=64)(h2:0<=p.pr.f14/\p.pr.f14<=4)(ht:p.tx.size<=300)(co:Int)(yM:ig p l=co) :
  Calls Tryz.prog 27 #[.agg (cG p As cs Am cm),.slice A l.length c] w fun e w'=>e=.returned (.int .i64 co)/\Below w.heap.size w w':=by
 have dI:=aj (aH w (.cells (cG p As cs Am cm) 27));have HB0:=aj ((Below.refl w.heap.size w).alloc (Nat.le_refl _) (.cells (cG p As cs Am cm) 27));have x16:(w.alloc (.cells (cG p As cs Am cm) 27)).cell? ⟨w.heap.size,16,none⟩=some (.int .i64 p.pr.f14):=(ak dI.out 16).trans rfl;have x2:(w.alloc (.cells (cG p As cs Am cm) 27)).cell? ⟨w.heap.size,2,none⟩=some (.int .i64 p.pr.f0):=(ak dI.out 2).trans rfl;have x0:(w.alloc (.cells (cG p As cs Am cm) 27)).cell? ⟨w.heap.size,0,none⟩=some (.string p.tx):=(ak dI.out 0).trans rfl;by_cases c1:p.pr.f14 < 2
 .have d1:decide (p.pr.f14 < 2)=true:=decide_eq_true c1;have HF:=aj (show co=0 by rw[<-yM];unfold ig;rw[if_pos (.inl c1)]);clear hl hp h1 h2 yM c1;go_enter Tryz.func27,Tryz.ntmps27;go_wp2;go_ret;exact⟨dh HF.out,HB0.out⟩
 .have d1:decide (p.pr.f14 < 2)=false:=decide_eq_false c1;cases l with
  | nil =>
   have HF:=aj (show co=0 by rw[<-yM];unfold ig;rw[if_pos (.inr (by decide))]);clear hl hp h1 h2 yM c1;go_enter Tryz.func27,Tryz.ntmps27;go_wp2;go_ret;exact⟨dh HF.out,HB0.out⟩
  | cons m l =>
   have hpos:=hp (by simp);obtain⟨ad,e0,_,_,k2,_⟩:=eV hl 0 (by omega) (by simp only[List.length_cons];omega);cases e0
   rw[show aV (m :: l) 0=m from rfl] at k2;simp only[Int.toNat_zero,Nat.zero_mul,add_zero'] at k2;have k3:=cM k2 (.cells (cG p As cs Am cm) 27);have n1:(((m :: l).length:Int) == 0)=false:=by rw[beq_eq_false_iff_ne];simp only[List.length_cons];omega
   have n2:(0:Int) < ((m :: l).length:Int):=by simp only[List.length_cons];omega
   have n3:0 < (m :: l).length:=by simp
   generalize (m :: l).length=n at *;by_cases c2:m.f2=1
   .have b2:(m.f2 != 1)=false:=(by rw[c2];rfl);have HF:=aj (show co=(cU (p.tx.extract 0 1) (if 64 < p.pr.f0 * p.pr.f14 then 64 else p.pr.f0 * p.pr.f14)).1+4 by rw[<-yM];unfold ig;rw[if_neg];simp only[List.headD_cons,c2];omega);have hm1:p.pr.f0 * p.pr.f14<=64 * 4:=Int.mul_le_mul h1.2 h2.2 h2.1 (by decide);have hm0:0<=p.pr.f0 * p.pr.f14:=Int.mul_nonneg (by omega) h2.1;have hw1:IntKind.i64.wrap (p.pr.f0 * p.pr.f14)=p.pr.f0 * p.pr.f14:=IntWalk.i64_in _ (by omega);have hw2:wrap64 (p.pr.f0 * p.pr.f14)=p.pr.f0 * p.pr.f14:=dN _ (by omega);have hs1:1<=p.tx.size:=(by omega);have HC2:=aj c2;clear hl hp h1 h2 yM c1 k2 c2 hm0 hm1;go_enter Tryz.func27,Tryz.ntmps27;go_upto_region 3 with(fail);have y0:=Bx.cell x0;have y2:=Bx.cell x2;have y16:=Bx.cell x16;refine aZ (by kernel_rfl) (by kernel_rfl) ?_
    repeat(go_big_quiet_step ((go_at_call 65;exact Bx.cu (lN _ _ _))))
    refine wpQuiet_nil ?_;intro w7 hb7;have hwr:=oD (p.tx.extract 0 1) (if 64 < p.pr.f0 * p.pr.f14 then 64 else p.pr.f0 * p.pr.f14);have hsz:(p.tx.extract 0 1).size<=300:=(by rw[ByteArray.size_extract];omega);have hq:=aj (show(0<=(cU (p.tx.extract 0 1) (if 64 < p.pr.f0 * p.pr.f14 then 64 else p.pr.f0 * p.pr.f14)).1/\(cU (p.tx.extract 0 1) (if 64 < p.pr.f0 * p.pr.f14 then 64 else p.pr.f0 * p.pr.f14)).1<=64 * 300) by omega);clear hwr hsz hw1 hw2 y0 y2 y16 x0 x2 x16;generalize cU (p.tx.extract 0 1) (if 64 < p.pr.f0 * p.pr.f14 then 64 else p.pr.f0 * p.pr.f14)=wv at *;obtain⟨r1,r2⟩:=wv;have hq1:=hq.out;have hq2:wrap64 (r1+4)=r1+4:=dN _ (by omega);clear hq1;go_wp2
    all_goals go_ret
    all_goals exact⟨dh HF.out,HB0.out.trans (hb7.mono HB0.out.size)⟩
   .have b2:(m.f2 != 1)=true:=(by simpa using c2);have HF:=aj (show co=0 by rw[<-yM];unfold ig;rw[if_pos (.inr c2)]);clear hl hp h1 h2 yM c1 k2 c2;go_enter Tryz.func27,Tryz.ntmps27;go_wp2;go_ret;exact⟨dh HF.out,HB0.out⟩
theorem wP{p:Pa}(h:aW p≠[]):bB p=0/\0 < p.tx.size:=by
 unfold aW at h;by_cases h0:bB p=0
 .rw[if_pos h0] at h;refine⟨h0,?_⟩;rcases Nat.eq_zero_or_pos p.tx.size with hz|hz
  .exfalso;apply h;unfold cQ;rw[hz];rfl
  .exact hz
 .rw[if_neg h0] at h;exact absurd rfl h
def eE(p:Pa):Int:=if bB p=0 then ig p (aW p) else 0
theorem wQ(p:Pa){As Am:Option Addr}{cs cm:Nat}(w:World)(hA:dK w p As cs Am cm)(hz:p.small):Calls Tryz.prog 9 #[.agg (cG p As cs Am cm)] w fun e w'=>e=.returned (.tuple #[.int .i64 (eE p),.int .i64 (bB p)])/\Below w.heap.size w w':=by
 have HA:=aj hA;have HZ:=aj hz;have HB0:=aj ((Below.refl w.heap.size w).alloc (Nat.le_refl _) (.cells (cG p As cs Am cm) 27));have dI:=aj (aH w (.cells (cG p As cs Am cm) 27));by_cases h0:bB p=0
 .have hd:eE p=ig p (aW p):=by unfold eE;rw[if_pos h0]
  rw[h0,hd];have H0:=aj h0;clear hA hz h0 hd;go_enter Tryz.func9,Tryz.ntmps9;go_wp2_with (first|((with_reducible refine aS (N:=7) rfl ?_);go_loud(refine wpList_load_row rfl 27 _ rfl (w.heap.size) rfl 27 (cG p As cs Am cm) (0,0) _ (by exact dI.out) Tryz.underlying27 rfl (cV p As cs Am cm) ?_))|((with_reducible refine aS (N:=14) rfl ?_);go_loud(refine wpList_load_row rfl 27 _ rfl (w.heap.size) rfl 27 (cG p As cs Am cm) (0,0) _ (by exact dI.out) Tryz.underlying27 rfl (cV p As cs Am cm) ?_))|(go_at_call 26;go_loud(refine(kG p _ (dK.below HA.out HB0.out) HZ.out).mono ?_;rintro e w1 ⟨v1,rfl,hR,hb1⟩;rw[H0.out];obtain⟨A1,c1,rfl,_,hC1⟩:=Kd.fG hR;have HC1:=aj hC1;have HB1:=aj (HB0.out.trans (hb1.mono HB0.out.size));have dI:=aj (ay dI.out hb1);clear hb1 hR hC1))|(go_at_call 27;go_loud(refine(qu p (aW p) _ HC1.out (fun hne=>(wP hne).2) (uP (gI H0.out).2.2.2.1).1 (by have:=uP (gI H0.out).2.2.2.1;omega) HZ.out.tx _ rfl).mono ?_;rintro e w2 ⟨rfl,hb2⟩;have HB2:=aj (HB1.out.trans (hb2.mono HB1.out.size));clear hb2)));go_ret2;exact⟨rfl,HB2.out⟩
 .have hd:eE p=0:=by unfold eE;rw[if_neg h0]
  have b0:(bB p != 0)=true:=by simpa using h0
  rw[hd];clear hA hz hd h0;go_enter Tryz.func9,Tryz.ntmps9;go_wp2_with (first|((with_reducible refine aS (N:=7) rfl ?_);go_loud(refine wpList_load_row rfl 27 _ rfl (w.heap.size) rfl 27 (cG p As cs Am cm) (0,0) _ (by exact dI.out) Tryz.underlying27 rfl (cV p As cs Am cm) ?_))|(go_at_call 26;go_loud(refine(kG p _ (dK.below HA.out HB0.out) HZ.out).mono ?_;rintro e w1 ⟨v1,rfl,hR,hb1⟩;have HB1:=aj (HB0.out.trans (hb1.mono HB0.out.size));clear hb1 hR)));go_ret2;exact⟨rfl,HB1.out⟩
theorem Bq{A:Option Addr}{n n' c:Nat}{a a':Int}(h:n'=n)(k:a'=a):Ending.returned (.tuple #[.slice A n c,.int .i64 a])=.returned (.tuple #[.slice A n' c,.int .i64 a']):=by rw[h,k]
def bL(p:Pa):List S99:=if 2<=p.pr.f14/\((aW p).headD z99).f2=1 then (aW p).drop 1 else aW p
def CW(p:Pa)(w:World)(e:Ending)(w':World):Prop:=∃ A c,e=.returned (.tuple #[.slice A (bL p).length c,.int .i64 (bB p)])/\Kd.C k99 w' A (bL p).length (bL p)/\(bL p).length<=c/\Below w.heap.size w w'
theorem EZ(p:Pa){As Am:Option Addr}{cs cm:Nat}(w:World)(hA:dK w p As cs Am cm)(hz:p.small):Calls Tryz.prog 41 #[.agg (cG p As cs Am cm)] w (CW p w):=by
 have HA:=aj hA;have HZ:=aj hz;have HB0:=aj ((Below.refl w.heap.size w).alloc (Nat.le_refl _) (.cells (cG p As cs Am cm) 27));have dI:=aj (aH w (.cells (cG p As cs Am cm) 27));clear hA hz;go_enter Tryz.func41,Tryz.ntmps41;go_upto_region 2 with(first|((with_reducible refine aS (N:=7) rfl ?_);go_loud(refine wpList_load_row rfl 27 _ rfl (w.heap.size) rfl 27 (cG p As cs Am cm) (0,0) _ (by exact dI.out) Tryz.underlying27 rfl (cV p As cs Am cm) ?_))|(go_at_call 26;go_loud(refine(kG p _ (dK.below HA.out HB0.out) HZ.out).mono ?_;rintro e w1 ⟨v1,rfl,hR,hb1⟩;obtain⟨A1,c1',rfl,S3,hC1⟩:=Kd.fG hR;have MY:=aj S3;have HC1:=aj hC1;have HB1:=aj (HB0.out.trans (hb1.mono HB0.out.size));have dI:=aj (ay dI.out hb1);clear hb1 hR hC1 S3)));have x16:w1.cell? ⟨w.heap.size,16,none⟩=some (.int .i64 p.pr.f14):=(ak dI.out 16).trans rfl;obtain⟨n,hn⟩:∃ n,(aW p).length=n:=⟨_,rfl⟩;obtain⟨ck,Xb⟩:∃ n,bB p=n:=⟨_,rfl⟩;have HN:=aj hn;have MS:=aj Xb;rw[hn,Xb];clear hn Xb;by_cases h0:ck=0
 .have b0:(ck == 0)=true:=beq_iff_eq.mpr h0;by_cases c1:p.pr.f14 < 2
  .have Br:=aj (show bL p=aW p by unfold bL;rw[if_neg (by omega)]);have d1:decide (2<=p.pr.f14)=false:=decide_eq_false (by omega);clear h0 c1;go_wp2;go_ret2;exact⟨A1,c1',Bq (by rw[Br.out,HN.out]) MS.out,by rw[Br.out];exact HC1.out,by rw[Br.out];exact MY.out,HB1.out⟩
  .have d1:decide (2<=p.pr.f14)=true:=decide_eq_true (by omega);obtain⟨L,hl⟩:∃ L,aW p=L:=⟨_,rfl⟩;cases L with
   | nil =>
    have Br:=aj (show bL p=aW p by unfold bL;rw[if_neg];rw[hl];rintro⟨_,q⟩;exact absurd q (by decide));have d2:decide (0 < (n:Int))=false:=decide_eq_false (by rw[<-HN.out,hl];simp);have d3:decide (0 < n)=false:=decide_eq_false (by rw[<-HN.out,hl];simp);clear h0 c1 hl;go_wp2;go_ret2;exact⟨A1,c1',Bq (by rw[Br.out,HN.out]) MS.out,by rw[Br.out];exact HC1.out,by rw[Br.out];exact MY.out,HB1.out⟩
   | cons m l =>
    have d2:decide (0 < (n:Int))=true:=decide_eq_true (by rw[<-HN.out,hl];simp only[List.length_cons];omega);have hC:=HC1.out;rw[hl] at hC;obtain⟨ad,e0,_,_,k2,_⟩:=eV hC 0 (by omega) (by simp only[List.length_cons];omega);cases e0
    rw[show aV (m :: l) 0=m from rfl] at k2;simp only[Int.toNat_zero,Nat.zero_mul,add_zero'] at k2;have n2:(0:Int) < (n:Int):=of_decide_eq_true d2;have n3:0 < n:=(by omega);clear hC;by_cases c2:m.f2=1
    .have b2:(m.f2 == 1)=true:=beq_iff_eq.mpr c2;have Br:=aj (show bL p=(aW p).drop 1 by unfold bL;rw[if_pos ⟨by omega,by rw[hl];exact c2⟩]);have MV:=MY.out;rw[HN.out] at MV;have hdp:=Kd.mW (m:=1) HC1.out (by rw[HN.out];exact n3) MY.out;have Qt:=aj hdp;have nQ:=aj (show((aW p).drop 1).length=n - 1 by rw[List.length_drop,HN.out]);clear h0 c1 hl c2 hdp;have hfin:∀ (A2:Option Addr) (k:Nat),A2=(if c1'=1 then some ad else (some ad).map (·.add (1 * k99.sz)))->k=c1' - 1->CW p w (.returned (.tuple #[.slice A2 (n - 1) k,.int .i64 ck])) w1:=by
      intro A2 k hA2 hk;have hd:=Qt.out;rw[<-hA2] at hd;exact⟨A2,k,by rw[Br.out,nQ.out,MS.out],by rw[Br.out];exact hd,by rw[Br.out,nQ.out];omega,HB1.out⟩
     have CV:=aj hfin;clear hfin;by_cases hc1:c1'=1
     .subst hc1;go_wp2;go_ret2;have:=CV.out (some ad) 0 (by simp) rfl
      rwa [show n - 1=0 by omega] at this
     .go_wp2;go_ret2;exact CV.out _ _ (by rw[if_neg hc1];show _=some (ad.add (1 * 6));have:=bM ad 0 6 (by omega);rw[add_zero'] at this;simpa using this.symm) rfl
    .have b2:(m.f2 == 1)=false:=beq_eq_false_iff_ne.mpr c2;have Br:=aj (show bL p=aW p by unfold bL;rw[if_neg];rw[hl];rintro⟨_,q⟩;exact c2 q);clear h0 c1 hl c2;go_wp2;go_ret2;exact⟨some ad,c1',Bq (by rw[Br.out,HN.out]) MS.out,by rw[Br.out];exact HC1.out,by rw[Br.out];exact MY.out,HB1.out⟩
 .have b0:(ck == 0)=false:=beq_eq_false_iff_ne.mpr h0;have Br:=aj (show bL p=aW p by unfold bL;rw[if_neg];unfold aW;rw[if_neg (by rw[MS.out];exact h0)];rintro⟨_,q⟩;exact absurd q (by decide));clear h0;go_wp2;go_ret2;exact⟨A1,c1',Bq (by rw[Br.out,HN.out]) MS.out,by rw[Br.out];exact HC1.out,by rw[Br.out];exact MY.out,HB1.out⟩
end Go.Proofs.YtcaallkkeighdaaGreatDoor.P
namespace Go.Proofs.YtcaallkkeighdaaGreatDoor.P
open Go.RowKit aD aQ aR
attribute [local go_sem] cN cO dw dA
theorem wR(s:ByteArray)(z:Int):0<=(cU s z).1/\(cU s z).1<=262144:=by
 have h:=oD s z;refine⟨h.1,?_⟩;unfold cU at h ⊢;split
 .simp
 .split
  .simp
  .rename_i h1 h2;rw[if_neg h1,if_neg h2] at h;simp only at h ⊢;omega
def iW(p:Pa):Int:=if p.lb.size=0 then 0 else (cU p.lb p.pr.f0).1+4
theorem uQ(p:Pa):0<=iW p/\iW p<=262148:=by
 unfold iW;have:=wR p.lb p.pr.f0;split<;>omega
theorem CX(p:Pa){As Am:Option Addr}{cs cm:Nat}(w:World):Calls Tryz.prog 99 #[.agg (cG p As cs Am cm)] w fun e w'=>e=.returned (.int .i64 (iW p))/\Below w.heap.size w w':=by
 have dI:=aj (aH w (.cells (cG p As cs Am cm) 27));have HB0:=aj ((Below.refl w.heap.size w).alloc (Nat.le_refl _) (.cells (cG p As cs Am cm) 27));have x2:(w.alloc (.cells (cG p As cs Am cm) 27)).cell? ⟨w.heap.size,2,none⟩=some (.int .i64 p.pr.f0):=(ak dI.out 2).trans rfl;have x19:(w.alloc (.cells (cG p As cs Am cm) 27)).cell? ⟨w.heap.size,19,none⟩=some (.string p.lb):=(ak dI.out 19).trans rfl;by_cases c1:p.lb.size=0
 .have g1:(p.lb.toList == ([]:List UInt8))=true:=by rw[beq_iff_eq,ByteArray.toList_eq];exact List.eq_nil_of_length_eq_zero (by simpa using c1)
  have HF:=aj (show iW p=0 by unfold iW;rw[if_pos c1]);clear c1;go_enter Tryz.func99,Tryz.ntmps99;go_wp2;go_ret;exact⟨dh HF.out,HB0.out⟩
 .have g1:(p.lb.toList == ([]:List UInt8))=false:=by rw[beq_eq_false_iff_ne,ByteArray.toList_eq];intro q;exact c1 (by have:=congrArg List.length q;simpa using this)
  have HF:=aj (show iW p=(cU p.lb p.pr.f0).1+4 by unfold iW;rw[if_neg c1]);have hw:=wR p.lb p.pr.f0;have hq2:wrap64 ((cU p.lb p.pr.f0).1+4)=(cU p.lb p.pr.f0).1+4:=dN _ (by omega);clear c1 hw;go_enter Tryz.func99,Tryz.ntmps99;go_wp2_with (go_at_call 65;go_loud(refine(lN _ _ _).mono ?_;rintro e w1 ⟨rfl,hb1⟩;have HB1:=aj (HB0.out.trans (hb1.mono HB0.out.size));clear hb1));go_ret;exact⟨dh (by rw[HF.out];first|rfl|rw[hq2]),HB1.out⟩
def GI(w:World)(bp:Nat)(p:Pa)(As:Option Addr)(cs:Nat)(Am:Option Addr)(cm:Nat):Prop:=w.heap[bp]? = some (.cells (cG p As cs Am cm) 27 (0,0))
theorem CY(p:Pa){As Am:Option Addr}{cs cm:Nat}(n:Int)(bp:Nat)(w:World)(h:GI w bp p As cs Am cm):Calls Tryz.prog 97 #[.int .i64 n,.pointer (some ⟨bp,0,none⟩)] w fun e w'=>e=.returned (.int .i64 p.pr.f4)/\Below w.heap.size w w':=by
 have x6:w.cell? ⟨bp,6,none⟩=some (.int .i64 p.pr.f4):=(ak h 6).trans rfl;clear h;go_enter Tryz.func97,Tryz.ntmps97;go_wp2;go_ret;exact⟨rfl,Below.refl _ _⟩
def fQ(p:Pa)(n:Int):Int:=if 0 < n then 0 else p.pr.f3+iW p
theorem CZ(p:Pa){As Am:Option Addr}{cs cm:Nat}(n:Int)(bp:Nat)(w:World)(h:GI w bp p As cs Am cm)(h3:0<=p.pr.f3/\p.pr.f3<=255):Calls Tryz.prog 98 #[.int .i64 n,.pointer (some ⟨bp,0,none⟩)] w fun e w'=>e=.returned (.int .i64 (fQ p n))/\Below w.heap.size w w':=by
 have HX:=aj h;have x5:w.cell? ⟨bp,5,none⟩=some (.int .i64 p.pr.f3):=(ak h 5).trans rfl;clear h;by_cases c1:0 < n
 .have d1:decide (0 < n)=true:=decide_eq_true c1;have HF:=aj (show fQ p n=0 by unfold fQ;rw[if_pos c1]);clear c1 h3;go_enter Tryz.func98,Tryz.ntmps98;go_wp2;go_ret;exact⟨dh HF.out,Below.refl _ _⟩
 .have d1:decide (0 < n)=false:=decide_eq_false c1;have HF:=aj (show fQ p n=p.pr.f3+iW p by unfold fQ;rw[if_neg c1]);have hl:=uQ p;have hs1:wrap64 (p.pr.f3+iW p)=p.pr.f3+iW p:=dN _ (by omega);have HS1:=aj hs1;have y5:=Bx.cell x5;have yx:=Bx.blk HX.out;clear c1 h3 hl hs1;go_enter Tryz.func98,Tryz.ntmps98;go_upto_region 3 with(fail);refine aZ (by kernel_rfl) (by kernel_rfl) ?_
  repeat(first|(go_big_quiet_step ((go_at_call 99;exact Bx.cu (CX p _))))|(go_big_quiet_want;refine jj 27 (.tmp 1) rfl bp rfl 27 (cG p As cs Am cm) (0,0) _ yx Tryz.underlying27 rfl (cV p As cs Am cm) ?_;go_simp;go_big_quiet_on))
  refine wpQuiet_nil ?_;intro w7 hb7;have hs1:=HS1.out;clear y5 yx;go_wp2;go_ret;exact⟨dh (by rw[HF.out];first|rfl|rw[hs1]|rw[<-hs1];rfl),hb7⟩
def j8(p:Pa)(d n:Int):Int:=if p.pr.f14<=n then 0 else d
theorem C0(p:Pa){As Am:Option Addr}{cs cm:Nat}(n d:Int)(bp bd:Nat)(w:World)(h:GI w bp p As cs Am cm)(hd:w.heap[bd]? = some (.cells #[.int .i64 d] 3 (0,0))) :
  Calls Tryz.prog 100 #[.int .i64 n,.pointer (some ⟨bp,0,none⟩),.pointer (some ⟨bd,0,none⟩)] w fun e w'=>e=.returned (.int .i64 (j8 p d n))/\Below w.heap.size w w':=by
 have x16:w.cell? ⟨bp,16,none⟩=some (.int .i64 p.pr.f14):=(ak h 16).trans rfl;have xd:w.cell? ⟨bd,0,none⟩=some (.int .i64 d):=(ak hd 0).trans rfl;clear h hd;by_cases c1:p.pr.f14<=n
 .have d1:decide (p.pr.f14<=n)=true:=decide_eq_true c1;have HF:=aj (show j8 p d n=0 by unfold j8;rw[if_pos c1]);clear c1;go_enter Tryz.func100,Tryz.ntmps100;go_wp2;go_ret;exact⟨dh HF.out,Below.refl _ _⟩
 .have d1:decide (p.pr.f14<=n)=false:=decide_eq_false c1;have HF:=aj (show j8 p d n=d by unfold j8;rw[if_neg c1]);clear c1;go_enter Tryz.func100,Tryz.ntmps100;go_wp2;go_ret;exact⟨dh HF.out,Below.refl _ _⟩
structure KC(w:World)(p:Pa)(As:Option Addr)(cs:Nat)(Am:Option Addr)(cm:Nat)(bp bd br:Nat)(d:Int):Prop where
 box:GI w bp p As cs Am cm
 dr:w.heap[bd]? = some (.cells #[.int .i64 d] 3 (0,0))
 row:w.heap[br]? = some (.cells #[.func (.func 97) #[] #[.pointer (some ⟨bp,0,none⟩)],.func (.func 98) #[] #[.pointer (some ⟨bp,0,none⟩)],.func (.func 100) #[] #[.pointer (some ⟨bp,0,none⟩),.pointer (some ⟨bd,0,none⟩)]] 167 (0,0))
theorem KC.below{w w':World}{p:Pa}{As:Option Addr}{cs:Nat}{Am:Option Addr}{cm bp bd br:Nat}{d:Int}(h:KC w p As cs Am cm bp bd br d)(hb:Below w.heap.size w w'):KC w' p As cs Am cm bp bd br d :=
 ⟨ay h.box hb,ay h.dr hb,ay h.row hb⟩
def Qx(p:Pa)(As:Option Addr)(cs:Nat)(Am:Option Addr)(cm:Nat)(w:World)(e:Ending)(w':World):Prop:=∃ bp bd br,e=.returned (.slice (some ⟨br,0,none⟩) 3 3)/\KC w' p As cs Am cm bp bd br (eE p)/\Below w.heap.size w w'
theorem C2(p:Pa){As Am:Option Addr}{cs cm:Nat}(w:World)(hA:dK w p As cs Am cm)(hz:p.small):Calls Tryz.prog 52 #[.agg (cG p As cs Am cm)] w (Qx p As cs Am cm w):=by
 have HA:=aj hA;have HZ:=aj hz;have HB0:=aj ((Below.refl w.heap.size w).alloc (Nat.le_refl _) (.cells (cG p As cs Am cm) 27));have dI:=aj (aH w (.cells (cG p As cs Am cm) 27));clear hA hz;go_enter Tryz.func52,Tryz.ntmps52;go_wp2_with (first|((with_reducible refine aS (N:=6) rfl ?_);go_loud(refine wpList_load_row rfl 27 _ rfl (w.heap.size) rfl 27 (cG p As cs Am cm) (0,0) _ (by exact dI.out) Tryz.underlying27 rfl (cV p As cs Am cm) ?_))|(go_at_call 9;go_loud(refine(wQ p _ (dK.below HA.out HB0.out) HZ.out).mono ?_;rintro e w1 ⟨rfl,hb1⟩;have HB1:=aj (HB0.out.trans (hb1.mono HB0.out.size));have dI:=aj (ay dI.out hb1);clear hb1)));go_ret;refine⟨w.heap.size,w1.heap.size,w1.heap.size+1,rfl,⟨aP (aP dI.out _) _,?_,?_⟩,HB1.out.trans (((Below.refl w1.heap.size w1).alloc (Nat.le_refl _) _).alloc (by simp) _ |>.mono HB1.out.size)⟩
 .exact aP (aH _ _) _
 .have:=aH (w1.alloc (.cells #[.int .i64 (eE p)] 3)) (.cells #[.func (.func 97) #[] #[.pointer (some ⟨w.heap.size,0,none⟩)],.func (.func 98) #[] #[.pointer (some ⟨w.heap.size,0,none⟩)],.func (.func 100) #[] #[.pointer (some ⟨w.heap.size,0,none⟩),.pointer (some ⟨w1.heap.size,0,none⟩)]] 167)
  rwa [World.size_alloc] at this
def leftOf(p:Pa)(d n:Int):Int:=p.pr.f4+fQ p n+j8 p d n
def dO(p:Pa)(d:Int)(s:S30)(n:Int):S30:=⟨if 4095 < s.f0+leftOf p d n then 4095 else s.f0+leftOf p d n,if s.f1 - leftOf p d n - p.pr.f5 < 0 then 0 else s.f1 - leftOf p d n - p.pr.f5⟩
theorem uR(p:Pa)(n:Int)(h:0<=p.pr.f3/\p.pr.f3<=255):0<=fQ p n/\fQ p n<=262403:=by
 have:=uQ p;unfold fQ;split<;>omega
theorem su(p:Pa)(d n:Int)(h:0<=d/\d<=262148):0<=j8 p d n/\j8 p d n<=262148:=by
 unfold j8;split<;>omega
def kX(p:Pa)(d n:Int):Nat->Int
 | 0=>0
 | 1=>p.pr.f4
 | 2=>p.pr.f4+fQ p n
 | _=>leftOf p d n
theorem uS(p:Pa){As Am:Option Addr}{cs cm:Nat}(s:S30)(n d:Int)(bp bd br:Nat)(w:World)(h:KC w p As cs Am cm bp bd br d)(hs:0<=s.f0/\s.f0<=4095/\0<=s.f1/\s.f1<=4095)(hd:0<=d/\d<=262148)(h3:0<=p.pr.f3/\p.pr.f3<=255)(h4:0<=p.pr.f4/\p.pr.f4<=255)(h5:0<=p.pr.f5/\p.pr.f5<=255) :
  Calls Tryz.prog 53 #[.agg (cG p As cs Am cm),.slice (some ⟨br,0,none⟩) 3 3,.agg #[.int .i64 s.f0,.int .i64 s.f1],.int .i64 n] w fun e w'=>e=.returned (.agg #[.int .i64 (dO p d s n).f0,.int .i64 (dO p d s n).f1])/\Below w.heap.size w w':=by
 have H:=aj h;have HS:=aj hs;have HD:=aj hd;have H3:=aj h3;have H4:=aj h4;have H5:=aj h5;clear h hs hd h3 h4 h5;go_enter Tryz.func53,Tryz.ntmps53;go_wp2;have E0:=aj (uR p n H3.out);have JJ:=aj (su p d n HD.out);have hB3:Below w.heap.size w (((w.alloc (.cells (cG p As cs Am cm) 27)).alloc (.cells #[.int .i64 s.f0,.int .i64 s.f1] 30)).alloc (.cells #[.int .i64 0,.int .i64 0] 30)):=(((Below.refl _ _).alloc (Nat.le_refl _) _).alloc (by simp) _).alloc (by simp;omega) _;have hp3:=aP (aP (aH w (.cells (cG p As cs Am cm) 27)) (.cells #[.int .i64 s.f0,.int .i64 s.f1] 30)) (.cells #[.int .i64 0,.int .i64 0] 30);have hs3:=aP (aH (w.alloc (.cells (cG p As cs Am cm) 27)) (.cells #[.int .i64 s.f0,.int .i64 s.f1] 30)) (.cells #[.int .i64 0,.int .i64 0] 30);have hr3:=aH ((w.alloc (.cells (cG p As cs Am cm) 27)).alloc (.cells #[.int .i64 s.f0,.int .i64 s.f1] 30)) (.cells #[.int .i64 0,.int .i64 0] 30);simp only[World.size_alloc] at hs3 hr3;obtain⟨W3,hW3⟩:∃ W3,((w.alloc (.cells (cG p As cs Am cm) 27)).alloc (.cells #[.int .i64 s.f0,.int .i64 s.f1] 30)).alloc (.cells #[.int .i64 0,.int .i64 0] 30)=W3:=⟨_,rfl⟩;rw[hW3] at hB3 hp3 hs3 hr3 ⊢;have HB3:=aj hB3;have HP3:=aj hp3;have HS3:=aj hs3;have HR3:=aj hr3;clear hW3 hB3 hp3 hs3 hr3;go_loopw [9,14] (fun v9 v14 wr=>∃ i:Nat,i<=3/\v9=.int .i64 (kX p d n i)/\v14=.int .i64 (i:Int)/\aC (Below W3.heap.size W3 wr)) (fun _ v14 _=>3 - (intOf v14).toNat)
 case atStart=>exact⟨0,by omega,rfl,rfl,⟨Below.refl _ _⟩⟩
 case round =>
  obtain⟨i,hi,rfl,rfl,HB⟩:=hrel;have yN:=aj ((H.out.below HB3.out).below HB.out);rcases (show i=0\/i=1\/i=2\/i=3 by omega) with rfl|rfl|rfl|rfl
  .have e0:kX p d n 0=0:=rfl;rw[e0];clear e0;have k0:wr.cell? ⟨br,0,none⟩=some (.func (.func 97) #[] #[Value.pointer (some ⟨bp,0,none⟩)]):=(ak yN.out.row 0).trans rfl;go_wp2_with (go_at_call 97;go_loud(refine(CY p n bp _ yN.out.box).mono ?_;rintro e w7 ⟨rfl,hb7⟩));go_roundw
   case rel=>exact⟨1,by omega,by have:=dN p.pr.f4 (by have:=H4.out;omega);simp[kX,this],rfl,⟨HB.out.trans (hb7.mono HB.out.size)⟩⟩
   case measure=>simp[intOf]
  .have e0:kX p d n 1=p.pr.f4:=rfl;rw[e0];clear e0;have k0:wr.cell? ⟨br,1,none⟩=some (.func (.func 98) #[] #[Value.pointer (some ⟨bp,0,none⟩)]):=(ak yN.out.row 1).trans rfl;have e1:wrap64 (p.pr.f4+fQ p n)=p.pr.f4+fQ p n:=dN _ (by have:=E0.out;have:=H4.out;omega);go_wp2_with (go_at_call 98;go_loud(refine(CZ p n bp _ yN.out.box H3.out).mono ?_;rintro e w7 ⟨rfl,hb7⟩));go_roundw
   case rel=>exact⟨2,by omega,by first|rfl|(simp[kX];done)|(simp[kX,e1]),rfl,⟨HB.out.trans (hb7.mono HB.out.size)⟩⟩
   case measure=>simp[intOf]
  .have e0:kX p d n 2=p.pr.f4+fQ p n:=rfl;rw[e0];clear e0;have k0:wr.cell? ⟨br,2,none⟩=some (.func (.func 100) #[] #[Value.pointer (some ⟨bp,0,none⟩),.pointer (some ⟨bd,0,none⟩)]):=(ak yN.out.row 2).trans rfl;have e1:wrap64 (p.pr.f4+fQ p n+j8 p d n)=p.pr.f4+fQ p n+j8 p d n:=dN _ (by have:=E0.out;have:=JJ.out;have:=H4.out;omega);go_wp2_with (go_at_call 100;go_loud(refine(C0 p n d bp bd _ yN.out.box yN.out.dr).mono ?_;rintro e w7 ⟨rfl,hb7⟩));go_roundw
   case rel=>exact⟨3,by omega,by first|rfl|(simp[kX,leftOf];done)|(simp[kX,leftOf,e1]),rfl,⟨HB.out.trans (hb7.mono HB.out.size)⟩⟩
   case measure=>simp[intOf]
  .have Bs:=aj (ay HP3.out HB.out);have Ep:=aj (ay HS3.out HB.out);have E3:=aj (ay HR3.out HB.out);have HB3:=aj (HB3.out.trans (HB.out.mono HB3.out.size));have x0:wr.cell? ⟨w.heap.size+1,0,none⟩=some (.int .i64 s.f0):=(ak Ep.out 0).trans rfl;have x1:wr.cell? ⟨w.heap.size+1,1,none⟩=some (.int .i64 s.f1):=(ak Ep.out 1).trans rfl;have x7:wr.cell? ⟨w.heap.size,7,none⟩=some (.int .i64 p.pr.f5):=(ak Bs.out 7).trans rfl;have r0:wr.cell? ⟨w.heap.size+1+1,0,none⟩=some (.int .i64 0):=(ak E3.out 0).trans rfl;have r1:wr.cell? ⟨w.heap.size+1+1,1,none⟩=some (.int .i64 0):=(ak E3.out 1).trans rfl;have z0:=aB E3.out 0;have z1:=aB E3.out 1;obtain⟨L,hL⟩:∃ L,kX p d n 3=L:=⟨_,rfl⟩;have HL:=aj (show leftOf p d n=L from hL);have hL0:0<=L/\L<=600000:=by have e9:kX p d n 3=p.pr.f4+fQ p n+j8 p d n:=rfl;have:=E0.out;have:=JJ.out;have:=H4.out;omega
   rw[hL];clear hL;have hs0:=HS.out;have h50:=H5.out;have e1:wrap64 (s.f0+L)=s.f0+L:=dN _ (by omega);have e2:wrap64 (s.f1 - L)=s.f1 - L:=dN _ (by omega);have e3:wrap64 (s.f1 - L - p.pr.f5)=s.f1 - L - p.pr.f5:=dN _ (by omega);clear hL0;by_cases c7:4095 < s.f0+L
   .by_cases c8:s.f1 - L - p.pr.f5 < 0
    .have HI:=aj (show dO p d s n=⟨4095,0⟩ by unfold dO;rw[HL.out,if_pos c7,if_pos c8]);have C7:=aj c7;go_wp2;refine bodyPost_ret (results_cell_row Tryz.results53 _ _ (w.heap.size+1+1) 30 #[.int .i64 4095,.int .i64 0] (0,0) _ rfl (aN (aN E3.out 0 _ rfl) 1 _ rfl) Tryz.underlying30 rfl (by kernel_rfl)) rfl ?_;exact⟨by rw[HI.out],(HB3.out.setCell (by simp;omega) _).setCell (by simp;omega) _⟩
    .have HI:=aj (show dO p d s n=⟨4095,(s.f1 - L - p.pr.f5)⟩ by unfold dO;rw[HL.out,if_pos c7,if_neg c8]);have C7:=aj c7;go_wp2;refine bodyPost_ret (results_cell_row Tryz.results53 _ _ (w.heap.size+1+1) 30 #[.int .i64 4095,.int .i64 (s.f1 - L - p.pr.f5)] (0,0) _ rfl (aN (aN E3.out 0 _ rfl) 1 _ rfl) Tryz.underlying30 rfl (by kernel_rfl)) rfl ?_;exact⟨by rw[HI.out],(HB3.out.setCell (by simp;omega) _).setCell (by simp;omega) _⟩
   .by_cases c8:s.f1 - L - p.pr.f5 < 0
    .have HI:=aj (show dO p d s n=⟨(s.f0+L),0⟩ by unfold dO;rw[HL.out,if_neg c7,if_pos c8]);have C7:=aj c7;go_wp2;refine bodyPost_ret (results_cell_row Tryz.results53 _ _ (w.heap.size+1+1) 30 #[.int .i64 (s.f0+L),.int .i64 0] (0,0) _ rfl (aN (aN E3.out 0 _ rfl) 1 _ rfl) Tryz.underlying30 rfl (by kernel_rfl)) rfl ?_;exact⟨by rw[HI.out],(HB3.out.setCell (by simp;omega) _).setCell (by simp;omega) _⟩
    .have HI:=aj (show dO p d s n=⟨(s.f0+L),(s.f1 - L - p.pr.f5)⟩ by unfold dO;rw[HL.out,if_neg c7,if_neg c8]);have C7:=aj c7;go_wp2;refine bodyPost_ret (results_cell_row Tryz.results53 _ _ (w.heap.size+1+1) 30 #[.int .i64 (s.f0+L),.int .i64 (s.f1 - L - p.pr.f5)] (0,0) _ rfl (aN (aN E3.out 0 _ rfl) 1 _ rfl) Tryz.underlying30 rfl (by kernel_rfl)) rfl ?_;exact⟨by rw[HI.out],(HB3.out.setCell (by simp;omega) _).setCell (by simp;omega) _⟩
end Go.Proofs.YtcaallkkeighdaaGreatDoor.P
namespace Go.Proofs.YtcaallkkeighdaaGreatDoor.P
open Go.RowKit aD aQ aR
section
variable{P:Program}{ops:Array Oper}{md:Region.Mode}{C:World->Prop}
def sw(Q:Exit->Act->World->Prop):Exit->Act->World->Prop:=fun e a w=>match e with
 | .panic _=>False
 | e=>Q e a w
theorem oF{Q:Exit->Act->World->Prop}{a:Act}{w:World}(h:Q .normal a w):sw Q .normal a w:=h
theorem E4{Q:Exit->Act->World->Prop}(e:Exit)(a:Act)(w:World)(h:sw Q e a w):Q e a w:=by
 cases e<;>first|exact h|exact h.elim
def sx(md:Region.Mode)(ops:Array Oper)(k n:Nat):Bool:=(List.range n).all fun i=>decide (i < k) || (List.range (n+1)).any fun j=>decide (i < j) && Region.waitsFor md ops j i
theorem KD{k n:Nat}{listed:Array Bool}(hs:sx md ops k n=true)(hc:Region.chainB md ops n=true)(hn:n < ops.size)(inv:HeadInv md ops n listed)(d:Nat) :
  ∀ i:Nat,n - i<=d->k<=i->i < n->listed.getD i true=false->∀ t,n<=t->t ∉ Region.ready md ops listed:=by
 induction d with
 | zero=>intro i hd hk hi;omega
 | succ d ih =>
  intro i hd hk hi hun t ht hr;obtain⟨_,ot,hot,hall⟩:=mem_ready.1 hr;have htlt:t < ops.size:=(Array.getElem?_eq_some_iff.1 hot).1;rcases Nat.eq_or_lt_of_le ht with htn|htn
  .have h1:=List.all_eq_true.1 hs i (List.mem_range.2 hi);simp only[Bool.or_eq_true,decide_eq_true_eq] at h1;obtain⟨j,hj,hj2⟩:=List.any_eq_true.1 (h1.resolve_left (by omega));simp only[Bool.and_eq_true,decide_eq_true_eq] at hj2;have hj3:=List.mem_range.1 hj;obtain⟨oj,hoj,e,he,hb,hon⟩:=Region.waitsFor_spec hj2.2;by_cases hjt:j=t
   .subst hjt;obtain rfl:oj=ot:=Option.some.inj (hoj.symm.trans hot);have h2:=hall e he hb;rw[hon,getD_both hun] at h2;cases h2
   .cases hl:listed.getD j false with
    | true =>
     have h2:=inv.closed j oj hoj hl e he hb;rw[hon,getD_both hun] at h2;cases h2
    | false=>exact ih j (by omega) (by omega) (by omega) (getD_in (by rw[inv.size];omega) hl) t ht hr
  .have h1:=List.all_eq_true.1 hc t (List.mem_range.2 htlt);simp only[Bool.or_eq_true,decide_eq_true_eq] at h1;obtain⟨o',ho',e,he,hb,hon⟩:=Region.waitsFor_spec (h1.resolve_left (by omega));obtain rfl:o'=ot:=Option.some.inj (ho'.symm.trans hot);have h2:=hall e he hb;rw[hon,getD_both (inv.tail (t - 1) (by omega) (by omega))] at h2;cases h2
theorem Qy{k n i:Nat}{oi:Oper}{v:Value}{L:Array Bool->Act->Prop}(hi:ops[i]? = some oi)(hsel:∀ (j:Nat) (o:Oper) cs b,ops[j]? = some o->o.op≠.select cs b)
  (hs:sx md ops k n=true) (hc:Region.chainB md ops n=true) (hn:n < ops.size) (hki:k<=i) (hin:i < n) (hdone:∀ listed a,L listed a->∀ j∈Region.ready md ops listed,n<=j)
  (f:Nat):∀ (listed:Array Bool) (a:Act),HeadInv md ops n listed ->
   (∀ j oj,ops[j]? = some oj->j≠i->listed.getD j true=false->(∀ e∈oj.after,Region.binds md e=true->e.on≠i)->oi.apart ops oj=true) ->
   i∈Region.ready md ops listed->YieldsIn P ops C oi v a->rW P md ops C n L f (listed.setIfInBounds i true) (a.put oi.dst v)->rW P md ops C n L (f+1) listed a:=by
 induction f with
 | zero =>
  intro listed a inv _ hr hy H;refine⟨List.ne_nil_of_mem hr,fun j hj=>?_⟩;have hjn:j < n:=Nat.lt_of_not_le fun h=>KD hs hc hn inv _ i (Nat.le_refl _) hki hin (mem_ready.1 hr).1 j h hj
  refine⟨hjn,?_⟩;by_cases hji:j=i
  .subst hji;exact hy.qOp hi H
  .exact absurd (hdone _ _ H j (ready_mono hj hji)) (by omega)
 | succ f ih =>
  intro listed a inv hfree hr hy H;refine⟨List.ne_nil_of_mem hr,fun j hj=>?_⟩;have hun:=(mem_ready.1 hr).1;have hjn:j < n:=Nat.lt_of_not_le fun h=>KD hs hc hn inv _ i (Nat.le_refl _) hki hin hun j h hj
  refine⟨hjn,?_⟩;by_cases hji:j=i
  .subst hji;exact hy.qOp hi H
  .obtain⟨hjun,oj,hoj,hall⟩:=mem_ready.1 hj;have hnot:∀ e∈oj.after,Region.binds md e=true->e.on≠i:=fun e he hb heq=>by
    have h1:=hall e he hb;rw[heq,getD_both hun] at h1;cases h1
   refine qOp_mono (fun a' h3=>ih _ a' (inv.set hj hjn) (fun q ok hq hqi SW hno=>hfree q ok hq hqi ?_ hno) (ready_mono hr (Ne.symm hji)) h3.1 (by rw[Array.setIfInBounds_comm _ _ hji];exact h3.2))
    (qOp_put hoj (hfree j oj hoj hji hjun hnot) (fun cs b=>hsel i oi cs b hi) (fun cs b=>hsel j oj cs b hoj) hy (H.2 j (ready_mono hj hji)).2)
   by_cases hjk:j=q
   .subst hjk;exact hjun
   .rw[getD_set_ne true hjk] at SW;exact SW
theorem S5{k0 n g:Nat}{Lq:Act->Prop}(hsel:Region.noSelect ops=true)(hs:sx md ops k0 n=true)(hc:Region.chainB md ops n=true)(hn:n < ops.size) :
  ∀ (l:List Oper) (k:Nat) (listed:Array Bool) (a:Act),k0<=k->(∀ j,j < l.length->l[j]? = ops[k+j]?)->k+l.length=n->HeadInv md ops n listed ->
  Region.lexHead md ops g l.length k listed=true->wpQuiet P ops C Lq l a->rW P md ops C n (fun listed' a'=>Region.seqB md ops g n listed'=true/\Lq a') l.length listed a
 | [],k,listed,a,_,_,hk,_,hB,h=>by
  obtain rfl:k=n:=by simpa using hk
  exact⟨by simpa [Region.lexHead] using hB,h⟩
 | o :: l,k,listed,a,hk0,hl,hk,inv,hB,h=>by
  have h0:ops[k]? = some o:=by simpa using (hl 0 (by simp)).symm
  simp only[List.length_cons,Region.lexHead,Bool.and_eq_true] at hB;simp only[List.length_cons] at hk;have hr':k∈Region.ready md ops listed:=by simpa using hB.1.1
  obtain⟨v,hy,hK⟩:=yieldsIn_of_qOp (P:=P) (C:=C) (K:=wpQuiet P ops C Lq l) h0 (by unfold qOp;simp only[h0];exact h)
  exact Qy h0 (Region.noSelect_spec hsel) hs hc hn hk0 (by omega) (fun listed' a' hL=>seqB_ready hL.1) l.length listed a inv (Region.free_spec h0 hB.1.2) hr' hy
   (S5 hsel hs hc hn l (k+1) _ _ (by omega) (fun j hj=>by have:=hl (j+1) (by simp;omega);simpa [Nat.add_assoc,Nat.add_comm 1 j] using this) (by omega) (inv.set hr' (by omega)) hB.2 hK)
theorem C4{Q:Exit->Act->World->Prop}:∀ (f:Nat) (listed:Array Bool) (a:Act) (w:World),wpAny P md ops Q f listed a w->wpAnyH P md ops Q (fun _=>True) f listed a w
 | 0,_,_,_,h=>h
 | f+1,_,_,_,h=>⟨h.1,fun i hi=>wpOp_mono (fun a' w' h'=>⟨trivial,C4 f _ a' w' h'⟩) (h.2 i hi)⟩
def KE(ops:Array Oper)(n:Nat):Bool :=
 Region.noSelect ops && decide (1<=n) && decide (n < ops.size) && sx .any ops 1 n && Region.chainB .any ops n && Region.free .any ops (Array.replicate ops.size false) 0 && (Region.ready .any ops (Array.replicate ops.size false)).contains 0 &&
  Region.lexHead .any ops (ops.size - n) (n - 1) 1 ((Array.replicate ops.size false).setIfInBounds 0 true)
theorem nR{id:Nat}{Q:Exit->Act->World->Prop}{a:Act}{w:World}{o:Oper}{l:List Oper}(n:Nat)(x:Operand)(ho:o.op=.move x)(hg:o.guard=none)(hm:P.follows .mixedOrders=true)(hB:KE (o :: l).toArray n=true)
  (h:wpQuiet P (o :: l).toArray (fun w'=>∃ i:Bx w,w'=i.W) (fun a'=>∀ w',Below w.heap.size w w'->wpList P (o :: l).toArray (sw Q) (l.drop (n - 1)) a' w') (l.take (n - 1)) (a.put o.dst (a.eval x))):(Code.region id (o :: l).toArray true).wp P Q a w:=by
 simp only[KE,Bool.and_eq_true,decide_eq_true_eq] at hB;obtain⟨⟨⟨⟨⟨⟨⟨hsel,h1n⟩,hn⟩,hs⟩,hc⟩,hf0⟩,hr0⟩,hlex⟩:=hB;have hsz:(o :: l).toArray.size=l.length+1:=by simp
 have hn':n - 1 < l.length:=by omega
 have htl:(l.take (n - 1)).length=n - 1:=by simp;omega
 have hdl:(l.drop (n - 1)).length=(o :: l).toArray.size - n:=by simp;omega
 have inv0:HeadInv .any (o :: l).toArray n (Array.replicate (o :: l).toArray.size false) :=
  ⟨by simp,fun j oj _ hl=>(by rw[getD_replicate_false] at hl;cases hl),fun t _ ht=>getD_in (by simpa using ht) (getD_replicate_false _ _)⟩
 have hmem:(0:Nat)∈Region.ready .any (o :: l).toArray (Array.replicate (o :: l).toArray.size false):=by simpa using hr0
 have H:=S5 (md:=.any) (g:=(o :: l).toArray.size - n) hsel hs hc hn (l.take (n - 1)) 1 _ _ (Nat.le_refl _) (fun j hj=>by
  have hj':j < n - 1:=by rw[htl] at hj;exact hj
  simp[hj',Nat.add_comm 1 j]) (by rw[htl];omega) (inv0.set hmem (by omega)) (by rw[htl];exact hlex) h
 refine Code.wp_mono E4 (wp_region_held (S:=fun _=>True) hm ?_);rw[show(o :: l).toArray.size=l.length+1 from hsz] at *;refine wpAnyH_take (i:=0) (oi:=o) (v:=a.eval x) (by simp) hsel hf0 hr0 (fun c a w q=>q.elim) (.inl ⟨by simp[Region.wanted,hg],fun w' _=>?_⟩) trivial (C4 _ _ _ _ ?_)
 .exact BigFrame.run_move x ho _
 .have:=tP (Q':=sw Q) (g:=l.length+1 - n) (fun listed a' w' hw hL=>by
   obtain⟨i,rfl⟩:=hw;have h1:=wpAny_of_seq (Q':=sw Q) (l.drop (n - 1)) n listed a' i.W (fun j=>by
    rw[List.getElem?_drop,show n+j=(n - 1+j)+1 by omega];simp) (by rw[hdl];exact hL.1) (hL.2 _ i.hb)
   rw[hdl] at h1;exact h1) _ _ _ _ ⟨⟨_,(Below.refl _ w).drew⟩,rfl⟩ H
  rw[htl,show n - 1+(l.length+1 - n)=l.length by omega] at this;exact this
theorem vw{fn:Func}{p q:Tmp}{ty:TypeId}(h:fn.results=#[.tmp p,.cell q ty])(tmps:Array Value)(w:World)(v:Value)(hv:tmps.getD p undef=v)(g:Nat)(t:TypeId)(cs:Array Value)(fr:Nat × Nat)(d:TypeDesc)
  (hp:tmps.getD q undef=.pointer (some ⟨g,0,none⟩)) (hg:w.heap[g]? = some (.cells cs t fr))
  (hu:P.underlying ty=some d) (hd:(match d with|.struct _|.array _ _=>true|_=>false)=true) (hi:(P.info? ty).map (·.size)=some cs.size) :
  (results fn tmps).run P w=.ok (.tuple #[v,.agg cs]) w:=by
 have hp':tmps[q]?.getD undef=.pointer (some ⟨g,0,none⟩):=by simpa using hp
 have hv':tmps[p]?.getD undef=v:=by simpa using hv
 simp[results,h,hp',hv',asAddr,run_loadVar_row w g t ty cs fr d hg hu hd hi]
theorem nU{fn:Func}{p q:Tmp}{ty:TypeId}(h:fn.results=#[.cell q ty,.tmp p])(tmps:Array Value)(w:World)(v:Value)(hv:tmps.getD p undef=v)(g:Nat)(t:TypeId)(cs:Array Value)(fr:Nat × Nat)(d:TypeDesc)
  (hp:tmps.getD q undef=.pointer (some ⟨g,0,none⟩)) (hg:w.heap[g]? = some (.cells cs t fr))
  (hu:P.underlying ty=some d) (hd:(match d with|.struct _|.array _ _=>true|_=>false)=true) (hi:(P.info? ty).map (·.size)=some cs.size) :
  (results fn tmps).run P w=.ok (.tuple #[.agg cs,v]) w:=by
 have hp':tmps[q]?.getD undef=.pointer (some ⟨g,0,none⟩):=by simpa using hp
 have hv':tmps[p]?.getD undef=v:=by simpa using hv
 simp[results,h,hp',hv',asAddr,run_loadVar_row w g t ty cs fr d hg hu hd hi]
end
end Go.Proofs.YtcaallkkeighdaaGreatDoor.P
