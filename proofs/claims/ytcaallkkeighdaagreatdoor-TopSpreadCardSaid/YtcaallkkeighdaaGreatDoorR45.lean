/- A line that is set to both sides,has a blank within and is not wider than its blanks' thirds make up for ends at its slot's end. Lines of a paragraph that is set to both sides and is not loose: those that have a blank within and no flag end at their slots' ends. quiretop.blank: if it answers true,a line has a blank within. -/
import Derived.Test.YtcaallkkeighdaaGreatDoorR44
set_option maxRecDepth 100000
set_option maxHeartbeats 16000000
set_option linter.unusedVariables false
set_option linter.unusedSimpArgs false
namespace Go.Proofs.YtcaallkkeighdaaGreatDoor.P
open Go.RowKit aD aQ aR
theorem ac5{m:S99}(h:m.f2=3):rz m=true:=by unfold rz;rw[h];rfl
theorem aj2{m:S99}(h:boxedB m=true):rz m=false:=by
 unfold boxedB at h;unfold rz;simp only[Bool.and_eq_true,bne_iff_ne] at h;rw[Bool.or_eq_false_iff,beq_eq_false_iff_ne,beq_eq_false_iff_ne];omega
def ao3(M:List S99)(I:List S75)(b cb c1:Nat):Prop :=
 (dY M cb).f2=5/\cb < c1/\(∀ i,cb < i->i < c1->(dY M i).f2=3)/\Fh I b=jl (dY M cb).f3 \/
 c1=cb/\0 < cb/\boxedB (dY M (cb - 1))=true/\(dY M (cb - 1)).f3=(dY M cb).f3/\Fh I b=jl (dY M cb).f3
theorem aj3{M:List S99}{B:Nat->Bool}(hM:af3 M){I:List S75}{b cb:Nat}(h:Seg M B cb (I.drop b))(hb:b < I.length) :
  ∃ c1,cb<=c1/\Seg M B c1 (I.drop (gD I b))/\(∀ i,cb<=i->i < c1->rz (dY M i)=true)/\(Es I (b:Int)=true->ao3 M I b cb c1):=by
 have hsr:=iP I b (by omega);by_cases h3:(aX I b).f0=3
 .have hs:gD I b=cW I (I.length - (b+1)) (b+1):=by
   unfold gD;rw[if_pos ⟨hb,h3⟩]
  obtain⟨g1,_⟩:=Gs I (I.length - (b+1)) (b+1);rw[<-hs] at g1;have hr2:=fV I (I.length - (b+1)) (b+1);rw[<-hs] at hr2;have hpw:Fh I b=(aX I b).f3:=by unfold Fh;rw[if_pos ⟨hb,h3⟩]
  have hh:Es I (b:Int)=true->(aX I b).f7=true:=fun q=>by
   unfold Es at q;simp only[Bool.and_eq_true] at q;have:=q.2.2
   simpa using this
  rw[List.drop_eq_getElem_cons hb,<-sE hb] at h;have UF:(I.drop (b+1)).drop (gD I b - (b+1))=I.drop (gD I b):=by rw[List.drop_drop];congr 1;omega
  have hgl:∀ i,i < gD I b - (b+1)->(aX (I.drop (b+1)) i).f0=2:=fun i hi=>by
   rw[Aq];exact g1 _ (by omega) (by omega)
  have L7:gD I b - (b+1)<=(I.drop (b+1)).length:=by rw[List.length_drop];omega
  generalize hy:aX I b=y at h h3 hpw hh;generalize hJ:I.drop (b+1)=J at h UF hgl L7;cases h with
  | lone hk hu h =>
   obtain⟨q1,q2⟩:=Seg.glue _ _ _ h L7 hgl;rw[UF] at q1;have h5:(dY M cb).f2=5:=by
    unfold boxedB at hu;simp only[Bool.and_eq_false_iff,bne_eq_false_iff_eq] at hu;unfold fq at h3;rcases hu with(q|q)|q
    .rw[if_pos q] at h3;simp at h3
    .rw[if_neg (by omega),if_pos q] at h3;simp at h3
    .exact q
   refine⟨_,by omega,q1,fun i i1 i2=>?_,fun hq=>.inl ⟨h5,by omega,fun i i1 i2=>q2 i (by omega) i2,?_⟩⟩
   .by_cases e:i=cb
    .subst e;unfold rz;rw[h5];rfl
    .exact ac5 (q2 i (by omega) i2)
   .rw[hpw];unfold fq;rw[if_neg (by omega),if_neg (by omega)]
  | box hk hj hu hB h0 h=>exact absurd h3 (by show ¬ ((1:Int)=3);decide)
  | pen hk hB hx hu hu2 h hi =>
   obtain⟨y1,J1,e1,e2⟩:=hi;have ht:gD I b - (b+1)=0:=by
    by_cases e:gD I b - (b+1)=0
    .exact e
    .have:=hgl 0 (by omega);rw[e1] at this;rw[show aX (y1 :: J1) 0=y1 from rfl,e2] at this;exact absurd this (by decide)
   obtain⟨q1,q2⟩:=Seg.glue _ _ _ h L7 hgl;rw[UF,ht] at q1;refine⟨cb,Nat.le_refl _,q1,fun i i1 i2=>by omega,fun hq=>.inr ⟨rfl,hk,hu,?_⟩⟩;have h7:=hh hq;rcases hx with⟨rfl,hsz⟩|rfl
   .exact⟨hsz,by rw[hpw];rfl⟩
   .exact absurd h7 (by show ¬ (false=true);decide)
 .have hs:gD I b=cW I (I.length - b) b:=by
   unfold gD;rw[if_neg (fun q=>h3 q.2)]
  obtain⟨g1,_⟩:=Gs I (I.length - b) b;rw[<-hs] at g1;obtain⟨q1,q2⟩:=Seg.glue (gD I b - b) cb _ h (by rw[List.length_drop];omega) (fun i hi=>by
   rw[Aq];exact g1 _ (by omega) (by omega))
  rw[List.drop_drop,show b+(gD I b - b)=gD I b by omega] at q1;refine⟨_,by omega,q1,fun i i1 i2=>ac5 (q2 i i1 i2),fun hq=>?_⟩;unfold Es at hq;rw[show((b:Int)).toNat=b by omega] at hq;simp only[Bool.and_eq_true,decide_eq_true_eq] at hq;exact absurd hq.2.1 h3
theorem ai1{M:List S99}(hM:af3 M){i c:Nat}(hi:i < M.length)(hc:c < M.length):(dY M i).f0 < (dY M c).f0↔i < c:=by
 constructor
 .intro h;by_cases e:i < c
  .exact e
  .exfalso;by_cases e2:i=c
   .subst e2;omega
   .have:=hM.st c i (by omega) hi;omega
 .intro h;exact hM.st i c h hc
theorem aj4{p:Pa}(H:Spr p){x:S46}{c0 c1:Nat}(h1:c0<=c1)(h2:c1<=(aW p).length)(ha:∀ i,i < (aW p).length->((dY (aW p) i).f0 < x.f0↔i < c0))(hb:∀ i,i < (aW p).length->((dY (aW p) i).f0 < x.f1↔i < c1)) :
  (aO p x).l=((aW p).drop c0).take (c1 - c0)/\(aO p x).dr=0/\∀ j,j < c1 - c0->(aO p x).kd.getD j false=(decide (0 < j) && !bk p (c0+j)):=by
 obtain⟨q1,q2,q3,q4⟩:=yA p x;rw[H.cap] at q1 q4;have e:(aO p x).l=((aW p).drop c0).take (c1 - c0):=by
  rw[q1,<-ac7 (aW p) x.f0 x.f1 c0 c1 h1 h2 ha hb];refine List.filter_congr fun m _=>?_
  unfold Cu zB;simp
 refine⟨e,by rw[q4];split<;>rfl,fun j hj=>?_⟩;have hk:=ad5 x (cT p) (ig p (aW p)) (by rw[H.cap];exact Int.le_refl _) (aW p) ⟨[],[],0⟩ rfl (fun j hj=>by simp at hj) j (by
  show j < (aO p x).l.length;rw[e,List.length_take,List.length_drop];omega)
 have e2:(iJ x (cT p) (ig p (aW p)) (aW p) ⟨[],[],0⟩).l=(aO p x).l:=rfl;rw[e2,e] at hk;have e3:dY (((aW p).drop c0).take (c1 - c0)) j=dY (aW p) (c0+j):=by
  have:=af4 (M:=aW p) (c:=c0) (n:=c1 - c0) (j:=j) hj (by omega);rw[<-this];unfold aV dY;simp
 rw[e3] at hk;exact hk
theorem al9(p:Pa){M:List S99}{c0 n so cb:Nat}(hcn:c0+n<=M.length)(h1:c0+so<=cb)(h2:cb < c0+n)(h5:(dY M cb).f2=5)(h3:∀ i,cb < i->i < c0+n->(dY M i).f2=3):rC p ((M.drop c0).take n) so=(dY M cb).f3:=by
 have hsp:((M.drop c0).take n).drop so=(M.drop (c0+so)).take (cb - (c0+so)) ++ dY M cb :: (M.drop (cb+1)).take (c0+n - (cb+1)):=by
  rw[List.drop_take,List.drop_drop];have h1:n - so=(cb - (c0+so))+((c0+n - (cb+1))+1):=by omega
  rw[h1,List.take_add,List.drop_drop,show c0+so+(cb - (c0+so))=cb by omega,ag3 (by omega)]
 unfold rC;rw[hsp];refine ae8 h5 _ _ _ (fun y hy=>?_);obtain⟨j,hj,rfl⟩:=List.getElem_of_mem hy;rw[List.length_take,List.length_drop] at hj;have e2:((M.drop (cb+1)).take (c0+n - (cb+1)))[j]'(by rw[List.length_take,List.length_drop];omega)=dY M (cb+1+j):=by
  rw[List.getElem_take,List.getElem_drop,sV (by omega)]
 rw[e2,h3 (cb+1+j) (by omega) (by omega)];decide
theorem am0(p:Pa){M:List S99}{c0 n:Nat}(hcn:c0+n<=M.length)(h0:0 < n):rC p ((M.drop c0).take n) n=(dY M (c0+(n - 1))).f3:=by
 have e1:((M.drop c0).take n).drop n=[]:=List.drop_eq_nil_of_le (by rw[List.length_take];omega);have e2:=af4 (M:=M) (c:=c0) (n:=n) (j:=n - 1) (by omega) hcn;unfold rC;rw[e1,yp,if_pos h0,e2]
theorem sub_one{c0 c1 n cb:Nat}(h:c1 - c0=n)(h2:c0 < c1)(h3:c1=cb):c0+(n - 1)=cb - 1:=by omega
theorem an4{M:List S99}{c n k:Nat}(hcn:c+n<=M.length)(h1:c<=k)(h2:k < c+n):dY M k∈(M.drop c).take n:=by
 have e2:dY M k=((M.drop c).take n)[k - c]'(by rw[List.length_take,List.length_drop];omega):=by
  rw[List.getElem_take,List.getElem_drop,sV (by omega)]
  congr 1
  omega
 rw[e2];exact List.getElem_mem _
theorem am1{M:List S99}{c n:Nat}(hcn:c+n<=M.length){m:S99}(h:m∈(M.drop c).take n):∃ j,j < n/\m=dY M (c+j):=by
 obtain⟨j,hj,rfl⟩:=List.getElem_of_mem h;rw[List.length_take,List.length_drop] at hj;refine⟨j,by omega,?_⟩;rw[List.getElem_take,List.getElem_drop,sV (by omega)]
theorem ak9{p:Pa}(H:Spr p){x:S46}{A b:Nat}(hAb:A < b)(hb:b < (cT p).length)(hA':gD (cT p) b < (cT p).length)(hAg:(aX (cT p) A).f0≠2)
  (hst:x.f0=0/\(∀ i,i < A->(aX (cT p) i).f0=2)\/x.f0=(aX (cT p) A).f1) (hto:x.f1=(aX (cT p) (gD (cT p) b)).f1) (Wv:x.f5=Es (cT p) (b:Int)) (hfl:nZ (cT p) A b<=x.f3+(ko (cT p) A b).2)
  (hbl:∃ k k2,k < k2/\k2 < (aW p).length/\x.f0<=(dY (aW p) k).f0/\(dY (aW p) k2).f0 < x.f1/\(dY (aW p) k).f2=3/\rz (dY (aW p) k2)=false/\(x.f0=0->∃ k3,k3 < k/\(dY (aW p) k3).f2≠3)) :
  rD p x false=x.f2+x.f3:=by
 have hM:=ak7 H.z H.c;have hS:=H.seg;have hF:=cZ H.z H.c;have hw:∀ m∈aW p,0<=m.f4:=fun m hm=>(hF m hm).1.1
 have htab:=hS.tabs H.lp;obtain⟨M,hMe⟩:∃ M,aW p=M:=⟨_,rfl⟩;obtain⟨I,hIe⟩:∃ I,cT p=I:=⟨_,rfl⟩;obtain⟨B,hBe⟩:∃ B,bk p=B:=⟨_,rfl⟩;have am5:=fun(c0 c1:Nat)=>aj4 (x:=x) (c0:=c0) (c1:=c1) H
 rw[hMe] at hM hS hF hw htab hbl;rw[hIe] at hS hb hA' hAg hst hto Wv hfl;rw[hBe] at hS;rw[hMe,hBe] at am5;obtain⟨cA,c0,k1,SA,k2,k3,k4⟩:∃ cA c0,c0<=cA/\Seg M B cA (I.drop A)/\(∀ i,c0<=i->i < cA->(dY M i).f2=3)/\(∀ i,i < M.length->((dY M i).f0 < x.f0↔i < c0))/\(x.f0≠0->c0=cA):=by
  rcases hst with⟨h1,h2⟩|h1
  .obtain⟨q1,q2⟩:=Seg.glue A 0 I hS (by omega) h2;refine⟨0+A,0,by omega,q1,fun i i1 i2=>q2 i i1 i2,fun i hi=>?_,fun q=>absurd h1 q⟩;have:=(hF _ (lV hi)).2.1.1;omega
  .obtain⟨cA,q1,q2,q3,_⟩:=hS.at hM A (by omega);obtain⟨h2,h3,_⟩:=q3.head hM (by rw[List.length_drop];omega);rw[Aq,Nat.add_zero] at h3;refine⟨cA,cA,Nat.le_refl _,q3,fun i i1 i2=>by omega,fun i hi=>?_,fun _=>rfl⟩;rw[h1,h3];exact ai1 hM hi h2
 obtain⟨hcA,_,hBA,hA3⟩:=SA.head hM (by rw[List.length_drop];omega);rw[Aq,Nat.add_zero] at hA3;have hA3:=hA3 hAg;have aq1:=wV I b;obtain⟨e,he⟩:∃ e,iB I A b=e:=⟨_,rfl⟩;have he1:A<=e/\e<=b/\gP I b<=e:=by
  rw[<-he];unfold iB;split<;>omega
 obtain⟨ce,l1,l2,Se,we,se⟩:=SA.at hM (e - A) (by rw[List.length_drop];omega);rw[List.drop_drop,show A+(e - A)=e by omega] at Se;obtain⟨Sb,gb⟩:=Seg.glue (b - e) ce _ Se (by rw[List.length_drop];omega) (fun i hi=>by
  rw[Aq];exact ag9 I b (e+i) (by omega) (by omega))
 rw[List.drop_drop,show e+(b - e)=b by omega] at Sb;obtain⟨cb,hcb⟩:∃ cb,ce+(b - e)=cb:=⟨_,rfl⟩;rw[hcb] at Sb gb;obtain⟨c1,m1,S1,m2,m3⟩:=aj3 hM Sb hb;obtain⟨hc1,h1f,_⟩:=S1.head hM (by rw[List.length_drop];omega);rw[Aq,Nat.add_zero] at h1f;have ao4:∀ i,i < M.length->((dY M i).f0 < x.f1↔i < c1):=fun i hi=>by rw[hto,h1f];exact ai1 hM hi hc1
 have aa3:∀ i,ce<=i->i < c1->rz (dY M i)=true:=fun i i1 i2=>by
  by_cases q:i < cb
  .exact ac5 (gb i i1 q)
  .exact m2 i (by omega) i2
 have hcc:c0<=c1:=by omega
 obtain⟨el,ed,ek⟩:=am5 c0 c1 hcc (by omega) k3 ao4;obtain⟨n,hn⟩:∃ n,c1 - c0=n:=⟨_,rfl⟩;rw[hn] at el ek;have hcn:c0+n<=M.length:=by omega
 have hll:(aO p x).l.length=n:=by rw[el,List.length_take,List.length_drop];omega
 obtain⟨s1,s2⟩:=ah2 (aO p x).l (aO p x).l.length;have hso:(aO p x).so=tu (aO p x).l (aO p x).l.length:=rfl;rw[<-hso] at s1 s2;obtain⟨a1,a2,a3⟩:=mT p x;have hah:(aO p x).ah=if x.f0=0 then rB (aO p x).l (aO p x).so (aO p x).so 0 else 0:=rfl;have hstop:x.f0=0->(aO p x).ah < (aO p x).so->(aV (aO p x).l ((aO p x).ah:Nat)).f2≠3:=fun h hl=>by
  rw[hah,if_pos h] at hl ⊢;exact ai8 _ _ _ 0 (by omega) hl
 have ao5:x.f0≠0->(aO p x).ah=0:=fun h=>by rw[hah,if_neg h]
 have ap5:(aO p x).hy=if x.f5=true then (cU qG (rC p (aO p x).l (aO p x).so)).1 else 0:=rfl;have hrun:fA p x=((aO p x).l.take (aO p x).so).drop (aO p x).ah:=rfl;have ap6:eP p x=x.f3 - (n_ (aO p x).kd (aO p x).ah (aO p x).l x.f2 (aO p x).so+(aO p x).hy - x.f2):=rfl;have hfin:=fun(hso:0 < (aO p x).so) (ht:Av (aO p x).l=false) (hb:0 < qg (fA p x)) (hs:eP p x < 0->-(eP p x)<=qh (fA p x))=>ag7 H.z H.c H.al ed hso ht hb hs
 generalize (aO p x).hy=hy at *;generalize (aO p x).kd=kd at *;generalize hs0:(aO p x).so=so at *;generalize (aO p x).ah=ah at *;generalize (aO p x).l=l at *;subst el;rw[hll] at s1 a1;have hrd:∀ j,j < n->aV ((M.drop c0).take n) (j:Int)=dY M (c0+j):=fun j hj=>af4 hj hcn
 obtain⟨kb,kc,t1,t2,t3,t4,t5,t6,t7⟩:=hbl;have hkb:c0<=kb:=by
  have:=(k3 kb (by omega));omega
 have hkc:kc < c1:=(ao4 kc t2).1 t4;clear hso;have aq2:kc - c0 < so:=by
  by_cases q:kc - c0 < so
  .exact q
  .exfalso;have:=s1 (kc - c0) (by omega) (by omega);rw[hrd _ (by omega),show c0+(kc - c0)=kc by omega,t6] at this;cases this
 have aq3:ah<=kb - c0:=by
  by_cases q0:x.f0=0
  .obtain⟨k5,u1,u2⟩:=t7 q0;have hc00:c0=0:=by
    have h:=k3 0 (by omega);have:=(hF _ (lV (show 0 < M.length by omega))).2.1.1;omega
   by_cases q:ah<=kb - c0
   .exact q
   .exfalso;have:=a3 k5 (by omega);rw[hrd _ (by omega),hc00,Nat.zero_add] at this;exact u2 this
  .have:=ao5 q0;omega
 have ap7:c0+ah=cA:=by
  by_cases q0:x.f0=0
  .have ao6:=hstop q0 (by omega);rw[hrd _ (by omega)] at ao6;by_cases q1:c0+ah < cA
   .exact absurd (k2 (c0+ah) (by omega) q1) ao6
   .by_cases q2:cA < c0+ah
    .have:=a3 (cA - c0) (by omega);rw[hrd _ (by omega),show c0+(cA - c0)=cA by omega] at this;exact absurd this hA3
    .omega
  .have:=ao5 q0;have:=k4 q0;omega
 have aq4:c0+so<=ce:=by
  by_cases q:c0+so<=ce
  .exact q
  .exfalso;have h:=s2 (by omega);rw[hrd _ (by omega)] at h;have:=aa3 (c0+(so - 1)) (by omega) (by omega);rw[h] at this;cases this
 have am6:fA p x=(M.drop (c0+ah)).take (so - ah):=by
  rw[hrun,List.take_take,List.drop_take,List.drop_drop]
  congr 1
  omega
 have hwT:=ai6 (M:=M) (B:=B) (kd:=kd) (X:=x.f2) (c0:=c0) (n:=n) (ah:=ah) hcn (fun j j1 j2=>by
   have:=a3 j (by omega);rw[hrd j j2] at this;exact hM.ub _ (lV (by omega)) (by unfold boxedB;rw[this];rfl)) ek (fun q0 _=>by
   have:c0=cA:=by omega
   rw[this];exact hBA) (fun j hj=>htab (c0+j) (by omega) (by omega)) so (by omega)
 rw[if_neg (by omega)] at hwT;have Ww:=ag4 (M:=M) (so - ah) (c0+ah) (by omega);rw[<-am6,show c0+ah+(so - ah)=c0+so by omega] at Ww;have ao7:=ae1 (B:=B) hM hw (c:=c0+so) (ce - (c0+so)) (by omega) (fun i i1 i2=>by
  have:=s1 (i - c0) (by omega) (by omega)
  rwa [hrd _ (by omega),show c0+(i - c0)=i by omega] at this)
 rw[show c0+so+(ce - (c0+so))=ce by omega] at ao7;have ap8:span jQ I A b=gTo B M ce - gTo B M cA:=by
  unfold span;rw[he];have:=ac6 jQ I A (e - A);rw[show A+(e - A)=e by omega] at this;omega
 have ap9:(ko I A b).2=hTo M ce - hTo M cA:=by
  rw[ai0 I (by omega)];unfold span;rw[he];have:=ac6 iy I A (e - A);rw[show A+(e - A)=e by omega] at this;omega
 have QY:0<=Fh I b:=by
  unfold Fh;split
  .rename_i q
   have:=(sY H.z H.c (aX I b) (by rw[hIe];exact jI q.1)).w;exact this.1
  .exact Int.le_refl _
 have aq5:hy<=Fh I b:=by
  rw[ap5];split
  .rename_i q5
   rw[Wv] at q5;have hz:rC p ((M.drop c0).take n) so=(dY M cb).f3/\Fh I b=jl (dY M cb).f3:=by
    rcases m3 q5 with⟨v1,v2,v3,v4⟩|⟨v1,v2,v3,v4,v5⟩
    .exact⟨al9 p hcn (by omega) (by omega) v1 (fun i i1 i2=>v3 i i1 (by omega)),v4⟩
    .have aq0:so=n:=by
      by_cases q:so=n
      .exact q
      .exfalso;have:=s1 (n - 1) (by omega) (by omega);have ej:c0+(n - 1)=cb - 1:=sub_one hn (Nat.lt_of_le_of_lt hkb (Nat.lt_trans t1 hkc)) v1;rw[hrd (n - 1) (by omega),ej,aj2 v3] at this;cases this
     have ej:c0+(n - 1)=cb - 1:=sub_one hn (Nat.lt_of_le_of_lt hkb (Nat.lt_trans t1 hkc)) v1;refine⟨?_,v5⟩;rw[aq0,am0 p hcn (by omega),ej,v4]
   rw[hz.1,hz.2];exact Int.le_refl _
  .exact QY
 have aq6:nZ I A b=span jQ I A b+Fh I b:=rfl;refine hfin (by omega) ?_ ?_ ?_
 .unfold Av;rw[List.any_eq_false];intro m hm q;obtain⟨j,hj,rfl⟩:=am1 hcn hm;exact htab (c0+j) (by omega) (by omega) (by simpa using q)
 .rw[am6];have j1:c0+ah+(so - ah)<=M.length:=by omega
  have j2:c0+ah<=kb:=by omega
  have j3:kb < c0+ah+(so - ah):=by omega
  exact ak5 (an4 j1 j2 j3) t5
 .intro hneg;rw[ap6,hwT] at hneg ⊢;rw[Ww];rw[ap7] at *;omega
theorem ae2(s:ByteArray)(a:Nat)(q:Int):∀ d t j,t<=j->j < ext s a q d t->q=1/\pR (bt s (j:Int))=true
 | 0,t,j,h1,h2=>by unfold ext at h2;omega
 | d+1,t,j,h1,h2=>by
  unfold ext at h2;split at h2
  .rename_i c
   by_cases e:j=t
   .subst e;exact⟨c.1,c.2.2.2⟩
   .exact ae2 s a q d (t+1) j (by omega) h2
  .omega
theorem ai9(s:ByteArray):∀ d a i,s.size<=a+d->a<=i->i < s.size->∃ b,rS s b∈cP s d a/\b<=i/\i < fH s b
 | 0,a,i,h1,h2,h3=>by omega
 | d+1,a,i,h1,h2,h3=>by
  have hg:=jf s a;unfold cP;rw[if_pos (by omega)];by_cases c:i < fH s a
  .exact⟨a,by simp,h2,c⟩
  .obtain⟨b,q1,q2,q3⟩:=ai9 s d (fH s a) i (by omega) (by omega) h3;exact⟨b,List.mem_cons_of_mem _ q1,q2,q3⟩
theorem ad6{p:Pa}(hz:p.small)(h0:bB p=0){i:Nat}(hi:i < p.tx.size):∃ k,k < (aW p).length/\(dY (aW p) k).f0<=(i:Int)/\(i:Int) < (dY (aW p) k).f1/\((dY (aW p) k).f0=(i:Int)/\(dY (aW p) k).f2=kindOf (bt p.tx (i:Int))\/(dY (aW p) k).f2=1/\pR (bt p.tx (i:Int))=true):=by
 obtain⟨b,h1,h2,h3⟩:=ai9 p.tx p.tx.size 0 i (by omega) (Nat.zero_le _) hi;have hm:Ct (rS p.tx b)∈(cQ p.tx).map Ct:=List.mem_map_of_mem h1;rw[<-p8 h0] at hm;obtain⟨m,hm1,hm2⟩:=List.mem_map.1 hm;obtain⟨k,hk,rfl⟩:=List.getElem_of_mem hm1;have hf:=(cZ hz h0 _ hm1).2.2;injection hm2 with e1 e2;have MX:(aW p)[k].f0=(b:Int):=e1;have e2':(aW p)[k].f1=(fH p.tx b:Int):=e2;refine⟨k,hk,?_⟩;rw[sV hk,hf,MX,e2'];refine⟨by omega,by omega,?_⟩;by_cases c:b=i
 .subst c;exact .inl ⟨rfl,rfl⟩
 .exact .inr (ae2 p.tx b _ 3 (b+1) i (by omega) h3)
def af9(tx:ByteArray)(x:S46):Prop:=∃ i j:Nat,x.f0<=(i:Int)/\i < j/\(j:Int) < x.f1/\bt tx (i:Int)=32/\bt tx (j:Int)≠32/\bt tx (j:Int)≠31/\(x.f0=0->∃ h:Nat,h < i/\bt tx (h:Int)≠32)
theorem ae3{c:Int}(h:kindOf c=3):c=32:=by
 unfold kindOf at h;by_cases h1:fP c=true
 .rw[if_pos h1] at h;omega
 .rw[if_neg h1] at h;by_cases h2:c=32
  .exact h2
  .rw[if_neg h2] at h
   repeat' split at h
   all_goals omega
theorem aj5{c:Int}(h:kindOf c=5):c=31:=by
 unfold kindOf at h;by_cases h1:fP c=true
 .rw[if_pos h1] at h;omega
 .rw[if_neg h1] at h;by_cases h2:c=31
  .exact h2
  .repeat' split at h
   all_goals omega
theorem aj6{p:Pa}{x:S46}(hz:p.small)(h0:bB p=0)(hx:x.f1<=(p.tx.size:Int))(h:af9 p.tx x):∃ k k2,k < k2/\k2 < (aW p).length/\x.f0<=(dY (aW p) k).f0/\(dY (aW p) k2).f0 < x.f1/\(dY (aW p) k).f2=3/\rz (dY (aW p) k2)=false/\(x.f0=0->∃ k3,k3 < k/\(dY (aW p) k3).f2≠3):=by
 have hM:=ak7 hz h0;obtain⟨i,j,h1,h2,h3,h4,h5,h6,h7⟩:=h;obtain⟨k,a1,a2,a3,a4⟩:=ad6 hz h0 (i:=i) (by omega);obtain⟨k2,b1,b2,b3,b4⟩:=ad6 hz h0 (i:=j) (by omega);have hk:(dY (aW p) k).f0=(i:Int)/\(dY (aW p) k).f2=3:=by
  rcases a4 with⟨q1,q2⟩|⟨q1,q2⟩
  .rw[h4] at q2;exact⟨q1,q2⟩
  .rw[h4] at q2;exact absurd q2 (by decide)
 have hk2:rz (dY (aW p) k2)=false:=by
  unfold rz;rw[Bool.or_eq_false_iff,beq_eq_false_iff_ne,beq_eq_false_iff_ne];rcases b4 with⟨q1,q2⟩|⟨q1,q2⟩
  .rw[q2];exact⟨fun q=>h5 (ae3 q),fun q=>h6 (aj5 q)⟩
  .rw[q1];decide
 have hlt:k < k2:=by
  by_cases c:k < k2
  .exact c
  .exfalso;by_cases c2:k=k2
   .subst c2;rw[ac5 hk.2] at hk2;cases hk2
   .have hr:=yw h0;have:=List.pairwise_iff_getElem.1 hr.1 k2 k b1 a1 (by omega);rw[sV b1] at b3;have hk1:=hk.1;rw[sV a1] at hk1;omega
 refine⟨k,k2,hlt,b1,by rw[hk.1];exact h1,by omega,hk.2,hk2,fun q0=>?_⟩;obtain⟨g,g1,g2⟩:=h7 q0;obtain⟨k3,c1,c2,c3,c4⟩:=ad6 hz h0 (i:=g) (by omega);refine⟨k3,(ai1 hM c1 a1).1 (by rw[hk.1];omega),?_⟩;rcases c4 with⟨q1,q2⟩|⟨q1,q2⟩
 .rw[q2];exact fun q=>g2 (ae3 q)
 .rw[q1];decide
def an5(I:List S75)(x:S46):Prop:=∃ A b:Nat,A < b/\b < I.length/\gD I b < I.length/\(aX I A).f0≠2/\(x.f0=0/\(∀ i,i < A->(aX I i).f0=2)\/x.f0=(aX I A).f1)/\x.f1=(aX I (gD I b)).f1/\x.f5=Es I (b:Int)/\(x.f6=0->nZ I A b<=x.f3+(ko I A b).2)
theorem ah3{I:List S75}{bf:Int}(h:lstart I bf < I.length):(aX I (lstart I bf)).f0≠2:=by
 unfold lstart at h ⊢;split
 .rename_i c
  rw[if_pos c] at h;exact(Gs I I.length 0).2 (by unfold jo at h;omega)
 .rename_i c
  rw[if_neg c] at h;unfold gD at h ⊢;simp only[] at h ⊢;refine(Gs I _ _).2 ?_;have:=fV I (I.length - (if bf.toNat < I.length/\(aX I bf.toNat).f0=3 then bf.toNat+1 else bf.toNat)) (if bf.toNat < I.length/\(aX I bf.toNat).f0=3 then bf.toNat+1 else bf.toNat);omega
theorem ae4(I:List S75)(b:Nat):lstart I (b:Int)=gD I b:=by
 unfold lstart;rw[if_neg (by omega)];rfl
theorem al0(I:List S75)(S:List S30)(r:S30)(tl:Int):∀ (P:List S72) (n:Nat) (bf fr:Int),Chain I S r n bf P->(bf = -1/\fr=0\/fr=(aX I (lstart I bf)).f1)->∀ i,i+1 < P.length->an5 I (dJ (oX I S r tl false false n fr P) (i:Int))
 | [],n,bf,fr,h,hf,i,hi=>by simp at hi
 | [y],n,bf,fr,h,hf,i,hi=>by simp at hi
 | y :: q :: Q,n,bf,fr,h,hf,i,hi=>by
  obtain⟨b,h1,h2,h3,rfl,h4⟩:=h;have h4':=h4;obtain⟨b',g1,g2,g3,rfl,g4⟩:=h4;have hbl:b < I.length:=by omega
  have eto:FY I tl (Bw I (bG S r (n+1)).f1 (b:Int) (b':Int) :: Q)=(aX I (gD I b)).f1:=by
   show(aX I ((lstart I (b:Int):Nat):Int).toNat).f1=_;rw[ae4];rfl
  cases i with
  | zero =>
   unfold gJ at h1;rw[if_neg (by omega)] at h1;simp only[Bool.and_eq_true,decide_eq_true_eq] at h1;obtain⟨_,f1,f2⟩:=h1;refine⟨lstart I bf,b,f1,hbl,f2,ah3 (by omega),?_,eto,rfl,fun hfl=>?_⟩
   .rcases hf with⟨rfl,rfl⟩|hf
    .exact .inl ⟨rfl,fun i hi=>(Gs I I.length 0).1 i (Nat.zero_le _) hi⟩
    .exact .inr hf
   .have e:mw false false (decide ((bG S r n).f1 < nZ I (lstart I bf) b)) (nZ I (lstart I bf) b) (bG S r n).f1 (ko I (lstart I bf) b).2=0:=hfl;unfold mw at e;by_cases c:(bG S r n).f1+(ko I (lstart I bf) b).2 < nZ I (lstart I bf) b
    .rw[decide_eq_true c] at e;simp at e
    .exact Int.not_lt.1 c
  | succ i =>
   have ih:=al0 I S r tl (Bw I (bG S r (n+1)).f1 (b:Int) (b':Int) :: Q) (n+1) (b:Int) (aX I (gD I b)).f1 h4' (.inr (by rw[ae4])) i (by simpa using hi);rw[oX,eto];have e:∀ (z:S46) (L:List S46),dJ (z :: L) ((i+1:Nat):Int)=dJ L (i:Int):=fun z L=>by unfold dJ;simp
   rw[e];exact ih
theorem ah4{p:Pa}(H:Spr p)(S:List S30)(r:S30):Jh p S r=if (leastOf (cT p) (eF p S r).1 (eF p S r).2).2.2=0 then ((leastOf (cT p) (eF p S r).1 (eF p S r).2).1,false,false) else (iA (cT p) (eF p S r).1 (eF p S r).2,true,true):=by
 unfold Jh eU;rw[if_pos ⟨H.le,H.lp⟩]
theorem ae5(I:List S75)(S:List S30)(r:S30)(tl:Int)(fits loose:Bool):∀ (P:List S72) (n:Nat) (fr:Int),∀ x∈oX I S r tl fits loose n fr P,(loose=true->x.f6=2\/x.f6=3)/\(loose=false->x.f6=0\/x.f6=1)
 | [],n,fr,x,h=>by cases h
 | y :: Q,n,fr,x,h=>by
  rw[oX] at h;rcases List.mem_cons.1 h with rfl|h
  .refine⟨fun q=>?_,fun q=>?_⟩<;>(show mw _ _ _ _ _ _=_\/mw _ _ _ _ _ _=_;subst q;unfold mw;by_cases c:(fits && y.f2 || !fits && decide ((bG S r n).f1+(ko I y.f0.toNat y.f1.toNat).2 < y.f4))=true<;>simp only[c,if_true,if_false]<;>decide)
  .exact ae5 I S r tl fits loose Q _ _ x h
theorem ah5{p:Pa}{S:List S30}{r:S30}(H:Spr p)(hL:DL p S r)(h0:(leastOf (cT p) (eF p S r).1 (eF p S r).2).2.2=0){i:Nat}{x:S46}(hi:i+1 < (iQ p S r).length)(hx:dJ (iQ p S r) (i:Int)=x)(hsz:x.f1<=(p.tx.size:Int))(hf:x.f6=0)(hb:af9 p.tx x):rD p x false=x.f2+x.f3:=by
 have hok:=hL ⟨H.le,H.lp⟩ h0;have hl:=ah4 H S r;rw[if_pos h0] at hl;unfold iQ at hi hx;rw[hl] at hi hx;rw[mQ] at hi;rcases hok.2 with⟨_,e⟩|⟨_,hc⟩
 .rw[e] at hi;simp at hi
 .have h:=al0 _ _ _ (p.tx.size:Int) _ 0 (-1) 0 hc (.inl ⟨rfl,rfl⟩) i hi;rw[hx] at h;obtain⟨A,b,q1,q2,q3,q4,q5,q6,q7,q8⟩:=h;exact ak9 H q1 q2 q3 q4 q5 q6 q7 (q8 hf) (aj6 H.z H.c hsz hb)
def ag0(tx:ByteArray)(x:S46)(w:World)(e:Ending)(w':World):Prop:=∃ b,e=.returned (.bool b)/\(b=true->af9 tx x)/\Below w.heap.size w w'
theorem ag0.no(tx:ByteArray)(x:S46){w w':World}(h:Below w.heap.size w w'):ag0 tx x w (.returned (.bool false)) w':=⟨false,rfl,fun q=>(by cases q),h⟩
theorem ai2(tx:ByteArray)(x:S46)(h0:0<=x.f0)(h1:x.f0<=x.f1)(h2:x.f1<=(tx.size:Int))(hs:tx.size<=300)(w:World) :
  Calls Tryz.prog 16 #[.string tx,.agg (tH x)] w (ag0 tx x w):=by
 have HB0:=aj ((Below.refl w.heap.size w).alloc (Nat.le_refl _) (.cells (tH x) 46));have HX:=aj (aH w (.cells (tH x) 46));have HN:=aj (show 0<=x.f0/\x.f0<=x.f1/\x.f1<=(tx.size:Int)/\tx.size<=300 from ⟨h0,h1,h2,hs⟩);clear h0 h1 h2 hs;go_enter Tryz.func16,Tryz.ntmps16;go_upto_region 1 with(fail);obtain⟨b,hb⟩:∃ b,w.heap.size=b:=⟨_,rfl⟩;have mK:=aj hb;rw[hb] at HX ⊢;generalize w.alloc (.cells (tH x) 46)=w0 at *;clear hb;have c0:w0.cell? ⟨b,0,none⟩=some (.int .i64 x.f0):=(ak HX.out 0).trans rfl;have c1:w0.cell? ⟨b,1,none⟩=some (.int .i64 x.f1):=(ak HX.out 1).trans rfl;go_region;have HXD:=aj (show w0.drew.heap[b]? = some (.cells (tH x) 46 (0,0)) from HX.out);have Br:=aj (show Below w.heap.size w w0.drew from HB0.out.drew);generalize w0.drew=wd at *;clear c0 c1;simp only[Exit.then]
 rename_i hK
 refine hK _ _ ?_;clear hK;go_upto_block 0 with(fail);obtain⟨f0,hf0⟩:∃ z,x.f0=z:=⟨_,rfl⟩;obtain⟨f1,hf1⟩:∃ z,x.f1=z:=⟨_,rfl⟩;have HF:=aj (And.intro hf0 hf1);rw[hf0,hf1] at HN;have c0:wd.cell? ⟨b,0,none⟩=some (.int .i64 f0):=by rw[<-hf0];exact(ak HXD.out 0).trans rfl
 rw[hf0,hf1];clear hf0 hf1;go_cut [5] (fun v5 wc=>∃ y:Int,v5=.int .i64 y/\aC (f0<=y/\y<=f1/\(f0=0->y < f1->bt tx y≠32))/\wc=wd)
 case first =>
  go_wp2;go_loopw [5] (fun v5 wq=>∃ y:Int,v5=.int .i64 y/\aC (f0<=y/\y<=f1)/\wq=wd) (fun v5 _=>(f1 - intOf v5).toNat)
  case atStart=>exact⟨f0,rfl,⟨by have:=HN.out;omega⟩,rfl⟩
  case round =>
   obtain⟨y,rfl,hy,rfl⟩:=hrel;by_cases q0:f0=0
   .have HQ0:=aj q0;have d0:(f0 == 0)=true:=(by rw[q0];rfl);clear q0;by_cases q1:y < f1
    .have d1:decide (y < f1)=true:=decide_eq_true q1;have HQ1:=aj q1;have hx:=nN tx y;have hb:=mz tx y;have p6:(0<=y)=True:=eq_true (by have:=HN.out;have:=hy.out;omega);have q6:(y < (tx.size:Int))=True:=eq_true (by have:=HN.out;omega);have a1:IntKind.i64.wrap (y+1)=y+1:=IntWalk.i64_in _ (by have:=HN.out;have:=hy.out;omega);have a2:wrap64 (y+1)=y+1:=dN _ (by have:=HN.out;have:=hy.out;omega);clear q1;by_cases q2:bt tx y=32
     .have d2:(bt tx y == 32)=true:=(by rw[q2];rfl);clear q2;go_wp2;go_roundw
      case rel=>exact⟨y+1,rfl,⟨by have:=hy.out;have:=HQ1.out;omega⟩,by first|rfl|trivial⟩
      case measure=>have:=HQ1.out;simp[intOf];omega
     .have d2:(bt tx y == 32)=false:=(by simpa using q2);have HQ2:=aj q2;clear q2;go_wp2;go_meet
      case rel=>exact⟨y,rfl,⟨hy.out.1,hy.out.2,fun _ _=>HQ2.out⟩,rfl⟩
    .have d1:decide (y < f1)=false:=decide_eq_false q1;have HQ1:=aj q1;clear q1;go_wp2;go_meet
     case rel=>exact⟨y,rfl,⟨hy.out.1,hy.out.2,fun _ h=>by have:=HQ1.out;omega⟩,rfl⟩
   .have d0:(f0 == 0)=false:=(by simpa using q0);have HQ0:=aj q0;clear q0;go_wp2;go_meet
    case rel=>exact⟨y,rfl,⟨hy.out.1,hy.out.2,fun h=>absurd h HQ0.out⟩,rfl⟩
 case rest =>
  obtain⟨fs,rfl,hfs,rfl⟩:=hcut
  rename_i hK
  refine hK _ _ ?_;clear hK;go_upto_block 2 with(fail);go_cut [6] (fun v6 wc2=>∃ y:Int,v6=.int .i64 y/\aC (fs<=y/\y<=f1/\(fs < y->bt tx (y - 1)≠32/\bt tx (y - 1)≠31))/\wc2=wc)
  case first =>
   go_wp2;go_loopw [6] (fun v6 wq=>∃ y:Int,v6=.int .i64 y/\aC (fs<=y/\y<=f1)/\wq=wc) (fun v6 _=>(intOf v6 - fs).toNat)
   case atStart=>exact⟨f1,rfl,⟨by have:=hfs.out;omega⟩,rfl⟩
   case round =>
    obtain⟨y,rfl,hy,rfl⟩:=hrel;by_cases q1:fs < y
    .have d1:decide (fs < y)=true:=decide_eq_true q1;have HQ1:=aj q1;have hx:=nN tx (y - 1);have hb:=mz tx (y - 1);have p6:(0<=y - 1)=True:=eq_true (by have:=HN.out;have:=hy.out;have:=hfs.out;omega);have q6:(y - 1 < (tx.size:Int))=True:=eq_true (by have:=HN.out;have:=hy.out;omega);have p7:0<=y - 1:=of_eq_true p6;have q7:y - 1 < (tx.size:Int):=of_eq_true q6;have p8:1<=y:=(by omega);have e8:(y - 1).toNat=y.toNat - 1:=(by omega);have hx2:∀ h:y.toNat - 1 < tx.size,((tx[y.toNat - 1]'h).toNat:Int)=bt tx (y - 1):=fun h=>by
      have:=nN tx (y - 1) (by rw[e8];exact h)
      simpa only[e8] using this
     clear e8;have a1:IntKind.i64.wrap (y - 1)=y - 1:=IntWalk.i64_in _ (by have:=HN.out;omega);have a2:wrap64 (y - 1)=y - 1:=dN _ (by have:=HN.out;omega);clear q1;by_cases q2:bt tx (y - 1)=32
     .have d2:(bt tx (y - 1) == 32)=true:=(by rw[q2];rfl);clear q2;go_wp2;go_roundw
      case rel=>exact⟨y - 1,rfl,⟨by have:=hy.out;have:=HQ1.out;omega⟩,by first|rfl|trivial⟩
      case measure=>have:=HQ1.out;simp[intOf];omega
     .have d2:(bt tx (y - 1) == 32)=false:=(by simpa using q2);by_cases q3:bt tx (y - 1)=31
      .have d3:(bt tx (y - 1) == 31)=true:=(by rw[q3];rfl);clear q2 q3;go_wp2;go_roundw
       case rel=>exact⟨y - 1,rfl,⟨by have:=hy.out;have:=HQ1.out;omega⟩,by first|rfl|trivial⟩
       case measure=>have:=HQ1.out;simp[intOf];omega
      .have d3:(bt tx (y - 1) == 31)=false:=(by simpa using q3);have HQ2:=aj (And.intro q2 q3);clear q2 q3;go_wp2;go_meet
       case rel=>exact⟨y,rfl,⟨hy.out.1,hy.out.2,fun _=>HQ2.out⟩,rfl⟩
    .have d1:decide (fs < y)=false:=decide_eq_false q1;have HQ1:=aj q1;clear q1;go_wp2;go_meet
     case rel=>exact⟨y,rfl,⟨hy.out.1,hy.out.2,fun h=>by have:=HQ1.out;omega⟩,rfl⟩
  case rest =>
   obtain⟨ls,rfl,hls,rfl⟩:=hcut;go_wp2;go_loopw [7] (fun v7 wq=>∃ y:Int,v7=.int .i64 y/\aC (fs<=y/\y<=ls)/\wq=wc) (fun v7 _=>(ls - intOf v7).toNat)
   case atStart=>exact⟨fs,rfl,⟨by have:=hls.out;omega⟩,rfl⟩
   case round =>
    obtain⟨y,rfl,hy,rfl⟩:=hrel;by_cases q1:y < ls
    .have d1:decide (y < ls)=true:=decide_eq_true q1;have HQ1:=aj q1;have hx:=nN tx y;have hb:=mz tx y;have p6:(0<=y)=True:=eq_true (by have:=HN.out;have:=hy.out;have:=hfs.out;omega);have q6:(y < (tx.size:Int))=True:=eq_true (by have:=HN.out;have:=hls.out;omega);have p7:0<=y:=of_eq_true p6;have q7:y < (tx.size:Int):=of_eq_true q6;have a1:IntKind.i64.wrap (y+1)=y+1:=IntWalk.i64_in _ (by have:=HN.out;have:=hy.out;omega);have a2:wrap64 (y+1)=y+1:=dN _ (by have:=HN.out;have:=hy.out;omega);clear q1;by_cases q2:bt tx y=32
     .have d2:(bt tx y == 32)=true:=(by rw[q2];rfl);have HQ2:=aj q2;clear q2;go_wp2;go_ret;refine⟨true,rfl,fun _=>?_,Br.out⟩;have a1:=HQ1.out;have a2:=HQ2.out;have a3:=HN.out;have a4:=hfs.out;have a5:=hls.out;have a6:=hy.out;have a7:=HF.out;obtain⟨b1,b2⟩:=a5.2.2 (by omega);have hne:y≠ls - 1:=fun q=>b1 (by rw[<-q];exact a2)
      have ey:((y.toNat:Nat):Int)=y:=(by omega);have el:(((ls - 1).toNat:Nat):Int)=ls - 1:=(by omega);refine⟨y.toNat,(ls - 1).toNat,by omega,by omega,by omega,by rw[ey];exact a2,by rw[el];exact b1,by rw[el];exact b2,fun h0=>?_⟩;have h3:=a4.2.2 (by omega) (by omega);have aq7:fs≠y:=fun q=>h3 (by rw[q];exact a2)
      have ef:((fs.toNat:Nat):Int)=fs:=(by omega);exact⟨fs.toNat,by omega,by rw[ef];exact h3⟩
     .have d2:(bt tx y == 32)=false:=(by simpa using q2);clear q2;go_wp2;go_roundw
      case rel=>exact⟨y+1,rfl,⟨by have:=hy.out;have:=HQ1.out;omega⟩,by first|rfl|trivial⟩
      case measure=>have:=HQ1.out;simp[intOf];omega
    .have d1:decide (y < ls)=false:=decide_eq_false q1;clear q1;go_wp2;go_ret;exact ag0.no tx x Br.out
end Go.Proofs.YtcaallkkeighdaaGreatDoor.P
