/- Items stand where masses do: sums over items are sums over masses. What set tells of a line of masses,by sums over masses;where its last glyph ends. A line of a paragraph that is set to both sides,by its items and its masses. -/
import Derived.Test.YtcaallkkeighdaaGreatDoorR38
set_option maxRecDepth 100000
set_option maxHeartbeats 16000000
set_option linter.unusedVariables false
set_option linter.unusedSimpArgs false
namespace Go.Proofs.YtcaallkkeighdaaGreatDoor.P
open Go.RowKit aD aQ aR
def gTo(B:Nat->Bool)(M:List S99):Nat->Int
 | 0=>0
 | k+1=>gTo B M k+((dY M k).f4+(if B k=true then 0 else (dY M k).f5))
def hTo(M:List S99):Nat->Int
 | 0=>0
 | k+1=>hTo M k+(if (dY M k).f2=3 then (dY M k).f4 / 3 else 0)
inductive Seg (M:List S99) (B:Nat->Bool):Nat->List S75->Prop
 | nil:Seg M B M.length []
 | lone {k:Nat} {I:List S75} (hk:k < M.length) (hb:boxedB (dY M k)=false) (h:Seg M B (k+1) I):Seg M B k (fq (dY M k) :: I)
 | box {k j:Nat} {I:List S75} (hk:k < j) (hj:j<=M.length) (hb:∀ i,k<=i->i < j->boxedB (dY M i)=true) (hB:∀ i,k < i->i < j->B i=false) (h0:B k=true\/(dY M k).f5=0) (h:Seg M B j I):Seg M B k (C5 M k j :: I)
 | pen {k:Nat} {x:S75} {I:List S75} (hk:0 < k) (hB:B k=true) (hx:x=kK (dY M k)/\(dY M (k - 1)).f3=(dY M k).f3\/x=jK (dY M k)) (hb:boxedB (dY M (k - 1))=true) (hb2:boxedB (dY M k)=true) (h:Seg M B k I) (hi:∃ y J,I=y :: J/\y.f0=1):Seg M B k (x :: I)
structure af3(M:List S99):Prop where
 ub:∀ m∈M,boxedB m=false->m.f5=0
 w0:∀ m∈M,m.f2=5\/m.f2=4->m.f4=0
 k0:0 < M.length->(dY M 0).f5=0
 kc:∀ k,k+1 < M.length->(dY M (k+1)).f5=0\/boxedB (dY M k)=true
 st:∀ i j,i < j->j < M.length->(dY M i).f0 < (dY M j).f0
theorem nk(f:S75->Int)(x:S75)(l:List S75):∀ n,bY f (x :: l) (n+1)=f x+bY f l n
 | 0=>by simp[bY,aX]
 | n+1=>by
  rw[bY,nk f x l n];have:aX (x :: l) (n+1)=aX l n:=by unfold aX;simp
  rw[this];simp only[bY];omega
theorem ac6(f:S75->Int)(l:List S75)(a:Nat):∀ n,bY f l (a+n)=bY f l a+bY f (l.drop a) n
 | 0=>by simp[bY]
 | n+1=>by
  rw[<-Nat.add_assoc,bY,ac6 f l a n];have:aX (l.drop a) n=aX l (a+n):=by unfold aX;simp[List.getD_eq_getElem?_getD]
  simp only[bY];rw[this];omega
theorem Aq(l:List S75)(a n:Nat):aX (l.drop a) n=aX l (a+n):=by unfold aX;simp[List.getD_eq_getElem?_getD]
theorem ai4{M:List S99}{B:Nat->Bool}{k:Nat}(h0:B k=true\/(dY M k).f5=0):∀ n,(∀ i,k < i->i < k+n->B i=false)->iE (M.drop k) n=gTo B M (k+n) - gTo B M k
 | 0,_=>by simp[iE]
 | n+1,hB=>by
  have ih:=ai4 h0 n (fun i h1 h2=>hB i h1 (by omega));have e:(M.drop k).getD n z99=dY M (k+n):=by unfold dY;simp[List.getD_eq_getElem?_getD]
  rw[iE,ih,e,<-Nat.add_assoc];simp only[gTo];by_cases hn:0 < n
  .rw[if_pos hn,hB (k+n) (by omega) (by omega)];simp;omega
  .have:n=0:=by omega
   subst this;rw[if_neg hn];rcases h0 with h|h
   .rw[Nat.add_zero,if_pos h];omega
   .rw[Nat.add_zero,h];split<;>omega
theorem ai5{M:List S99}{k:Nat}:∀ n,(∀ i,k<=i->i < k+n->boxedB (dY M i)=true)->hTo M (k+n)=hTo M k
 | 0,_=>rfl
 | n+1,hb=>by
  have ih:=ai5 n (fun i h1 h2=>hb i h1 (by omega));have h:=hb (k+n) (by omega) (by omega);have h3:(dY M (k+n)).f2≠3:=by
   intro q;unfold boxedB at h;rw[q] at h;simp at h
  rw[<-Nat.add_assoc,hTo,ih,if_neg h3];omega
theorem an2{M:List S99}{B:Nat->Bool}(hM:af3 M){k:Nat}(hk:k < M.length)(hb:boxedB (dY M k)=false):gTo B M (k+1)=gTo B M k+jQ (fq (dY M k))/\hTo M (k+1)=hTo M k+iy (fq (dY M k)):=by
 have h5:=hM.ub _ (lV hk) hb;have hw:=hM.w0 _ (lV hk);have e:(if B k=true then (0:Int) else (dY M k).f5)=0:=by split<;>omega
 simp only[gTo,hTo];rw[e];generalize dY M k=m at *;have hk3:m.f2=3\/m.f2=4\/m.f2=5:=by
  unfold boxedB at hb;simp only[Bool.and_eq_false_iff,bne_eq_false_iff_eq] at hb;omega
 rcases hk3 with q|q|q
 .have el:fq m=⟨2,m.f0,m.f1,m.f4,m.f4 / 2,m.f4 / 3,0,false⟩:=by unfold fq;rw[if_pos q]
  rw[el,if_pos q];exact⟨by show _=_+m.f4;omega,rfl⟩
 .have h0:=hw (.inr q);have el:fq m=⟨4,m.f0,m.f1,0,0,0,0,false⟩:=by unfold fq;rw[if_neg (show ¬ m.f2=3 by omega),if_pos q]
  rw[el,if_neg (show ¬ m.f2=3 by omega),h0];exact⟨rfl,rfl⟩
 .have h0:=hw (.inl q);have el:fq m=⟨3,m.f0,m.f1,jl m.f3,0,0,50,true⟩:=by unfold fq;rw[if_neg (show ¬ m.f2=3 by omega),if_neg (show ¬ m.f2=4 by omega)]
  rw[el,if_neg (show ¬ m.f2=3 by omega),h0];exact⟨rfl,rfl⟩
theorem Seg.at{M:List S99}{B:Nat->Bool}(hM:af3 M){k:Nat}{I:List S75}(h:Seg M B k I):∀ n,n<=I.length->∃ c,k<=c/\c<=M.length/\Seg M B c (I.drop n)/\bY jQ I n=gTo B M c - gTo B M k/\bY iy I n=hTo M c - hTo M k:=by
 induction h with
 | nil =>
  intro n hn;have:n=0:=by simpa using hn
  subst this;exact⟨M.length,Nat.le_refl _,Nat.le_refl _,Seg.nil,by simp[bY],by simp[bY]⟩
 | @lone k I hk hb h ih =>
  intro n hn;cases n with
  | zero=>exact⟨k,Nat.le_refl _,by omega,Seg.lone hk hb h,by simp[bY],by simp[bY]⟩
  | succ n =>
   obtain⟨c,h1,h2,h3,h4,h5⟩:=ih n (by simpa using hn);obtain⟨e1,e2⟩:=an2 (B:=B) hM hk hb;refine⟨c,by omega,h2,h3,?_,?_⟩
   .rw[nk,h4,e1];omega
   .rw[nk,h5,e2];omega
 | @box k j I hk hj hb hB h0 h ih =>
  intro n hn;cases n with
  | zero=>exact⟨k,Nat.le_refl _,by omega,Seg.box hk hj hb hB h0 h,by simp[bY],by simp[bY]⟩
  | succ n =>
   obtain⟨c,h1,h2,h3,h4,h5⟩:=ih n (by simpa using hn);have e:k+(j - k)=j:=by omega
   have e1:=ai4 h0 (j - k) (fun i q1 q2=>hB i q1 (by omega));have e2:=ai5 (M:=M) (k:=k) (j - k) (fun i q1 q2=>hb i q1 (by omega));rw[e] at e1 e2;refine⟨c,by omega,h2,h3,?_,?_⟩
   .rw[nk,h4,show jQ (C5 M k j)=iE (M.drop k) (j - k) from rfl,e1];omega
   .rw[nk,h5,show iy (C5 M k j)=0 from rfl,e2];omega
 | @pen k x I hk hB hx hb hb2 h hi ih =>
  intro n hn;have hkl:k<=M.length:=by
   obtain⟨c,h1,h2,_⟩:=ih 0 (Nat.zero_le _);omega
  cases n with
  | zero=>exact⟨k,Nat.le_refl _,hkl,Seg.pen hk hB hx hb hb2 h hi,by simp[bY],by simp[bY]⟩
  | succ n =>
   obtain⟨c,h1,h2,h3,h4,h5⟩:=ih n (by simpa using hn);have e1:jQ x=0:=by rcases hx with⟨rfl,_⟩|rfl<;>rfl
   have e2:iy x=0:=by rcases hx with⟨rfl,_⟩|rfl<;>rfl
   refine⟨c,h1,h2,h3,?_,?_⟩
   .rw[nk,h4,e1];omega
   .rw[nk,h5,e2];omega
theorem ak3{m:S99}(h:(fq m).f0=2):m.f2=3:=by
 unfold fq at h;split at h
 .rename_i q;exact q
 .split at h<;>simp at h
theorem ag1{M:List S99}{k:Nat}{x:S75}(hx:x=kK (dY M k)/\(dY M (k - 1)).f3=(dY M k).f3\/x=jK (dY M k)):x.f0=3/\x.f1=(dY M k).f0:=by
 rcases hx with⟨rfl,_⟩|rfl<;>exact⟨rfl,rfl⟩
theorem Seg.glue{M:List S99}{B:Nat->Bool}:∀ (t k:Nat) (I:List S75),Seg M B k I->t<=I.length->(∀ i,i < t->(aX I i).f0=2)->Seg M B (k+t) (I.drop t)/\∀ i,k<=i->i < k+t->(dY M i).f2=3
 | 0,k,I,h,_,_=>⟨h,fun i h1 h2=>by omega⟩
 | t+1,k,I,h,ht,hg=>by
  have hg0:=hg 0 (by omega);cases h with
  | nil=>simp at ht
  | @lone _ I hk hb h =>
   have q:(dY M k).f2=3:=ak3 hg0;obtain⟨h1,h2⟩:=Seg.glue t (k+1) I h (by simpa using ht) (fun i hi=>by
    have:=hg (i+1) (by omega)
    rwa [show aX (fq (dY M k) :: I) (i+1)=aX I i by unfold aX;simp] at this)
   refine⟨by rw[show k+(t+1)=k+1+t by omega];exact h1,fun i q1 q2=>?_⟩;by_cases e:i=k
   .rw[e];exact q
   .exact h2 i (by omega) (by omega)
  | box hk hj hb hB h0 h=>exact absurd hg0 (by show ¬ ((1:Int)=2);decide)
  | pen hk hB hx hb hb2 h hi =>
   have h3:=(ag1 hx).1;exact absurd (h3.symm.trans hg0) (by decide)
theorem Seg.head{M:List S99}{B:Nat->Bool}(hM:af3 M){k:Nat}{I:List S75}(h:Seg M B k I)(hne:0 < I.length):k < M.length/\(aX I 0).f1=(dY M k).f0/\(B k=true\/(dY M k).f5=0)/\((aX I 0).f0≠2->(dY M k).f2≠3):=by
 induction h with
 | nil=>simp at hne
 | @lone k I hk hb h ih =>
  refine⟨hk,OU _,.inr (hM.ub _ (lV hk) hb),fun q q3=>q ?_⟩;show(fq (dY M k)).f0=2;unfold fq;rw[if_pos q3]
 | @box k j I hk hj hb hB h0 h ih =>
  refine⟨by omega,rfl,h0,fun _ q3=>?_⟩;have:=hb k (Nat.le_refl _) hk;unfold boxedB at this;rw[q3] at this;simp at this
 | @pen k x I hk hB hx hb hb2 h hi ih =>
  obtain⟨y,J,rfl,hy⟩:=hi;obtain⟨h1,_⟩:=ih (by simp);refine⟨h1,(ag1 hx).2,.inl hB,fun _ q3=>?_⟩;unfold boxedB at hb2;rw[q3] at hb2;simp at hb2
theorem Seg.tabs{M:List S99}{B:Nat->Bool}{k:Nat}{I:List S75}(h:Seg M B k I)(hl:iH I=false):∀ i,k<=i->i < M.length->(dY M i).f2≠4:=by
 induction h with
 | nil=>intro i h1 h2;omega
 | @lone k I hk hb h ih =>
  unfold iH at hl ih;rw[List.any_cons,Bool.or_eq_false_iff] at hl;intro i h1 h2 q;by_cases e:i=k
  .subst e;have:(fq (dY M i)).f0=4:=by unfold fq;rw[if_neg (by omega),if_pos q]
   rw[this] at hl;simp at hl
  .exact ih hl.2 i (by omega) h2 q
 | @box k j I hk hj hb hB h0 h ih =>
  unfold iH at hl ih;rw[List.any_cons,Bool.or_eq_false_iff] at hl;intro i h1 h2 q;by_cases e:i < j
  .have:=hb i h1 e;unfold boxedB at this;rw[q] at this;simp at this
  .exact ih hl.2 i (by omega) h2 q
 | @pen k x I hk hB hx hb hb2 h hi ih =>
  unfold iH at hl ih;rw[List.any_cons,Bool.or_eq_false_iff] at hl;exact ih hl.2
theorem ag2(tx:ByteArray)(M:List S99)(pl:List Bool):∀ d k run fr,fr < k->∃ y J,eO tx M pl d k run fr=y :: J/\y.f0=1
 | 0,k,run,fr,h=>by
  unfold eO fO;rw[if_neg (by omega)];exact⟨_,_,rfl,rfl⟩
 | d+1,k,run,fr,h=>by
  have e:fO M fr k=[C5 M fr k]:=by unfold fO;rw[if_neg (by omega)]
  unfold eO;rw[e];split
  .exact⟨_,_,rfl,rfl⟩
  .rw[if_neg (by omega)];split
   .exact⟨_,_,rfl,rfl⟩
   .split
    .exact⟨_,_,rfl,rfl⟩
    .exact ag2 tx M pl d (k+1) run fr (by omega)
theorem ad8{M:List S99}{B:Nat->Bool}{fr k:Nat}{J:List S75}(ZX:fr<=k)(hk:k<=M.length)(hb:∀ i,fr<=i->i < k->boxedB (dY M i)=true)(hB:∀ i,fr < i->i < k->B i=false)(h0:fr < M.length->B fr=true\/(dY M fr).f5=0)(h:Seg M B k J):Seg M B fr (fO M fr k ++ J):=by
 unfold fO;split
 .have:fr=k:=by omega
  subst this;exact h
 .exact Seg.box (by omega) hk hb hB (h0 (by omega)) h
def BOf(M:List S99)(B:Nat->Bool)(fr:Nat)(I:List S75):Prop:=∀ i,fr < i->i < M.length->(B i=true↔∃ x∈I,x.f0=3/\x.f1=(dY M i).f0)
theorem BOf.shut{M:List S99}{B:Nat->Bool}{fr k:Nat}{X:S75}{J:List S75}(hM:af3 M)(h:BOf M B fr (fO M fr k ++ X :: J))(ZX:fr<=k)(hk:k < M.length)(hX:X.f1=(dY M k).f0){fr':Nat}(hf':k<=fr')(hJ:yS M fr' J) :
  (∀ i,fr < i->i < k->B i=false)/\BOf M B fr' J:=by
 have hmem:∀ i,fr < i->i < M.length->B i=true->∃ x∈X :: J,x.f0=3/\x.f1=(dY M i).f0:=fun i h1 h2 hb=>by
  obtain⟨x,hx,e1,e2⟩:=(h i h1 h2).1 hb;rcases List.mem_append.1 hx with q|q
  .unfold fO at q;split at q
   .cases q
   .rw[List.mem_singleton.1 q] at e1;exact absurd e1 (by show ¬ ((1:Int)=3);decide)
  .exact⟨x,q,e1,e2⟩
 refine⟨fun i h1 h2=>?_,fun i h1 h2=>⟨fun hb=>?_,fun hx=>?_⟩⟩
 .cases hb:B i with
  | false=>rfl
  | true =>
   exfalso;obtain⟨x,hx,e1,e2⟩:=hmem i h1 (by omega) hb;have hlt:=hM.st i k h2 hk;rcases List.mem_cons.1 hx with rfl|hx
   .omega
   .obtain⟨j,j1,j2,j3⟩:=hJ.2 x hx;by_cases e:j=k
    .subst e;omega
    .have:=hM.st k j (by omega) j2;omega
 .obtain⟨x,hx,e1,e2⟩:=hmem i (by omega) h2 hb;rcases List.mem_cons.1 hx with rfl|hx
  .have:=hM.st k i (by omega) h2;omega
  .exact⟨x,hx,e1,e2⟩
 .obtain⟨x,hx,e1,e2⟩:=hx;exact(h i (by omega) h2).2 ⟨x,List.mem_append_right _ (List.mem_cons_of_mem _ hx),e1,e2⟩
theorem ac8(tx:ByteArray)(M:List S99)(pl:List Bool)(B:Nat->Bool)(hM:af3 M)(hr:M.Pairwise (fun c e=>c.f0<=e.f0))(hpl:∀ k,k < M.length->pl.getD k false=true->(dY M (k - 1)).f3=(dY M k).f3) :
  ∀ d k run fr,k+d=M.length->fr<=k->(∀ i,fr<=i->i < k->boxedB (dY M i)=true)->(fr < M.length->B fr=true\/(dY M fr).f5=0)->BOf M B fr (eO tx M pl d k run fr)->Seg M B fr (eO tx M pl d k run fr)
 | 0,k,run,fr,hd,ZX,hb,h0,hB=>by
  have hk:k=M.length:=by omega
  unfold eO at hB ⊢;have hB':∀ i,fr < i->i < k->B i=false:=fun i h1 h2=>by
   cases q:B i with
   | false=>rfl
   | true =>
    exfalso;obtain⟨x,hx,e1,e2⟩:=(hB i h1 (by omega)).1 q;unfold fO at hx;split at hx
    .cases hx
    .rw[List.mem_singleton.1 hx] at e1;exact absurd e1 (by show ¬ ((1:Int)=3);decide)
  have:=ad8 (J:=[]) ZX (by omega) hb hB' h0 (by rw[hk];exact Seg.nil)
  rwa [List.append_nil] at this
 | d+1,k,run,fr,hd,ZX,hb,h0,hB=>by
  have hk:k < M.length:=by omega
  unfold eO at hB ⊢;by_cases c1:boxedB (dY M k)=false
  .rw[if_pos c1] at hB ⊢;have hJ:=OV tx M pl hr d (k+1) (k+1) (k+1) (by omega) (Nat.le_refl _);obtain⟨b1,b2⟩:=hB.shut hM ZX hk (OU _) (Nat.le_succ k) hJ;refine ad8 ZX (by omega) hb b1 h0 (Seg.lone hk c1 ?_);refine ac8 tx M pl B hM hr hpl d (k+1) (k+1) (k+1) (by omega) (Nat.le_refl _) (fun i h1 h2=>by omega) (fun hl=>.inr ?_) b2;rcases hM.kc k hl with q|q
   .exact q
   .rw[c1] at q;cases q
  .rw[if_neg c1] at hB ⊢;have c1':boxedB (dY M k)=true:=by simpa using c1
   have hb':∀ i,fr<=i->i < k+1->boxedB (dY M i)=true:=fun i h1 h2=>by
    by_cases e:i=k
    .rw[e];exact c1'
    .exact hb i h1 (by omega)
   by_cases c2:k=fr
   .rw[if_pos c2] at hB ⊢;exact ac8 tx M pl B hM hr hpl d (k+1) run fr (by omega) (by omega) hb' h0 hB
   .rw[if_neg c2] at hB ⊢;have hJ:=OV tx M pl hr d (k+1) run k (by omega) (by omega);have PA:boxedB (dY M (k - 1))=true:=hb (k - 1) (by omega) (by omega);have hgo:∀ X:S75,X.f0=3->X.f1=(dY M k).f0->(X=kK (dY M k)/\(dY M (k - 1)).f3=(dY M k).f3\/X=jK (dY M k))->BOf M B fr (fO M fr k ++ X :: eO tx M pl d (k+1) run k)->Seg M B fr (fO M fr k ++ X :: eO tx M pl d (k+1) run k):=fun X x3 x1 hX hB=>by
     obtain⟨b1,b2⟩:=hB.shut hM ZX hk x1 (Nat.le_refl k) hJ;have hBk:B k=true:=(hB k (by omega) hk).2 ⟨X,List.mem_append_right _ (by simp),x3,x1⟩;refine ad8 ZX (by omega) hb b1 h0 (Seg.pen (by omega) hBk hX PA c1' ?_ (ag2 tx M pl d (k+1) run k (by omega)));exact ac8 tx M pl B hM hr hpl d (k+1) run k (by omega) (by omega) (fun i h1 h2=>by
      have e:i=k:=(by omega);rw[e];exact c1') (fun _=>.inl hBk) b2
    by_cases c3:pl.getD k false=true
    .rw[if_pos c3] at hB ⊢;exact hgo _ rfl rfl (.inl ⟨rfl,hpl k hk c3⟩) hB
    .rw[if_neg c3] at hB ⊢;split
     .rename_i c4
      rw[if_pos c4] at hB;exact hgo _ rfl rfl (.inr rfl) hB
     .rename_i c4
      rw[if_neg c4] at hB;exact ac8 tx M pl B hM hr hpl d (k+1) run fr (by omega) (by omega) hb' h0 hB
theorem ak4(I:List S75)(a:Int):Jm I a=true↔∃ x∈I,x.f0=3/\x.f1=a:=by
 unfold Jm;rw[List.any_eq_true];constructor
 .rintro⟨x,hx,h⟩;rw[Bool.and_eq_true,beq_iff_eq,beq_iff_eq] at h;exact⟨x,hx,h.1,h.2⟩
 .rintro⟨x,hx,h1,h2⟩;exact⟨x,hx,by rw[h1,h2];simp⟩
theorem ac7:∀ (M:List S99) (a b:Int) (c0 c1:Nat),c0<=c1->c1<=M.length->(∀ i,i < M.length->((dY M i).f0 < a↔i < c0))->(∀ i,i < M.length->((dY M i).f0 < b↔i < c1))->M.filter (fun m=>!(decide (m.f0 < a) || decide (b<=m.f0)))=(M.drop c0).take (c1 - c0)
 | [],a,b,c0,c1,h1,h2,ha,hb=>by simp
 | m :: M,a,b,c0,c1,h1,h2,ha,hb=>by
  have a0:=ha 0 (by simp);have b0:=hb 0 (by simp);rw[show dY (m :: M) 0=m from rfl] at a0 b0;have ht:∀ i,dY (m :: M) (i+1)=dY M i:=fun i=>by unfold dY;simp
  cases c1 with
  | zero =>
   have:c0=0:=by omega
   subst this;rw[List.filter_cons_of_neg (by simp;omega)];have ih:=ac7 M a b 0 0 (Nat.le_refl _) (Nat.zero_le _) (fun i hi=>by
    have:=ha (i+1) (by simpa using hi);rw[ht] at this;omega) (fun i hi=>by
    have:=hb (i+1) (by simpa using hi);rw[ht] at this;omega)
   rw[ih];simp
  | succ n1 =>
   have hl:n1<=M.length:=by simpa using h2
   cases c0 with
   | zero =>
    rw[List.filter_cons_of_pos (by simp;omega)];have ih:=ac7 M a b 0 n1 (Nat.zero_le _) hl (fun i hi=>by
     have:=ha (i+1) (by simpa using hi);rw[ht] at this;omega) (fun i hi=>by
     have:=hb (i+1) (by simpa using hi);rw[ht] at this;omega)
    rw[ih];simp
   | succ n0 =>
    rw[List.filter_cons_of_neg (by simp;omega)];have ih:=ac7 M a b n0 n1 (by omega) hl (fun i hi=>by
     have:=ha (i+1) (by simpa using hi);rw[ht] at this;omega) (fun i hi=>by
     have:=hb (i+1) (by simpa using hi);rw[ht] at this;omega)
    rw[ih];simp
theorem ad5(x:S46)(I:List S75)(cp:Int)(MV:cp<=0):∀ (M:List S99) (s:JX),s.kd.length=s.l.length->(∀ j,j < s.l.length->s.kd.getD j false=(decide (0 < j) && !Jm I (dY s.l j).f0)) ->
  ∀ j,j < (iJ x I cp M s).l.length->(iJ x I cp M s).kd.getD j false=(decide (0 < j) && !Jm I (dY (iJ x I cp M s).l j).f0)
 | [],s,h1,h2=>by simpa only[iJ] using h2
 | m :: M,s,h1,h2=>by
  rw[iJ];by_cases c1:zB x m=true
  .have e3:iR x I cp s m=s:=by unfold iR;rw[if_pos c1]
   rw[e3];exact ad5 x I cp MV M s h1 h2
  .have e3:iR x I cp s m=⟨s.l ++ [m],s.kd ++ [decide (0 < s.l.length) && !Jm I m.f0],s.dr⟩:=by unfold iR;rw[if_neg c1,if_neg (by omega)]
   rw[e3];refine ad5 x I cp MV M ⟨s.l ++ [m],s.kd ++ [decide (0 < s.l.length) && !Jm I m.f0],s.dr⟩ (by simp[h1]) (fun j hj=>?_);show(s.kd ++ [_]).getD j false=(decide (0 < j) && !Jm I (dY (s.l ++ [m]) j).f0);have hj':j < s.l.length+1:=by simpa using hj
   by_cases e:j < s.l.length
   .have e1:(s.kd ++ [decide (0 < s.l.length) && !Jm I m.f0]).getD j false=s.kd.getD j false:=by
     simp[List.getD_eq_getElem?_getD,List.getElem?_append_left (show j < s.kd.length by omega)]
    have e2:dY (s.l ++ [m]) j=dY s.l j:=by
     unfold dY;simp[List.getD_eq_getElem?_getD,List.getElem?_append_left e]
    rw[e1,e2];exact h2 j e
   .have:j=s.l.length:=by omega
    subst this;have e1:(s.kd ++ [decide (0 < s.l.length) && !Jm I m.f0]).getD s.l.length false=(decide (0 < s.l.length) && !Jm I m.f0):=by
     rw[<-h1];simp[List.getD_eq_getElem?_getD]
    have e2:dY (s.l ++ [m]) s.l.length=m:=by
     unfold dY;simp[List.getD_eq_getElem?_getD]
    rw[e1,e2]
theorem af4{M:List S99}{c n j:Nat}(h:j < n)(hc:c+n<=M.length):aV ((M.drop c).take n) (j:Int)=dY M (c+j):=by
 unfold aV dY;simp[List.getD_eq_getElem?_getD,List.getElem?_take,h]
theorem ag3{M:List S99}{c n:Nat}(hc:c+(n+1)<=M.length):(M.drop c).take (n+1)=dY M c :: (M.drop (c+1)).take n:=by
 rw[List.drop_eq_getElem_cons (show c < M.length by omega),List.take_succ_cons,sV (by omega)]
theorem ag4{M:List S99}:∀ (n c:Nat),c+n<=M.length->qh ((M.drop c).take n)=hTo M (c+n) - hTo M c
 | 0,c,_=>by simp[qh]
 | n+1,c,h=>by
  rw[ag3 h,qh,ag4 n (c+1) (by omega),show c+1+n=c+(n+1) by omega];simp only[hTo];omega
theorem ak5{l:List S99}{m:S99}(h:m∈l)(h3:m.f2=3):0 < qg l:=by
 induction l with
 | nil=>cases h
 | cons x l ih =>
  have:=(yd l).1;rw[qg];rcases List.mem_cons.1 h with rfl|h
  .rw[if_pos h3];omega
  .have:=ih h;split<;>omega
theorem ai6{M:List S99}{B:Nat->Bool}{kd:List Bool}{X:Int}{c0 n ah:Nat}(hn:c0+n<=M.length)(hah:∀ j,j < ah->j < n->(dY M (c0+j)).f5=0)(hkd:∀ j,j < n->kd.getD j false=(decide (0 < j) && !B (c0+j)))(h0:ah=0->0 < n->B c0=true\/(dY M c0).f5=0)(ht:∀ j,j < n->(dY M (c0+j)).f2≠4) :
  ∀ k,k<=n->n_ kd ah ((M.drop c0).take n) X k=X+(if k<=ah then 0 else gTo B M (c0+k) - gTo B M (c0+ah))
 | 0,_=>by simp[n_]
 | k+1,hk=>by
  have ih:=ai6 (B:=B) (X:=X) hn hah hkd h0 ht k (by omega);have e:=af4 (M:=M) (c:=c0) (n:=n) (j:=k) (by omega) hn;have hkk:=hkd k (by omega);rw[n_,e,ih];unfold SF Rx;rw[hkk];by_cases c1:k < ah
  .have h5:=hah k c1 (by omega);rw[if_pos c1,if_pos (show k<=ah by omega),if_pos (show k+1<=ah by omega),h5];split<;>omega
  .rw[if_neg c1,if_neg (ht k (by omega)),if_neg (show ¬ k+1<=ah by omega)];have e2:gTo B M (c0+(k+1))=gTo B M (c0+k)+((dY M (c0+k)).f4+(if B (c0+k)=true then 0 else (dY M (c0+k)).f5)):=rfl;rw[e2];have e3:(if k<=ah then (0:Int) else gTo B M (c0+k) - gTo B M (c0+ah))=gTo B M (c0+k) - gTo B M (c0+ah):=by
    split
    .have:k=ah:=by omega
     rw[this];omega
    .rfl
   rw[e3];by_cases hk0:0 < k
   .rw[decide_eq_true hk0,Bool.true_and];cases hB:B (c0+k) with
    | true=>simp;omega
    | false=>simp;omega
   .have:k=0:=by omega
    subst this;have ha0:ah=0:=(by omega);have:=h0 ha0 (by omega);rw[Nat.add_zero];rw[if_neg (by simp)];rcases this with q|q
    .rw[if_pos q];omega
    .rw[q];split<;>omega
def af5(ex:Int)(l:List S99):Int:=if ex < 0 then qh l else qg l
theorem ag5:∀ (l:List S99) (m:S99),qg (l ++ [m])=qg l+(if m.f2=3 then 1 else 0)
 | [],m=>by simp[qg]
 | x :: l,m=>by rw[List.cons_append,qg,ag5 l m,qg];omega
theorem ag6:∀ (l:List S99) (m:S99),qh (l ++ [m])=qh l+(if m.f2=3 then m.f4 / 3 else 0)
 | [],m=>by simp[qh]
 | x :: l,m=>by rw[List.cons_append,qh,ag6 l m,qh];omega
theorem ak6(ex:Int)(l:List S99)(m:S99):af5 ex (l ++ [m])=af5 ex l+(if m.f2=3 then partOf ex m else 0):=by
 unfold af5 partOf;split
 .exact ag6 l m
 .exact ag5 l m
theorem ai7(E:gG):∀ k,k<=E.l.length->E.qF k=af5 E.ex ((E.l.take k).drop E.an)
 | 0,_=>by simp[gG.qF,af5,qh,qg]
 | k+1,hk=>by
  have ih:=ai7 E k (by omega);rw[gG.qF,ih];have et:E.l.take (k+1)=E.l.take k ++ [aV E.l (k:Int)]:=by
   rw[List.take_succ_eq_append_getElem (show k < E.l.length by omega)]
   congr 2
   unfold aV;simp[List.getD_eq_getElem?_getD,List.getElem?_eq_getElem (show k < E.l.length by omega)]
  rw[et];have L7:(E.l.take k).length=k:=by rw[List.length_take];omega
  by_cases c:E.an<=k
  .rw[List.drop_append_of_le_length (by omega),ak6];unfold gG.Mg;rw[decide_eq_true c,Bool.and_true];by_cases q:(aV E.l (k:Int)).f2=3
   .rw[if_pos (by rw[q];rfl),if_pos q]
   .rw[if_neg (by simpa using q),if_neg q];omega
  .have hb:E.Mg k=false:=by unfold gG.Mg;rw[decide_eq_false c,Bool.and_false]
   have n1:(E.l.take k ++ [aV E.l (k:Int)]).drop E.an=[]:=List.drop_eq_nil_of_le (by rw[List.length_append,L7];show k+1<=E.an;omega);have n2:(E.l.take k).drop E.an=[]:=List.drop_eq_nil_of_le (by rw[L7];omega);rw[hb,if_neg (by decide),n1,n2]
theorem al8{p:Pa}{x:S46}{last:Bool}(hd:(aO p x).dr=0)(hso:0 < (aO p x).so)(hsl:(aO p x).so<=(aO p x).l.length):rD p x last=(fY p x last).Ew (aO p x).so+(aO p x).hy:=by
 have hlast:∀ (L:List S48) (g:S48),gb p x last=L ++ [g]->rD p x last=g.f2+g.f3:=fun L g h=>by
  unfold rD;rw[h,if_neg (by simp)];have:iG (L ++ [g]) (((L ++ [g]).length - 1:Nat):Int)=g:=by
   unfold iG;simp[List.getD_eq_getElem?_getD]
  rw[this]
 have hH:pF p x=[]:=by unfold pF;rw[hd];rfl
 by_cases c5:x.f5=true
 .refine hlast (pH p x last) ⟨x.f1,x.f1,(fY p x last).Ew (aO p x).so,(aO p x).hy⟩ ?_;rw[vX];unfold AF;rw[if_pos c5]
 .have hy0:(aO p x).hy=0:=by
   show(if x.f5=true then _ else (0:Int))=0;rw[if_neg c5]
  rw[hy0];rcases List.eq_nil_or_concat ((aO p x).l.drop (aO p x).so) with e|⟨L,m,e⟩
  .obtain⟨s,hs⟩:∃ s,(aO p x).so=s+1:=⟨(aO p x).so - 1,by omega⟩;have h:=hlast (pF p x ++ (fY p x last).mR s) ((fY p x last).Wq s) (by
    unfold gb;rw[if_neg c5,e,hs,gG.Aw];simp)
   rw[h,hs];show(fY p x last).gX s+(fY p x last).gW s=(fY p x last).gX s+(fY p x last).gW s+0;omega
  .have h:=hlast (pF p x ++ (fY p x last).mR (aO p x).so ++ L.map (fun m=>(⟨m.f0,m.f1,(fY p x last).Ew (aO p x).so,0⟩:S48))) ⟨m.f0,m.f1,(fY p x last).Ew (aO p x).so,0⟩ (by
    unfold gb;rw[if_neg c5,e];simp)
   rw[h]
theorem ag7{p:Pa}{x:S46}(hz:p.small)(h0:bB p=0)(h2:p.pr.f2=1)(hd:(aO p x).dr=0)(hso:0 < (aO p x).so)(ht:Av (aO p x).l=false)(hb:0 < qg (fA p x))(hs:eP p x < 0->-(eP p x)<=qh (fA p x)):rD p x false=x.f2+x.f3:=by
 obtain⟨e1,e2,_⟩:=mT p x;rw[al8 hd hso e1,RO];show n_ (aO p x).kd (aO p x).ah (aO p x).l x.f2 (aO p x).so+jt p.pr.f2 (eP p x)+(fY p x false).tk (aO p x).so+(aO p x).hy=x.f2+x.f3;have hm:jt p.pr.f2 (eP p x)=0:=by rw[h2];rfl
 have hex:eP p x=x.f3 - (n_ (aO p x).kd (aO p x).ah (aO p x).l x.f2 (aO p x).so+(aO p x).hy - x.f2):=rfl;have hk:(fY p x false).tk (aO p x).so=eP p x:=by
  unfold gG.tk nM;have ao2:=ai7 (fY p x false) (aO p x).so e1;have an3:(fY p x false).qF (aO p x).so=af5 (eP p x) (fA p x):=ao2;have hal:(fY p x false).al=af5 (eP p x) (fA p x):=rfl;have hsp:(fY p x false).sp=(decide (0 < eP p x) || (decide (eP p x < 0) && decide (-(eP p x)<=qh (fA p x)))):=by
   show D5 p x false=_;unfold D5;rw[h2,ht,decide_eq_true hb];simp
  have ap4:(fY p x false).ex=eP p x:=rfl;rw[an3,hal,hsp,ap4];have hpos:eP p x≠0->0 < af5 (eP p x) (fA p x):=fun hne=>by
   unfold af5;split
   .rename_i c
    have:=hs c;omega
   .exact hb
  by_cases c0:eP p x=0
  .rw[c0];simp
  .have hp:=hpos c0;have hc:(decide (0 < eP p x) || (decide (eP p x < 0) && decide (-(eP p x)<=qh (fA p x))))=true:=by
    by_cases c1:0 < eP p x
    .rw[decide_eq_true c1];rfl
    .have c2:eP p x < 0:=(by omega);rw[decide_eq_true c2,decide_eq_true (hs c2)];simp
   rw[if_pos hc];exact Int.mul_tdiv_cancel _ (by omega)
 rw[hk,hm];omega
structure Spr(p:Pa):Prop where
 z:p.small
 c:bB p=0
 al:p.pr.f2=1
 le:p.pr.f13=1
 dr:p.pr.f14=0
 lp:iH (cT p)=false
theorem Spr.cap{p:Pa}(H:Spr p)(l:List S99):ig p l=0:=by
 have:=H.dr;unfold ig;rw[if_pos (.inl (by omega))]
theorem Spr.body{p:Pa}(H:Spr p):bL p=aW p:=by
 have:=H.dr;unfold bL;rw[if_neg (by omega)]
theorem ag8{p:Pa}{m:S99}:∀ (l:List S50) (s:qc),m∈iO p s l->∃ s' c,m=mg p s' c
 | [],s,h=>by cases h
 | c :: l,s,h=>by
  rw[iO] at h;rcases List.mem_cons.1 h with h|h
  .exact⟨s,c,h⟩
  .exact ag8 l _ h
theorem Ga.ix:∀ {l:List S99},Ga l->∀ k,k+1 < l.length->F9 (dY l k) (dY l (k+1))
 | [],_,k,h=>by simp at h
 | [_],_,k,h=>by simp at h
 | a :: b :: l,h,k,hk=>by
  cases k with
  | zero=>exact h.1
  | succ k =>
   have:=Ga.ix (l:=b :: l) h.2 k (by simpa using hk);have e:∀ i,dY (a :: b :: l) (i+1)=dY (b :: l) i:=fun i=>by unfold dY;simp
   rw[e,e];exact this
theorem ak7{p:Pa}(hz:p.small)(h0:bB p=0):af3 (aW p):=by
 have hof:∀ m∈aW p,∃ s c,m=mg p s c:=fun m hm=>by
  unfold aW at hm;rw[if_pos h0] at hm;exact ag8 _ _ hm
 have hr:=yw h0;refine⟨fun m hm hb=>?_,fun m hm hw=>?_,fun hl=>?_,fun k hk=>?_,fun i j hij hj=>?_⟩
 .obtain⟨s,c,rfl⟩:=hof m hm;have hs:shows c.f2=false:=by
   have hb':boxedB (mg p s c)=(c.f2 != 3 && c.f2 != 4 && c.f2 != 5):=rfl;rw[hb'] at hb;unfold shows;simp only[Bool.and_eq_false_iff,bne_eq_false_iff_eq] at hb;rw[Bool.or_eq_false_iff,beq_eq_false_iff_ne,beq_eq_false_iff_ne];omega
  show iN p c (dG s c) s.kn s.bf s.ps=0;unfold iN;rw[hs];simp
 .obtain⟨s,c,rfl⟩:=hof m hm;have hw':c.f2=5\/c.f2=4:=hw;show iM p c (dG s c) (vL s.ma)=0;unfold iM shows;rcases hw' with q|q<;>rw[q]<;>simp
 .have hm0:dY (aW p) 0∈aW p:=lV hl;have e:aW p=iO p (r8 p) (cQ p.tx):=by unfold aW;rw[if_pos h0]
  rw[e] at hl ⊢;cases hc:cQ p.tx with
  | nil=>rw[hc] at hl;simp[iO] at hl
  | cons c l =>
   rw[iO];show iN p c (dG (r8 p) c) (r8 p).kn (r8 p).bf (r8 p).ps=0;unfold iN;rw[show(r8 p).kn=false from rfl];simp
 .rcases Ga.ix (DY hz h0) k hk with q|⟨q,_⟩
  .exact .inl q
  .refine .inr ?_;unfold shows at q;unfold boxedB;rw[Bool.or_eq_true,beq_iff_eq,beq_iff_eq] at q;rcases q with q|q<;>rw[q]<;>rfl
 .have h1:=List.pairwise_iff_getElem.1 hr.1 i j (by omega) hj hij;have h2:=hr.2 _ (List.getElem_mem (l:=aW p) (n:=i) (by omega));rw[sV (by omega),sV hj];omega
theorem ad9(l:List S99)(a:Nat):∀ n b k,b<=k->k < kB l a n b->(dY l k).f3=(dY l a).f3
 | 0,b,k,h,h'=>by unfold kB at h';omega
 | n+1,b,k,h,h'=>by
  unfold kB at h';split at h'
  .rename_i q
   by_cases hk:k=b
   .rw[hk];exact q.2.2
   .exact ad9 l a n (b+1) k (by omega) h'
  .omega
theorem ad4(vs:List Int):∀ j k,k∈jw vs j->2<=k/\k<=(j:Int)+1
 | 0,k,h=>by cases h
 | j+1,k,h=>by
  unfold jw at h;rcases List.mem_append.1 h with h|h
  .have:=ad4 vs j k h;omega
  .split at h
   .have:=List.mem_singleton.1 h;omega
   .cases h
def ae0(ee:List (List Int × List Int)):Bool:=ee.all (fun e=>e.2.all (fun k=>decide (1<=k) && decide (k < (e.1.length:Int))))
theorem af6:ae0 fD=true:=by kernel_rfl
theorem af7{T:Tr}{ee:List (List Int × List Int)}(he:ae0 ee=true)(s:ByteArray)(k:Int)(h:k∈mL T ee s):1<=k/\k < (s.size:Int):=by
 unfold mL at h;split at h
 .cases h
 .split at h
  .rename_i e hx
   unfold qX at hx;have hm:=List.mem_of_find?_eq_some hx;have hd:=List.find?_some hx;have hk:(strOfNums e.1).data.toList=(strOfNums (sK s)).data.toList:=of_decide_eq_true hd;have hl:=congrArg List.length hk;rw[strOfNums_data,strOfNums_data,List.length_map,List.length_map] at hl;have h1:=List.all_eq_true.1 (List.all_eq_true.1 he e hm) k h;rw[Bool.and_eq_true] at h1;have h2:=of_decide_eq_true h1.1;have h4:=of_decide_eq_true h1.2;have h3:(sK s).length=s.size:=by unfold sK;rw[List.length_map,ef]
   omega
  .have:=ad4 _ _ _ h;by_cases hz:s.size - 4=0
   .rw[hz] at h;cases h
   .omega
def aj1(l:List S99)(out:List Bool):Prop:=∀ k,k < l.length->out.getD k false=true->(dY l (k - 1)).f3=(dY l k).f3
theorem ae7{l:List S99}{a e:Nat}(hs:∀ k,a<=k->k < e->(dY l k).f3=(dY l a).f3):∀ (ps:List Int) (out:List Bool),(∀ k∈ps,1<=k/\(a:Int)+k < (e:Int))->aj1 l out->aj1 l (oW out a ps)
 | [],out,_,h=>h
 | k :: ps,out,hp,h=>by
  unfold oW;refine ae7 hs ps _ (fun q hq=>hp q (List.mem_cons_of_mem _ hq)) (fun j hj ht=>?_);have hk:=hp k (by simp);by_cases ej:a+k.toNat=j
  .rw[hs (j - 1) (by omega) (by omega),hs j (by omega) (by omega)]
  .refine h j hj ?_;rw[List.getD_eq_getElem?_getD,List.getElem?_set,if_neg ej] at ht;rw[List.getD_eq_getElem?_getD];exact ht
theorem af8(tx:ByteArray)(l:List S99)(T:Tr)(ee:List (List Int × List Int))(he:ae0 ee=true):∀ n a out,aj1 l out->aj1 l (Je tx l T ee n a out)
 | 0,_,_,h=>h
 | n+1,a,out,h=>by
  unfold Je;split
  .rename_i ha
   split
   .refine af8 tx l T ee he n _ _ (ae7 (e:=kB l a (l.length - a) a) (fun k h1 h2=>ad9 l a _ a k h1 h2) _ _ (fun k hk=>?_) h);have h1:=af7 he _ k hk;have h2:((strOfNums (lD tx l a (kB l a (l.length - a) a - a))).size:Int)=((kB l a (l.length - a) a - a:Nat):Int):=(by rw[strOfNums_size,FP]);have h3:=(xP l a (l.length - a) a (by omega)).1;omega
   .exact af8 tx l T ee he n _ _ h
  .exact h
theorem ak8(tx:ByteArray)(hy:Int)(l:List S99):aj1 l (nH tx hy l):=by
 have h0:aj1 l (List.replicate (l.length+1) false):=fun k hk ht=>by
  rw[List.getD_eq_getElem?_getD,List.getElem?_replicate] at ht;split at ht<;>simp at ht
 unfold nH;split
 .exact h0
 .exact af8 tx l _ _ af6 _ _ _ h0
noncomputable def bk(p:Pa)(k:Nat):Bool:=Jm (cT p) (dY (aW p) k).f0
theorem Spr.seg{p:Pa}(H:Spr p):Seg (aW p) (bk p) 0 (cT p):=by
 have hM:=ak7 H.z H.c;have e:cT p=eO p.tx (aW p) (nH p.tx p.pr.f12 (aW p)) (aW p).length 0 0 0:=by
  unfold cT oO;rw[H.body]
 have hB:BOf (aW p) (bk p) 0 (cT p):=fun i _ _=>ak4 _ _
 rw[e] at hB ⊢;exact ac8 p.tx (aW p) _ (bk p) hM (by have:=Aj p;rwa [H.body] at this) (fun k hk hp=>ak8 _ _ _ k hk hp) _ 0 0 0 (by omega) (Nat.le_refl _) (fun i h1 h2=>by omega) (fun hl=>.inr (hM.k0 hl)) hB
theorem Gs(l:List S75):∀ d i,(∀ j,i<=j->j < cW l d i->(aX l j).f0=2)/\(cW l d i < i+d->(aX l (cW l d i)).f0≠2)
 | 0,i=>⟨fun j h1 h2=>by unfold cW at h2;omega,fun h=>by unfold cW at h;omega⟩
 | d+1,i=>by
  obtain⟨h1,h2⟩:=Gs l d (i+1);unfold cW;split
  .rename_i q
   refine⟨fun j j1 j2=>?_,fun h=>h2 (by omega)⟩;by_cases e:j=i
   .rw[e];exact q
   .exact h1 j (by omega) j2
  .rename_i q
   exact⟨fun j j1 j2=>by omega,fun _=>q⟩
theorem ag9(l:List S75):∀ b j,gP l b<=j->j < b->(aX l j).f0=2
 | 0,j,h1,h2=>by omega
 | b+1,j,h1,h2=>by
  unfold gP at h1;split at h1
  .rename_i q
   by_cases e:j=b
   .rw[e];exact q
   .exact ag9 l b j h1 (by omega)
  .omega
theorem ah0(l:List S75)(a:Nat):∀ b,a<=b->gE l a b=iB l a b
 | 0,h=>by
  have:a=0:=by omega
  subst this;rfl
 | b+1,h=>by
  unfold gE iB gP;by_cases c:(aX l b).f0=2
  .rw[if_pos c];by_cases e:a < b+1
   .rw[if_pos ⟨e,c⟩,ah0 l a b (by omega)];rfl
   .rw[if_neg (fun q=>e q.1)];have:=wV l b;rw[if_pos (by omega)];omega
  .rw[if_neg c,if_neg (fun q=>c q.2),if_neg (by omega)]
theorem ah1(l:List S75)(k:Nat):∀ n,n<=k->(fM (l.take k) n).2=bY iy l n
 | 0,_=>rfl
 | n+1,h=>by
  have e:aX (l.take k) n=aX l n:=by unfold aX;simp[List.getD_eq_getElem?_getD,List.getElem?_take,show n < k by omega]
  simp only[fM,bY];rw[ah1 l k n (by omega),e];rfl
theorem ai0(l:List S75){a b:Nat}(h:a<=b):(ko l a b).2=span iy l a b:=by
 unfold ko span;rw[ah0 l a b h,ah1 _ _ _ (Nat.le_refl _)];have h1:a<=iB l a b:=by unfold iB;split<;>omega
 have:=ac6 iy l a (iB l a b - a);rw[show a+(iB l a b - a)=iB l a b by omega] at this;omega
theorem ah2(l:List S99):∀ k,(∀ i,tu l k<=i->i < k->rz (aV l (i:Int))=true)/\(0 < tu l k->rz (aV l ((tu l k - 1:Nat):Int))=false)
 | 0=>⟨fun i h1 h2=>by omega,fun h=>by unfold tu at h;omega⟩
 | k+1=>by
  obtain⟨h1,h2⟩:=ah2 l k;unfold tu;split
  .rename_i q
   refine⟨fun i i1 i2=>?_,h2⟩;by_cases e:i=k
   .rw[e];exact q
   .exact h1 i i1 (by omega)
  .rename_i q
   exact⟨fun i i1 i2=>by omega,fun _=>by simpa using q⟩
theorem ai8(l:List S99)(so:Nat):∀ d a,so<=a+d->rB l so d a < so->(aV l (rB l so d a:Nat)).f2≠3
 | 0,a,h1,h2=>by unfold rB at h2;omega
 | d+1,a,h1,h2=>by
  unfold rB at h2 ⊢;split
  .rename_i q
   rw[if_pos q] at h2;exact ai8 l so d (a+1) (by omega) h2
  .rename_i q
   rw[if_neg q] at h2;exact fun e=>q ⟨h2,e⟩
theorem ae8{m:S99}(h5:m.f2=5):∀ (L R:List S99) (z:Int),(∀ y∈R,y.f2≠5)->yp (L ++ m :: R) z=m.f3
 | [],R,z,hR=>by
  rw[List.nil_append,yp,if_pos h5];clear h5
  induction R generalizing m with
  | nil=>rfl
  | cons y R ih =>
   rw[yp,if_neg (hR y (by simp))];exact ih (fun q hq=>hR q (List.mem_cons_of_mem _ hq))
 | x :: L,R,z,hR=>by
  rw[List.cons_append,yp];exact ae8 h5 L R _ hR
theorem ae1{M:List S99}{B:Nat->Bool}(hM:af3 M)(hw:∀ m∈M,0<=m.f4){c:Nat}:∀ n,c+n<=M.length->(∀ i,c<=i->i < c+n->rz (dY M i)=true)->gTo B M c - hTo M c<=gTo B M (c+n) - hTo M (c+n)
 | 0,_,_=>Int.le_refl _
 | n+1,hl,hb=>by
  have ih:=ae1 (B:=B) hM hw n (by omega) (fun i h1 h2=>hb i h1 (by omega));have xH:=hb (c+n) (by omega) (by omega);have hin:dY M (c+n)∈M:=lV (by omega);have h4:=hw _ hin;have h5:=hM.ub _ hin (by
   unfold rz at xH;unfold boxedB;rw[Bool.or_eq_true,beq_iff_eq,beq_iff_eq] at xH;rcases xH with q|q<;>rw[q]<;>rfl)
  rw[<-Nat.add_assoc];simp only[gTo,hTo];rw[h5];split<;>split<;>omega
end Go.Proofs.YtcaallkkeighdaaGreatDoor.P
