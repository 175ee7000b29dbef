/- Tab stops where there are none of one's own: for every place that is not below 0;a hyphen's width. Whether a mass stands in a Box;the natural width of a run of masses. The item of a mass that stands in no Box;the Box of masses. The Box of masses. item.Check and item.Leaps of items that may be. -/
import Derived.Test.YtcaallkkeighdaaGreatDoorR12
set_option maxRecDepth 100000
set_option maxHeartbeats 16000000
set_option linter.unusedVariables false
set_option linter.unusedSimpArgs false
namespace Go.Proofs.YtcaallkkeighdaaGreatDoor.P
open Go.RowKit aD aQ aR
theorem E5(x:Int)(f:Value)(w:World):Calls Tryz.prog 158 #[.slice none 0 0,.int .i64 x,f] w fun e w'=>e=.returned (.tuple #[.int .i64 0,.bool false])/\w'=w:=by
 go_enter Tryz.func158,Tryz.ntmps158;go_wp2;go_loop [9,10] (fun v9 v10=>v9=.int .i64 0/\v10=.int .i64 0) (fun _ _=>0)
 case atStart=>exact⟨rfl,rfl⟩
 case round =>
  obtain⟨rfl,rfl⟩:=hrel;go_wp2;go_ret2;exact⟨rfl,rfl⟩
theorem wS(w:World):Calls Tryz.prog 133 #[.slice none 0 0] w fun e w'=>e=.returned (.int .i64 0)/\w'=w:=by
 go_enter Tryz.func133,Tryz.ntmps133;go_wp2;go_loop [11] (fun v11=>v11=.int .i64 0) (fun _=>0)
 case atStart=>exact rfl
 case round =>
  obtain rfl:=hrel;go_wp2;go_ret;exact⟨rfl,rfl⟩
def eM(x:Int):Int:=(x / 48+1) * 48
theorem E6(x:Int)(w:World)(h0:0<=x)(h1:x<=1000000000):Calls Tryz.prog 134 #[.slice none 0 0,.int .i64 x] w fun e w'=>e=.returned (.agg #[.int .i64 (eM x),.int .i64 0])/\Below w.heap.size w w':=by
 have HZ:=aj (aH w (.cells #[.int .i64 0,.int .i64 0] 180));go_enter Tryz.func134,Tryz.ntmps134;go_wp2_with (go_at_call 158;refine(E5 _ _ _).mono ?_;rintro e w7 ⟨rfl,q_⟩;have q_:=q_.symm;subst q_);have hb:Below w.heap.size w (w.alloc (.cells #[.int .i64 (eM x),.int .i64 0] 180)):=(Below.refl _ _).alloc (Nat.le_refl _) _;refine bodyPost_ret (results_cell_row Tryz.results134 _ _ w.heap.size 180 #[.int .i64 (eM x),.int .i64 0] (0,0) _ rfl (aH _ _) Tryz.underlying180 rfl (by kernel_rfl)) rfl ?_;exact⟨rfl,hb⟩
theorem uT(x:Int)(w:World)(h0:0<=x)(h1:x<=8190):Calls Tryz.prog 115 #[.slice none 0 0,.int .i64 x] w fun e w'=>e=.returned (.tuple #[.agg #[.int .i64 (eM x),.int .i64 0],.int .i64 0])/\Below w.heap.size w w':=by
 have HX0:=aj h0;have HX1:=aj (show x<=1000000000 by omega);have d1:decide (x < 0)=false:=decide_eq_false (by omega);have d2:decide (8190 < x)=false:=decide_eq_false (by omega);clear h0 h1;go_enter Tryz.func115,Tryz.ntmps115;go_wp2_with (first|(go_at_call 133;refine(wS _).mono ?_;rintro e w7 ⟨rfl,q_⟩;have q_:=q_.symm;subst q_)|(go_at_call 134;go_loud(refine(E6 x _ HX0.out HX1.out).mono ?_;rintro e w8 ⟨rfl,hb8⟩;have hz8:=ay (aH w (.cells #[.int .i64 0,.int .i64 0] 180)) hb8;have HZ8:=aj hz8;have c0:w8.cell? ⟨w.heap.size,0,none⟩=some (.int .i64 0):=(ak hz8 0).trans rfl;have c1:w8.cell? ⟨w.heap.size,1,none⟩=some (.int .i64 0):=(ak hz8 1).trans rfl;have f0:=aB hz8 0;have f1:=aB hz8 1;clear hz8)));refine bodyPost_ret (nU Tryz.results115 _ _ (.int .i64 0) rfl w.heap.size 180 #[.int .i64 (eM x),.int .i64 0] (0,0) _ rfl (aN (aN HZ8.out 0 _ rfl) 1 _ rfl) Tryz.underlying180 rfl (by kernel_rfl)) rfl ?_;exact⟨rfl,((((Below.refl w.heap.size w).alloc (Nat.le_refl _) _).trans (hb8.mono (by simp))).setCell (by simp) _).setCell (by simp) _⟩
theorem sA(x:Int)(w:World)(h1:x<=1000000000)(h2:8190 < x):Calls Tryz.prog 115 #[.slice none 0 0,.int .i64 x] w fun e w'=>e=.returned (.tuple #[.agg #[.int .i64 0,.int .i64 0],.int .i64 5])/\Below w.heap.size w w':=by
 have d1:decide (x < 0)=false:=decide_eq_false (by omega);have d2:decide (8190 < x)=true:=decide_eq_true (by omega);clear h1 h2;go_enter Tryz.func115,Tryz.ntmps115;go_wp2_with (go_at_call 133;refine(wS _).mono ?_;rintro e w7 ⟨rfl,q_⟩;have q_:=q_.symm;subst q_);refine bodyPost_ret (nU Tryz.results115 _ _ (.int .i64 5) rfl w.heap.size 180 #[.int .i64 0,.int .i64 0] (0,0) _ rfl (aH _ _) Tryz.underlying180 rfl (by kernel_rfl)) rfl ?_;exact⟨rfl,(Below.refl w.heap.size w).alloc (Nat.le_refl _) _⟩
theorem E7(x:Int)(w:World)(h0:0<=x)(h1:x<=1000000000):Calls Tryz.prog 171 #[.int .i64 x] w fun e w'=>e=.returned (.int .i64 (eM x))/\Below w.heap.size w w':=by
 have HX0:=aj h0;have HX1:=aj h1;have e1:wrap64 ((x / 48+1) * 48)=(x / 48+1) * 48:=dN _ (by omega);by_cases c1:x<=8190
 .have HC:=aj c1;clear c1;go_enter Tryz.func171,Tryz.ntmps171;go_wp2_with (go_at_call 115;go_loud(refine(uT x _ HX0.out HC.out).mono ?_;rintro e w8 ⟨rfl,hb8⟩));go_ret;exact⟨rfl,hb8.alloc hb8.size _⟩
 .have HC:=aj (show 8190 < x by omega);clear c1;go_enter Tryz.func171,Tryz.ntmps171;go_wp2_with (go_at_call 115;go_loud(refine(sA x _ HX1.out HC.out).mono ?_;rintro e w8 ⟨rfl,hb8⟩));go_ret;exact⟨dh (by unfold eM;first|rfl|rw[e1]),hb8.alloc hb8.size _⟩
theorem wT(x:Int)(w:World)(h0:0<=x)(h1:x<=1000000000):Calls Tryz.prog 73 #[.int .i64 x] w fun e w'=>e=.returned (.int .i64 (eM x))/\Below w.heap.size w w':=by
 have HX0:=aj h0;have HX1:=aj h1;have e1:wrap64 ((x / 48+1) * 48)=(x / 48+1) * 48:=dN _ (by omega);by_cases c1:x<=8190
 .have HC:=aj c1;clear c1;go_enter Tryz.func73,Tryz.ntmps73;go_wp2_with (go_at_call 115;go_loud(refine(uT x _ HX0.out HC.out).mono ?_;rintro e w8 ⟨rfl,hb8⟩));go_ret;exact⟨rfl,hb8.alloc hb8.size _⟩
 .have HC:=aj (show 8190 < x by omega);clear c1;go_enter Tryz.func73,Tryz.ntmps73;go_wp2_with (go_at_call 115;go_loud(refine(sA x _ HX1.out HC.out).mono ?_;rintro e w8 ⟨rfl,hb8⟩));go_ret;exact⟨dh (by unfold eM;first|rfl|rw[e1]),hb8.alloc hb8.size _⟩
def jl(z:Int):Int:=(cU ⟨#[45]⟩ z).1
theorem sB(z:Int)(w:World):Calls Tryz.prog 85 #[.int .i64 z] w fun e w'=>e=.returned (.int .i64 (jl z))/\Below w.heap.size w w':=by
 go_enter Tryz.func85,Tryz.ntmps85;go_wp2_with (go_at_call 65;go_loud(refine(lN _ _ _).mono ?_;rintro e w8 ⟨rfl,hb8⟩));go_ret;exact⟨rfl,hb8⟩
def boxedB(m:S99):Bool:=m.f2 != 3 && m.f2 != 4 && m.f2 != 5
theorem uU(m:S99)(b:Bool)(hb:boxedB m=b)(w:World):Calls Tryz.prog 83 #[.agg #[.int .i64 m.f0,.int .i64 m.f1,.int .i64 m.f2,.int .i64 m.f3,.int .i64 m.f4,.int .i64 m.f5]] w fun e w'=>e=.returned (.bool b)/\Below w.heap.size w w':=by
 by_cases c1:m.f2=3
 .have d1:(m.f2 != 3)=false:=by rw[c1];rfl
  have HF:=aj (show b=false by rw[<-hb];unfold boxedB;rw[d1];rfl);clear hb c1;go_enter Tryz.func83,Tryz.ntmps83;go_wp2;go_ret;exact⟨dQ HF.out,(Below.refl _ _).alloc (Nat.le_refl _) _⟩
 .have d1:(m.f2 != 3)=true:=by simpa using c1
  by_cases c2:m.f2=4
  .have d2:(m.f2 != 4)=false:=by rw[c2];rfl
   have HF:=aj (show b=false by rw[<-hb];unfold boxedB;rw[d1,d2];rfl);clear hb c1 c2;go_enter Tryz.func83,Tryz.ntmps83;go_wp2;go_ret;exact⟨dQ HF.out,(Below.refl _ _).alloc (Nat.le_refl _) _⟩
  .have d2:(m.f2 != 4)=true:=by simpa using c2
   have HF:=aj (show b=(m.f2 != 5) by rw[<-hb];unfold boxedB;rw[d1,d2];rfl);clear hb c1 c2;go_enter Tryz.func83,Tryz.ntmps83;go_wp2;go_ret;exact⟨dQ HF.out,(Below.refl _ _).alloc (Nat.le_refl _) _⟩
def cI(m:S99):Prop:=0<=m.f4/\m.f4<=4095/\-64<=m.f5/\m.f5<=0
def iE(l:List S99):Nat->Int
 | 0=>0
 | n+1=>iE l n+(l.getD n z99).f4+(if 0 < n then (l.getD n z99).f5 else 0)
def qv(l:List S99)(a b:Nat):Int:=iE (l.drop a) (b - a)
theorem oG(l:List S99)(h:∀ m∈l,cI m):∀ n,n<=l.length->-(64 * (n:Int))<=iE l n/\iE l n<=4095 * (n:Int)
 | 0,_=>by simp[iE]
 | n+1,hn=>by
  have ih:=oG l h n (by omega);have hm:cI (l.getD n z99):=by
   rw[List.getD_eq_getElem?_getD,List.getElem?_eq_getElem (by omega)];exact h _ (List.getElem_mem _)
  unfold cI at hm;simp only[iE];split<;>omega
theorem E8{a b c:Int}(h:b=a):Ending.returned (.tuple #[.int .i64 a,.int .i64 c])=.returned (.tuple #[.int .i64 b,.int .i64 c]):=by rw[h]
theorem wU(l:List S99):∀ (n:Nat) {k:Nat} (_:n<=l.length) (_:n<=k:=by exact Nat.le_refl _),iE l n=iE (l.take k) n
 | 0,k,_,_=>rfl
 | n+1,k,h,hk=>by
  have e:(l.take k).getD n z99=l.getD n z99:=by
   rw[List.getD_eq_getElem?_getD,List.getD_eq_getElem?_getD,List.getElem?_take,if_pos (by omega)]
  simp only[iE];rw[wU l n (k:=k) (by omega) (by omega),e]
theorem ze(l:List S99)(A:Option Addr)(c:Nat)(fr tt:Nat)(w:World)(hl:Kd.C k99 w A l.length l)(hc:l.length<=c)(hm:∀ m∈l,cI m)(hn:l.length<=4096)(h1:fr<=tt)(h2:tt<=l.length) :
  Calls Tryz.prog 119 #[.slice A l.length c,.int .i64 (fr:Int),.int .i64 (tt:Int)] w fun e w'=>e=.returned (.tuple #[.int .i64 (qv l fr tt),.int .i64 0])/\Below w.heap.size w w':=by
 have HL:=aj hl;have HC:=aj hc;have HM:=aj hm;have HN:=aj hn;have HT:=aj (And.intro h1 h2);obtain⟨n,hnn⟩:∃ n,l.length=n:=⟨_,rfl⟩;obtain⟨x,hx⟩:∃ x:Int,(fr:Int)=x:=⟨_,rfl⟩;obtain⟨y,hy⟩:∃ y:Int,(tt:Int)=y:=⟨_,rfl⟩;have dF:=aj hnn;have HX:=aj hx;have HY:=aj hy;rw[hnn,hx,hy];have d0:decide (4096 < (n:Int))=false:=decide_eq_false (by omega);have d0':decide (4096 < n)=false:=decide_eq_false (by omega);have d1:decide (x < 0)=false:=decide_eq_false (by omega);have d2:decide (y < x)=false:=decide_eq_false (by omega);have d3:decide ((n:Int) < y)=false:=decide_eq_false (by omega);clear hl hc hm hn h1 h2 hnn hx hy;go_enter Tryz.func119,Tryz.ntmps119;go_upto_block 0 with(fail);go_wp2;go_loopw [18] (fun v18 wr=>∃ (z:Int) (i:Nat),v18=.int .i64 z/\aC (z=(i:Int))/\aC (i<=n)/\aC (Below w.heap.size w wr)) (fun v18 _=>n - (intOf v18).toNat)
 case atStart=>exact⟨0,0,rfl,⟨rfl⟩,⟨Nat.zero_le _⟩,⟨Below.refl _ _⟩⟩
 case round =>
  obtain⟨z,i,rfl,hz,hi,HB⟩:=hrel;by_cases hlt:i < n
  .have d9:decide (z < (n:Int))=true:=decide_eq_true (by rw[hz.out];omega);have q0:0<=z:=by rw[hz.out];omega
   have q1:z < (n:Int):=by rw[hz.out];omega
   have q2:z<=4096:=by rw[hz.out];have:=HN.out;have:=dF.out;omega
   obtain⟨ad,e0,k0,k1,k2,k3,k4,k5⟩:=eV (Kd.aM HL.out HB.out) z q0 (by rw[dF.out];exact q1);cases e0
   have hil:i < l.length:=by have:=dF.out;omega
   have hrd:aV l z=l[i]:=by rw[hz.out];unfold aV;simp[List.getD_eq_getElem?_getD,List.getElem?_eq_getElem hil]
   have hmm:cI l[i]:=HM.out _ (List.getElem_mem hil);rw[hrd] at k0 k1 k2 k3 k4 k5;generalize l[i]=m at *;obtain⟨m0,m1,m2,m3⟩:=hmm;have g0:decide (m.f4 < 0)=false:=decide_eq_false (by omega);have g1:decide (4095 < m.f4)=false:=decide_eq_false (by omega);have g2:decide (m.f5 < -64)=false:=decide_eq_false (by omega);have g3:decide (0 < m.f5)=false:=decide_eq_false (by omega);have cg:=aj hlt;have p0:=eq_true q0;have p1:=eq_true q1;have z0:=cM k0 (.cells #[.int .i64 0,.int .i64 0,.int .i64 0,.int .i64 0,.int .i64 0,.int .i64 0] 99);clear hlt hil hrd m0 m1 m2 m3;go_wp2;go_roundw
   case rel=>exact⟨z+1,i+1,rfl,⟨by rw[hz.out];omega⟩,⟨cg.out⟩,⟨HB.out.alloc HB.out.size _⟩⟩
   case measure=>have:=cg.out;have:=hz.out;simp[intOf];omega
  .have d9:decide (z < (n:Int))=false:=decide_eq_false (by rw[hz.out];omega);have q3:0<=x:=by rw[<-HX.out];omega
   have q4:x<=y:=by rw[<-HX.out,<-HY.out];have:=HT.out;omega
   have q5:y<=(n:Int):=by rw[<-HY.out];have:=HT.out;have:=dF.out;omega
   have q6:n<=c:=by have:=HC.out;have:=dF.out;omega
   have q7:(n:Int)<=(c:Int):=by omega
   by_cases hk:fr=tt
   .have hxy:y=x:=(by rw[<-HX.out,<-HY.out,hk]);have HF:=aj (show qv l fr tt=0 by unfold qv;rw[hk,Nat.sub_self];rfl);subst hxy;clear hk hlt;go_wp2
    all_goals
     go_loopw [10,59] (fun v10 v59 wq=>v10=.int .i64 0/\v59=.int .i64 0/\aC (Below w.heap.size w wq)) (fun _ _ _=>0)
     case atStart=>exact⟨rfl,rfl,HB⟩
     case round =>
      obtain⟨rfl,rfl,HB⟩:=hrel;go_wp2;go_ret2;exact⟨E8 (c:=0) HF.out,HB.out⟩
   .have hft:fr < tt:=(by have:=HT.out;omega);have hdp:=Kd.AR (m:=tt - fr) (Kd.mW (m:=fr) (Kd.aM HL.out HB.out) (by have:=HT.out;omega) HC.out) (by rw[List.length_drop];have:=HT.out;omega);have hcf:¬ c=fr:=(by have:=HT.out;have:=HC.out;omega);obtain⟨ad,e0,_⟩:=eV HL.out 0 (by omega) (by have:=HT.out;omega);cases e0
    rw[if_neg hcf] at hdp;obtain⟨sl,hsl⟩:∃ sl,(l.drop fr).take (tt - fr)=sl:=⟨_,rfl⟩;have Ie:sl.length=tt - fr:=(by rw[<-hsl,List.length_take,List.length_drop];have:=HT.out;omega);have qP:∀ m∈sl,cI m:=(by rw[<-hsl];intro m hm;exact HM.out m (List.mem_of_mem_drop (List.mem_of_mem_take hm)));have HF:=aj (show qv l fr tt=iE sl (tt - fr) by unfold qv;rw[<-hsl];exact wU _ _ (by rw[List.length_drop];have:=HT.out;omega));rw[hsl] at hdp;have HSL:=aj hdp;have rE:=aj Ie;have wN:=aj qP;have hcx:¬ c=x.toNat:=(by rw[<-HX.out];simpa using hcf);have hxn:x.toNat=fr:=(by rw[<-HX.out];rfl);have Zg:y.toNat=tt:=(by rw[<-HY.out];rfl);have Sm:=aj hxn;have VO:=aj Zg;have HFT:=aj hft;clear hdp hsl Ie qP hk hcf hxn Zg hft hlt;go_wp2;rw[Sm.out,VO.out];obtain⟨K,hK⟩:∃ K,tt - fr=K:=⟨_,rfl⟩;have Er:=aj hK;rw[hK] at HF rE ⊢;have Xc:=aj (show Kd.C k99 wr (some (ad.add (fr * 6))) sl.length sl from HSL.out);clear hK hcx;go_loopw [10,59] (fun v10 v59 wq=>∃ (q:Int) (j:Nat),v10=.int .i64 (iE sl j)/\v59=.int .i64 q/\aC (q=(j:Int))/\aC (j<=K)/\aC (Below w.heap.size w wq)/\aC (Below wr.heap.size wr wq)) (fun _ v59 _=>K - (intOf v59).toNat)
    case atStart=>exact⟨0,0,rfl,rfl,⟨rfl⟩,⟨Nat.zero_le _⟩,HB,⟨Below.refl _ _⟩⟩
    case round =>
     clear HB;obtain⟨q,j,rfl,rfl,hq,hj,HB,E9⟩:=hrel;have hKb:K<=4096:=(by have:=HN.out;have:=Er.out;have:=HT.out;omega);by_cases hlt:j < K
     .have d9:decide (q < (K:Int))=true:=decide_eq_true (by rw[hq.out];omega);have s0:0<=q:=(by rw[hq.out];omega);have s1:q < (K:Int):=(by rw[hq.out];omega);have s2:q<=4096:=(by rw[hq.out];omega);obtain⟨a2,e0,k0,k1,k2,k3,k4,k5⟩:=eV (Kd.aM Xc.out E9.out) q s0 (by rw[rE.out];exact s1);injection e0 with e0;subst e0;have hjl:j < sl.length:=(by have:=rE.out;omega);have hgd:sl.getD j z99=sl[j]:=(by rw[List.getD_eq_getElem?_getD,List.getElem?_eq_getElem hjl];rfl);have hrd:aV sl q=sl[j]:=(by rw[hq.out];unfold aV;exact hgd);have hmm:cI sl[j]:=wN.out _ (List.getElem_mem hjl);have hr:=oG sl wN.out j (by omega);have hst:iE sl (j+1)=iE sl j+sl[j].f4+(if 0 < j then sl[j].f5 else 0):=(by simp only[iE];rw[hgd]);rw[hrd] at k0 k1 k2 k3 k4 k5;generalize sl[j]=m at *;obtain⟨m0,m1,m2,m3⟩:=hmm;have cg:=aj hlt;have HST:=aj hst;have e1:wrap64 (iE sl j+m.f4)=iE sl j+m.f4:=dN _ (by omega);have e2:wrap64 (iE sl j+m.f4+m.f5)=iE sl j+m.f4+m.f5:=dN _ (by omega);have p0:=eq_true s0;have p1:=eq_true s1;clear hst hrd hgd hjl hr m0 m1 m2 m3 hlt hKb;generalize iE sl j=S at *;by_cases hj0:0 < j
      .have d8:decide (0 < q)=true:=decide_eq_true (by rw[hq.out];omega);have HJ0:=aj hj0;clear hj0;go_wp2;go_roundw
       case rel=>exact⟨q+1,j+1,by rw[HST.out,if_pos HJ0.out,e2],rfl,⟨by rw[hq.out];omega⟩,⟨cg.out⟩,⟨HB.out.alloc HB.out.size _⟩,⟨E9.out.alloc E9.out.size _⟩⟩
       case measure=>have:=cg.out;have:=hq.out;simp[intOf];omega
      .have d8:decide (0 < q)=false:=decide_eq_false (by rw[hq.out];omega);have HJ0:=aj hj0;clear hj0;go_wp2;go_roundw
       case rel=>exact⟨q+1,j+1,by rw[HST.out,if_neg HJ0.out,Int.add_zero,e1],rfl,⟨by rw[hq.out];omega⟩,⟨cg.out⟩,⟨HB.out.alloc HB.out.size _⟩,⟨E9.out.alloc E9.out.size _⟩⟩
       case measure=>have:=cg.out;have:=hq.out;simp[intOf];omega
     .have d9:decide (q < (K:Int))=false:=decide_eq_false (by rw[hq.out];omega);have hjk:j=K:=(by have:=hj.out;omega);subst hjk;clear hlt hKb;go_wp2;go_ret2;exact⟨E8 (c:=0) HF.out,HB.out⟩
def fq(m:S99):S75:=if m.f2=3 then ⟨2,m.f0,m.f1,m.f4,m.f4 / 2,m.f4 / 3,0,false⟩ else if m.f2=4 then ⟨4,m.f0,m.f1,0,0,0,0,false⟩ else ⟨3,m.f0,m.f1,jl m.f3,0,0,50,true⟩
theorem hB2(w:World)(o1 o2:Obj):Below w.heap.size w ((w.alloc o1).alloc o2):=((Below.refl _ _).alloc (Nat.le_refl _) _).alloc (by simp) _
theorem new2(w:World)(o1 o2:Obj):((w.alloc o1).alloc o2).heap[w.heap.size+1]? = some o2:=by have:=aH (w.alloc o1) o2;rwa [World.size_alloc] at this
theorem E_(m:S99)(h0:0<=m.f4/\m.f4<=4095)(w:World):Calls Tryz.prog 84 #[.agg #[.int .i64 m.f0,.int .i64 m.f1,.int .i64 m.f2,.int .i64 m.f3,.int .i64 m.f4,.int .i64 m.f5]] w fun e w'=>e=.returned (.agg #[.int .i64 (fq m).f0,.int .i64 (fq m).f1,.int .i64 (fq m).f2,.int .i64 (fq m).f3,.int .i64 (fq m).f4,.int .i64 (fq m).f5,.int .i64 (fq m).f6,.bool (fq m).f7])/\Below w.heap.size w w':=by
 by_cases c1:m.f2=3
 .have d1:(m.f2 == 3)=true:=beq_iff_eq.mpr c1;have HF:=aj (show fq m=⟨2,m.f0,m.f1,m.f4,m.f4 / 2,m.f4 / 3,0,false⟩ by unfold fq;rw[if_pos c1]);obtain⟨h01,h02⟩:=h0;clear c1;go_enter Tryz.func84,Tryz.ntmps84;go_wp2;refine bodyPost_ret (results_cell_row Tryz.results84 _ _ (w.heap.size+1) 75 #[.int .i64 2,.int .i64 m.f0,.int .i64 m.f1,.int .i64 m.f4,.int .i64 (m.f4 / 2),.int .i64 (m.f4 / 3),.int .i64 0,.bool false] (0,0) _ rfl (new2 _ _ _) Tryz.underlying75 rfl (by kernel_rfl)) rfl ?_;exact⟨by rw[HF.out],hB2 _ _ _⟩
 .have d1:(m.f2 == 3)=false:=beq_eq_false_iff_ne.mpr c1;by_cases c2:m.f2=4
  .have d2:(m.f2 == 4)=true:=beq_iff_eq.mpr c2;have HF:=aj (show fq m=⟨4,m.f0,m.f1,0,0,0,0,false⟩ by unfold fq;rw[if_neg c1,if_pos c2]);clear c1 c2 h0;go_enter Tryz.func84,Tryz.ntmps84;go_wp2;refine bodyPost_ret (results_cell_row Tryz.results84 _ _ (w.heap.size+1) 75 #[.int .i64 4,.int .i64 m.f0,.int .i64 m.f1,.int .i64 0,.int .i64 0,.int .i64 0,.int .i64 0,.bool false] (0,0) _ rfl (new2 _ _ _) Tryz.underlying75 rfl (by kernel_rfl)) rfl ?_;exact⟨by rw[HF.out],hB2 _ _ _⟩
  .have d2:(m.f2 == 4)=false:=beq_eq_false_iff_ne.mpr c2;have HF:=aj (show fq m=⟨3,m.f0,m.f1,jl m.f3,0,0,50,true⟩ by unfold fq;rw[if_neg c1,if_neg c2]);clear c1 c2 h0;go_enter Tryz.func84,Tryz.ntmps84;go_upto_region 6 with(fail);have hb2:=hB2 w (.cells #[.int .i64 m.f0,.int .i64 m.f1,.int .i64 m.f2,.int .i64 m.f3,.int .i64 m.f4,.int .i64 m.f5] 99) (.cells #[.int .i64 0,.int .i64 0,.int .i64 0,.int .i64 0,.int .i64 0,.int .i64 0,.int .i64 0,.bool false] 75);have hn1:=aP (aH w (.cells #[.int .i64 m.f0,.int .i64 m.f1,.int .i64 m.f2,.int .i64 m.f3,.int .i64 m.f4,.int .i64 m.f5] 99)) (.cells #[.int .i64 0,.int .i64 0,.int .i64 0,.int .i64 0,.int .i64 0,.int .i64 0,.int .i64 0,.bool false] 75);have hn2:=new2 w (.cells #[.int .i64 m.f0,.int .i64 m.f1,.int .i64 m.f2,.int .i64 m.f3,.int .i64 m.f4,.int .i64 m.f5] 99) (.cells #[.int .i64 0,.int .i64 0,.int .i64 0,.int .i64 0,.int .i64 0,.int .i64 0,.int .i64 0,.bool false] 75);obtain⟨W,hW⟩:∃ W,(w.alloc (.cells #[.int .i64 m.f0,.int .i64 m.f1,.int .i64 m.f2,.int .i64 m.f3,.int .i64 m.f4,.int .i64 m.f5] 99)).alloc (.cells #[.int .i64 0,.int .i64 0,.int .i64 0,.int .i64 0,.int .i64 0,.int .i64 0,.int .i64 0,.bool false] 75)=W:=⟨_,rfl⟩;rw[hW] at hb2 hn1 hn2 ⊢;clear hW;have y0:=Bx.cell (show W.cell? ⟨w.heap.size,0,none⟩=some (.int .i64 m.f0) from (ak hn1 0).trans rfl);have y1:=Bx.cell (show W.cell? ⟨w.heap.size,1,none⟩=some (.int .i64 m.f1) from (ak hn1 1).trans rfl);have y3:=Bx.cell (show W.cell? ⟨w.heap.size,3,none⟩=some (.int .i64 m.f3) from (ak hn1 3).trans rfl);have HB:=aj hb2;have HN:=aj hn2;clear hb2 hn1 hn2;refine cE 8 (by kernel_rfl) (by kernel_rfl) ?_;simp only[List.take_succ_cons,List.take_zero,List.drop_succ_cons,List.drop_zero]
   repeat(go_big_quiet_step ((go_at_call 85;exact Bx.cu (sB _ _))))
   refine wpQuiet_nil ?_;intro w7 hb7;have HZ:=aj (ay HN.out hb7);have z0:w7.cell? ⟨w.heap.size+1,0,none⟩=some (.int .i64 0):=(ak HZ.out 0).trans rfl;have f0:=aB HZ.out 0;have z1:w7.cell? ⟨w.heap.size+1,1,none⟩=some (.int .i64 0):=(ak HZ.out 1).trans rfl;have f1:=aB HZ.out 1;have z2:w7.cell? ⟨w.heap.size+1,2,none⟩=some (.int .i64 0):=(ak HZ.out 2).trans rfl;have f2:=aB HZ.out 2;have z3:w7.cell? ⟨w.heap.size+1,3,none⟩=some (.int .i64 0):=(ak HZ.out 3).trans rfl;have f3:=aB HZ.out 3;have z4:w7.cell? ⟨w.heap.size+1,4,none⟩=some (.int .i64 0):=(ak HZ.out 4).trans rfl;have f4:=aB HZ.out 4;have z5:w7.cell? ⟨w.heap.size+1,5,none⟩=some (.int .i64 0):=(ak HZ.out 5).trans rfl;have f5:=aB HZ.out 5;have z6:w7.cell? ⟨w.heap.size+1,6,none⟩=some (.int .i64 0):=(ak HZ.out 6).trans rfl;have f6:=aB HZ.out 6;have z7:w7.cell? ⟨w.heap.size+1,7,none⟩=some (.bool false):=(ak HZ.out 7).trans rfl;have f7:=aB HZ.out 7;clear y0 y1 y3;go_wp2;refine bodyPost_ret (results_cell_row Tryz.results84 _ _ (w.heap.size+1) 75 #[.int .i64 3,.int .i64 m.f0,.int .i64 m.f1,.int .i64 (jl m.f3),.int .i64 0,.int .i64 0,.int .i64 50,.bool true] (0,0) _ rfl (aN (aN (aN (aN (aN (aN (aN (aN HZ.out 0 _ rfl) 1 _ rfl) 2 _ rfl) 3 _ rfl) 4 _ rfl) 5 _ rfl) 6 _ rfl) 7 _ rfl) Tryz.underlying75 rfl (by kernel_rfl)) rfl ?_;exact⟨by rw[HF.out],(((((((((HB.out.trans (hb7.mono HB.out.size)).setCell (by simp) _).setCell (by simp) _).setCell (by simp) _).setCell (by simp) _).setCell (by simp) _).setCell (by simp) _).setCell (by simp) _).setCell (by simp) _)⟩
def C5(l:List S99)(a b:Nat):S75:=⟨1,(l.getD a z99).f0,(l.getD (b - 1) z99).f1,qv l a b,0,0,0,false⟩
theorem Ig{l:List S99}{a b n:Nat}{x y N:Int}(hnn:l.length=n)(hx:(a:Int)=x)(hy:(b:Int)=y)(hN:qv l a b=N)(A:Option Addr)(c:Nat)(w:World)(hl:Kd.C k99 w A l.length l)(hc:l.length<=c)(hm:∀ m∈l,cI m)(hn:l.length<=4096)(h1:a<=b)(h2:b<=l.length) :
  Calls Tryz.prog 119 #[.slice A n c,.int .i64 x,.int .i64 y] w fun e w'=>e=.returned (.tuple #[.int .i64 N,.int .i64 0])/\Below w.heap.size w w':=by
 subst hnn hx hy hN;exact ze l A c a b w hl hc hm hn h1 h2
theorem Ih(l:List S99)(A:Option Addr)(c:Nat)(a b:Nat)(w:World)(hl:Kd.C k99 w A l.length l)(hc:l.length<=c)(hm:∀ m∈l,cI m)(hn:l.length<=4096)(h1:a < b)(h2:b<=l.length)(X Y N:Int)(hX:(l.getD a z99).f0=X)(hY:(l.getD (b - 1) z99).f1=Y)(hN:qv l a b=N) :
  Calls Tryz.prog 82 #[.slice A l.length c,.int .i64 (a:Int),.int .i64 (b:Int)] w fun e w'=>e=.returned (.agg #[.int .i64 1,.int .i64 X,.int .i64 Y,.int .i64 N,.int .i64 0,.int .i64 0,.int .i64 0,.bool false])/\Below w.heap.size w w':=by
 have HL:=aj hl;have HM:=aj hm;have HN:=aj hN;have HC:=aj hc;have yO:=aj hn;have tT:=aj (And.intro h1 h2);obtain⟨n,hnn⟩:∃ n,l.length=n:=⟨_,rfl⟩;obtain⟨x,hx⟩:∃ x:Int,(a:Int)=x:=⟨_,rfl⟩;obtain⟨y,hy⟩:∃ y:Int,(b:Int)=y:=⟨_,rfl⟩;have dF:=aj hnn;have HX:=aj hx;have HY:=aj hy;rw[hnn,hx,hy];have HB0:=aj ((Below.refl w.heap.size w).alloc (Nat.le_refl _) (.cells #[.int .i64 0,.int .i64 0,.int .i64 0,.int .i64 0,.int .i64 0,.int .i64 0,.int .i64 0,.bool false] 75));have HZ0:=aj (aH w (.cells #[.int .i64 0,.int .i64 0,.int .i64 0,.int .i64 0,.int .i64 0,.int .i64 0,.int .i64 0,.bool false] 75));have Sn:=aj (And.intro hX hY);clear hl hc hm hn h1 h2 hnn hx hy hX hY hN;go_enter Tryz.func82,Tryz.ntmps82;go_upto_region 2 with(go_at_call 119;go_loud(refine(Ig dF.out HX.out HY.out HN.out A c _ (Kd.aM HL.out HB0.out) HC.out HM.out yO.out (Nat.le_of_lt tT.out.1) tT.out.2).mono ?_;rintro e w1 ⟨rfl,hb1⟩;have HB:=aj (HB0.out.trans (hb1.mono HB0.out.size));have HZ1:=aj (ay HZ0.out hb1)));have q0:0<=x:=by rw[<-HX.out];omega
 have q1:x < (n:Int):=by rw[<-HX.out];have:=tT.out;have:=dF.out;omega
 have q2:0<=y - 1:=by rw[<-HY.out];have:=tT.out;omega
 have q3:y - 1 < (n:Int):=by rw[<-HY.out];have:=tT.out;have:=dF.out;omega
 have q4:0<=y/\y<=4096:=by rw[<-HY.out];have:=tT.out;have:=yO.out;omega
 have HC1:=aj (Kd.aM HL.out HB.out);obtain⟨ad,e0,k0,_⟩:=eV HC1.out x q0 (by rw[dF.out];exact q1);cases e0
 obtain⟨J1,e0,_,k1,_⟩:=eV HC1.out (y - 1) q2 (by rw[dF.out];exact q3);cases e0
 have r0:(aV l x).f0=X:=by rw[<-Sn.out.1,<-HX.out];rfl
 have r1:(aV l (y - 1)).f1=Y:=by rw[<-Sn.out.2,<-HY.out];unfold aV;rw[show((b:Int) - 1).toNat=b - 1 by omega]
 rw[r0] at k0;rw[r1] at k1;have k2:=k1;rw[show(y - 1).toNat=y.toNat - 1 by omega] at k2;have y0:=Bx.cell k0;have y1:=Bx.cell k1;have y2:=Bx.cell k2;have hw:IntKind.i64.wrap (y - 1)=y - 1:=IntWalk.i64_in _ (by omega);obtain⟨q40,q41⟩:=q4;clear k0 k1 k2 r0 r1 hb1;refine cE 13 (by kernel_rfl) (by kernel_rfl) ?_;simp only[List.take_succ_cons,List.take_zero,List.drop_succ_cons,List.drop_zero]
 repeat(go_big_quiet_step (fail))
 refine wpQuiet_nil ?_;intro w7 hb7;have HZ:=aj (ay HZ1.out hb7);have z0:w7.cell? ⟨w.heap.size,0,none⟩=some (.int .i64 0):=(ak HZ.out 0).trans rfl;have f0:=aB HZ.out 0;have z1:w7.cell? ⟨w.heap.size,1,none⟩=some (.int .i64 0):=(ak HZ.out 1).trans rfl;have f1:=aB HZ.out 1;have z2:w7.cell? ⟨w.heap.size,2,none⟩=some (.int .i64 0):=(ak HZ.out 2).trans rfl;have f2:=aB HZ.out 2;have z3:w7.cell? ⟨w.heap.size,3,none⟩=some (.int .i64 0):=(ak HZ.out 3).trans rfl;have f3:=aB HZ.out 3;have z4:w7.cell? ⟨w.heap.size,4,none⟩=some (.int .i64 0):=(ak HZ.out 4).trans rfl;have f4:=aB HZ.out 4;have z5:w7.cell? ⟨w.heap.size,5,none⟩=some (.int .i64 0):=(ak HZ.out 5).trans rfl;have f5:=aB HZ.out 5;have z6:w7.cell? ⟨w.heap.size,6,none⟩=some (.int .i64 0):=(ak HZ.out 6).trans rfl;have f6:=aB HZ.out 6;have z7:w7.cell? ⟨w.heap.size,7,none⟩=some (.bool false):=(ak HZ.out 7).trans rfl;have f7:=aB HZ.out 7;clear y0 y1 y2 hw;go_wp2;refine bodyPost_ret (results_cell_row Tryz.results82 _ _ w.heap.size 75 #[.int .i64 1,.int .i64 X,.int .i64 Y,.int .i64 N,.int .i64 0,.int .i64 0,.int .i64 0,.bool false] (0,0) _ rfl (aN (aN (aN (aN (aN (aN (aN (aN HZ.out 0 _ rfl) 1 _ rfl) 2 _ rfl) 3 _ rfl) 4 _ rfl) 5 _ rfl) 6 _ rfl) 7 _ rfl) Tryz.underlying75 rfl (by kernel_rfl)) rfl ?_;exact⟨rfl,(((((((((HB.out.trans (hb7.mono HB.out.size)).setCell (by simp) _).setCell (by simp) _).setCell (by simp) _).setCell (by simp) _).setCell (by simp) _).setCell (by simp) _).setCell (by simp) _).setCell (by simp) _)⟩
structure cY(x:S75):Prop where
 k:1<=x.f0/\x.f0<=4
 p:0<=x.f1/\x.f1<=x.f2
 w:0<=x.f3/\x.f3<=2097152
 s:0<=x.f4/\x.f4<=4095
 t:0<=x.f5/\x.f5<=4095
 c:0<=x.f6/\x.f6<=4095
 np:x.f0≠3->x.f7=false/\x.f6=0
 ng:x.f0≠2->x.f4=0/\x.f5=0
 nl:x.f0=4->x.f3=0
theorem sC(a:Int)(h:0<=a/\a<=4095)(w:World):Calls Tryz.prog 141 #[.int .i64 a] w fun e w'=>e=.returned (.bool true)/\Below w.heap.size w w':=by
 have d1:decide (0<=a)=true:=decide_eq_true h.1;have d2:decide (a<=4095)=true:=decide_eq_true h.2;clear h;go_enter Tryz.func141,Tryz.ntmps141;go_wp2;go_ret;exact⟨rfl,Below.refl _ _⟩
abbrev Pf(x:S75):Array Value:=#[.int .i64 x.f0,.int .i64 x.f1,.int .i64 x.f2,.int .i64 x.f3,.int .i64 x.f4,.int .i64 x.f5,.int .i64 x.f6,.bool x.f7]
theorem Ii(x:S75)(h:cY x)(w:World):Calls Tryz.prog 120 #[.agg (Pf x)] w fun e w'=>e=.returned (.bool false)/\Below w.heap.size w w':=by
 have H:=aj h;have HB0:=aj ((Below.refl w.heap.size w).alloc (Nat.le_refl _) (.cells (Pf x) 75));have HX:=aj (aH w (.cells (Pf x) 75));have e1:decide (x.f0 < 1)=false:=decide_eq_false (by have:=h.k;omega);have e2:decide (4 < x.f0)=false:=decide_eq_false (by have:=h.k;omega);have e3:decide (x.f1 < 0)=false:=decide_eq_false (by have:=h.p;omega);have e4:decide (x.f2 < x.f1)=false:=decide_eq_false (by have:=h.p;omega);have e5:decide (x.f3 < 0)=false:=decide_eq_false (by have:=h.w;omega);have e6:decide (2097152 < x.f3)=false:=decide_eq_false (by have:=h.w;omega);clear h;go_enter Tryz.func120,Tryz.ntmps120;go_upto_region 1 with(fail);obtain⟨bx,hbx⟩:∃ bx,w.heap.size=bx:=⟨_,rfl⟩;have HB0:=aj HB0.out;rw[hbx] at HX ⊢;generalize w.alloc (.cells (Pf x) 75)=w0 at *;clear hbx
 have FC:=aj (show ∀ W,Below w0.heap.size w0 W->(W.cell? ⟨bx,0,none⟩=some (.int .i64 x.f0)/\W.cell? ⟨bx,3,none⟩=some (.int .i64 x.f3)/\W.cell? ⟨bx,4,none⟩=some (.int .i64 x.f4)/\W.cell? ⟨bx,5,none⟩=some (.int .i64 x.f5)/\W.cell? ⟨bx,6,none⟩=some (.int .i64 x.f6)/\W.cell? ⟨bx,7,none⟩=some (.bool x.f7)) from fun W hW =>
  ⟨(ak (ay HX.out hW) 0).trans rfl,(ak (ay HX.out hW) 3).trans rfl,(ak (ay HX.out hW) 4).trans rfl,(ak (ay HX.out hW) 5).trans rfl,(ak (ay HX.out hW) 6).trans rfl,(ak (ay HX.out hW) 7).trans rfl⟩)
 have x0:w0.cell? ⟨bx,0,none⟩=some (.int .i64 x.f0):=(ak HX.out 0).trans rfl;have x1:w0.cell? ⟨bx,1,none⟩=some (.int .i64 x.f1):=(ak HX.out 1).trans rfl;have x2:w0.cell? ⟨bx,2,none⟩=some (.int .i64 x.f2):=(ak HX.out 2).trans rfl;have x3:w0.cell? ⟨bx,3,none⟩=some (.int .i64 x.f3):=(ak HX.out 3).trans rfl;have x4:w0.cell? ⟨bx,4,none⟩=some (.int .i64 x.f4):=(ak HX.out 4).trans rfl;have HW:=aj (Below.refl w0.heap.size w0);go_upto_region 3 with(go_at_call 141;go_loud(refine(sC _ (by with_reducible first|exact H.out.s|exact H.out.t|exact H.out.c) _).mono ?_;rintro e w1 ⟨rfl,hb1⟩;have HW:=aj (HW.out.trans (hb1.mono HW.out.size));obtain⟨c0,c3,c4,c5,c6,c7⟩:=FC.out _ HW.out;clear hb1));by_cases c3:x.f0=3
 .have g:=H.out.ng (by omega);have f0:=c3;have f4:=g.1;have f5:=g.2;clear c3 g e1 e2 e3 e4 e5 e6;go_wp2;go_ret;exact⟨by simp_all,HB0.out.trans (HW.out.mono HB0.out.size)⟩
 .have h7:=H.out.np c3;obtain⟨f7,f6⟩:=h7;by_cases c2:x.f0=2
  .have f0:=c2;clear c2 c3 e1 e2 e3 e4 e5 e6;go_wp2;go_ret;exact⟨by simp_all,HB0.out.trans (HW.out.mono HB0.out.size)⟩
  .obtain⟨f4,f5⟩:=H.out.ng c2;by_cases c4:x.f0=4
   .have f0:=c4;have f3:=H.out.nl c4;clear c2 c3 c4 e1 e2 e3 e4 e5 e6;go_wp2;go_ret;exact⟨by simp_all,HB0.out.trans (HW.out.mono HB0.out.size)⟩
   .have f0:x.f0=1:=(by have:=H.out.k;omega);clear c2 c3 c4 e1 e2 e3 e4 e5 e6;go_wp2;go_ret;exact⟨by simp_all,HB0.out.trans (HW.out.mono HB0.out.size)⟩
def iH(l:List S75):Bool:=l.any (fun x=>x.f0 == 4)
theorem GJ(l:List S75){i:Nat}(h:i < l.length):fL l (i:Int)=l[i]:=by unfold fL;simp[List.getD_eq_getElem?_getD,List.getElem?_eq_getElem h]
theorem KF(l:List S75)(A:Option Addr)(n c:Nat)(w:World)(hnl:l.length=n)(hl:Kd.C k75 w A n l)(h:∀ x∈l,cY x)(hn:n<=8192):Calls Tryz.prog 86 #[.slice A n c] w fun e w'=>e=.returned (.int .i64 0)/\Below w.heap.size w w':=by
 have HL:=aj hl;have HN:=aj hnl;have HH:=aj h;have HN8:=aj hn;have d1:decide (8192 < (n:Int))=false:=decide_eq_false (by omega);have d2:decide (8192 < n)=false:=decide_eq_false (by omega);clear hl hnl h hn;go_enter Tryz.func86,Tryz.ntmps86;go_wp2;go_loopw [10] (fun v10 wr=>∃ (y:Int) (k:Nat),v10=.int .i64 y/\aC (y=(k:Int)/\k<=n)/\aC (Below w.heap.size w wr)) (fun v10 _=>n - (intOf v10).toNat)
 case atStart=>exact⟨0,0,rfl,⟨rfl,Nat.zero_le _⟩,⟨Below.refl _ _⟩⟩
 case round =>
  obtain⟨y,k,rfl,hy,HB⟩:=hrel;clear d1 d2;by_cases hlt:k < n
  .have d1:decide (y < (n:Int))=true:=decide_eq_true (by have:=hy.out.1;omega);have q0:0<=y:=by have:=hy.out.1;omega
   have q1:y < (n:Int):=by have:=hy.out.1;omega
   have q2:y<=8192:=by have:=HN8.out;omega
   obtain⟨ad,e0,k0,k1,k2,k3,k4,k5,k6,k7⟩:=eD (Kd.aM HL.out HB.out) y q0 q1;subst e0;obtain⟨x,hx⟩:∃ x,fL l y=x:=⟨_,rfl⟩;have HX:=aj (show cY x by
    rw[<-hx,hy.out.1,GJ l (by rw[HN.out];exact hlt)];exact HH.out _ (List.getElem_mem _))
   rw[hx] at k0 k1 k2 k3 k4 k5 k6 k7;have z0:=cM k0 (.cells #[.int .i64 0,.int .i64 0,.int .i64 0,.int .i64 0,.int .i64 0,.int .i64 0,.int .i64 0,.bool false] 75);have cg:=aj hlt;have p0:=eq_true q0;have p1:=eq_true q1;have dI:=aj (aH wr (.cells (Pf x) 75));have HB2:=aj (HB.out.alloc HB.out.size (.cells (Pf x) 75));clear hlt hx;go_upto_region 6 with(fail);generalize wr.alloc (.cells (Pf x) 75)=w5 at *;obtain⟨bq,vJ⟩:∃ b,wr.heap.size=b:=⟨_,rfl⟩;rw[vJ] at dI ⊢;clear vJ k0 k1 k2 k3 k4 k5 k6 k7 z0;go_wp2_with (first|((with_reducible refine aS (N:=14) rfl ?_);go_loud(refine wpList_load_row rfl 75 _ rfl bq rfl 75 (Pf x) (0,0) _ (by exact dI.out) Tryz.underlying75 rfl (by kernel_rfl) ?_))|(go_at_call 120;go_loud(refine(Ii x HX.out _).mono ?_;rintro e w6 ⟨rfl,hb6⟩)));go_roundw
   case rel=>exact⟨y+1,k+1,rfl,⟨by have:=hy.out.1;omega,cg.out⟩,⟨HB2.out.trans (hb6.mono HB2.out.size)⟩⟩
   case measure=>have:=cg.out;have:=hy.out;simp[intOf];omega
  .have d1:decide (y < (n:Int))=false:=decide_eq_false (by have:=hy.out.1;omega);clear hlt;go_wp2;go_ret;exact⟨rfl,HB.out⟩
theorem m_(l:List S75)(A:Option Addr)(c:Nat)(w:World)(hl:Kd.C k75 w A l.length l)(hc:l.length<=c)(h:∀ x∈l,cY x)(hn:l.length<=8192):Calls Tryz.prog 86 #[.slice A l.length c] w fun e w'=>e=.returned (.int .i64 0)/\Below w.heap.size w w' :=
 KF l A _ c w rfl hl h hn
theorem NW(l:List S75)(A:Option Addr)(n c:Nat)(w:World)(hnl:l.length=n)(hl:Kd.C k75 w A n l)(hn:n<=8192)(b:Bool)(hb:iH l=b):Calls Tryz.prog 13 #[.slice A n c] w fun e w'=>e=.returned (.bool b)/\Below w.heap.size w w':=by
 have HL:=aj hl;have HN:=aj hnl;have HN8:=aj hn;have zf:=aj hb;clear hl hnl hn hb;go_enter Tryz.func13,Tryz.ntmps13;go_wp2;go_loopw [7] (fun v7 wr=>∃ (y:Int) (k:Nat),v7=.int .i64 y/\aC (y=(k:Int)/\k<=n)/\aC (iH (l.drop k)=b)/\aC (Below w.heap.size w wr)) (fun v7 _=>n - (intOf v7).toNat)
 case atStart=>exact⟨0,0,rfl,⟨rfl,Nat.zero_le _⟩,zf,⟨Below.refl _ _⟩⟩
 case round =>
  obtain⟨y,k,rfl,hy,hT,HB⟩:=hrel;by_cases hlt:k < n
  .have d1:decide (y < (n:Int))=true:=decide_eq_true (by have:=hy.out.1;omega);have q0:0<=y:=by have:=hy.out.1;omega
   have q1:y < (n:Int):=by have:=hy.out.1;omega
   have q2:y<=8192:=by have:=HN8.out;omega
   obtain⟨ad,e0,k0,k1,k2,k3,k4,k5,k6,k7⟩:=eD (Kd.aM HL.out HB.out) y q0 q1;subst e0;obtain⟨x,hx⟩:∃ x,fL l y=x:=⟨_,rfl⟩;have hT2:=hT.out;rw[List.drop_eq_getElem_cons (by rw[HN.out];exact hlt),<-GJ l (by rw[HN.out];exact hlt),<-hy.out.1,hx] at hT2;rw[hx] at k0 k1 k2 k3 k4 k5 k6 k7;have z0:=cM k0 (.cells #[.int .i64 0,.int .i64 0,.int .i64 0,.int .i64 0,.int .i64 0,.int .i64 0,.int .i64 0,.bool false] 75);have cg:=aj hlt;have p0:=eq_true q0;have p1:=eq_true q1;by_cases c4:x.f0=4
   .have d4:(x.f0 == 4)=true:=beq_iff_eq.mpr c4;have HE:=aj (show b=true by rw[<-hT2];unfold iH;rw[List.any_cons,d4];rfl);clear hlt hT2 hx c4;go_wp2;go_ret;exact⟨dQ HE.out,HB.out.alloc HB.out.size _⟩
   .have d4:(x.f0 == 4)=false:=beq_eq_false_iff_ne.mpr c4;have HE:=aj (show iH (l.drop (k+1))=b by rw[<-hT2];unfold iH;rw[List.any_cons,d4];rfl);clear hlt hT2 hx c4;go_wp2;go_roundw
    case rel=>exact⟨y+1,k+1,rfl,⟨by have:=hy.out.1;omega,cg.out⟩,HE,⟨HB.out.alloc HB.out.size _⟩⟩
    case measure=>have:=cg.out;have:=hy.out;simp[intOf];omega
  .have d1:decide (y < (n:Int))=false:=decide_eq_false (by have:=hy.out.1;omega);have HE:=aj (show b=false by
    have h:=hT.out;rw[List.drop_eq_nil_of_le (by rw[HN.out];omega)] at h;exact h.symm)
   clear hlt;go_wp2;go_ret;exact⟨dQ HE.out,HB.out⟩
theorem oH(l:List S75)(A:Option Addr)(c:Nat)(w:World)(hl:Kd.C k75 w A l.length l)(hc:l.length<=c)(hn:l.length<=8192):Calls Tryz.prog 13 #[.slice A l.length c] w fun e w'=>e=.returned (.bool (iH l))/\Below w.heap.size w w' :=
 NW l A _ c w rfl hl hn _ rfl
end Go.Proofs.YtcaallkkeighdaaGreatDoor.P
