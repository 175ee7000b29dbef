/- set.End over set.Place. What is known of the paragraph of set18. The glyphs of a paragraph's lines are its clusters: plain facts of masses,items,lines. The glyphs of a line are its clusters,each where the line begins or behind that. quiretop.set18: the one known paragraph is set as the chapters say. set.prepare: the map of the places where a paragraph may be broken. -/
import Derived.Test.YtcaallkkeighdaaGreatDoorR37
set_option maxRecDepth 100000
set_option maxHeartbeats 16000000
set_option linter.unusedVariables false
set_option linter.unusedSimpArgs false
namespace Go.Proofs.YtcaallkkeighdaaGreatDoor.P
open Go.RowKit aD aQ aR
def Gc(p:Pa)(x:S46)(last:Bool)(w:World)(e:Ending)(w':World):Prop:=∃ v,e=.returned (.tuple #[v,.int .i64 0])/\k48.R 48 w' w.heap.size (fun _=>True) v (gb p x last)/\Below w.heap.size w w'
noncomputable def rD(p:Pa)(x:S46)(last:Bool):Int:=if gb p x last=[] then x.f2 else (iG (gb p x last) (((gb p x last).length - 1:Nat):Int)).f2+(iG (gb p x last) (((gb p x last).length - 1:Nat):Int)).f3
theorem ac4(p:Pa)(x:S46)(last:Bool){As Am:Option Addr}{cs cm:Nat}(w:World)(ZW:∀ W,Below w.heap.size w W->Calls Tryz.prog 10 #[.agg (cG p As cs Am cm),.agg (tH x),.bool last] W (Gc p x last W))(G:List S48)(hG:gb p x last=G)(hn:G.length<=10000)(hb:G≠[]->-100000000000000000<=rD p x last/\rD p x last<=100000000000000000)(r:Int)(hr:rD p x last=r) :
  Calls Tryz.prog 17 #[.agg (cG p As cs Am cm),.agg (tH x),.bool last] w fun e w'=>e=.returned (.tuple #[.int .i64 r,.int .i64 0])/\Below w.heap.size w w':=by
 have KW:=aj ZW;have SE:=aj hG;have HB:=aj hb;have HR:=aj hr;have HB0:=aj (((Below.refl w.heap.size w).alloc (Nat.le_refl _) (.cells (cG p As cs Am cm) 27)).alloc (by simp) (.cells (tH x) 46));have dI:=aj (aP (aH w (.cells (cG p As cs Am cm) 27)) (.cells (tH x) 46));have nj:=aH (w.alloc (.cells (cG p As cs Am cm) 27)) (.cells (tH x) 46);rw[World.size_alloc] at nj;have kH:=aj nj;obtain⟨n,hnn⟩:∃ n,G.length=n:=⟨_,rfl⟩;have HN:=aj hnn;rw[hnn] at hn;clear ZW hG hb hr nj hnn;go_enter Tryz.func17,Tryz.ntmps17;go_upto_region 1 with(fail);obtain⟨bx,hbx⟩:∃ bx,w.heap.size=bx:=⟨_,rfl⟩;have mK:=aj hbx;rw[hbx] at dI kH ⊢;generalize (w.alloc (.cells (cG p As cs Am cm) 27)).alloc (.cells (tH x) 46)=w0 at *;clear hbx;have r0:w0.cell? ⟨bx+1,0,none⟩=some (.int .i64 x.f0):=(ak kH.out 0).trans rfl;have r1:w0.cell? ⟨bx+1,1,none⟩=some (.int .i64 x.f1):=(ak kH.out 1).trans rfl;have r2:w0.cell? ⟨bx+1,2,none⟩=some (.int .i64 x.f2):=(ak kH.out 2).trans rfl;have r3:w0.cell? ⟨bx+1,3,none⟩=some (.int .i64 x.f3):=(ak kH.out 3).trans rfl;have r4:w0.cell? ⟨bx+1,4,none⟩=some (.int .i64 x.f4):=(ak kH.out 4).trans rfl;have r5:w0.cell? ⟨bx+1,5,none⟩=some (.bool x.f5):=(ak kH.out 5).trans rfl;have r6:w0.cell? ⟨bx+1,6,none⟩=some (.int .i64 x.f6):=(ak kH.out 6).trans rfl;go_upto_region 4 with(first|((with_reducible refine aS (N:=12) rfl ?_);go_loud(refine wpList_load_row rfl 27 _ rfl bx rfl 27 (cG p As cs Am cm) (0,0) _ (by exact dI.out) Tryz.underlying27 rfl (cV p As cs Am cm) ?_))|(go_at_call 10;go_loud(refine(KW.out _ HB0.out).mono ?_;rintro e w1 ⟨v1,rfl,hR1,hb1⟩;rw[SE.out] at hR1;obtain⟨A9,c9,e9,hc9,_,hC9⟩:=fX hR1;rw[HN.out] at e9 hc9 hC9;subst e9;have HC9:=aj hC9;have HB1:=aj (HB0.out.trans (hb1.mono HB0.out.size));have tg:=aj (ay kH.out hb1);clear hR1 hb1 hC9)));clear r0 r1 r2 r3 r4 r5 r6;have r2:w1.cell? ⟨bx+1,2,none⟩=some (.int .i64 x.f2):=(ak tg.out 2).trans rfl;by_cases h0:n=0
 .have d1:((n:Int) == 0)=true:=by rw[h0];rfl
  have HE:=aj (show r=x.f2 by
   rw[<-HR.out];unfold rD;rw[SE.out,if_pos (List.length_eq_zero_iff.1 (by rw[HN.out,h0]))])
  clear h0;go_wp2;go_ret2;rw[HE.out];exact⟨rfl,HB1.out⟩
 .have d1:((n:Int) == 0)=false:=by rw[beq_eq_false_iff_ne];omega
  have q0:0<=(n:Int) - 1:=by omega
  have q1:(n:Int) - 1 < (n:Int):=by omega
  obtain⟨ad,e0,k0,k1,k2,k3⟩:=Kl HC9.out ((n:Int) - 1) q0 q1;subst e0;have hix:((n:Int) - 1)=((n - 1:Nat):Int):=by omega
  have hmem:iG G ((n:Int) - 1)∈G:=by
   rw[hix];unfold iG;have:n - 1 < G.length:=by rw[HN.out];omega
   simp[List.getD_eq_getElem?_getD,List.getElem?_eq_getElem this]
  have HE:=aj (show r=(iG G ((n:Int) - 1)).f2+(iG G ((n:Int) - 1)).f3 by
   rw[<-HR.out];unfold rD;rw[SE.out,if_neg (fun q=>h0 (by rw[<-HN.out,q];rfl)),HN.out,hix])
  have rF:=HB.out (fun q=>h0 (by rw[<-HN.out,q];rfl));rw[HR.out,HE.out] at rF;obtain⟨g,hg⟩:∃ g,iG G ((n:Int) - 1)=g:=⟨_,rfl⟩;rw[hg] at k0 k1 k2 k3 HE rF;obtain⟨b1,b2⟩:=rF;have p0:=eq_true q0;have p1:=eq_true q1;have ht:((n:Int) - 1).toNat=n - 1:=by omega
  have j0:=k0;have j1:=k1;have j2:=k2;have j3:=k3;rw[ht] at j0 j1 j2 j3;have y0:=cM j0 (.cells #[.int .i64 0,.int .i64 0,.int .i64 0,.int .i64 0] 48);have z0:=cM k0 (.cells #[.int .i64 0,.int .i64 0,.int .i64 0,.int .i64 0] 48);clear h0 hg hmem hix ht;go_wp2;go_ret2;rw[HE.out];exact⟨rfl,HB1.out.alloc HB1.out.size _⟩
theorem PJ(p:Pa)(x:S46)(last:Bool){As Am:Option Addr}{cs cm:Nat}(w:World)(ZW:∀ W,Below w.heap.size w W->Calls Tryz.prog 10 #[.agg (cG p As cs Am cm),.agg (tH x),.bool last] W (Gc p x last W))(G:List S48)(hG:gb p x last=G)(hn:G.length<=10000)(hb:∀ g∈G,-100000000000000000<=g.f2+g.f3/\g.f2+g.f3<=100000000000000000)(r:Int)(hr:rD p x last=r) :
  Calls Tryz.prog 17 #[.agg (cG p As cs Am cm),.agg (tH x),.bool last] w fun e w'=>e=.returned (.tuple #[.int .i64 r,.int .i64 0])/\Below w.heap.size w w' :=
 ac4 p x last w ZW G hG hn (fun hne=>by
  have h:rD p x last=(iG G ((G.length - 1:Nat):Int)).f2+(iG G ((G.length - 1:Nat):Int)).f3:=by
   unfold rD;rw[hG,if_neg hne]
  rw[h];refine hb _ ?_;have hl:G.length - 1 < G.length:=by
   have:=List.length_pos_iff.2 hne;omega
  unfold iG;simp[List.getD_eq_getElem?_getD,List.getElem?_eq_getElem hl]) r hr
def t18:ByteArray:=⟨#[97,32,98,32,99,32,100]⟩
def p18:Pa:=⟨t18,[⟨7,⟨0,0,0⟩⟩],⟨8,12,1,0,0,0,0,0,0,0,1,1,0,0,0,0,0⟩,⟨#[]⟩,[]⟩
theorem uz:iI p18 [] ⟨0,15⟩=0:=by kernel_rfl
theorem G_:(iQ p18 [] ⟨0,15⟩).length=2:=by kernel_rfl
theorem RF:(dJ (iQ p18 [] ⟨0,15⟩) 0).f1=4:=by kernel_rfl
theorem Uy:rD p18 (dJ (iQ p18 [] ⟨0,15⟩) 0) false=15:=by kernel_rfl
theorem Uz:rD p18 (dJ (iQ p18 [] ⟨0,15⟩) 1) true=13:=by kernel_rfl
theorem RG:(gb p18 (dJ (iQ p18 [] ⟨0,15⟩) 0) false).all (fun g=>decide (-1000000<=g.f2+g.f3/\g.f2+g.f3<=1000000))=true:=by kernel_rfl
theorem RH:(gb p18 (dJ (iQ p18 [] ⟨0,15⟩) 1) true).all (fun g=>decide (-1000000<=g.f2+g.f3/\g.f2+g.f3<=1000000))=true:=by kernel_rfl
theorem RJ:(gb p18 (dJ (iQ p18 [] ⟨0,15⟩) 0) false).length<=10000:=by
 have:decide ((gb p18 (dJ (iQ p18 [] ⟨0,15⟩) 0) false).length<=10000)=true:=by kernel_rfl
 exact of_decide_eq_true this
theorem RL:(gb p18 (dJ (iQ p18 [] ⟨0,15⟩) 1) true).length<=10000:=by
 have:decide ((gb p18 (dJ (iQ p18 [] ⟨0,15⟩) 1) true).length<=10000)=true:=by kernel_rfl
 exact of_decide_eq_true this
def Ez(m:S99):Int × Int:=(m.f0,m.f1)
def Gd(g:S48):Int × Int:=(g.f0,g.f1)
def Ct(c:S50):Int × Int:=(c.f0,c.f1)
theorem D6(p:Pa):∀ (l:List S50) (s:qc),(iO p s l).map Ez=l.map Ct
 | [],s=>rfl
 | c :: l,s=>by
  rw[iO,List.map_cons,List.map_cons,D6 p l];rfl
theorem p8{p:Pa}(h0:bB p=0):(aW p).map Ez=(cQ p.tx).map Ct:=by
 unfold aW;rw[if_pos h0];exact D6 p _ _
theorem lX(s:ByteArray):∀ d a,(cP s d a).Pairwise (fun c e=>c.f1<=e.f0)
 | 0,a=>by simp[cP]
 | d+1,a=>by
  unfold cP;split
  .refine List.pairwise_cons.2 ⟨fun e he=>?_,lX s d _⟩;obtain⟨b,h1,_,rfl⟩:=oB s d _ e he;show((fH s a:Nat):Int)<=(b:Int);omega
  .exact List.Pairwise.nil
theorem jG{s:ByteArray}{c:S50}(h:c∈cQ s):0<=c.f0/\c.f0 < c.f1/\c.f1<=(s.size:Int):=by
 obtain⟨b,hb,rfl⟩:=vU _ _ h;have h1:=jf s b;have h2:=wH s b hb;show(0:Int)<=(b:Int)/\(b:Int) < (fH s b:Int)/\(fH s b:Int)<=_;omega
def RM(M:List S99):Prop:=M.Pairwise (fun c e=>c.f1<=e.f0)/\∀ m∈M,m.f0 < m.f1
theorem RM.tail{m:S99}{M:List S99}(h:RM (m :: M)):RM M:=⟨(List.pairwise_cons.1 h.1).2,fun x hx=>h.2 x (List.mem_cons_of_mem _ hx)⟩
theorem RM.head{m:S99}{M:List S99}(h:RM (m :: M)):∀ x∈M,m.f1<=x.f0/\m.f0 < x.f0:=fun x hx=>by
 have h1:=(List.pairwise_cons.1 h.1).1 x hx;have h2:=h.2 m (by simp);omega
theorem He{p:Pa}{m:S99}(h0:bB p=0)(h:m∈aW p):∃ c∈cQ p.tx,c.f0=m.f0/\c.f1=m.f1:=by
 have h1:Ez m∈(aW p).map Ez:=List.mem_map_of_mem h;rw[p8 h0] at h1;obtain⟨c,hc,e⟩:=List.mem_map.1 h1;unfold Ct Ez at e;injection e with e1 e2;exact⟨c,hc,e1,e2⟩
theorem yw{p:Pa}(h0:bB p=0):RM (aW p):=by
 refine⟨?_,fun m hm=>?_⟩
 .have h1:((aW p).map Ez).Pairwise (fun a b=>a.2<=b.1):=by
   rw[p8 h0];exact List.pairwise_map.2 (lX _ _ _)
  exact List.pairwise_map.1 h1
 .obtain⟨c,hc,e1,e2⟩:=He h0 hm;have:=jG hc;omega
theorem OT{p:Pa}{m:S99}(h0:bB p=0)(h:m∈aW p):JW p.tx m.f0=true:=by
 obtain⟨c,hc,e1,e2⟩:=He h0 h;have:∀ l:List S50,c∈l->gM m.f0 l=true:=by
  intro l
  induction l with
  | nil=>intro q;cases q
  | cons d l ih =>
   intro q;unfold gM;split
   .rfl
   .rename_i hd
    rcases List.mem_cons.1 q with rfl|q
    .exact absurd e1 hd
    .exact ih q
 unfold JW;rw[this _ hc,Bool.true_or]
def Cu(x:S46)(cp:Int)(m:S99):Bool:=!zB x m && !(decide (m.f0=0) && decide (0 < cp))
def pG(x:S46)(cp:Int)(m:S99):Bool:=!zB x m && (decide (m.f0=0) && decide (0 < cp))
theorem tA(x:S46)(I:List S75)(cp:Int):∀ (M:List S99) (s:JX),s.kd.length=s.l.length->s.kd.getD 0 false=false ->
  (iJ x I cp M s).l=s.l ++ M.filter (Cu x cp)/\(iJ x I cp M s).kd.length=(iJ x I cp M s).l.length/\(iJ x I cp M s).kd.getD 0 false=false/\(iJ x I cp M s).dr=if M.any (pG x cp)=true then cp else s.dr
 | [],s,h1,h2=>⟨by simp[iJ],h1,h2,by simp[iJ]⟩
 | m :: M,s,h1,h2=>by
  rw[iJ];by_cases c1:zB x m=true
  .have e1:Cu x cp m=false:=by unfold Cu;rw[c1];rfl
   have e2:pG x cp m=false:=by unfold pG;rw[c1];rfl
   have e3:iR x I cp s m=s:=by unfold iR;rw[if_pos c1]
   rw[e3,List.filter_cons_of_neg (by rw[e1];decide),List.any_cons,e2,Bool.false_or];exact tA x I cp M s h1 h2
  .have c1':zB x m=false:=by simpa using c1
   by_cases c2:m.f0=0/\0 < cp
   .have e1:Cu x cp m=false:=(by unfold Cu;rw[c1',decide_eq_true c2.1,decide_eq_true c2.2];rfl);have e2:pG x cp m=true:=(by unfold pG;rw[c1',decide_eq_true c2.1,decide_eq_true c2.2];rfl);have e3:iR x I cp s m=⟨s.l,s.kd,cp⟩:=(by unfold iR;rw[if_neg c1,if_pos c2]);rw[e3,List.filter_cons_of_neg (by rw[e1];decide),List.any_cons,e2,Bool.true_or];have:=tA x I cp M ⟨s.l,s.kd,cp⟩ h1 h2;refine⟨this.1,this.2.1,this.2.2.1,?_⟩;rw[this.2.2.2,if_pos rfl];split<;>rfl
   .have e0:(decide (m.f0=0) && decide (0 < cp))=false:=(by rw[Bool.and_eq_false_iff];by_cases q:m.f0=0;exact .inr (decide_eq_false (fun r=>c2 ⟨q,r⟩));exact .inl (decide_eq_false q));have e1:Cu x cp m=true:=(by unfold Cu;rw[c1',e0];rfl);have e2:pG x cp m=false:=(by unfold pG;rw[e0,Bool.and_false]);have e3:iR x I cp s m=⟨s.l ++ [m],s.kd ++ [decide (0 < s.l.length) && !Jm I m.f0],s.dr⟩:=(by unfold iR;rw[if_neg c1,if_neg c2]);rw[e3,List.filter_cons_of_pos e1,List.any_cons,e2,Bool.false_or];have:=tA x I cp M ⟨s.l ++ [m],s.kd ++ [decide (0 < s.l.length) && !Jm I m.f0],s.dr⟩ (by simp[h1]) (by
     show(s.kd ++ [decide (0 < s.l.length) && !Jm I m.f0]).getD 0 false=false;cases hk:s.kd with
     | nil =>
      have:s.l.length=0:=by rw[<-h1,hk];rfl
      rw[this];rfl
     | cons b t=>rw[hk] at h2;exact h2)
    refine⟨?_,this.2.1,this.2.2.1,this.2.2.2⟩;rw[this.1];simp
theorem yA(p:Pa)(x:S46):(aO p x).l=(aW p).filter (Cu x (ig p (aW p)))/\(aO p x).kd.length=(aO p x).l.length/\(aO p x).kd.getD 0 false=false/\(aO p x).dr=if (aW p).any (pG x (ig p (aW p)))=true then ig p (aW p) else 0:=by
 have:=tA x (cT p) (ig p (aW p)) (aW p) ⟨[],[],0⟩ rfl rfl;refine⟨this.1.trans ?_,this.2.1,this.2.2.1,this.2.2.2⟩;simp
theorem yB(x:S46)(cp:Int):∀ M:List S99,Ga M->RM M->(∀ m∈M,0<=m.f0)->Ga (M.filter (Cu x cp))
 | [],h,_,_=>h
 | m :: M,h,hr,hp=>by
  have ih:=yB x cp M h.tail hr.tail (fun y hy=>hp y (List.mem_cons_of_mem _ hy));have hp0:=hp m (by simp);by_cases c:Cu x cp m=true
  .rw[List.filter_cons_of_pos c];cases M with
   | nil=>exact h
   | cons d M =>
    by_cases e:Cu x cp d=true
    .rw[List.filter_cons_of_pos e] at ih ⊢;exact⟨h.1,ih⟩
    .have hd:=hr.head d (by simp);have ho:x.f1<=d.f0\/(d.f0=0/\0 < cp):=by
      unfold Cu zB at c e;simp at c e;by_cases q:d.f0 < x.f0
      .omega
      .by_cases q2:x.f1<=d.f0
       .exact .inl q2
       .right;have:=e (by omega) (by omega);exact⟨this.1,this.2⟩
     have hn:(d :: M).filter (Cu x cp)=[]:=by
      rw[List.filter_eq_nil_iff];intro y hy hq;have hy1:d.f0<=y.f0:=by
       rcases List.mem_cons.1 hy with rfl|hy
       .exact Int.le_refl _
       .have:=hr.tail.head y hy;omega
      rcases ho with ho|ho
      .unfold Cu zB at hq;simp at hq;omega
      .omega
     rw[hn];exact trivial
  .rw[List.filter_cons_of_neg c];exact ih
theorem D7(l:List S99):∀ k,tu l k<=k
 | 0=>Nat.le_refl _
 | k+1=>by
  unfold tu;split
  .have:=D7 l k;omega
  .exact Nat.le_refl _
theorem AA(l:List S99)(so:Nat):∀ d a,a<=so->a<=rB l so d a/\rB l so d a<=so/\∀ k,a<=k->k < rB l so d a->(aV l k).f2=3
 | 0,a,h=>⟨Nat.le_refl _,h,fun k h1 h2=>absurd h2 (by unfold rB;omega)⟩
 | d+1,a,h=>by
  unfold rB;split
  .rename_i c
   obtain⟨h1,h2,h3⟩:=AA l so d (a+1) (by omega);refine⟨by omega,h2,fun k q1 q2=>?_⟩;by_cases e:k=a
   .subst e;exact c.2
   .exact h3 k (by omega) q2
  .exact⟨Nat.le_refl _,h,fun k h1 h2=>absurd h2 (by omega)⟩
theorem mT(p:Pa)(x:S46):(aO p x).so<=(aO p x).l.length/\(aO p x).ah<=(aO p x).so/\∀ k,k < (aO p x).ah->(aV (aO p x).l k).f2=3:=by
 have h1:(aO p x).so<=(aO p x).l.length:=D7 _ _;have h2:=AA (aO p x).l (aO p x).so (aO p x).so 0 (Nat.zero_le _);have e:(aO p x).ah=if x.f0=0 then rB (aO p x).l (aO p x).so (aO p x).so 0 else 0:=rfl;by_cases c:x.f0=0
 .rw[if_pos c] at e;rw[e];exact⟨h1,h2.2.1,fun k hk=>h2.2.2 k (Nat.zero_le _) hk⟩
 .rw[if_neg c] at e;rw[e];exact⟨h1,Nat.zero_le _,fun k hk=>absurd hk (by omega)⟩
def yS(l:List S99)(fr:Nat)(I:List S75):Prop:=I.Pairwise (fun a b=>a.f1<=b.f1)/\∀ x∈I,∃ j,fr<=j/\j < l.length/\x.f1=(dY l j).f0
theorem yS.mono{l:List S99}{a b:Nat}{I:List S75}(h:yS l b I)(hab:a<=b):yS l a I:=⟨h.1,fun x hx=>by obtain⟨j,h1,h2,h3⟩:=h.2 x hx;exact⟨j,by omega,h2,h3⟩⟩
theorem yS.nil(l:List S99)(a:Nat):yS l a []:=⟨List.Pairwise.nil,fun x hx=>by cases hx⟩
theorem UA{l:List S99}(hl:l.Pairwise (fun c e=>c.f0<=e.f0)){i j:Nat}(h:i<=j)(hj:j < l.length):(dY l i).f0<=(dY l j).f0:=by
 by_cases e:i=j
 .rw[e];exact Int.le_refl _
 .have:=List.pairwise_iff_getElem.1 hl i j (by omega) hj (by omega);rw[sV (by omega),sV hj];exact this
theorem yS.cons{l:List S99}(hl:l.Pairwise (fun c e=>c.f0<=e.f0)){k:Nat}{I:List S75}{x:S75}(h:yS l k I)(hk:k < l.length)(hx:x.f1=(dY l k).f0):yS l k (x :: I):=by
 refine⟨List.pairwise_cons.2 ⟨fun y hy=>?_,h.1⟩,fun y hy=>?_⟩
 .obtain⟨j,h1,h2,h3⟩:=h.2 y hy;rw[hx,h3];exact UA hl h1 h2
 .rcases List.mem_cons.1 hy with rfl|hy
  .exact⟨k,Nat.le_refl _,hk,hx⟩
  .exact h.2 y hy
theorem yS.shut{l:List S99}(hl:l.Pairwise (fun c e=>c.f0<=e.f0)){fr k:Nat}{I:List S75}(h:yS l k I)(ZX:fr<=k)(hk:k<=l.length):yS l fr (fO l fr k ++ I):=by
 unfold fO;split
 .exact h.mono ZX
 .exact yS.cons hl (h.mono ZX) (by omega) rfl
theorem OU(m:S99):(fq m).f1=m.f0:=by
 unfold fq;split
 .rfl
 .split<;>rfl
theorem OV(tx:ByteArray)(l:List S99)(pl:List Bool)(hl:l.Pairwise (fun c e=>c.f0<=e.f0)):∀ d k run fr,k+d=l.length->fr<=k->yS l fr (eO tx l pl d k run fr):=by
 intro d
 induction d with
 | zero =>
  intro k run fr hk hf;have:=yS.shut hl (yS.nil l k) hf (by omega);rw[List.append_nil] at this;exact this
 | succ d ih =>
  intro k run fr hk hf;unfold eO;split
  .exact yS.shut hl (yS.cons hl ((ih (k+1) (k+1) (k+1) (by omega) (Nat.le_refl _)).mono (by omega)) (by omega) (OU _)) hf (by omega)
  .split
   .exact ih (k+1) run fr (by omega) (by omega)
   .split
    .exact yS.shut hl (yS.cons hl (ih (k+1) run k (by omega) (by omega)) (by omega) rfl) hf (by omega)
    .split
     .exact yS.shut hl (yS.cons hl (ih (k+1) run k (by omega) (by omega)) (by omega) rfl) hf (by omega)
     .exact ih (k+1) run fr (by omega) (by omega)
theorem D8(p:Pa):yS (bL p) 0 (cT p):=OV p.tx (bL p) _ (Aj p) (bL p).length 0 0 0 (by omega) (Nat.le_refl _)
theorem yC{p:Pa}(hz:p.small)(h0:bB p=0){i:Nat}(hi:i < (cT p).length):JW p.tx (aX (cT p) i).f1=true/\0<=(aX (cT p) i).f1/\(aX (cT p) i).f1<=(p.tx.size:Int):=by
 obtain⟨j,h1,h2,h3⟩:=(D8 p).2 _ (jI hi);have hm:=jU (lV h2);have:=(cZ hz h0 _ hm).2.1;rw[h3];exact⟨OT h0 hm,by omega,by omega⟩
theorem Jp(p:Pa){i j:Nat}(h:i<=j)(hj:j < (cT p).length):(aX (cT p) i).f1<=(aX (cT p) j).f1:=by
 by_cases e:i=j
 .rw[e];exact Int.le_refl _
 .have:=List.pairwise_iff_getElem.1 (D8 p).1 i j (by omega) hj (by omega);rw[sE (by omega),sE hj];exact this
theorem OW{s:ByteArray}:JW s 0=true:=by
 unfold JW;by_cases h:0 < s.size
 .have:cQ s=rS s 0 :: rest s (fH s 0):=kM s 0 h;rw[this];unfold gM;rw[if_pos (show(rS s 0).f0=0 from rfl),Bool.true_or]
 .rw[show(s.size:Int)=0 by omega];simp
theorem RN{s:ByteArray}:JW s (s.size:Int)=true:=by unfold JW;simp
def zC(p:Pa):Int->List S46->Prop
 | _,[]=>False
 | fr,x :: L=>x.f0=fr/\gK p x/\(if L=[] then x.f1=(p.tx.size:Int) else zC p x.f1 L)
theorem D9{p:Pa}(hz:p.small)(h0:bB p=0){S:List S30}{r:S30}(hs:bV S r=0)(fits loose:Bool):∀ (P:List S72) (n:Nat) (fr:Int),yR (cT p).length P->JW p.tx fr=true->0<=fr->fr<=(p.tx.size:Int) ->
  (∀ y Q,P=y :: Q->y.f0 < ((cT p).length:Int)->fr<=(aX (cT p) y.f0.toNat).f1)->zC p fr (oX (cT p) S r (p.tx.size:Int) fits loose n fr P)
 | [],_,_,h,_,_,_,_=>h.elim
 | [y],n,fr,h,hb,h1,h2,h3=>by
  have hsl:=fU hs n;exact⟨rfl,⟨⟨h1,h2,Int.le_refl _⟩,hb,RN,⟨hsl.1,hsl.2.1⟩,⟨hsl.2.2.1,hsl.2.2.2⟩⟩,by rw[if_pos (by rfl)];rfl⟩
 | y :: q :: Q,n,fr,h,hb,h1,h2,h3=>by
  have hsl:=fU hs n;have hy:=h.1;have hq:=h.2.1;have hq2:=h.2.2.1;have h4:=h3 y _ rfl (by omega);have hy0:=hy.1;have hi:=yC hz h0 (i:=q.f0.toNat) (by omega);have hr:=Jp p (i:=y.f0.toNat) (j:=q.f0.toNat) (by omega) (by omega);have ih:=D9 hz h0 hs fits loose (q :: Q) (n+1) (aX (cT p) q.f0.toNat).f1 h.2.2.2 hi.1 hi.2.1 hi.2.2 (fun y' Q' e _=>by injection e with e1 e2;rw[e1];exact Int.le_refl _);refine⟨rfl,⟨⟨h1,?_,?_⟩,hb,hi.1,⟨hsl.1,hsl.2.1⟩,⟨hsl.2.2.1,hsl.2.2.2⟩⟩,?_⟩
  .show fr<=(aX (cT p) q.f0.toNat).f1;omega
  .show(aX (cT p) q.f0.toNat).f1<=_;exact hi.2.2
  .rw[if_neg (fun e=>by have:=congrArg List.length e;rw[mQ] at this;simp at this)];exact ih
theorem Ge{p:Pa}{S:List S30}{r:S30}(hL:DL p S r):yR (cT p).length (Jh p S r).1:=by
 unfold Jh eU;by_cases c:p.pr.f13=1/\iH (cT p)=false
 .rw[if_pos c];by_cases e:(leastOf (cT p) (eF p S r).1 (eF p S r).2).2.2=0
  .rw[if_pos e];exact DJ (hL c) e
  .rw[if_neg e];exact sZ _ _ _
 .rw[if_neg c];exact sZ _ _ _
theorem Gf{p:Pa}{S:List S30}{r:S30}(hz:p.small)(h:iI p S r=0)(hL:DL p S r):zC p 0 (iQ p S r):=by
 obtain⟨h0,h1⟩:=pX h;refine D9 hz h0 (Al p S r h0 h1).1 _ _ _ 0 0 (Ge hL) OW (Int.le_refl _) (by omega) (fun y Q e hlt=>?_);have hy:0<=y.f0:=by
  have:=(Ge hL).one 0 (by rw[e];simp);rw[e] at this;exact this.1
 exact(yC hz h0 (by omega)).2.1
theorem RO(E:gG):∀ k,E.Ew k=n_ E.kd E.an E.l E.x k+E.ad+E.tk k
 | 0=>by
  have:E.tk 0=0:=by
   unfold gG.tk nM;split
   .show(E.ex * 0).tdiv E.al=0;rw[Int.mul_zero,Int.zero_tdiv]
   .rfl
  rw[this];show E.x+E.ad=E.x+E.ad+0;omega
 | k+1=>by
  have e:n_ E.kd E.an E.l E.x (k+1)=rG E.kd E.an E.l E.x k+wW E.kd E.an E.l E.x k:=rfl;show E.gX k+E.gW k=_;rw[e];unfold gG.gX gG.gW;by_cases c:E.Mg k=true
  .rw[if_pos c];omega
  .have:E.tk (k+1)=E.tk k:=by
    unfold gG.tk;rw[show E.qF (k+1)=E.qF k by show(if E.Mg k=true then _ else _)=_;rw[if_neg c]]
   rw[if_neg c,this];omega
theorem uD{p:Pa}(hz:p.small)(h0:bB p=0)(x:S46):Ga (aO p x).l/\(∀ m∈(aO p x).l,m∈aW p/\cI m/\0<=m.f4+m.f5):=by
 have hl:=(yA p x).1;refine⟨?_,fun m hm=>?_⟩
 .rw[hl];exact yB x _ _ (DY hz h0) (yw h0) (fun m hm=>(cZ hz h0 m hm).2.1.1)
 .rw[hl] at hm;have hm':=(List.mem_filter.1 hm).1;exact⟨hm',(cZ hz h0 m hm').1,(nK hz h0 m hm').1⟩
theorem yD{p:Pa}{x:S46}{last:Bool}(h:D5 p x last=true):0 < (if eP p x < 0 then qh (fA p x) else qg (fA p x))/\(eP p x < 0->-(eP p x)<=(if eP p x < 0 then qh (fA p x) else qg (fA p x))):=by
 unfold D5 at h;simp only[Bool.and_eq_true,Bool.or_eq_true,decide_eq_true_eq] at h;obtain⟨⟨_,h1⟩,h2⟩:=h;split
 .rename_i c
  rcases h2 with h2|h2
  .omega
  .exact⟨by omega,fun _=>h2.2⟩
 .rename_i c
  exact⟨h1,fun q=>absurd q c⟩
def JY(p:Pa)(x:S46):List (Int × Int):=((cQ p.tx).map Ct).filter (fun c=>decide (x.f0<=c.1) && decide (c.1 < x.f1))
theorem Mk(x:S46)(m:S99):(!zB x m)=(decide (x.f0<=(Ez m).1) && decide ((Ez m).1 < x.f1)):=by
 unfold zB Ez;by_cases a:m.f0 < x.f0
 .rw[decide_eq_true a,decide_eq_false (show ¬ x.f0<=m.f0 by omega)];rfl
 .rw[decide_eq_false a,decide_eq_true (show x.f0<=m.f0 by omega)];by_cases b:x.f1<=m.f0
  .rw[decide_eq_true b,decide_eq_false (show ¬ m.f0 < x.f1 by omega)];rfl
  .rw[decide_eq_false b,decide_eq_true (show m.f0 < x.f1 by omega)];rfl
theorem Gg{p:Pa}(h0:bB p=0)(x:S46):JY p x=((aW p).filter (fun m=>!zB x m)).map Ez:=by
 unfold JY;rw[<-p8 h0,List.filter_map]
 congr 1
 refine List.filter_congr (fun m _=>?_);exact(Mk x m).symm
theorem Gh{s:ByteArray}(h:0 < s.size):fS s.size 0 (cQ s)=(fH s 0:Int):=by
 have:cQ s=rS s 0 :: rest s (fH s 0):=kM s 0 h;rw[this];unfold fS;have:=jf s 0;rw[if_pos (show(rS s 0).f1 > 0 by show(fH s 0:Int) > 0;omega)];rfl
theorem yE{x:S46}{cp:Int}:∀ {M:List S99},M.any (pG x cp)=false->M.filter (Cu x cp)=M.filter (fun m=>!zB x m):=by
 intro M h;refine List.filter_congr (fun m hm=>?_);have hc:pG x cp m=false:=by
  cases hq:pG x cp m with
  | false=>rfl
  | true=>rw[List.any_eq_true.2 ⟨m,hm,hq⟩] at h;cases h
 unfold pG at hc;unfold Cu;cases ho:zB x m with
 | true=>rfl
 | false =>
  rw[ho] at hc;have:(decide (m.f0=0) && decide (0 < cp))=false:=hc;rw[this];rfl
noncomputable def pH(p:Pa)(x:S46)(last:Bool):List S48:=pF p x ++ (fY p x last).mR (aO p x).so ++ ((aO p x).l.drop (aO p x).so).map (fun m=>⟨m.f0,m.f1,(fY p x last).Ew (aO p x).so,0⟩)
noncomputable def AF(p:Pa)(x:S46)(last:Bool):List S48:=if x.f5=true then [⟨x.f1,x.f1,(fY p x last).Ew (aO p x).so,(aO p x).hy⟩] else []
theorem vX(p:Pa)(x:S46)(last:Bool):gb p x last=pH p x last ++ AF p x last:=rfl
theorem Hf(E:gG):∀ k,k<=E.l.length->(E.mR k).map Gd=(E.l.take k).map Ez
 | 0,_=>by simp[gG.mR]
 | k+1,h=>by
  rw[gG.Aw,List.map_append,Hf E k (by omega),List.take_succ_eq_append_getElem (show k < E.l.length by omega),List.map_append]
  congr 1
  have:aV E.l (k:Int)=E.l[k]:=by
   unfold aV;simp[List.getD_eq_getElem?_getD,List.getElem?_eq_getElem (show k < E.l.length by omega)]
  show[((aV E.l (k:Int)).f0,(aV E.l (k:Int)).f1)]=[Ez E.l[k]];rw[this];rfl
theorem yF{p:Pa}{x:S46}{last:Bool}(hz:p.small)(h0:bB p=0):(pH p x last).map Gd=JY p x:=by
 have hs:=yA p x;have he:=mT p x;have h1:(pH p x last).map Gd=(pF p x).map Gd ++ (aO p x).l.map Ez:=by
  unfold pH;rw[List.map_append,List.map_append,List.map_map];have e1:((fY p x last).mR (aO p x).so).map Gd=((aO p x).l.take (aO p x).so).map Ez:=Hf (fY p x last) _ he.1;have e2:((aO p x).l.drop (aO p x).so).map (Gd ∘ fun m=>(⟨m.f0,m.f1,(fY p x last).Ew (aO p x).so,0⟩:S48))=((aO p x).l.drop (aO p x).so).map Ez:=rfl;rw[e1,e2,List.append_assoc,<-List.map_append,List.take_append_drop]
 rw[h1,Gg h0,hs.1];by_cases c:(aW p).any (pG x (ig p (aW p)))=true
 .rw[if_pos c] at hs;have hR:=yw h0;have hF:∀ m∈aW p,0<=m.f0:=fun m hm=>(cZ hz h0 m hm).2.1.1
  have hC:=p8 h0;obtain⟨m,hm,hcm⟩:=List.any_eq_true.1 c;unfold pG at hcm;simp only[Bool.and_eq_true,Bool.not_eq_true',decide_eq_true_eq] at hcm;obtain⟨ho,hm0,MV⟩:=hcm;have hh:pF p x=[⟨0,fS p.tx.size 0 (cQ p.tx),x.f2 - (aO p x).dr,(aO p x).dr - 4⟩]:=by
   unfold pF;rw[if_pos (by rw[hs.2.2.2];exact MV)]
  rw[hh];generalize ig p (aW p)=cp at *;cases hM:aW p with
  | nil=>rw[hM] at hm;cases hm
  | cons d M =>
   rw[hM] at hR hF hm hC;have hd:m=d:=by
    rcases List.mem_cons.1 hm with e|e
    .exact e
    .have:=hR.head m e;have:=hF d (by simp);omega
   subst hd;have hsz:0 < p.tx.size:=by
    have:=(cZ hz h0 m (by rw[hM];simp)).2.1;omega
   have hcl:cQ p.tx=rS p.tx 0 :: rest p.tx (fH p.tx 0):=kM p.tx 0 hsz;rw[hcl,List.map_cons,List.map_cons] at hC;injection hC with hC1 hC2;have hf1:m.f1=(fH p.tx 0:Int):=by
    unfold Ez Ct at hC1;injection hC1
   have e1:Cu x cp m=false:=by unfold Cu;rw[ho,decide_eq_true hm0,decide_eq_true MV];rfl
   have e2:M.any (pG x cp)=false:=by
    rw[List.any_eq_false];intro y hy hq;unfold pG at hq;simp only[Bool.and_eq_true,decide_eq_true_eq] at hq;have:=hR.head y hy;omega
   rw[List.filter_cons_of_neg (by rw[e1];decide),yE e2,List.filter_cons_of_pos (by rw[ho];rfl),List.map_cons,List.map_cons,List.map_nil,List.singleton_append]
   congr 1
   show((0:Int),fS (p.tx.size:Int) 0 (cQ p.tx))=(m.f0,m.f1);rw[Gh hsz,hm0,hf1]
 .have c':(aW p).any (pG x (ig p (aW p)))=false:=by simpa using c
  rw[if_neg c] at hs;have hh:pF p x=[]:=by
   unfold pF;rw[if_neg (by rw[hs.2.2.2];omega)]
  rw[hh,yE c'];rfl
theorem Eb(p:Pa)(x:S46)(last:Bool):(AF p x last).length<=1:=by
 unfold AF;split<;>simp
theorem Cn{l:List (Int × Int)}(hl:l.Pairwise (fun a b=>a.1<=b.1))(a b:Int)(hab:a<=b):l.filter (fun c=>decide (a<=c.1) && decide (c.1 < b)) ++ l.filter (fun c=>decide (b<=c.1))=l.filter (fun c=>decide (a<=c.1)):=by
 induction l with
 | nil=>rfl
 | cons d l ih =>
  obtain⟨h1,h2⟩:=List.pairwise_cons.1 hl;have ih:=ih h2;by_cases c1:a<=d.1
  .by_cases c2:d.1 < b
   .rw[List.filter_cons_of_pos (by simp[c1,c2]),List.filter_cons_of_neg (by simp;omega),List.filter_cons_of_pos (by simp[c1]),List.cons_append,ih]
   .have e1:∀ l:List (Int × Int),(∀ y∈l,d.1<=y.1)->l.filter (fun c=>decide (a<=c.1) && decide (c.1 < b))=[]:=fun l hy=>List.filter_eq_nil_iff.2 (fun y h=>by have:=hy y h;simp;omega)
    have e2:∀ l:List (Int × Int),(∀ y∈l,d.1<=y.1)->l.filter (fun c=>decide (b<=c.1))=l:=fun l hy=>List.filter_eq_self.2 (fun y h=>by have:=hy y h;simp;omega)
    have e3:∀ l:List (Int × Int),(∀ y∈l,d.1<=y.1)->l.filter (fun c=>decide (a<=c.1))=l:=fun l hy=>List.filter_eq_self.2 (fun y h=>by have:=hy y h;simp;omega)
    have hd:∀ y∈d :: l,d.1<=y.1:=fun y hy=>by
     rcases List.mem_cons.1 hy with rfl|hy
     .exact Int.le_refl _
     .exact h1 y hy
    rw[e1 _ hd,e2 _ hd,e3 _ hd];rfl
  .rw[List.filter_cons_of_neg (by simp[c1]),List.filter_cons_of_neg (by simp;omega),List.filter_cons_of_neg (by simp[c1]),ih]
theorem yG{p:Pa}:∀ {L:List S46} {fr:Int},zC p fr L->L.flatMap (JY p)=((cQ p.tx).map Ct).filter (fun c=>decide (fr<=c.1))
 | [],_,h=>h.elim
 | x :: L,fr,h=>by
  obtain⟨h1,h2,h3⟩:=h;have hw:∀ c∈(cQ p.tx).map Ct,c.1 < (p.tx.size:Int):=fun c hc=>by
   obtain⟨d,hd,rfl⟩:=List.mem_map.1 hc;have:=jG hd;show d.f0 < _;omega
  have hp:((cQ p.tx).map Ct).Pairwise (fun a b=>a.1<=b.1):=List.pairwise_map.2 (uq _ _ _);rw[List.flatMap_cons];split at h3
  .rename_i e
   rw[e,List.flatMap_nil,List.append_nil];unfold JY;refine List.filter_congr (fun c hc=>?_);rw[h3,h1,decide_eq_true (hw c hc),Bool.and_true]
  .rw[yG h3];unfold JY;rw[h1];exact Cn hp fr x.f1 (by have:=h2.f;omega)
theorem zC.all{p:Pa}:∀ {L:List S46} {fr:Int},zC p fr L->∀ x∈L,gK p x
 | [],_,h=>h.elim
 | y :: L,fr,h=>fun x hx=>by
  rcases List.mem_cons.1 hx with rfl|hx
  .exact h.2.1
  .have h3:=h.2.2;split at h3
   .rename_i e;rw[e] at hx;cases hx
   .exact zC.all h3 x hx
def Gi:Prop:=∀ (p:Pa) (x:S46) (last:Bool) {As Am:Option Addr} {cs cm:Nat} (w:World),dK w p As cs Am cm->p.small->bB p=0->gK p x->Lib.TabIs Tryz.prog w "strings.asciiSpace" .u8 Lib.asciiSpaceTab ->
  Calls Tryz.prog 10 #[.agg (cG p As cs Am cm),.agg (tH x),.bool last] w (Gc p x last w)
theorem PK{G:List S48}(h:G.all (fun g=>decide (-1000000<=g.f2+g.f3/\g.f2+g.f3<=1000000))=true):∀ g∈G,-100000000000000000<=g.f2+g.f3/\g.f2+g.f3<=100000000000000000:=fun g hg=>by
 have:=of_decide_eq_true (List.all_eq_true.1 h g hg);omega
theorem Ec{l:List S46}{k:Nat}(h:k < l.length):dJ l (k:Int)∈l:=by
 unfold dJ;simp[List.getD_eq_getElem?_getD,List.getElem?_eq_getElem h]
theorem ak2(ad:Addr):ad.add (Int.toNat 0 * 7)=ad:=by
 rcases ad with⟨b,o,p⟩;cases p<;>simp[Addr.add]
theorem RP{α:Type}{d:Kd α}{e base:Nat}{ok:Nat->Prop}{w:World}{A:Option Addr}{n c:Nat}{xs:List α}(h:d.R e w base ok (.slice A n c) xs):∀ a,A=some a->∃ g,a=⟨g,0,none⟩:=by
 intro a ha;subst ha;obtain⟨inner,ho,_⟩:=h.2;rcases ho.2 with⟨e1,_⟩|⟨g,cap,cur,e1,_⟩
 .injection e1 with e1;cases e1
 .injection e1 with e1 e2 e3;injection e1 with e1;exact⟨g,e1⟩
theorem Jt:p18.small:=⟨by decide,by decide,by decide,by decide,fun m hm=>by cases hm⟩
theorem Ed(hP:Gi)(w:World)(htab:Lib.TabIs Tryz.prog w "strings.asciiSpace" .u8 Lib.asciiSpaceTab) :
  Calls Tryz.prog 5 #[] w fun e w'=>e=.returned (.bool true)/\Below w.heap.size w w':=by
 have Mp:=aj hP;have HT:=aj htab;have HZ:=aj Jt;have HC0:=aj (pX uz).1;clear hP htab;go_enter Tryz.func5,Tryz.ntmps5;go_upto_region 2 with(first|(go_at_call 18;go_loud(refine(zy t18 (by decide) _).mono ?_;rintro e w1 ⟨A,rfl,hA,hb1⟩;have HA1:=aj hA;have HB1:=aj hb1;have HN1:=aj (aH w1 (.cells Ev 27));clear hA hb1))|(refine ux rfl 27 _ _ rfl w1.heap.size (cG (OI t18) A 1 none 0) rfl rfl 27 Ev (by exact HN1.out) (cV _ _ _ _ _) rfl (Ce _ _ _ _) ?_;intro w2 hw2 hk2 hB2 hs2;have HW2:=aj (And.intro hw2 (And.intro hk2 (And.intro hB2 hs2)));clear hw2 hk2 hB2 hs2));obtain⟨b1,hb1⟩:∃ b,w1.heap.size=b:=⟨_,rfl⟩;have mK:=aj hb1;have HB2:=aj (show Below w1.heap.size w1 w2 from HW2.out.2.2.1 _ _ ((Below.refl w1.heap.size w1).alloc (Nat.le_refl _) (.cells Ev 27)) (Nat.le_refl _));have HX2:=aj HW2.out.1;rw[hb1] at HX2 ⊢;clear hb1;have y4:w2.cell? ⟨b1,4,none⟩=some (.int .i64 0):=(ak HX2.out 4).trans rfl;have fz:=aB HX2.out 4;go_upto_region 3 with(fail);have HX3:=aj (show(w2.setCell ⟨b1,4,none⟩ (.int .i64 1)).heap[b1]? = some (.cells (cG p18 A 1 none 0) 27 (0,0)) from aN HX2.out 4 _ rfl);have HB3:=aj (show Below w1.heap.size w1 (w2.setCell ⟨b1,4,none⟩ (.int .i64 1)) from HB2.out.setCell (by rw[mK.out];exact Nat.le_refl _) _)
 have HA3:=aj (show dK (w2.setCell ⟨b1,4,none⟩ (.int .i64 1)) p18 A 1 none 0 from
  ⟨(dK.below HA1.out HB3.out).sp,Nat.le_refl _,Kd.J2 _ _,Nat.le_refl _⟩)
 have RQ:=aj (HB1.out.trans (HB3.out.mono HB1.out.size));generalize w2.setCell ⟨b1,4,none⟩ (.int .i64 1)=w3 at *;clear y4 fz HW2 HX2 HB2 HB3 HN1;obtain⟨L,hL⟩:∃ L,iQ p18 [] ⟨0,15⟩=L:=⟨_,rfl⟩;have HL:=aj hL;clear hL;go_upto_region 4 with(first|((with_reducible refine aS (N:=12) rfl ?_);go_loud(refine wpList_load_row rfl 27 _ rfl b1 rfl 27 (cG p18 A 1 none 0) (0,0) _ (by exact HX3.out) Tryz.underlying27 rfl (cV _ _ _ _ _) ?_))|(go_at_call 7;go_loud(refine(Ap p18 (m:=0) [] ⟨0,15⟩ none 0 _ rfl HA3.out HZ.out (Kd.J2 _ _) (Nat.le_refl _) uz (eG HT.out RQ.out)).mono ?_;rintro e w4 ⟨v,rfl,hR,hb4,hLO⟩;obtain⟨A4,c4,e4,hc4,ha4,hC4⟩:=fX hR;rw[G_] at e4 hc4 hC4;rw[HL.out] at hC4;subst e4;have HAD:=aj (RP hR);have HC4:=aj hC4;have uX:=aj hLO;have HB4:=aj hb4;clear hR hc4 ha4 hC4 hLO hb4)));have Et:=aj (show L.length=2 by rw[<-HL.out];exact G_);have OA:=aj (show ∀ x∈L,gK p18 x by rw[<-HL.out];exact zC.all (Gf HZ.out uz uX.out));have HL0:=aj (show gK p18 (dJ L 0) from OA.out _ (Ec (l:=L) (k:=0) (by rw[Et.out];decide)));have HL1:=aj (show gK p18 (dJ L 1) from OA.out _ (Ec (l:=L) (k:=1) (by rw[Et.out];decide)));have HF0:=aj (show(dJ L 0).f1=4 by rw[<-HL.out];exact RF);have HE0:=aj (show rD p18 (dJ L 0) false=15 by rw[<-HL.out];exact Uy);have HE1:=aj (show rD p18 (dJ L 1) true=13 by rw[<-HL.out];exact Uz);have HG0:=aj (show(gb p18 (dJ L 0) false).all (fun g=>decide (-1000000<=g.f2+g.f3/\g.f2+g.f3<=1000000))=true by rw[<-HL.out];exact RG);have HG1:=aj (show(gb p18 (dJ L 1) true).all (fun g=>decide (-1000000<=g.f2+g.f3/\g.f2+g.f3<=1000000))=true by rw[<-HL.out];exact RH);have HN0:=aj (show(gb p18 (dJ L 0) false).length<=10000 by rw[<-HL.out];exact RJ);have HN1:=aj (show(gb p18 (dJ L 1) true).length<=10000 by rw[<-HL.out];exact RL);obtain⟨ad,e0,k0,k1,k2,k3,k4,k5,k6⟩:=EJ HC4.out 0 (by omega) (by omega);subst e0;obtain⟨ad1,e1,j0,j1,j2,j3,j4,j5,j6⟩:=EJ HC4.out 1 (by omega) (by omega);injection e1 with e1;subst e1;obtain⟨x0,hx0⟩:∃ x,dJ L 0=x:=⟨_,rfl⟩;obtain⟨x1,hx1⟩:∃ x,dJ L 1=x:=⟨_,rfl⟩;rw[hx0] at k0 k1 k2 k3 k4 k5 k6 HL0 HF0 HE0 HG0 HN0;rw[hx1] at j0 j1 j2 j3 j4 j5 j6 HL1 HE1 HG1 HN1;obtain⟨g,hg⟩:=HAD.out ad rfl;subst hg;replace k0:w4.cell? ⟨g,0,none⟩=some (.int .i64 x0.f0):=k0;replace k1:w4.cell? ⟨g,1,none⟩=some (.int .i64 x0.f1):=k1;replace k2:w4.cell? ⟨g,2,none⟩=some (.int .i64 x0.f2):=k2;replace k3:w4.cell? ⟨g,3,none⟩=some (.int .i64 x0.f3):=k3;replace k4:w4.cell? ⟨g,4,none⟩=some (.int .i64 x0.f4):=k4;replace k5:w4.cell? ⟨g,5,none⟩=some (.bool x0.f5):=k5;replace k6:w4.cell? ⟨g,6,none⟩=some (.int .i64 x0.f6):=k6;replace j0:w4.cell? ⟨g,7,none⟩=some (.int .i64 x1.f0):=j0;replace j1:w4.cell? ⟨g,8,none⟩=some (.int .i64 x1.f1):=j1;replace j2:w4.cell? ⟨g,9,none⟩=some (.int .i64 x1.f2):=j2;replace j3:w4.cell? ⟨g,10,none⟩=some (.int .i64 x1.f3):=j3;replace j4:w4.cell? ⟨g,11,none⟩=some (.int .i64 x1.f4):=j4;replace j5:w4.cell? ⟨g,12,none⟩=some (.bool x1.f5):=j5;replace j6:w4.cell? ⟨g,13,none⟩=some (.int .i64 x1.f6):=j6;have f1:=HF0.out;have V7:=k1;rw[f1] at V7;have HK1:=aj k1;clear hx0 hx1 f1 k1;have HX4:=aj (ay HX3.out HB4.out);have HA4:=aj (dK.below HA3.out HB4.out);have RR:=aj (RQ.out.trans (HB4.out.mono RQ.out.size));have HT4:=aj (eG HT.out RR.out);go_upto_region 6 with(fail);clear V7;have k1:=HK1.out;have yP:=Bx.blk HX4.out;have y0:=Bx.cell k0;have y1:=Bx.cell k1;have y2:=Bx.cell k2;have y3:=Bx.cell k3;have y4:=Bx.cell k4;have y5:=Bx.cell k5;have y6:=Bx.cell k6;refine aZ (by kernel_rfl) (by kernel_rfl) ?_
 repeat(first|(go_big_quiet_step ((go_at_call 17;exact Bx.cu (PJ p18 x0 false _ (fun W hW=>Mp.out p18 x0 false W (dK.below (dK.below HA4.out (Bx.hb _)) hW) HZ.out HC0.out HL0.out (eG (eG HT4.out (Bx.hb _)) hW)) _ rfl HN0.out (PK HG0.out) 15 HE0.out))))|(go_big_quiet_want;refine jj 27 (.tmp 1) rfl b1 rfl 27 (cG p18 A 1 none 0) (0,0) _ yP Tryz.underlying27 rfl (cV _ _ _ _ _) ?_;go_simp;go_big_quiet_on))
 refine wpQuiet_nil ?_;intro w5 hb5;have HX5:=aj (ay HX4.out hb5);have HA5:=aj (dK.below HA4.out hb5);have RS:=aj (RR.out.trans (hb5.mono RR.out.size));have HT5:=aj (eG HT.out RS.out);replace j0:=(hb5.cell (World.block_lt_of_cell? _ _ j0)).trans j0;replace j1:=(hb5.cell (World.block_lt_of_cell? _ _ j1)).trans j1;replace j2:=(hb5.cell (World.block_lt_of_cell? _ _ j2)).trans j2;replace j3:=(hb5.cell (World.block_lt_of_cell? _ _ j3)).trans j3;replace j4:=(hb5.cell (World.block_lt_of_cell? _ _ j4)).trans j4;replace j5:=(hb5.cell (World.block_lt_of_cell? _ _ j5)).trans j5;replace j6:=(hb5.cell (World.block_lt_of_cell? _ _ j6)).trans j6;clear yP y0 y1 y2 y3 y4 y5 y6 k0 k1 k2 k3 k4 k5 k6 hb5;go_upto_region 7 with(fail);have yP:=Bx.blk HX5.out;have y0:=Bx.cell j0;have y1:=Bx.cell j1;have y2:=Bx.cell j2;have y3:=Bx.cell j3;have y4:=Bx.cell j4;have y5:=Bx.cell j5;have y6:=Bx.cell j6;refine aZ (by kernel_rfl) (by kernel_rfl) ?_
 repeat(first|(go_big_quiet_step ((go_at_call 17;exact Bx.cu (PJ p18 x1 true _ (fun W hW=>Mp.out p18 x1 true W (dK.below (dK.below HA5.out (Bx.hb _)) hW) HZ.out HC0.out HL1.out (eG (eG HT5.out (Bx.hb _)) hW)) _ rfl HN1.out (PK HG1.out) 13 HE1.out))))|(go_big_quiet_want;refine jj 27 (.tmp 1) rfl b1 rfl 27 (cG p18 A 1 none 0) (0,0) _ yP Tryz.underlying27 rfl (cV _ _ _ _ _) ?_;go_simp;go_big_quiet_on))
 refine wpQuiet_nil ?_;intro w6 hb6;have OX:=aj (RS.out.trans (hb6.mono RS.out.size));clear yP y0 y1 y2 y3 y4 y5 y6 j0 j1 j2 j3 j4 j5 j6 hb6;go_wp2;go_ret;exact⟨rfl,OX.out⟩
def BF(F:Lit->Option Value)(I:List S75):Prop:=∀ a,sm a->F (.int .i64 a)=if Jm I a=true then some (.bool true) else none
theorem BF.nil:BF (fun _=>none) []:=fun a _=>by
 have:Jm [] a=false:=rfl;rw[this];rfl
theorem AJ(I:List S75)(i:S75)(a:Int):Jm (I ++ [i]) a=(Jm I a || (i.f0 == 3 && i.f1 == a)):=by
 unfold Jm;rw[List.any_append,List.any_cons,List.any_nil,Bool.or_false]
theorem BF.skip{F:Lit->Option Value}{I:List S75}(h:BF F I){i:S75}(hi:i.f0≠3):BF F (I ++ [i]):=fun a ha=>by
 rw[AJ,show(i.f0 == 3)=false by simpa using hi,Bool.false_and,Bool.or_false];exact h a ha
theorem Ee{a b:Int}:(Lit.int .i64 a).sameKey (.int .i64 b)=decide (a=b):=by
 by_cases h:a=b
 .subst h;rw[decide_eq_true rfl];exact WideAt.sameKey_self ⟨⟩
 .rw[Maps.sameKey_ne (fun q=>h (by injection q)),decide_eq_false h]
theorem BF.put{F:Lit->Option Value}{I:List S75}(h:BF F I){i:S75}(hi:i.f0=3):BF (sM F (.int .i64 i.f1) (.bool true)) (I ++ [i]):=fun a ha=>by
 rw[AJ,show(i.f0 == 3)=true by simpa using hi,Bool.true_and];unfold sM;rw[Ee];by_cases e:a=i.f1
 .rw[decide_eq_true e,if_pos rfl,if_pos (by rw[show(i.f1 == a)=true by rw[e];exact beq_self_eq_true _,Bool.or_true])]
 .rw[decide_eq_false e,if_neg (by decide),h a ha,show(i.f1 == a)=false by rw[beq_eq_false_iff_ne];exact fun q=>e q.symm,Bool.or_false]
theorem UC{a:Int}(h:sm a):keyOf Tryz.prog 3 (.int .i64 a)=some (.int .i64 a):=Maps.keyOf_int_mk Tryz.underlying3 (LC h)
theorem Mq:Maps.Keyed Tryz.prog 3:=Maps.int_keyed Tryz.underlying3
end Go.Proofs.YtcaallkkeighdaaGreatDoor.P
