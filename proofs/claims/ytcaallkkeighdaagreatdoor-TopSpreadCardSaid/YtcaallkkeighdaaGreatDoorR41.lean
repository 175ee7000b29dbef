/- set.Place of a checked paragraph and a line that may be answers as the plain glyOf. -/
import Derived.Test.YtcaallkkeighdaaGreatDoorR40
set_option maxRecDepth 100000
set_option maxHeartbeats 16000000
set_option linter.unusedVariables false
set_option linter.unusedSimpArgs false
namespace Go.Proofs.YtcaallkkeighdaaGreatDoor.P
open Go.RowKit aD aQ aR
attribute [local go_sem] kL
def uG(W:World)(t:Nat)(c:Value)(v:Value)(wc:World):Prop:=∃ b,v=.pointer (some ⟨b,0,none⟩)/\W.heap.size<=b/\wc.heap[b]? = some (.cells #[c] t (0,0))/\Below W.heap.size W wc
theorem uG.of{W wc:World}{t b:Nat}{c:Value}(h1:W.heap.size<=b)(h2:wc.heap[b]? = some (.cells #[c] t (0,0)))(h3:Below W.heap.size W wc):uG W t c (.pointer (some ⟨b,0,none⟩)) wc:=⟨b,rfl,h1,h2,h3⟩
def Mv:Bool × List (List Nat × List Nat):=(true,[([],[]),([],[]),([],[]),([1,2],[1,2]),([],[]),([4],[4]),([],[]),([6],[6]),([5,7],[5,7]),([],[]),([9],[9]),([10],[10]),([3,8,11],[3,8,11]),([12],[12]),([0,13,3],[0,13]),([14,14,0,1,2,3,4,5,6,7,8,9,10,11,12,13,14],[14])])
def RX:List Nat:=[0,0,0,6,0,16,0,64,240,0,512,1536,4094,8190,16383,32767]
theorem Mw:jZ .any (opsOf Tryz.f10 12)=Mv:=by kernel_rfl
theorem JC:kC Mv.2 RX=true:=by kernel_rfl
def zF(eT:List S99)(kQ:List Bool)(n:Nat)(A:Option Addr)(c:Nat)(B:Option Addr)(cb an sn:Nat)(dr hy x ad:Int)(sp:Bool)(ex al:Int)(bS bX jV bO bA bT:Nat)(G:List S48):gG :=
 ⟨eT,kQ,n,A,c,B,cb,an,sn,dr,hy,x,ad,sp,ex,al,bS,bX,jV,bO,bA,bA+1,bA+1+1,bA+3,bT,bT+1,bS,fun g=>bO < g/\g≠bA/\g≠bA+1/\g≠bA+1+1/\g≠bA+3/\g≠bT/\g≠bT+1,G⟩
structure GQ(w4:World)(bx bO bS bE:Nat)(sc:Array Value)(x:S46)(ez:Int)(A:Option Addr)(n:Nat)(eT:List S99)(o:Value)(L:List S48)(W:World):Prop where
 ho:W.heap[bO]? = some (.cells #[o] 42 (0,0))
 r:k48.R 48 W bS (fun g=>bO < g/\g≠bE) o L
 e:W.heap[bE]? = some (.cells #[.int .i64 ez] 3 (0,0))
 s:W.heap[bS]? = some (.cells sc 90 (0,0))
 x:W.heap[bx+1]? = some (.cells (tH x) 46 (0,0))
 c:Kd.C k99 W A n eT
 far:Below bS w4 W
def GQE(w4:World)(bx bO bS bE:Nat)(sc:Array Value)(x:S46)(ez:Int)(A:Option Addr)(n:Nat)(eT:List S99)(L:List S48)(W:World):Prop:=∃ Ao mo co,GQ w4 bx bO bS bE sc x ez A n eT (.slice Ao mo co) L W
theorem Ej{l:List S99}{k:Nat}(h:k < l.length):l.take (k+1)=l.take k ++ [aV l (k:Int)]:=by
 rw[List.take_succ_eq_append_getElem h]
 congr 2
 unfold aV;simp[List.getD_eq_getElem?_getD,List.getElem?_eq_getElem h]
namespace GQ
variable{w4 W W' w1:World}{bx bO bS bE:Nat}{sc:Array Value}{x:S46}{ez:Int}{A:Option Addr}{n:Nat}{eT:List S99}{o v1:Value}{L L1:List S48}
theorem below(q:GQ w4 bx bO bS bE sc x ez A n eT o L W)(hb:Below W.heap.size W W'):GQ w4 bx bO bS bE sc x ez A n eT o L W' :=
 ⟨ay q.ho hb,Kd.dL q.r hb,ay q.e hb,ay q.s hb,ay q.x hb,Kd.aM q.c hb,q.far.trans (hb.mono (Nat.le_of_lt (aY q.s)))⟩
theorem ne(q:GQ w4 bx bO bS bE sc x ez A n eT o L W){b:Nat}(h:b<=bO\/b=bE):some b≠o.ownBlock:=fun e=>by
 have:=q.r.1 b e.symm;omega
theorem push(q:GQ w4 bx bO bS bE sc x ez A n eT o L W)(ho:bx+1 < bS/\bS < bO/\bO < bE)(hA:∀ a,A=some a->a.block < bS)(hR:k48.R 48 w1 bS (fun g=>bO < g/\g≠bE) v1 L1)(hB:Below bS w4 w1)(hg:W.grownBy w1 o.ownBlock) :
  GQ w4 bx bO bS bE sc x ez A n eT v1 L1 (w1.setCell ⟨bO,0,none⟩ v1) :=
 ⟨aN (cJ q.ho hg (q.ne (.inl (Nat.le_refl _)))) 0 v1 rfl,
  Kd.ou (p:=⟨bO,0,none⟩) hR (fun j hj=>by have:=hj.1;show j≠bO;omega) _,
  cw (p:=⟨bO,0,none⟩) (cJ q.e hg (q.ne (.inr rfl))) (by show bE≠bO;omega) _,
  cw (p:=⟨bO,0,none⟩) (cJ q.s hg (q.ne (.inl (by omega)))) (by show bS≠bO;omega) _,
  cw (p:=⟨bO,0,none⟩) (cJ q.x hg (q.ne (.inl (by omega)))) (by show bx+1≠bO;omega) _,
  DX q.c (fun a ha=>by
   have hlt:=hA a ha;have hsz:a.block < W.heap.size:=by have:=aY q.s;omega
   rw[Below.heap_setCell _ ⟨bO,0,none⟩ _ a.block (by show a.block≠bO;omega)];exact hg.block a.block hsz (q.ne (.inl (by omega)))),
  hB.setCell (by show bS<=bO;omega) _⟩
end GQ
theorem gG.I.below{E:gG}{k:Nat}{w W W':World}(h:E.I k w W)(hb:Below W.heap.size W W')(hB:E.base<=W.heap.size):E.I k w W':=by
 obtain⟨A,c,m,h1,h2⟩:=h.o;exact⟨ay h.s hb,ay h.x hb,ay h.sp hb,ay h.a hb,ay h.kk hb,ay h.al hb,ay h.p hb,ay h.t hb,ay h.e hb,⟨A,c,m,ay h1 hb,Kd.dL h2 hb⟩,Kd.aM h.c hb,h.far.trans (hb.mono hB)⟩
theorem gG.yL{E:gG}{W W':World}(hO:E.bO < W.heap.size)(hb:Below W.heap.size W W'):E.Cj W'=E.Cj W:=by
 unfold gG.Cj;rw[hb.block _ hO]
theorem lF{P:Program}{ops:Array Oper}{rest:List Oper}{o:Oper}{a:Act}{w:World}{Q:Exit->Act->World->Prop}(hw:Region.wanted o (yielded ops a.tmps)=true)(ty:TypeId)(x:Operand)(ho:o.op=.load ty x)
  (g:Nat) (hx:a.eval x=.pointer (some ⟨g,0,none⟩)) (t:TypeId) (cs:Array Value) (fr:Nat × Nat) (d:TypeDesc) (hg:w.heap[g]? = some (.cells cs t fr)) (hu:P.underlying ty=some d)
  (hd:(match d with|.struct _|.array _ _=>true|_=>false)=true) (hi:(P.info? ty).map (·.size)=some cs.size)
  (h:wpList P ops Q rest (a.put o.dst (.agg cs)) w):wpList P ops Q (o :: rest) a w :=
 wpList_step fun K hK=>by rw[if_pos hw];exact wp_load_row ty x ho g hx t cs fr d hg hu hd hi (hK _ _ h)
def YQ(W:World)(bO base:Nat)(L:List S48)(wc:World):Prop:=∃ A c m,wc.heap[bO]? = some (.cells #[.slice A m c] 42 (0,0))/\k48.R 48 wc base (fun g=>bO < g) (.slice A m c) L/\Below bO W wc
theorem JD(p:Pa)(x:S46)(last:Bool){As Am:Option Addr}{cs cm:Nat}(w:World)(hA:dK w p As cs Am cm)(hz:p.small)(h0:bB p=0)(hx:gK p x)(htab:Lib.TabIs Tryz.prog w "strings.asciiSpace" .u8 Lib.asciiSpaceTab) :
  Calls Tryz.prog 10 #[.agg (cG p As cs Am cm),.agg (tH x),.bool last] w (Gc p x last w):=by
 have HA:=aj hA;have HZ:=aj hz;have HX:=aj hx;have HT:=aj htab;have H0:=aj h0;have rE:=aj (Mu hz h0 hx);have wN:=aj (uD hz h0 x);have YI:=aj (mT p x);have X8:=aj (uP (gI h0).2.2.2.1);have HB0:=aj (((Below.refl w.heap.size w).alloc (Nat.le_refl _) (.cells (cG p As cs Am cm) 27)).alloc (by simp) (.cells (tH x) 46));have dI:=aj (aP (aH w (.cells (cG p As cs Am cm) 27)) (.cells (tH x) 46));have nj:=aH (w.alloc (.cells (cG p As cs Am cm) 27)) (.cells (tH x) 46);rw[World.size_alloc] at nj;have kH:=aj nj;obtain⟨eT,Cq⟩:∃ l,(aO p x).l=l:=⟨_,rfl⟩;obtain⟨kQ,Mx⟩:∃ l,(aO p x).kd=l:=⟨_,rfl⟩;obtain⟨n,hn⟩:∃ n,eT.length=n:=⟨_,rfl⟩;obtain⟨an,han⟩:∃ n,(aO p x).ah=n:=⟨_,rfl⟩;obtain⟨sn,Ie⟩:∃ n,(aO p x).so=n:=⟨_,rfl⟩;obtain⟨ai,hai⟩:∃ n:Int,(an:Int)=n:=⟨_,rfl⟩;obtain⟨si,hsi⟩:∃ n:Int,(sn:Int)=n:=⟨_,rfl⟩;obtain⟨dr,tD⟩:∃ n,(aO p x).dr=n:=⟨_,rfl⟩;obtain⟨hy,Wv⟩:∃ n,(aO p x).hy=n:=⟨_,rfl⟩;obtain⟨ex,hex⟩:∃ n,eP p x=n:=⟨_,rfl⟩;obtain⟨bn,xH⟩:∃ n,qg (fA p x)=n:=⟨_,rfl⟩;obtain⟨bz,hbz⟩:∃ n,qh (fA p x)=n:=⟨_,rfl⟩;obtain⟨tb,htb⟩:∃ b,Av eT=b:=⟨_,rfl⟩;obtain⟨sp,hsp⟩:∃ b,D5 p x last=b:=⟨_,rfl⟩;obtain⟨ad,had⟩:∃ n,jt p.pr.f2 ex=n:=⟨_,rfl⟩;obtain⟨z,hz⟩:∃ z,n_ kQ an eT x.f2 sn=z:=⟨_,rfl⟩;have HS:=aj (And.intro Cq (And.intro Mx (And.intro hn (And.intro han (And.intro Ie (And.intro hai (And.intro hsi (And.intro tD Wv))))))));have HV:=aj (And.intro hex (And.intro xH (And.intro hbz (And.intro htb (And.intro hsp (And.intro had hz))))));have rE:=aj (show UG p x from rE.out);have HN3:=aj (show n<=300 by rw[<-hn,<-Cq];exact rE.out.n);have HAS:=aj (show an<=sn/\sn<=n by have:=YI.out;rw[han,Ie,Cq,hn] at this;exact⟨this.2.1,this.1⟩);have Sl:=aj (show ∀ m∈eT,cI m by rw[<-Cq];exact fun m hm=>(wN.out.2 m hm).2.1);have YR:=aj (show ∀ k,k<=n->0<=n_ kQ an eT x.f2 k/\n_ kQ an eT x.f2 k<=1300000 by have:=rE.out.t;rw[Mx,han,Cq,hn] at this;exact this);have SI:=aj (show ∀ k,k < n->(0<=rG kQ an eT x.f2 k/\rG kQ an eT x.f2 k<=1300000)/\0<=wW kQ an eT x.f2 k/\wW kQ an eT x.f2 k<=4095 by have:=rE.out.a;rw[Mx,han,Cq,hn] at this;exact this);have bD:=aj (show ex=x.f3 - (z+hy - x.f2) by rw[<-hex,<-hz];unfold eP;rw[Mx,han,Cq,Ie,Wv]);have UJ:=aj (show(eT.take sn).drop an=fA p x by unfold fA;rw[Cq,Ie,han]);have RY:=aj (show(-1400000<=ex/\ex<=4095)/\(0<=bn/\bn<=300)/\(0<=bz/\bz<=409500)/\(0<=dr/\dr<=262148)/\(0<=hy/\hy<=64)/\(0<=ad/\ad<=4095) by
  rw[<-hex,<-xH,<-hbz,<-tD,<-Wv,<-had];refine⟨rE.out.e,rE.out.bn,rE.out.bs,rE.out.d,rE.out.h,Ei _ _ ?_⟩;rw[<-hex];exact rE.out.e.2)
 clear Cq Mx hn han Ie hai hsi tD Wv hex xH hbz htb hsp had hz hA hx htab h0 nj;go_enter Tryz.func10,Tryz.ntmps10;go_upto_region 1 with(fail);obtain⟨bx,hbx⟩:∃ bx,w.heap.size=bx:=⟨_,rfl⟩;have mK:=aj hbx;rw[hbx] at dI kH ⊢;generalize (w.alloc (.cells (cG p As cs Am cm) 27)).alloc (.cells (tH x) 46)=w0 at *;clear hbx;go_upto_region 4 with(first|((with_reducible refine aS (N:=23) rfl ?_);go_loud(refine wpList_load_row rfl 27 _ rfl bx rfl 27 (cG p As cs Am cm) (0,0) _ (by exact dI.out) Tryz.underlying27 rfl (cV p As cs Am cm) ?_))|(go_at_call 28;go_loud(refine(rY p _ (dK.below HA.out HB0.out) HZ.out).mono ?_;rintro e w1 ⟨rfl,hb1⟩;rw[H0.out];have HB1:=aj (HB0.out.trans (hb1.mono HB0.out.size));have oY:=aj (ay dI.out hb1);have tg:=aj (ay kH.out hb1);clear hb1)));go_upto_region 6 with(first|((with_reducible refine aS (N:=28) rfl ?_);go_loud(refine wpList_load_row rfl 27 _ rfl bx rfl 27 (cG p As cs Am cm) (0,0) _ (by exact oY.out) Tryz.underlying27 rfl (cV p As cs Am cm) ?_))|((with_reducible refine aS (N:=29) rfl ?_);go_loud(refine wpList_load_row rfl 46 _ rfl (bx+1) rfl 46 (tH x) (0,0) _ (by exact tg.out) Tryz.underlying46 rfl (by kernel_rfl) ?_))|(go_at_call 29;go_loud(refine(Jj p x _ HZ.out H0.out HX.out).mono ?_;rintro e w2 ⟨rfl,hb2⟩;have HB2:=aj (HB1.out.trans (hb2.mono HB1.out.size));have nu:=aj (ay oY.out hb2);have nY:=aj (ay tg.out hb2);clear hb2)));go_upto_region 7 with(first|((with_reducible refine aS (N:=32) rfl ?_);go_loud(refine wpList_load_row rfl 27 _ rfl bx rfl 27 (cG p As cs Am cm) (0,0) _ (by exact nu.out) Tryz.underlying27 rfl (cV p As cs Am cm) ?_))|((with_reducible refine aS (N:=33) rfl ?_);go_loud(refine wpList_load_row rfl 46 _ rfl (bx+1) rfl 46 (tH x) (0,0) _ (by exact nY.out) Tryz.underlying46 rfl (by kernel_rfl) ?_))|(go_at_call 30;go_loud(refine(JB (ai:=ai) (si:=si) p x _ (dK.below HA.out HB2.out) HZ.out H0.out HX.out (eG HT.out HB2.out) HS.out.1 HS.out.2.1 HS.out.2.2.1 (by rw[HS.out.2.2.2.1];exact HS.out.2.2.2.2.2.1) (by rw[HS.out.2.2.2.2.1];exact HS.out.2.2.2.2.2.2.1) HS.out.2.2.2.2.2.2.2.1 HS.out.2.2.2.2.2.2.2.2).mono ?_;rintro e w3 ⟨A,c,B,cb,rfl,UH,hCk,hc,hAl,SB,hb3⟩;have HC3:=aj (And.intro UH (And.intro hCk (And.intro hc (And.intro hAl SB))));have HB3:=aj (HB2.out.trans (hb3.mono HB2.out.size));have um:=aj (ay nu.out hb3);have UK:=aj (ay nY.out hb3);clear UH hCk hc hAl SB hb3)));have oh:Below w3.heap.size w3 (w3.alloc (.cells #[.slice A n c,.slice B n cb,.int .i64 ai,.int .i64 si,.int .i64 dr,.int .i64 hy] 90)):=(Below.refl _ _).alloc (Nat.le_refl _) _;have HC4:=aj (And.intro (Kd.aM HC3.out.1 oh) (Kd.aM HC3.out.2.1 oh));have DM:=aj (ay um.out oh);have uw:=aj (ay UK.out oh);have HB4:=aj (HB3.out.trans (oh.mono HB3.out.size));have HS4:=aj (aH w3 (.cells #[.slice A n c,.slice B n cb,.int .i64 ai,.int .i64 si,.int .i64 dr,.int .i64 hy] 90));obtain⟨bS,Ww⟩:∃ b,w3.heap.size=b:=⟨_,rfl⟩;have HW4:=aj (show(w3.alloc (.cells #[.slice A n c,.slice B n cb,.int .i64 ai,.int .i64 si,.int .i64 dr,.int .i64 hy] 90)).heap.size=bS+1 by rw[World.size_alloc,Ww]);have tT:=aj (show(∀ a,A=some a->a.block < bS)/\∀ a,B=some a->a.block < bS by rw[<-Ww];exact HC3.out.2.2.2);have vP:=aj HC3.out.2.2.1;rw[Ww] at HS4 ⊢;generalize w3.alloc (.cells #[.slice A n c,.slice B n cb,.int .i64 ai,.int .i64 si,.int .i64 dr,.int .i64 hy] 90)=w4 at *;clear Ww oh HC3 um UK nu nY oY tg dI kH;have OY:=aj (show bx+1 < bS by have h1:=aY uw.out;have h2:=HW4.out;have e:bx+1≠bS:=(fun q=>by have e1:=uw.out;rw[q,HS4.out] at e1;injection e1 with e1;injection e1 with _ e1;cases e1);omega);have HWK:=aj (show ∀ W,Below w4.heap.size w4 W->Calls Tryz.prog 31 #[.agg #[.slice A n c,.slice B n cb,.int .i64 ai,.int .i64 si,.int .i64 dr,.int .i64 hy],.int .i64 x.f2,.func (.func 32) #[] #[]] W fun e w'=>e=.returned (.int .i64 z)/\Below W.heap.size W w' from fun W hW=>by
  refine(Ry eT kQ n HS.out.2.2.1 A B c cb ai si an sn dr hy x.f2 W (Kd.aM HC4.out.1 hW) (Kd.aM HC4.out.2 hW) vP.out (by have:=HN3.out;omega) Sl.out HS.out.2.2.2.2.2.1.symm HS.out.2.2.2.2.2.2.1.symm HAS.out.2 z HV.out.2.2.2.2.2.2 (fun k hk=>?_) (fun k hk=>(SI.out k (by have:=HAS.out;omega)).2) (fun _=>False) (fun _ W'=>Below W.heap.size W W') (fun g h=>h.elim) (fun _ _ h=>h) (fun _ _ h=>h) (fun o=>(Below.refl _ _).alloc (Nat.le_refl _) _) (fun k W1 W2 h1 h2=>h1.trans (h2.mono h1.size)) (fun k W1 _ h1 _=>?_)).mono ?_
  .have h1:=YR.out k (by have:=HAS.out;omega);have h2:=(SI.out k (by have:=HAS.out;omega)).1;omega
  .refine(DV _ _ _ W1).mono ?_;rintro e w' ⟨rfl,rfl⟩;exact⟨rfl,h1,ju.refl _ _ _⟩
  .rintro e w' ⟨rfl,h1,_⟩;exact⟨rfl,h1⟩)
 have HZ4:=aj (Below.refl w4.heap.size w4);have YS:=aj (show(0<=x.f2/\x.f2<=4095)/\(0<=x.f3/\x.f3<=4095)/\(0<=z/\z<=1300000) from ⟨HX.out.lx,HX.out.lw,by have:=YR.out sn HAS.out.2;rw[HV.out.2.2.2.2.2.2] at this;exact this⟩);go_cut [10] (fun v10 wc=>uG w4 3 (.int .i64 ex) v10 wc)
 case first =>
  have x2:w4.cell? ⟨bx+1,2,none⟩=some (.int .i64 x.f2):=(ak uw.out 2).trans rfl;have x3:w4.cell? ⟨bx+1,3,none⟩=some (.int .i64 x.f3):=(ak uw.out 3).trans rfl;have s0:w4.cell? ⟨bS,0,none⟩=some (.slice A n c):=(ak HS4.out 0).trans rfl;have s1:w4.cell? ⟨bS,1,none⟩=some (.slice B n cb):=(ak HS4.out 1).trans rfl;have s2:w4.cell? ⟨bS,2,none⟩=some (.int .i64 ai):=(ak HS4.out 2).trans rfl;have s3:w4.cell? ⟨bS,3,none⟩=some (.int .i64 si):=(ak HS4.out 3).trans rfl;have s4:w4.cell? ⟨bS,4,none⟩=some (.int .i64 dr):=(ak HS4.out 4).trans rfl;have s5:w4.cell? ⟨bS,5,none⟩=some (.int .i64 hy):=(ak HS4.out 5).trans rfl
  have HK4:=aj (show ∀ W,Below w4.heap.size w4 W->(W.cell? ⟨bx+1,2,none⟩=some (.int .i64 x.f2)/\W.cell? ⟨bx+1,3,none⟩=some (.int .i64 x.f3)/\W.cell? ⟨bS,0,none⟩=some (.slice A n c)/\W.cell? ⟨bS,1,none⟩=some (.slice B n cb)/\W.cell? ⟨bS,2,none⟩=some (.int .i64 ai)/\W.cell? ⟨bS,3,none⟩=some (.int .i64 si)/\W.cell? ⟨bS,4,none⟩=some (.int .i64 dr)/\W.cell? ⟨bS,5,none⟩=some (.int .i64 hy)) from fun W h =>
   ⟨(h.cell (World.block_lt_of_cell? _ _ x2)).trans x2,(h.cell (World.block_lt_of_cell? _ _ x3)).trans x3,(h.cell (World.block_lt_of_cell? _ _ s0)).trans s0,(h.cell (World.block_lt_of_cell? _ _ s1)).trans s1,(h.cell (World.block_lt_of_cell? _ _ s2)).trans s2,(h.cell (World.block_lt_of_cell? _ _ s3)).trans s3,(h.cell (World.block_lt_of_cell? _ _ s4)).trans s4,(h.cell (World.block_lt_of_cell? _ _ s5)).trans s5⟩)
  have UL:=YS.out;have hen:=RY.out;have a1:IntKind.i64.wrap (z+hy)=z+hy:=IntWalk.i64_in _ (by omega);have LX:wrap64 (z+hy)=z+hy:=dN _ (by omega);have a2:IntKind.i64.wrap (z+hy - x.f2)=z+hy - x.f2:=IntWalk.i64_in _ (by omega);have Wg:wrap64 (z+hy - x.f2)=z+hy - x.f2:=dN _ (by omega);have a3:IntKind.i64.wrap (x.f3 - (z+hy - x.f2))=ex:=by rw[bD.out];exact IntWalk.i64_in _ (by omega)
  have Zy:wrap64 (x.f3 - (z+hy - x.f2))=ex:=by rw[bD.out];exact dN _ (by omega)
  clear UL hen;go_region_held3 (fun w'=>w'.cell? ⟨bx+1,2,none⟩=some (.int .i64 x.f2)/\w'.cell? ⟨bx+1,3,none⟩=some (.int .i64 x.f3)/\w'.cell? ⟨bS,0,none⟩=some (.slice A n c)/\w'.cell? ⟨bS,1,none⟩=some (.slice B n cb)/\w'.cell? ⟨bS,2,none⟩=some (.int .i64 ai)/\w'.cell? ⟨bS,3,none⟩=some (.int .i64 si)/\w'.cell? ⟨bS,4,none⟩=some (.int .i64 dr)/\w'.cell? ⟨bS,5,none⟩=some (.int .i64 hy)) (exact HK4.out _ (by repeat(first|exact HZ6.out|exact HZ4.out|apply aF|apply aA|apply aK|refine bN ?_ (Nat.le_refl _)|refine bN ?_ (by exact HZ6.out.size)|refine bN ?_ (by exact HZ4.out.size)))) (first|(go_at_call 31;refine(HWK.out _ (by repeat(first|exact HZ4.out|apply aF|apply aA|apply aK))).mono ?_;rintro e w6 ⟨rfl,hb6⟩;have HZ6:=aj (Below.trans (show Below w4.heap.size w4 _ by repeat(first|exact HZ4.out|apply aF|apply aA|apply aK)) (hb6.mono (Below.size (show Below w4.heap.size w4 _ by repeat(first|exact HZ4.out|apply aF|apply aA|apply aK)))));try (have hbz:=ay (aH w4.drew (.cells #[.int .i64 0] 3)) hb6;have yz:w6.cell? ⟨w4.heap.size,0,none⟩=some (.int .i64 0):=(ak hbz 0).trans rfl;have fz:w6.frozen? ⟨w4.heap.size,0,none⟩=false:=aB hbz 0;have Wu:=aj hbz;clear hbz)))
  all_goals
   go_wp2;go_meet
   case rel=>first|exact uG.of HZ6.out.size (aH w6 _) (HZ6.out.alloc HZ6.out.size _)|exact uG.of (Nat.le_refl _) (aN Wu.out 0 _ rfl) (HZ6.out.setCell (Nat.le_refl _) _)
 case rest =>
  obtain⟨bX,rfl,hx1,hx2,hx3⟩:=hcut;have HB5:=aj hx3;have HX5:=aj hx2;have oY:=aj (show bS < bX by have:=HW4.out;omega);have HF4:=aj (show ∀ W,Below w4.heap.size w4 W->(W.heap[bx]? = some (.cells (cG p As cs Am cm) 27 (0,0))/\W.heap[bx+1]? = some (.cells (tH x) 46 (0,0))/\W.heap[bS]? = some (.cells #[.slice A n c,.slice B n cb,.int .i64 ai,.int .i64 si,.int .i64 dr,.int .i64 hy] 90 (0,0))/\Kd.C k99 W A n eT/\Kd.C Kd.bool W B n kQ/\Below w.heap.size w W) from fun W h=>⟨ay DM.out h,ay uw.out h,ay HS4.out h,Kd.aM HC4.out.1 h,Kd.aM HC4.out.2 h,HB4.out.trans (h.mono HB4.out.size)⟩);clear hx1 hx2 hx3 HWK HZ4;go_upto_region 9 with(first|((with_reducible refine aS (N:=49) rfl ?_);go_loud(refine wpList_load_row rfl 90 _ rfl bS rfl 90 #[.slice A n c,.slice B n cb,.int .i64 ai,.int .i64 si,.int .i64 dr,.int .i64 hy] (0,0) _ (by exact(HF4.out _ HB5.out).2.2.1) Tryz.underlying90 rfl (by kernel_rfl) ?_))|(go_at_call 33;go_loud(refine(Ch eT n HS.out.2.2.1 A B c n cb ai si an sn dr hy _ (HF4.out _ HB5.out).2.2.2.1 vP.out (by have:=HN3.out;omega) Sl.out HS.out.2.2.2.2.2.1.symm HS.out.2.2.2.2.2.2.1.symm HAS.out.1 HAS.out.2 bn bz (by rw[UJ.out];exact HV.out.2.1) (by rw[UJ.out];exact HV.out.2.2.1)).mono ?_;rintro e w6 ⟨rfl,hb6⟩;have HB6:=aj (HB5.out.trans (hb6.mono HB5.out.size));have HX6:=aj (ay HX5.out hb6);clear hb6)));have yZ:=aj (show(p.pr.f2 == 1 && !last && !tb && decide (0 < bn) && (decide (0 < ex) || (decide (ex < 0) && decide (-ex<=bz))))=sp by
   rw[<-HV.out.2.2.2.2.1];unfold D5;rw[HS.out.1,HV.out.2.2.2.1,HV.out.2.1,HV.out.1,HV.out.2.2.1])
  have UM:=aj HV.out.2.2.2.1;have yQ:=aj (aY HX6.out);go_cut [13] (fun v13 wc=>uG w6 4 (.bool sp) v13 wc)
  case first =>
   have x0:w6.cell? ⟨bX,0,none⟩=some (.int .i64 ex):=(ak HX6.out 0).trans rfl;have x4:w6.cell? ⟨bx,4,none⟩=some (.int .i64 p.pr.f2):=(ak (HF4.out _ HB6.out).1 4).trans rfl;have hen:=RY.out;have a1:IntKind.i64.wrap (-ex) = -ex:=IntWalk.i64_in _ (by omega);have LX:wrap64 (-ex) = -ex:=dN _ (by omega);clear hen;by_cases c1:p.pr.f2=1
   .have d1:(p.pr.f2 == 1)=true:=beq_iff_eq.mpr c1;clear c1;cases last with
    | true =>
     have HE:=aj (show false=sp by rw[<-yZ.out,d1];rfl);go_wp2;go_meet
     case rel=>rw[<-HE.out];exact uG.of (Nat.le_refl _) (aH w6 _) ((Below.refl _ _).alloc (Nat.le_refl _) _)
    | false =>
     cases tb with
     | true =>
      have HE:=aj (show false=sp by rw[<-yZ.out,d1];rfl);go_wp2_with (first|((with_reducible refine aS (N:=62) rfl ?_);go_loud(refine lF (by first|rfl|(go_simp;done)) 90 _ rfl bS rfl 90 #[.slice A n c,.slice B n cb,.int .i64 ai,.int .i64 si,.int .i64 dr,.int .i64 hy] (0,0) _ (by exact(HF4.out _ HB6.out).2.2.1) Tryz.underlying90 rfl (by kernel_rfl) ?_))|(go_at_call 34;go_loud(refine(lE eT n HS.out.2.2.1 A B c n cb ai si dr hy _ (HF4.out _ HB6.out).2.2.2.1 (by have:=HN3.out;omega) true UM.out).mono ?_;rintro e w7 ⟨rfl,hb7⟩;have HB7:=aj hb7;have y0:w7.cell? ⟨bX,0,none⟩=some (.int .i64 ex):=(ak (ay HX6.out hb7) 0).trans rfl;clear hb7)));go_meet
      case rel=>rw[<-HE.out];exact uG.of HB7.out.size (aH w7 _) (HB7.out.alloc HB7.out.size _)
     | false =>
      by_cases c2:0 < bn
      .have d2:decide (0 < bn)=true:=decide_eq_true c2;clear c2;by_cases c3:0 < ex
       .have d3:decide (0 < ex)=true:=decide_eq_true c3;have HE:=aj (show true=sp by rw[<-yZ.out,d1,d2,d3];rfl);clear c3;go_wp2_with (first|((with_reducible refine aS (N:=62) rfl ?_);go_loud(refine lF (by first|rfl|(go_simp;done)) 90 _ rfl bS rfl 90 #[.slice A n c,.slice B n cb,.int .i64 ai,.int .i64 si,.int .i64 dr,.int .i64 hy] (0,0) _ (by exact(HF4.out _ HB6.out).2.2.1) Tryz.underlying90 rfl (by kernel_rfl) ?_))|(go_at_call 34;go_loud(refine(lE eT n HS.out.2.2.1 A B c n cb ai si dr hy _ (HF4.out _ HB6.out).2.2.2.1 (by have:=HN3.out;omega) false UM.out).mono ?_;rintro e w7 ⟨rfl,hb7⟩;have HB7:=aj hb7;have y0:w7.cell? ⟨bX,0,none⟩=some (.int .i64 ex):=(ak (ay HX6.out hb7) 0).trans rfl;clear hb7)));go_meet
        case rel=>rw[<-HE.out];exact uG.of HB7.out.size (aH w7 _) (HB7.out.alloc HB7.out.size _)
       .have d3:decide (0 < ex)=false:=decide_eq_false c3;clear c3;by_cases c4:ex < 0
        .have d4:decide (ex < 0)=true:=decide_eq_true c4;obtain⟨q,hq⟩:∃ q,decide (-ex<=bz)=q:=⟨_,rfl⟩;have HE:=aj (show q=sp by rw[<-yZ.out,d1,d2,d3,d4,hq];rfl);clear c4;go_wp2_with (first|((with_reducible refine aS (N:=62) rfl ?_);go_loud(refine lF (by first|rfl|(go_simp;done)) 90 _ rfl bS rfl 90 #[.slice A n c,.slice B n cb,.int .i64 ai,.int .i64 si,.int .i64 dr,.int .i64 hy] (0,0) _ (by exact(HF4.out _ HB6.out).2.2.1) Tryz.underlying90 rfl (by kernel_rfl) ?_))|(go_at_call 34;go_loud(refine(lE eT n HS.out.2.2.1 A B c n cb ai si dr hy _ (HF4.out _ HB6.out).2.2.2.1 (by have:=HN3.out;omega) false UM.out).mono ?_;rintro e w7 ⟨rfl,hb7⟩;have HB7:=aj hb7;have y0:w7.cell? ⟨bX,0,none⟩=some (.int .i64 ex):=(ak (ay HX6.out hb7) 0).trans rfl;clear hb7)));go_meet
         case rel=>rw[<-HE.out];exact uG.of HB7.out.size (aH w7 _) (HB7.out.alloc HB7.out.size _)
        .have d4:decide (ex < 0)=false:=decide_eq_false c4;have HE:=aj (show false=sp by rw[<-yZ.out,d1,d2,d3,d4];rfl);clear c4;go_wp2_with (first|((with_reducible refine aS (N:=62) rfl ?_);go_loud(refine lF (by first|rfl|(go_simp;done)) 90 _ rfl bS rfl 90 #[.slice A n c,.slice B n cb,.int .i64 ai,.int .i64 si,.int .i64 dr,.int .i64 hy] (0,0) _ (by exact(HF4.out _ HB6.out).2.2.1) Tryz.underlying90 rfl (by kernel_rfl) ?_))|(go_at_call 34;go_loud(refine(lE eT n HS.out.2.2.1 A B c n cb ai si dr hy _ (HF4.out _ HB6.out).2.2.2.1 (by have:=HN3.out;omega) false UM.out).mono ?_;rintro e w7 ⟨rfl,hb7⟩;have HB7:=aj hb7;have y0:w7.cell? ⟨bX,0,none⟩=some (.int .i64 ex):=(ak (ay HX6.out hb7) 0).trans rfl;clear hb7)));go_meet
         case rel=>rw[<-HE.out];exact uG.of HB7.out.size (aH w7 _) (HB7.out.alloc HB7.out.size _)
      .have d2:decide (0 < bn)=false:=decide_eq_false c2;have HE:=aj (show false=sp by rw[<-yZ.out,d1,d2];rfl);clear c2;go_wp2_with (first|((with_reducible refine aS (N:=62) rfl ?_);go_loud(refine lF (by first|rfl|(go_simp;done)) 90 _ rfl bS rfl 90 #[.slice A n c,.slice B n cb,.int .i64 ai,.int .i64 si,.int .i64 dr,.int .i64 hy] (0,0) _ (by exact(HF4.out _ HB6.out).2.2.1) Tryz.underlying90 rfl (by kernel_rfl) ?_))|(go_at_call 34;go_loud(refine(lE eT n HS.out.2.2.1 A B c n cb ai si dr hy _ (HF4.out _ HB6.out).2.2.2.1 (by have:=HN3.out;omega) false UM.out).mono ?_;rintro e w7 ⟨rfl,hb7⟩;have HB7:=aj hb7;have y0:w7.cell? ⟨bX,0,none⟩=some (.int .i64 ex):=(ak (ay HX6.out hb7) 0).trans rfl;clear hb7)));go_meet
       case rel=>rw[<-HE.out];exact uG.of HB7.out.size (aH w7 _) (HB7.out.alloc HB7.out.size _)
   .have d1:(p.pr.f2 == 1)=false:=beq_eq_false_iff_ne.mpr c1;have HE:=aj (show false=sp by rw[<-yZ.out,d1];rfl);clear c1;go_wp2;go_meet
    case rel=>rw[<-HE.out];exact uG.of (Nat.le_refl _) (aH w6 _) ((Below.refl _ _).alloc (Nat.le_refl _) _)
  case rest =>
   obtain⟨jV,rfl,hs1,hs2,hs3⟩:=hcut;have HB7:=aj (HB6.out.trans (hs3.mono HB6.out.size));have HX7:=aj (ay HX6.out hs3);have RZ:=aj hs2;have UN:=aj (show bX < jV by have:=yQ.out;omega);clear hs1 hs2 hs3 HX6 HB6 yQ;have hal:Below wc.heap.size wc (wc.alloc (.cells #[.slice none 0 0] 42)):=(Below.refl _ _).alloc (Nat.le_refl _) _;have HB8:=aj (HB7.out.trans (hal.mono HB7.out.size));have HX8:=aj (ay HX7.out hal);have UO:=aj (ay RZ.out hal);have HO8:=aj (aH wc (.cells #[.slice none 0 0] 42));go_upto_region 11 with(fail);obtain⟨bO,Wx⟩:∃ b,wc.heap.size=b:=⟨_,rfl⟩;have HW8:=aj (show(wc.alloc (.cells #[.slice none 0 0] 42)).heap.size=bO+1 by rw[World.size_alloc,Wx]);have G0:=aj (show jV < bO by rw[<-Wx];exact aY RZ.out);rw[Wx] at HO8 ⊢;generalize wc.alloc (.cells #[.slice none 0 0] 42)=w8 at *;clear Wx hal HB7 HX7 RZ;obtain⟨nx,hnx⟩:∃ nx,fS p.tx.size 0 (cQ p.tx)=nx:=⟨_,rfl⟩;have vM:=aj hnx;obtain⟨G,hG⟩:∃ G,pF p x=G:=⟨_,rfl⟩;have HG:=aj (show(if 0 < dr then [(⟨0,nx,x.f2 - dr,dr - 4⟩:S48)] else [])=G by rw[<-hG];unfold pF;rw[HS.out.2.2.2.2.2.2.2.1,hnx]);have Tz:=aj hG;obtain⟨dz,hdz⟩:∃ dz,decide (0 < dr)=dz:=⟨_,rfl⟩;have SH:=aj hdz;have s4:w8.cell? ⟨bS,4,none⟩=some (.int .i64 dr):=(ak (HF4.out _ HB8.out).2.2.1 4).trans rfl;clear hnx hG;go_upto_if 86 with(fail);clear s4 hdz;go_cut [101] (fun v101 wc=>YQ w8 bO bS G wc)
   case first =>
    cases dz with
    | false =>
     have HE:=aj (show G=[] by rw[<-HG.out,if_neg (of_decide_eq_false SH.out)]);go_wp2;go_meet
     case rel =>
      rw[HE.out];exact⟨none,0,0,HO8.out,Kd.nO _ _ _ _ _,Below.refl _ _⟩
    | true =>
     have HE:=aj (show G=[⟨0,nx,x.f2 - dr,dr - 4⟩] by rw[<-HG.out,if_pos (of_decide_eq_true SH.out)]);have hS8:=(HF4.out _ HB8.out).2.2.1;have hP8:=(HF4.out _ HB8.out).1;have hc1:w8.cell? ⟨bx+1,2,none⟩=some (.int .i64 x.f2):=(ak (HF4.out _ HB8.out).2.1 2).trans rfl;have hc2:w8.cell? ⟨bS,4,none⟩=some (.int .i64 dr):=(ak hS8 4).trans rfl;have hc3:w8.cell? ⟨bO,0,none⟩=some (.slice none 0 0):=(ak HO8.out 0).trans rfl;have hen:=RY.out;have UL:=YS.out;have a1:IntKind.i64.wrap (x.f2 - dr)=x.f2 - dr:=IntWalk.i64_in _ (by omega);have LX:wrap64 (x.f2 - dr)=x.f2 - dr:=dN _ (by omega);have a2:IntKind.i64.wrap (dr - 4)=dr - 4:=IntWalk.i64_in _ (by omega);have Wg:wrap64 (dr - 4)=dr - 4:=dN _ (by omega);clear hen UL;go_upto_region 12 with(fail);refine wB (n:=16) (S:=fun w'=>Below w8.heap.size w8 w') (ds:=[15]) #[aq,aq,aq,aq,aq,aq,aq,aq,aq,aq,aq,aq,aq,aq,aq,aq] (by kernel_rfl) rfl rfl ((Below.refl _ w8).drew) (fun hHeld=>?_);refine mA Mw JC (fun dX ud=>?_);refine gY (i:=0) (N:=(some 87)) (v:=?_) (a':=?_) #[au,aq,aq,aq,aq,aq,aq,aq,aq,aq,aq,aq,aq,aq,aq,aq] rfl rfl (dB dX.out ud.out (by kernel_rfl)) (fun _ _ _ h=>h) (Or.inl ⟨by rfl,?_⟩) hHeld ?_ ?_;rotate_left
     .intro w' hS;have Ts:=(hS.cell (World.block_lt_of_cell? _ _ hc3)).trans hc3;go_simp
      with_reducible rfl
     rotate_left
     .simp only[Act.put,aE,aI,aJ,bC];rfl
     refine gY (i:=1) (N:=(some 88)) (v:=?_) (a':=?_) #[au,au,aq,aq,aq,aq,aq,aq,aq,aq,aq,aq,aq,aq,aq,aq] rfl rfl (dB dX.out ud.out (by kernel_rfl)) (fun _ _ _ h=>h) (Or.inl ⟨by rfl,?_⟩) hHeld ?_ ?_;rotate_left
     .intro w' hS;refine Eq.trans (vQ 90 (.tmp 9) (by rfl) bS (by rfl) 90 #[.slice A n c,.slice B n cb,.int .i64 ai,.int .i64 si,.int .i64 dr,.int .i64 hy] (0,0) _ (ay hS8 hS) Tryz.underlying90 rfl (by kernel_rfl)) ?_
      with_reducible rfl
     rotate_left
     .simp only[Act.put,aE,aI,aJ,bC];rfl
     refine gY (i:=2) (N:=(some 89)) (v:=?_) (a':=?_) #[au,au,au,aq,aq,aq,aq,aq,aq,aq,aq,aq,aq,aq,aq,aq] rfl rfl (dB dX.out ud.out (by kernel_rfl)) (fun _ _ _ h=>h) (Or.inl ⟨by rfl,?_⟩) hHeld ?_ ?_;rotate_left
     .intro w' hS;refine Eq.trans (vQ 27 (.tmp 3) (by rfl) bx (by rfl) 27 (cG p As cs Am cm) (0,0) _ (ay hP8 hS) Tryz.underlying27 rfl (cV p As cs Am cm)) ?_
      with_reducible rfl
     rotate_left
     .simp only[Act.put,aE,aI,aJ,bC];rfl
     refine bW (i:=4) (N:=(some 91)) (v:=?_) (a':=?_) #[au,au,au,aq,au,aq,aq,aq,aq,aq,aq,aq,aq,aq,aq,aq] rfl rfl (bF dX.out (by kernel_rfl)) (fun _ _ _ h=>h) (Or.inl ⟨by rfl,?_⟩) ?_ ?_;rotate_left
     .intro w';go_simp
      with_reducible rfl
     rotate_left
     .simp only[Act.put,aE,aI,aJ,bC];rfl
     refine gY (i:=5) (N:=(some 92)) (v:=?_) (a':=?_) #[au,au,au,aq,au,au,aq,aq,aq,aq,aq,aq,aq,aq,aq,aq] rfl rfl (dB dX.out ud.out (by kernel_rfl)) (fun _ _ _ h=>h) (Or.inl ⟨by rfl,?_⟩) hHeld ?_ ?_;rotate_left
     .intro w' hS;have Ts:=(hS.cell (World.block_lt_of_cell? _ _ hc1)).trans hc1;go_simp
      with_reducible rfl
     rotate_left
     .simp only[Act.put,aE,aI,aJ,bC];rfl
     refine bW (i:=6) (N:=(some 93)) (v:=?_) (a':=?_) #[au,au,au,aq,au,au,au,aq,aq,aq,aq,aq,aq,aq,aq,aq] rfl rfl (bF dX.out (by kernel_rfl)) (fun _ _ _ h=>h) (Or.inl ⟨by rfl,?_⟩) ?_ ?_;rotate_left
     .intro w';go_simp
      with_reducible rfl
     rotate_left
     .simp only[Act.put,aE,aI,aJ,bC];rfl
     refine gY (i:=7) (N:=(some 94)) (v:=?_) (a':=?_) #[au,au,au,aq,au,au,au,au,aq,aq,aq,aq,aq,aq,aq,aq] rfl rfl (dB dX.out ud.out (by kernel_rfl)) (fun _ _ _ h=>h) (Or.inl ⟨by rfl,?_⟩) hHeld ?_ ?_;rotate_left
     .intro w' hS;have Ts:=(hS.cell (World.block_lt_of_cell? _ _ hc2)).trans hc2;go_simp
      with_reducible rfl
     rotate_left
     .simp only[Act.put,aE,aI,aJ,bC];rfl
     refine bW (i:=8) (N:=(some 95)) (v:=?_) (a':=?_) #[au,au,au,aq,au,au,au,au,au,aq,aq,aq,aq,aq,aq,aq] rfl rfl (bF dX.out (by kernel_rfl)) (fun _ _ _ h=>h) (Or.inl ⟨by rfl,?_⟩) ?_ ?_;rotate_left
     .intro w';go_simp
      with_reducible rfl
     rotate_left
     .simp only[Act.put,aE,aI,aJ,bC];rfl
     refine bW (i:=9) (N:=(some 96)) (v:=?_) (a':=?_) #[au,au,au,aq,au,au,au,au,au,au,aq,aq,aq,aq,aq,aq] rfl rfl (bF dX.out (by kernel_rfl)) (fun _ _ _ h=>h) (Or.inl ⟨by rfl,?_⟩) ?_ ?_;rotate_left
     .intro w';go_simp
      with_reducible rfl
     rotate_left
     .simp only[Act.put,aE,aI,aJ,bC];rfl
     refine gY (i:=10) (N:=(some 97)) (v:=?_) (a':=?_) #[au,au,au,aq,au,au,au,au,au,au,au,aq,aq,aq,aq,aq] rfl rfl (dB dX.out ud.out (by kernel_rfl)) (fun _ _ _ h=>h) (Or.inl ⟨by rfl,?_⟩) hHeld ?_ ?_;rotate_left
     .intro w' hS;have Ts:=(hS.cell (World.block_lt_of_cell? _ _ hc2)).trans hc2;go_simp
      with_reducible rfl
     rotate_left
     .simp only[Act.put,aE,aI,aJ,bC];rfl
     refine bW (i:=11) (N:=(some 98)) (v:=?_) (a':=?_) #[au,au,au,aq,au,au,au,au,au,au,au,au,aq,aq,aq,aq] rfl rfl (bF dX.out (by kernel_rfl)) (fun _ _ _ h=>h) (Or.inl ⟨by rfl,?_⟩) ?_ ?_;rotate_left
     .intro w';go_simp
      with_reducible rfl
     rotate_left
     .simp only[Act.put,aE,aI,aJ,bC];rfl
     refine Cz (i:=3) (N:=(some 90)) #[au,au,au,au,au,au,au,au,au,au,au,au,aq,aq,aq,aq] rfl rfl (jy dX.out (by kernel_rfl)) (by decide) (fun K hK=>?_);refine O7 Tryz.func35 (by kernel_rfl) rfl #[.agg #[.slice A n c,.slice B n cb,.int .i64 ai,.int .i64 si,.int .i64 dr,.int .i64 hy],.agg (cG p As cs Am cm)] (by rfl) rfl rfl (by simp only[List.map_toArray,List.map_cons,List.map_nil];rfl) ?_;refine(DT p A B n c n cb ai si dr hy _ H0.out nx vM.out).mono ?_;rintro e w9 ⟨rfl,hb9⟩;have HB9:=aj (show Below w8.heap.size w8 w9 from (Below.refl _ w8).drew.trans (hb9.mono (Nat.le_refl _)));have HO9:=aj (ay HO8.out HB9.out);refine⟨_,rfl,?_⟩;refine hK.out _ _ (HB9.out) (fun hHeld=>?_);clear hK K;refine zL (a':=?_) ?_ ?_;rotate_left
     .show Act.put _ (some 90) _=_;simp only[Act.put,aE,aI,aJ,bC];rfl
     refine bW (i:=12) (N:=(some 99)) (v:=?_) (a':=?_) #[au,au,au,au,au,au,au,au,au,au,au,au,au,aq,aq,aq] rfl rfl (bF dX.out (by kernel_rfl)) (fun _ _ _ h=>h) (Or.inl ⟨by rfl,?_⟩) ?_ ?_;rotate_left
     .intro w';go_simp
      with_reducible rfl
     rotate_left
     .simp only[Act.put,aE,aI,aJ,bC];rfl
     refine Cz (i:=13) (N:=(some 100)) #[au,au,au,au,au,au,au,au,au,au,au,au,au,au,aq,aq] rfl rfl (jy dX.out (by kernel_rfl)) (by decide) (fun K hK=>?_);refine J5 (v:=?_) (w1:=?_) (by rfl) rfl ?_ ?_;rotate_left 2
     .go_simp;constructor
      .rfl
      .rfl
     refine hK.out _ _ (HB9.out.alloc HB9.out.size _) (fun hHeld=>?_);clear hK K;refine zL (a':=?_) ?_ ?_;rotate_left
     .show Act.put _ (some 100) _=_;simp only[Act.put,aE,aI,aJ,bC];rfl
     refine Cz (i:=14) (N:=(some 101)) #[au,au,au,au,au,au,au,au,au,au,au,au,au,au,au,aq] rfl rfl (jy dX.out (by kernel_rfl)) (by decide) (fun K hK=>?_);refine Kd.lZ k48 (w0:=w8) (W:=w9) (bO+1) (by rfl) (.tmp 87) (.tmp 100) 42 48 (.agg #[(.int .i64 0),(.int .i64 0),(.int .i64 0),(.int .i64 0)]) 32 rfl Tryz.underlying42 AZ rfl (by decide) (by decide) (.slice none 0 0) [] ⟨0,nx,x.f2 - dr,dr - 4⟩ [.int .i64 0,.int .i64 nx,.int .i64 (x.f2 - dr),.int .i64 (dr - 4)] (fun g=>bO < g) (fun _=>False) (by rfl) (by rfl) (vI _ _ _ _) (fun _ h=>h.elim) (fun j hj=>by have:=HW8.out;have:=HB9.out.size;omega) (Kd.nO _ _ _ _ _) (by rw[<-HW8.out];exact HB9.out) (by have:=HW8.out;have:=HB9.out.size;omega) (by simp) ?_;intro v1 w1 hR1 hB1 kr _;obtain⟨A9,c9,e9,hc9,ha9,hC9⟩:=fX hR1;have HQ1:=aj hR1;have G2:=aj hB1;have HX1:=aj (cJ HO9.out kr (fun he=>by cases he));have y1:w1.cell? ⟨bO,0,none⟩=some (.slice none 0 0):=(ak HX1.out 0).trans rfl;have fz:=aB HX1.out 0;subst e9;clear hR1 hB1 kr hc9 ha9 hC9;refine hK.out _ _ ((show Below w8.heap.size w8 w1 from by rw[HW8.out];exact G2.out)) (fun hHeld=>?_);clear hK K;refine zL (a':=?_) ?_ ?_;rotate_left
     .show Act.put _ (some 101) _=_;simp only[Act.put,aE,aI,aJ,bC];rfl
     refine CA (i:=15) (N:=none) #[au,au,au,au,au,au,au,au,au,au,au,au,au,au,au,au] rfl rfl (jy dX.out (by kernel_rfl)) (by decide) (fun K hK=>?_);refine wC (w1:=?_) (by rfl) rfl ?_ ?_;rotate_left
     .go_simp;rfl
     refine hK.out _ _ ?_;clear hK K;refine CB (rQ dX.out (by kernel_rfl)) ?_;go_wp2;go_meet
     case rel =>
      rw[HE.out];exact⟨A9,c9,_,aN HX1.out 0 _ rfl,Kd.fF (iD HQ1.out (Nat.lt_succ_self _) _) (by have:=G0.out;have:=UN.out;have:=oY.out;omega),(G2.out.mono (Nat.le_succ _)).setCell (Nat.le_refl bO) _⟩
   case rest =>
    obtain⟨A1,c1,m1,ho1,ho2,ho3⟩:=hcut;have eY:bS < bX/\bX < jV/\jV < bO:=⟨oY.out,UN.out,G0.out⟩;have sj:=aj eY;have HB9:=aj (HB8.out.trans (ho3.mono (by have:=HW4.out;omega)));have HX9:=aj ((ho3.block bX (by omega)).trans HX8.out);have UQ:=aj ((ho3.block jV (by omega)).trans UO.out);have HO9:=aj ho1;have HR9:=aj ho2;have HL9:=aj (aY ho1);clear eY ho1 ho2 ho3 HX8 UO HO8 HB8 SH;have x4:wc.cell? ⟨bx,4,none⟩=some (.int .i64 p.pr.f2):=(ak (HF4.out _ HB9.out).1 4).trans rfl;have xX:wc.cell? ⟨bX,0,none⟩=some (.int .i64 ex):=(ak HX9.out 0).trans rfl;go_upto_region 14 with(go_at_call 36;go_loud(refine(DR p.pr.f2 ex X8.out.2.2.1 (by have:=RY.out;omega) _ ad HV.out.2.2.2.2.2.1).mono ?_;rintro e w10 ⟨rfl,hb10⟩;have HB10:=aj hb10;clear hb10));obtain⟨bA,UR⟩:∃ b,w10.heap.size=b:=⟨_,rfl⟩;have R3:Below w10.heap.size w10 (((w10.alloc (.cells #[.int .i64 ad] 3)).alloc (.cells #[.int .i64 0] 3)).alloc (.cells #[.int .i64 bn] 3)):=(((Below.refl _ _).alloc (Nat.le_refl _) _).alloc (by simp) _).alloc (by simp;omega) _;have hA1:=aP (aP (aH w10 (.cells #[.int .i64 ad] 3)) (.cells #[.int .i64 0] 3)) (.cells #[.int .i64 bn] 3);have hK1:=aP (aH (w10.alloc (.cells #[.int .i64 ad] 3)) (.cells #[.int .i64 0] 3)) (.cells #[.int .i64 bn] 3);have hL1:=aH ((w10.alloc (.cells #[.int .i64 ad] 3)).alloc (.cells #[.int .i64 0] 3)) (.cells #[.int .i64 bn] 3);have hsz:(((w10.alloc (.cells #[.int .i64 ad] 3)).alloc (.cells #[.int .i64 0] 3)).alloc (.cells #[.int .i64 bn] 3)).heap.size=bA+3:=(by rw[World.size_alloc,World.size_alloc,World.size_alloc,UR]);rw[World.size_alloc] at hK1;rw[World.size_alloc,World.size_alloc] at hL1;have HB11:=aj (HB9.out.trans ((HB10.out.trans (R3.mono HB10.out.size)).mono HB9.out.size));have rF:Below wc.heap.size wc (((w10.alloc (.cells #[.int .i64 ad] 3)).alloc (.cells #[.int .i64 0] 3)).alloc (.cells #[.int .i64 bn] 3)):=HB10.out.trans (R3.mono HB10.out.size);have HX11:=aj (ay HX9.out rF);have PO:=aj (ay UQ.out rF);have HO11:=aj (ay HO9.out rF);have HR11:=aj (Kd.dL (Kd.fK (ok':=fun g=>bO < g/\g < bA) (Kd.eS HR9.out) (fun g hg=>⟨hg.1,by rw[<-UR];exact Nat.lt_of_lt_of_le hg.2.2.1 HB10.out.size⟩)) rF);have HL11:=aj (show bO < bA by rw[<-UR];exact Nat.lt_of_lt_of_le HL9.out HB10.out.size);rw[UR] at hA1 hK1 hL1 ⊢;have HA11:=aj hA1;have HK11:=aj hK1;have HN11:=aj hL1;have HW11:=aj hsz;generalize ((w10.alloc (.cells #[.int .i64 ad] 3)).alloc (.cells #[.int .i64 0] 3)).alloc (.cells #[.int .i64 bn] 3)=w11 at *;clear UR R3 hA1 hK1 hL1 hsz rF x4 xX HX9 UQ HO9 HR9 HL9 HB9 HB10;have Cr:Below w11.heap.size w11 (w11.alloc (.cells #[.func (.func 37) #[] #[]] 100)):=(Below.refl _ _).alloc (Nat.le_refl _) _;go_upto_region 15 with(fail);have HB12:=aj (HB11.out.trans (Cr.mono HB11.out.size));have HX12:=aj (ay HX11.out Cr);have PS:=aj (ay PO.out Cr);have HO12:=aj (ay HO11.out Cr);have HR12:=aj (Kd.dL HR11.out Cr);have HA12:=aj (ay HA11.out Cr);have HK12:=aj (ay HK11.out Cr);have HN12:=aj (ay HN11.out Cr);have hP1:=aH w11 (.cells #[.func (.func 37) #[] #[]] 100);rw[HW11.out] at hP1 ⊢;have HP12:=aj hP1;generalize w11.alloc (.cells #[.func (.func 37) #[] #[]] 100)=w12 at *;clear Cr hP1 HX11 PO HO11 HR11 HA11 HK11 HN11 HB11 HW11;obtain⟨dx,hdx⟩:∃ dx,decide (ex < 0)=dx:=⟨_,rfl⟩;have Tc:=aj hdx;obtain⟨al,hal⟩:∃ al,(if ex < 0 then bz else bn)=al:=⟨_,rfl⟩;have JU:=aj hal;have xX:w12.cell? ⟨bX,0,none⟩=some (.int .i64 ex):=(ak HX12.out 0).trans rfl;clear hal;go_upto_if 109 with(fail);clear xX hdx;go_cut [110] (fun v110 wc=>wc.heap[bA+1+1]? = some (.cells #[.int .i64 al] 3 (0,0))/\wc.heap[bA+3]? = some (.cells #[.func (.func (if ex < 0 then 38 else 37)) #[] #[]] 100 (0,0))/\Below (bA+1+1) w12 wc)
    case first =>
     cases dx with
     | false =>
      have hx:=of_decide_eq_false Tc.out;have HE:=aj (show bn=al/\(if ex < 0 then 38 else 37)=37 from ⟨by rw[<-JU.out,if_neg hx],if_neg hx⟩);clear hx;go_wp2;go_meet
      case rel =>
       rw[HE.out.2,<-HE.out.1];exact⟨HN12.out,HP12.out,Below.refl _ _⟩
     | true =>
      have hx:=of_decide_eq_true Tc.out;have HE:=aj (show bz=al/\(if ex < 0 then 38 else 37)=38 from ⟨by rw[<-JU.out,if_pos hx],if_pos hx⟩);clear hx;have n0:w12.cell? ⟨bA+1+1,0,none⟩=some (.int .i64 bn):=(ak HN12.out 0).trans rfl;have f0:=aB HN12.out 0;have hpf:=cw (p:=⟨bA+1+1,0,none⟩) HP12.out (by show bA+3≠bA+1+1;omega) (.int .i64 bz);have HPF:=aj hpf;have p0:(w12.setCell ⟨bA+1+1,0,none⟩ (.int .i64 bz)).cell? ⟨bA+3,0,none⟩=some (.func (.func 37) #[] #[]):=(ak hpf 0).trans rfl;have f1:=aB hpf 0;clear hpf;go_wp2;go_meet
      case rel =>
       rw[HE.out.2,<-HE.out.1];refine⟨cw (p:=⟨bA+3,0,none⟩) (aN HN12.out 0 _ rfl) (by show bA+1+1≠bA+3;omega) _,aN HPF.out 0 _ rfl,((Below.refl _ _).setCell (Nat.le_refl (bA+1+1)) _).setCell (by show bA+1+1<=bA+3;omega) _⟩
    case rest =>
     obtain⟨hq1,hq2,hq3⟩:=hcut;have HB13:=aj (HB12.out.trans (hq3.mono (by have:=HW4.out;have:=sj.out;have:=HL11.out;omega)));have HX13:=aj ((hq3.block bX (by have:=sj.out;have:=HL11.out;omega)).trans HX12.out);have PU:=aj ((hq3.block jV (by have:=sj.out;have:=HL11.out;omega)).trans PS.out);have HO13:=aj ((hq3.block bO (by have:=HL11.out;omega)).trans HO12.out);have HR13:=aj (Kd.qH HR12.out (fun j hj _=>hq3.block j (by have:=hj.2;omega)));have HA13:=aj ((hq3.block bA (by omega)).trans HA12.out);have HK13:=aj ((hq3.block (bA+1) (by omega)).trans HK12.out);have HN13:=aj hq1;have HP13:=aj hq2;have cg:=aj (aY hq2);clear hq1 hq2 hq3 HX12 PS HO12 HR12 HA12 HK12 HN12 HP12 HB12 Tc;have zG:Below wc.heap.size wc (wc.alloc (.cells #[.func (.func 39) #[] #[.pointer (some ⟨jV,0,none⟩),.pointer (some ⟨bX,0,none⟩),.pointer (some ⟨bA+1,0,none⟩),.pointer (some ⟨bA+1+1,0,none⟩)]] 101)):=(Below.refl _ _).alloc (Nat.le_refl _) _;go_upto_region 18 with(fail);obtain⟨bT,Wz⟩:∃ b,wc.heap.size=b:=⟨_,rfl⟩;have HX14:=aj (ay HX13.out zG);have PW:=aj (ay PU.out zG);have HO14:=aj (ay HO13.out zG);have HR14:=aj (Kd.dL HR13.out zG);have HA14:=aj (ay HA13.out zG);have HK14:=aj (ay HK13.out zG);have HN14:=aj (ay HN13.out zG);have HP14:=aj (ay HP13.out zG);have HB14:=aj (HB13.out.trans (zG.mono HB13.out.size));have ht1:=aH wc (.cells #[.func (.func 39) #[] #[.pointer (some ⟨jV,0,none⟩),.pointer (some ⟨bX,0,none⟩),.pointer (some ⟨bA+1,0,none⟩),.pointer (some ⟨bA+1+1,0,none⟩)]] 101);have MZ:=aj (show bA+3 < bT by rw[<-Wz];exact cg.out);have HW14:=aj (show(wc.alloc (.cells #[.func (.func 39) #[] #[.pointer (some ⟨jV,0,none⟩),.pointer (some ⟨bX,0,none⟩),.pointer (some ⟨bA+1,0,none⟩),.pointer (some ⟨bA+1+1,0,none⟩)]] 101)).heap.size=bT+1 by rw[World.size_alloc,Wz]);rw[Wz] at ht1 ⊢;have HT14:=aj ht1;generalize wc.alloc (.cells #[.func (.func 39) #[] #[.pointer (some ⟨jV,0,none⟩),.pointer (some ⟨bX,0,none⟩),.pointer (some ⟨bA+1,0,none⟩),.pointer (some ⟨bA+1+1,0,none⟩)]] 101)=w14 at *;clear Wz ht1 zG HX13 PU HO13 HR13 HA13 HK13 HN13 HP13 HB13 cg;have x2:w14.cell? ⟨bx+1,2,none⟩=some (.int .i64 x.f2):=(ak (HF4.out _ HB14.out).2.1 2).trans rfl;have xA:w14.cell? ⟨bA,0,none⟩=some (.int .i64 ad):=(ak HA14.out 0).trans rfl;have hen:=RY.out;have UL:=YS.out;have a1:IntKind.i64.wrap (x.f2+ad)=x.f2+ad:=IntWalk.i64_in _ (by omega);have LX:wrap64 (x.f2+ad)=x.f2+ad:=dN _ (by omega);clear hen UL;go_upto_region 19 with(fail);have oh:Below w14.heap.size w14 (w14.alloc (.cells #[.int .i64 (x.f2+ad)] 3)):=(Below.refl _ _).alloc (Nat.le_refl _) _;have HX15:=aj (ay HX14.out oh);have PX:=aj (ay PW.out oh);have HO15:=aj (ay HO14.out oh);have HR15:=aj (Kd.dL HR14.out oh);have HA15:=aj (ay HA14.out oh);have HK15:=aj (ay HK14.out oh);have HN15:=aj (ay HN14.out oh);have HP15:=aj (ay HP14.out oh);have HT15:=aj (ay HT14.out oh);have HB15:=aj (HB14.out.trans (oh.mono HB14.out.size));have he1:=aH w14 (.cells #[.int .i64 (x.f2+ad)] 3);have HW15:=aj (show(w14.alloc (.cells #[.int .i64 (x.f2+ad)] 3)).heap.size=bT+2 by rw[World.size_alloc,HW14.out]);rw[HW14.out] at he1 ⊢;have HE15:=aj he1;generalize w14.alloc (.cells #[.int .i64 (x.f2+ad)] 3)=w15 at *;clear he1 oh x2 xA a1 LX HX14 PW HO14 HR14 HA14 HK14 HN14 HP14 HT14 HB14 HW14
     have HEO:=aj (show(zF eT kQ n A c B cb an sn dr hy x.f2 ad sp ex al bS bX jV bO bA bT G).Ok from
      {o1:=sj.out.1,o2:=sj.out.2.1,o3:=sj.out.2.2,o4:=HL11.out,o5:=Nat.lt_succ_self _,o6:=Nat.lt_succ_self _,o7:=by show bA+1+1 < bA+3;omega,o8:=MZ.out,o9:=Nat.lt_succ_self _,bs:=Nat.le_refl _,
       ok:=fun g h=>by
        have h':bO < g/\g≠bA/\g≠bA+1/\g≠bA+1+1/\g≠bA+3/\g≠bT/\g≠bT+1:=h;have:=sj.out;show g≠bS/\g≠bX/\g≠jV/\g≠bO/\g≠bA/\g≠bA+1/\g≠bA+1+1/\g≠bA+3/\g≠bT/\g≠bT+1;omega,
       fr:=fun g h=>by
        have h':bT+1 < g:=h;have:=MZ.out;have:=HL11.out;show bO < g/\g≠bA/\g≠bA+1/\g≠bA+1+1/\g≠bA+3/\g≠bT/\g≠bT+1;omega,
       ln:=⟨HS.out.2.2.1,by have:=HN3.out;show n<=4096;omega⟩,sn:=HAS.out.2,ms:=Sl.out,
       rw:=fun a ha=>⟨tT.out.1 a ha,fun h=>by have h1:=tT.out.1 a ha;have h2:bO < a.block:=h.1;have:=sj.out;omega⟩,
       al:=fun h=>by
        have h1:=(yD (p:=p) (x:=x) (last:=last) (by rw[HV.out.2.2.2.2.1];exact h)).1;rw[HV.out.1,HV.out.2.1,HV.out.2.2.1,JU.out] at h1;exact h1,
       xr:=HX.out.lx,dr:=RY.out.2.2.2.2.2,
       at_:=fun k hk=>by have:=(SI.out k (by have:=HAS.out;have hk':k < sn:=hk;omega)).1;exact⟨this.1,Int.le_trans this.2 (by decide)⟩,
       wd:=fun k hk=>(SI.out k (by have:=HAS.out;have hk':k < sn:=hk;omega)).2,
       er:=by have:=RY.out.1;show -1000000000<=ex/\ex<=1000000000;omega,
       gl:=by show G.length<=1;rw[<-HG.out];split<;>simp })
     have HI0:=aj (show(zF eT kQ n A c B cb an sn dr hy x.f2 ad sp ex al bS bX jV bO bA bT G).I 0 w4 w15 from
      {s:=by
        show w15.heap[bS]? = some (.cells #[.slice A n c,.slice B n cb,.int .i64 (an:Int),.int .i64 (sn:Int),.int .i64 dr,.int .i64 hy] 90 (0,0));rw[HS.out.2.2.2.2.2.1,HS.out.2.2.2.2.2.2.1];exact(HF4.out _ HB15.out).2.2.1,
       x:=HX15.out,sp:=PX.out,a:=HA15.out,kk:=HK15.out,al:=HN15.out,p:=HP15.out,t:=HT15.out,e:=HE15.out,
       o:=⟨A1,c1,m1,HO15.out,by
        show k48.R 48 w15 bS _ (.slice A1 m1 c1) (G ++ []);rw[List.append_nil];exact Kd.fK HR15.out (fun g hg=>by
         have:=MZ.out;show bO < g/\g≠bA/\g≠bA+1/\g≠bA+1+1/\g≠bA+3/\g≠bT/\g≠bT+1;omega)⟩,
       c:=(HF4.out _ HB15.out).2.2.2.1,far:=HB15.out.mono (by have:=HW4.out;show bS<=w4.heap.size;omega) })
     have UU:=aj (show bT+1 < w15.heap.size by rw[HW15.out];omega);have HOL:=aj (show bO < w15.heap.size from aY HO15.out);have E3:=aj (show(zF eT kQ n A c B cb an sn dr hy x.f2 ad sp ex al bS bX jV bO bA bT G).Cj w15≠some w15.heap.size from by
      rw[gG.vW (E:=(zF eT kQ n A c B cb an sn dr hy x.f2 ad sp ex al bS bX jV bO bA bT G)) HO15.out];intro q;have:=Kd.ED HR15.out _ q;omega)
     have HW1:=aj (show Calls Tryz.prog 31 #[.agg #[.slice A n c,.slice B n cb,.int .i64 ai,.int .i64 si,.int .i64 dr,.int .i64 hy],.int .i64 x.f2,.func (.func 40) #[] #[.pointer (some ⟨bS,0,none⟩),.pointer (some ⟨bA,0,none⟩),.pointer (some ⟨bT,0,none⟩),.pointer (some ⟨bA+1,0,none⟩),.pointer (some ⟨bA+3,0,none⟩),.pointer (some ⟨bO,0,none⟩),.pointer (some ⟨bT+1,0,none⟩)]] w15 (fun e w'=>e=.returned (.int .i64 z)/\(zF eT kQ n A c B cb an sn dr hy x.f2 ad sp ex al bS bX jV bO bA bT G).I sn w4 w') from by
      refine(Rz eT kQ n HS.out.2.2.1 A B c cb ai si an sn dr hy x.f2 bS bA bT (bA+1) (bA+3) bO (bT+1) w15 (HF4.out _ HB15.out).2.2.2.1 (HF4.out _ HB15.out).2.2.2.2.1 vP.out (by have:=HN3.out;omega) Sl.out HS.out.2.2.2.2.2.1.symm HS.out.2.2.2.2.2.2.1.symm HAS.out.2 z HV.out.2.2.2.2.2.2 (fun k hk=>?_) (fun k hk=>(SI.out k (by have:=HAS.out;omega)).2)
       (fun g=>bS<=g/\g < w15.heap.size) (fun k W=>(zF eT kQ n A c B cb an sn dr hy x.f2 ad sp ex al bS bX jV bO bA bT G).I k w4 W/\w15.heap.size<=W.heap.size/\(w15.heap.size < W.heap.size->(zF eT kQ n A c B cb an sn dr hy x.f2 ad sp ex al bS bX jV bO bA bT G).Cj W≠some w15.heap.size)) (fun g h=>h.2) (fun a ha h=>by have h1:=tT.out.1 a ha;have:=h.1;omega) (fun a ha h=>by have h1:=tT.out.2 a ha;have:=h.1;omega)
       (fun o=>?_) (fun k W1 W2 h1 h2=>?_) (fun k W hk hI hlt=>?_)).mono ?_
      .have h1:=YR.out k (by have:=HAS.out;omega);have h2:=(SI.out k (by have:=HAS.out;omega)).1;omega
      .have hb:Below w15.heap.size w15 (w15.alloc o):=(Below.refl _ _).alloc (Nat.le_refl _) _;refine⟨HI0.out.below hb (by show bS<=w15.heap.size;have:=sj.out;have:=HOL.out;omega),by simp,fun _=>?_⟩;rw[gG.yL (E:=(zF eT kQ n A c B cb an sn dr hy x.f2 ad sp ex al bS bX jV bO bA bT G)) HOL.out hb];exact E3.out
      .refine⟨h1.1.below h2 (by show bS<=W1.heap.size;have:=h1.2.1;have:=sj.out;have:=HOL.out;omega),Nat.le_trans h1.2.1 h2.size,fun q=>?_⟩;have hO1:bO < W1.heap.size:=Nat.lt_of_lt_of_le HOL.out h1.2.1;rw[gG.yL (E:=(zF eT kQ n A c B cb an sn dr hy x.f2 ad sp ex al bS bX jV bO bA bT G)) hO1 h2];by_cases q2:w15.heap.size < W1.heap.size
       .exact h1.2.2 q2
       .obtain⟨A',c',m',e1,e2⟩:=h1.1.o;rw[gG.vW (E:=(zF eT kQ n A c B cb an sn dr hy x.f2 ad sp ex al bS bX jV bO bA bT G)) e1];intro e3;have:=Kd.ED e2 _ e3;omega
      .refine(Mh (zF eT kQ n A c B cb an sn dr hy x.f2 ad sp ex al bS bX jV bO bA bT G) HEO.out k w4 W hk hI.1).mono ?_;rintro e W' ⟨rfl,hI',hK'⟩;have hb0:=UU.out;have hko:=HL11.out;have MW:=MZ.out;refine⟨rfl,⟨hI',Nat.le_trans hI.2.1 hK'.1,fun _=>?_⟩,hK'.1,fun g hg hgs hS=>?_⟩
       .exact(hK'.2 w15.heap.size hlt (by show w15.heap.size≠bA+1;omega) (by show w15.heap.size≠bO;omega) (by show w15.heap.size≠bT+1;omega) (hI.2.2 hlt)).2
       .by_cases q:g=w15.heap.size
        .rw[q];exact(hK'.2 w15.heap.size hlt (by show w15.heap.size≠bA+1;omega) (by show w15.heap.size≠bO;omega) (by show w15.heap.size≠bT+1;omega) (hI.2.2 hlt)).1
        .have hgb:g < bS:=by
          by_cases q3:g < bS
          .exact q3
          .exact absurd ⟨by omega,by omega⟩ hS
         rw[hI'.far.block g hgb,hI.1.far.block g hgb]
      .rintro e w' ⟨rfl,h1,_⟩;exact⟨rfl,h1.1⟩)
     have x2:w15.cell? ⟨bx+1,2,none⟩=some (.int .i64 x.f2):=(ak (HF4.out _ HB15.out).2.1 2).trans rfl;go_upto_region 20 with(first|((with_reducible refine aS (N:=116) rfl ?_);go_loud(refine wpList_load_row rfl 90 _ rfl bS rfl 90 #[.slice A n c,.slice B n cb,.int .i64 ai,.int .i64 si,.int .i64 dr,.int .i64 hy] (0,0) _ (by exact(HF4.out _ HB15.out).2.2.1) Tryz.underlying90 rfl (by kernel_rfl) ?_))|(go_at_call 31;go_loud(refine HW1.out.mono ?_;rintro e w16 ⟨rfl,hI⟩;have HI:=aj hI;clear hI)));clear x2 HW1 HI0 E3 HOL HX15 PX HO15 HR15 HA15 HK15 HN15 HP15 HT15 HE15 HB15 HW15 UU;obtain⟨ez,YT⟩:∃ ez,(zF eT kQ n A c B cb an sn dr hy x.f2 ad sp ex al bS bX jV bO bA bT G).Ew sn=ez:=⟨_,rfl⟩;have HEZ:=aj YT;obtain⟨GL,WA⟩:∃ L,G ++ (zF eT kQ n A c B cb an sn dr hy x.f2 ad sp ex al bS bX jV bO bA bT G).mR sn=L:=⟨_,rfl⟩;have za:=aj WA;obtain⟨Ao,co,mo,ho1,ho2⟩:=HI.out.o;have jr:=aj (show GL.length<=301 by
      have h1:G.length<=1:=HEO.out.gl;have h2:=HAS.out;have h3:=HN3.out;rw[<-WA,List.length_append];unfold gG.mR;rw[List.length_map,List.length_range];omega)
     have HQ0:=aj (show GQ w4 bx bO bS (bT+1) #[.slice A n c,.slice B n cb,.int .i64 ai,.int .i64 si,.int .i64 dr,.int .i64 hy] x ez A n eT (.slice Ao mo co) GL w16 from
      {ho:=ho1,
       r:=by
        rw[<-WA];exact Kd.fK ho2 (fun g hg=>⟨hg.1,hg.2.2.2.2.2.2⟩),
       e:=by
        have h:w16.heap[bT+1]? = some (.cells #[.int .i64 ((zF eT kQ n A c B cb an sn dr hy x.f2 ad sp ex al bS bX jV bO bA bT G).Ew sn)] 3 (0,0)):=HI.out.e;rw[YT] at h;exact h,
       s:=by
        have h:w16.heap[bS]? = some (.cells #[.slice A n c,.slice B n cb,.int .i64 (an:Int),.int .i64 (sn:Int),.int .i64 dr,.int .i64 hy] 90 (0,0)):=HI.out.s;rw[HS.out.2.2.2.2.2.1,HS.out.2.2.2.2.2.2.1] at h;exact h,
       x:=(HI.out.far.block (bx+1) OY.out).trans uw.out,
       c:=HI.out.c,
       far:=HI.out.far })
     clear YT WA ho1 ho2 HI;have hct:=Cw (P:=Tryz.prog) 82 99 .i64 Tryz.underlying82 rfl 6 rfl A n c si (by have:=HS.out.2.2.2.2.2.2.1;omega) (by have h1:=HS.out.2.2.2.2.2.2.1;have:=HAS.out;omega) w16;rw[show si.toNat=sn by have:=HS.out.2.2.2.2.2.2.1;omega] at hct;have HC2:=aj (show ∀ W,Kd.C k99 W A n eT->Kd.C k99 W (if c=sn then A else A.map (·.add (sn * 6))) (n - sn) (eT.drop sn) from fun W h=>by
      have h2:=Kd.mW (m:=sn) (k:=k99) (c:=c) (by rw[HS.out.2.2.1];exact h) (by rw[HS.out.2.2.1];exact HAS.out.2) (by rw[HS.out.2.2.1];exact vP.out);rw[List.length_drop,HS.out.2.2.1] at h2;exact h2)
     obtain⟨A2,hA2⟩:∃ A2,(if c=sn then A else A.map (·.add (sn * 6)))=A2:=⟨_,rfl⟩;obtain⟨m2,hm2⟩:∃ m2,n - sn=m2:=⟨_,rfl⟩;obtain⟨D,hD⟩:∃ D,eT.drop sn=D:=⟨_,rfl⟩;have HD:=aj (And.intro hD (show D.length=m2 by rw[<-hD,List.length_drop,HS.out.2.2.1,hm2]));rw[hA2,hm2] at hct;rw[hA2,hm2,hD] at HC2;obtain⟨c2,hc2⟩:∃ c2,c - sn=c2:=⟨_,rfl⟩;rw[hc2] at hct;have HM2:=aj (show m2<=300 by have:=HN3.out;omega);have b0:w16.cell? ⟨bS,0,none⟩=some (.slice A n c):=(ak HQ0.out.s 0).trans rfl;have b3:w16.cell? ⟨bS,3,none⟩=some (.int .i64 si):=(ak HQ0.out.s 3).trans rfl;clear hA2 hm2 hD hc2;go_wp2;clear hct b0 b3;go_loopw [127] (fun v127 wq=>∃ (y:Int) (k:Nat) (Ao:Option Addr) (mo co:Nat),v127=.int .i64 y/\aC (y=(k:Int)/\k<=m2)/\aC (GQ w4 bx bO bS (bT+1) #[.slice A n c,.slice B n cb,.int .i64 ai,.int .i64 si,.int .i64 dr,.int .i64 hy] x ez A n eT (.slice Ao mo co) (GL ++ (D.take k).map (fun m=>(⟨m.f0,m.f1,ez,0⟩:S48))) wq)) (fun v127 _=>m2 - (intOf v127).toNat)
     case atStart=>exact⟨0,0,Ao,mo,co,rfl,⟨rfl,Nat.zero_le _⟩,⟨by rw[List.take_zero,List.map_nil,List.append_nil];exact HQ0.out⟩⟩
     case round =>
      obtain⟨y,k,Ao,mo,co,rfl,hY,hQ⟩:=hrel;obtain⟨LL,WB⟩:∃ L,GL ++ (D.take k).map (fun m=>(⟨m.f0,m.f1,ez,0⟩:S48))=L:=⟨_,rfl⟩;have Et:=aj (And.intro WB (show LL.length<=601 by
       have:=jr.out;have:=hY.out.2;have:=HM2.out;rw[<-WB,List.length_append,List.length_map,List.length_take];omega))
      rw[WB] at hQ;clear WB;by_cases hlt:k < m2
      .have d1:decide (y < (m2:Int))=true:=decide_eq_true (by have:=hY.out.1;omega);have q0:0<=y:=(by have:=hY.out.1;omega);have q1:y < (m2:Int):=(by have:=hY.out.1;omega);have q2:y<=300:=(by have:=HM2.out;omega);obtain⟨ad2,e0,k0,k1,k2,k3,k4,k5⟩:=eV (HC2.out _ hQ.out.c) y q0 q1;subst e0;have WC:=Ej (l:=D) (k:=k) (by rw[HD.out.2];exact hlt);rw[<-hY.out.1] at WC;obtain⟨m,hm⟩:∃ m,aV D y=m:=⟨_,rfl⟩;rw[hm] at k0 k1 k2 k3 k4 k5 WC;have HTS:=aj WC;have z0:=cM k0 (.cells #[.int .i64 0,.int .i64 0,.int .i64 0,.int .i64 0,.int .i64 0,.int .i64 0] 99);have cg:=aj hlt;have p0:=eq_true q0;have p1:=eq_true q1;have UW:Below wr.heap.size wr (wr.alloc (.cells (Au m) 99)):=(Below.refl _ _).alloc (Nat.le_refl _) _;have HQ5:=aj (hQ.out.below UW);have tF:=aj (aH wr (.cells (Au m) 99));clear hlt hm WC UW;go_upto_region 23 with(fail);obtain⟨bq,vJ⟩:∃ b,wr.heap.size=b:=⟨_,rfl⟩;rw[vJ] at tF ⊢;generalize wr.alloc (.cells (Au m) 99)=w5 at *;clear vJ k0 k1 k2 k3 k4 k5 z0;have E0:=aj (show(∀ j,w5.heap.size<=j->bO < j/\j≠bT+1)/\bS<=w5.heap.size/\(LL.length+1) * 32<=140737488355328/\(bx+1 < bS/\bS < bO/\bO < bT+1) from by
        have h1:=aY HQ5.out.ho;have h2:=aY HQ5.out.e;have h3:=aY HQ5.out.s;have h4:=Et.out.2;have h5:=sj.out;have h6:=HL11.out;have h7:=MZ.out;have h8:=OY.out;refine⟨fun j hj=>?_,?_,?_,?_⟩<;>omega)
       have m0:w5.cell? ⟨bq,0,none⟩=some (.int .i64 m.f0):=(ak tF.out 0).trans rfl;have m1:w5.cell? ⟨bq,1,none⟩=some (.int .i64 m.f1):=(ak tF.out 1).trans rfl;have o0:w5.cell? ⟨bO,0,none⟩=some (.slice Ao mo co):=(ak HQ5.out.ho 0).trans rfl;have e1:w5.cell? ⟨bT+1,0,none⟩=some (.int .i64 ez):=(ak HQ5.out.e 0).trans rfl;go_wp2_with ((with_reducible refine aS (N:=139) rfl ?_);go_loud(refine Kd.gH k48 (w0:=w4) (W:=w5) bS rfl (.tmp 131) (.tmp 138) 42 48 (.agg #[(.int .i64 0),(.int .i64 0),(.int .i64 0),(.int .i64 0)]) 32 rfl Tryz.underlying42 AZ rfl (by decide) (by decide) (.slice Ao mo co) LL ⟨m.f0,m.f1,ez,0⟩ [.int .i64 m.f0,.int .i64 m.f1,.int .i64 ez,.int .i64 0] (fun g=>bO < g/\g≠bT+1) (fun _=>False) (by rfl) (by rfl) (vI _ _ _ _) (fun _ h=>h.elim) E0.out.1 HQ5.out.r HQ5.out.far E0.out.2.1 E0.out.2.2.1 ?_;intro v1 w1 hR1 hB1 kr _;obtain⟨A9,c9,e9,hc9,ha9,hC9⟩:=fX hR1;generalize hN9:(LL ++ [(⟨m.f0,m.f1,ez,0⟩:S48)]).length=N9 at e9;have HP1:=aj (HQ5.out.push E0.out.2.2.2 tT.out.1 hR1 hB1 kr);have hy1:=cJ HQ5.out.ho kr (HQ5.out.ne (.inl (Nat.le_refl _)));subst e9;have y1:w1.cell? ⟨bO,0,none⟩=some (.slice Ao mo co):=(ak hy1 0).trans rfl;have fz:=aB hy1 0;(try clear hc9);(try clear ha9);(try clear hC9);(try clear hN9);(try clear hR1);(try clear hB1);(try clear kr);(try clear hy1)));go_roundw
       case rel =>
        refine⟨y+1,k+1,A9,N9,c9,rfl,⟨by have:=hY.out.1;omega,cg.out⟩,⟨?_⟩⟩;rw[HTS.out,List.map_append,<-List.append_assoc,Et.out.1];exact HP1.out
       case measure=>have:=cg.out;have:=hY.out;simp[intOf];omega
      .have d1:decide (y < (m2:Int))=false:=decide_eq_false (by have:=hY.out.1;omega);have Ft:=aj (show GL ++ D.map (fun m=>(⟨m.f0,m.f1,ez,0⟩:S48))=LL by
        have h:=Et.out.1;rw[List.take_of_length_le (by rw[HD.out.2];omega)] at h;exact h)
       obtain⟨hf,RU⟩:∃ hf,x.f5=hf:=⟨_,rfl⟩;have YN:=aj RU;have x5:wr.cell? ⟨bx+1,5,none⟩=some (.bool hf):=(by rw[<-RU];exact(ak hQ.out.x 5).trans rfl);have HQ5:=aj hQ.out;clear hlt RU;have E0:=aj (show(∀ j,wr.heap.size<=j->bO < j/\j≠bT+1)/\bS<=wr.heap.size/\(LL.length+1) * 32<=140737488355328/\(bx+1 < bS/\bS < bO/\bO < bT+1) from by
        have h1:=aY HQ5.out.ho;have h2:=aY HQ5.out.e;have h3:=aY HQ5.out.s;have h4:=Et.out.2;have h5:=sj.out;have h6:=HL11.out;have h7:=MZ.out;have h8:=OY.out;refine⟨fun j hj=>?_,?_,?_,?_⟩<;>omega)
       go_upto_if 142 with(fail);clear x5;go_cut [153] (fun v153 wc=>GQE w4 bx bO bS (bT+1) #[.slice A n c,.slice B n cb,.int .i64 ai,.int .i64 si,.int .i64 dr,.int .i64 hy] x ez A n eT (LL ++ if hf=true then [(⟨x.f1,x.f1,ez,hy⟩:S48)] else []) wc)
       case first =>
        cases hf with
        | false =>
         go_wp2;go_meet
         case rel=>exact⟨Ao,mo,co,by rw[if_neg (by first|decide|exact fun h=>h|simp),List.append_nil];exact HQ5.out⟩
        | true =>
         have x1:wr.cell? ⟨bx+1,1,none⟩=some (.int .i64 x.f1):=(ak HQ5.out.x 1).trans rfl;have o0:wr.cell? ⟨bO,0,none⟩=some (.slice Ao mo co):=(ak HQ5.out.ho 0).trans rfl;have e1:wr.cell? ⟨bT+1,0,none⟩=some (.int .i64 ez):=(ak HQ5.out.e 0).trans rfl;have s5:wr.cell? ⟨bS,5,none⟩=some (.int .i64 hy):=(ak HQ5.out.s 5).trans rfl;go_wp2_with ((with_reducible refine aS (N:=153) rfl ?_);go_loud(refine Kd.gH k48 (w0:=w4) (W:=wr) bS rfl (.tmp 143) (.tmp 152) 42 48 (.agg #[(.int .i64 0),(.int .i64 0),(.int .i64 0),(.int .i64 0)]) 32 rfl Tryz.underlying42 AZ rfl (by decide) (by decide) (.slice Ao mo co) LL ⟨x.f1,x.f1,ez,hy⟩ [.int .i64 x.f1,.int .i64 x.f1,.int .i64 ez,.int .i64 hy] (fun g=>bO < g/\g≠bT+1) (fun _=>False) (by rfl) (by rfl) (vI _ _ _ _) (fun _ h=>h.elim) E0.out.1 HQ5.out.r HQ5.out.far E0.out.2.1 E0.out.2.2.1 ?_;intro v1 w1 hR1 hB1 kr _;obtain⟨A9,c9,e9,hc9,ha9,hC9⟩:=fX hR1;generalize hN9:(LL ++ [(⟨x.f1,x.f1,ez,hy⟩:S48)]).length=N9 at e9;have HP1:=aj (HQ5.out.push E0.out.2.2.2 tT.out.1 hR1 hB1 kr);have hy1:=cJ HQ5.out.ho kr (HQ5.out.ne (.inl (Nat.le_refl _)));subst e9;have y1:w1.cell? ⟨bO,0,none⟩=some (.slice Ao mo co):=(ak hy1 0).trans rfl;have fz:=aB hy1 0;(try clear hc9);(try clear ha9);(try clear hC9);(try clear hN9);(try clear hR1);(try clear hB1);(try clear kr);(try clear hy1)));go_meet
         case rel=>exact⟨A9,N9,c9,by first|(rw[if_pos trivial];exact HP1.out)|(rw[if_pos rfl];exact HP1.out)|exact HP1.out⟩
       case rest =>
        obtain⟨Af,mf,cf,hqf⟩:=hcut;have YU:=aj hqf;clear hqf;have o0:wc.cell? ⟨bO,0,none⟩=some (.slice Af mf cf):=(ak YU.out.ho 0).trans rfl;go_wp2;go_ret2;have hb0:w.heap.size<=bS:=(by have h1:=mK.out;have h2:=OY.out;omega);refine⟨_,rfl,?_,HB4.out.trans (YU.out.far.mono hb0)⟩;have hc1:(zF eT kQ n A c B cb an sn dr hy x.f2 ad sp ex al bS bX jV bO bA bT G).l=(fY p x last).l:=HS.out.1.symm;have hc2:(zF eT kQ n A c B cb an sn dr hy x.f2 ad sp ex al bS bX jV bO bA bT G).kd=(fY p x last).kd:=HS.out.2.1.symm;have hc3:(zF eT kQ n A c B cb an sn dr hy x.f2 ad sp ex al bS bX jV bO bA bT G).an=(fY p x last).an:=HS.out.2.2.2.1.symm;have hc5:(zF eT kQ n A c B cb an sn dr hy x.f2 ad sp ex al bS bX jV bO bA bT G).ad=(fY p x last).ad:=by
         show ad=jt p.pr.f2 (eP p x);rw[HV.out.1];exact HV.out.2.2.2.2.2.1.symm
        have hc6:(zF eT kQ n A c B cb an sn dr hy x.f2 ad sp ex al bS bX jV bO bA bT G).sp=(fY p x last).sp:=HV.out.2.2.2.2.1.symm;have hc7:(zF eT kQ n A c B cb an sn dr hy x.f2 ad sp ex al bS bX jV bO bA bT G).ex=(fY p x last).ex:=HV.out.1.symm;have hc8:(zF eT kQ n A c B cb an sn dr hy x.f2 ad sp ex al bS bX jV bO bA bT G).al=(fY p x last).al:=by
         show al=if eP p x < 0 then qh (fA p x) else qg (fA p x);rw[HV.out.1,HV.out.2.1,HV.out.2.2.1];exact JU.out.symm
        have hE:gb p x last=LL ++ if hf=true then [(⟨x.f1,x.f1,ez,hy⟩:S48)] else []:=by
         have g1:=gG.Gb hc1 hc2 hc3 rfl hc5 hc6 hc7 hc8 sn;have g2:=gG.Jo hc1 hc2 hc3 rfl hc5 hc6 hc7 hc8 sn;rw[HEZ.out] at g2;unfold gb;rw[HS.out.1,HS.out.2.2.2.2.1,HS.out.2.2.2.2.2.2.2.2,<-g1,<-g2,Tz.out,za.out,HD.out.1,Ft.out,YN.out]
        rw[hE];exact Kd.fF (Kd.fK YU.out.r (fun _ _=>trivial)) hb0
end Go.Proofs.YtcaallkkeighdaaGreatDoor.P
