/- what set.Place does with each mass. kerning between masses;where a line's masses stand,at least. a line's setting and its glyphs,as plain functions of the paragraph and the line. -/
import Derived.Test.YtcaallkkeighdaaGreatDoorR36
set_option maxRecDepth 100000
set_option maxHeartbeats 16000000
set_option linter.unusedVariables false
set_option linter.unusedSimpArgs false
namespace Go.Proofs.YtcaallkkeighdaaGreatDoor.P
open Go.RowKit aD aQ aR
attribute [local go_sem] kL
structure gG where
 l:List S99
 kd:List Bool
 n:Nat
 A:Option Addr
 c:Nat
 B:Option Addr
 cb:Nat
 an:Nat
 sn:Nat
 d:Int
 h:Int
 x:Int
 ad:Int
 sp:Bool
 ex:Int
 al:Int
 bS:Nat
 bX:Nat
 jV:Nat
 bO:Nat
 bA:Nat
 bK:Nat
 DW:Nat
 bP:Nat
 bT:Nat
 bE:Nat
 base:Nat
 ok:Nat->Prop
 G:List S48
namespace gG
def Mg(E:gG)(k:Nat):Bool:=(aV E.l k).f2 == 3 && decide (E.an<=k)
def qF(E:gG):Nat->Int
 | 0=>0
 | k+1=>if Mg E k=true then qF E k+partOf E.ex (aV E.l k) else qF E k
def tk(E:gG)(k:Nat):Int:=nM E.sp E.ex (qF E k) E.al
def gX(E:gG)(k:Nat):Int:=rG E.kd E.an E.l E.x k+E.ad+tk E k
def gW(E:gG)(k:Nat):Int:=if Mg E k=true then wW E.kd E.an E.l E.x k+(tk E (k+1) - tk E k) else wW E.kd E.an E.l E.x k
def Wq(E:gG)(k:Nat):S48:=⟨(aV E.l k).f0,(aV E.l k).f1,gX E k,gW E k⟩
def mR(E:gG)(k:Nat):List S48:=(List.range k).map (Wq E)
def Ew(E:gG):Nat->Int
 | 0=>E.x+E.ad
 | k+1=>gX E k+gW E k
theorem Aw(E:gG)(k:Nat):E.mR (k+1)=E.mR k ++ [E.Wq k]:=by unfold mR;rw[List.range_succ,List.map_append];rfl
structure Ok(E:gG):Prop where
 o1:E.bS < E.bX
 o2:E.bX < E.jV
 o3:E.jV < E.bO
 o4:E.bO < E.bA
 o5:E.bA < E.bK
 o6:E.bK < E.DW
 o7:E.DW < E.bP
 o8:E.bP < E.bT
 o9:E.bT < E.bE
 bs:E.base<=E.bS
 ok:∀ g,E.ok g->g≠E.bS/\g≠E.bX/\g≠E.jV/\g≠E.bO/\g≠E.bA/\g≠E.bK/\g≠E.DW/\g≠E.bP/\g≠E.bT/\g≠E.bE
 fr:∀ g,E.bE < g->E.ok g
 ln:E.l.length=E.n/\E.n<=4096
 sn:E.sn<=E.n
 ms:∀ m∈E.l,cI m
 rw:∀ a,E.A=some a->a.block < E.bS/\¬ E.ok a.block
 al:E.sp=true->1<=E.al
 xr:0<=E.x/\E.x<=4095
 dr:0<=E.ad/\E.ad<=4095
 at_:∀ k,k < E.sn->0<=rG E.kd E.an E.l E.x k/\rG E.kd E.an E.l E.x k<=900000000
 wd:∀ k,k < E.sn->0<=wW E.kd E.an E.l E.x k/\wW E.kd E.an E.l E.x k<=4095
 er : -1000000000<=E.ex/\E.ex<=1000000000
 gl:E.G.length<=1
structure I(E:gG)(k:Nat)(w W:World):Prop where
 s:W.heap[E.bS]? = some (.cells #[.slice E.A E.n E.c,.slice E.B E.n E.cb,.int .i64 (E.an:Int),.int .i64 (E.sn:Int),.int .i64 E.d,.int .i64 E.h] 90 (0,0))
 x:W.heap[E.bX]? = some (.cells #[.int .i64 E.ex] 3 (0,0))
 sp:W.heap[E.jV]? = some (.cells #[.bool E.sp] 4 (0,0))
 a:W.heap[E.bA]? = some (.cells #[.int .i64 E.ad] 3 (0,0))
 kk:W.heap[E.bK]? = some (.cells #[.int .i64 (E.qF k)] 3 (0,0))
 al:W.heap[E.DW]? = some (.cells #[.int .i64 E.al] 3 (0,0))
 p:W.heap[E.bP]? = some (.cells #[.func (.func (if E.ex < 0 then 38 else 37)) #[] #[]] 100 (0,0))
 t:W.heap[E.bT]? = some (.cells #[.func (.func 39) #[] #[.pointer (some ⟨E.jV,0,none⟩),.pointer (some ⟨E.bX,0,none⟩),.pointer (some ⟨E.bK,0,none⟩),.pointer (some ⟨E.DW,0,none⟩)]] 101 (0,0))
 e:W.heap[E.bE]? = some (.cells #[.int .i64 (E.Ew k)] 3 (0,0))
 o:∃ A c m,W.heap[E.bO]? = some (.cells #[.slice A m c] 42 (0,0))/\k48.R 48 W E.base E.ok (.slice A m c) (E.G ++ E.mR k)
 c:Kd.C k99 W E.A E.n E.l
 far:Below E.base w W
end gG
def gG.Cj(E:gG)(W:World):Option Nat:=match W.heap[E.bO]? with
 | some (.cells cs _ _)=>(cs.getD 0 undef).ownBlock
 | _=>none
theorem gG.vW{E:gG}{W:World}{v:Value}{t:TypeId}{fr:Nat × Nat}(h:W.heap[E.bO]? = some (.cells #[v] t fr)):E.Cj W=v.ownBlock:=by
 unfold gG.Cj;rw[h];rfl
def gG.Kp(E:gG)(W W':World):Prop:=W.heap.size<=W'.heap.size/\∀ b,b < W.heap.size->b≠E.bK->b≠E.bO->b≠E.bE->E.Cj W≠some b->W'.heap[b]? = W.heap[b]?/\E.Cj W'≠some b
theorem DX{w w':World}{A:Option Addr}{n:Nat}{xs:List S99}(h:Kd.C k99 w A n xs)(hb:∀ a,A=some a->w'.heap[a.block]? = w.heap[a.block]?):Kd.C k99 w' A n xs:=by
 obtain⟨h1,h2,h3⟩:=h;refine⟨h1,h2,fun hp=>?_⟩;obtain⟨ad,e,hc⟩:=h3 hp;refine⟨ad,e,fun j p hj=>?_⟩;obtain⟨cs,hl,hk,hcell⟩:=hc j p hj;refine⟨cs,hl,by rw[wG hk];exact J_ _ _,fun i u hu=>?_⟩;exact(World.cell?_of_block (w:=w) (by rw[gF];exact hb ad e)).trans (hcell i u hu)
theorem F7{a b c:Int}(h : -c<=a/\a<=c) : -c<=a.tdiv b/\a.tdiv b<=c:=by
 have:=Int.natAbs_tdiv_le_natAbs a b;omega
theorem gG.uy(E:gG)(h:E.Ok):∀ k,k<=E.n->0<=E.qF k/\E.qF k<=1365 * (k:Int)
 | 0,_=>⟨Int.le_refl _,Int.le_refl _⟩
 | k+1,hk=>by
  have ih:=E.uy h k (by omega);have hm:=h.ms _ (o_ (l:=E.l) (k:=k) (by have:=h.ln.1;omega));unfold cI at hm;have hp:0<=partOf E.ex (aV E.l k)/\partOf E.ex (aV E.l k)<=1365:=by unfold partOf;split<;>omega
  simp only[gG.qF];split<;>omega
theorem gG.pY(E:gG)(h:E.Ok)(k:Nat)(hk:k<=E.n) : -10000000000000000<=E.ex * E.qF k/\E.ex * E.qF k<=10000000000000000:=by
 obtain⟨h1,h2⟩:=E.uy h k hk;have h3:E.qF k<=5591040:=by have:=h.ln;omega
 obtain⟨e1,e2⟩:=h.er;have a1:E.ex * E.qF k<=1000000000 * E.qF k:=Int.mul_le_mul_of_nonneg_right e2 h1;have a2 : -1000000000 * E.qF k<=E.ex * E.qF k:=Int.mul_le_mul_of_nonneg_right e1 h1;omega
theorem gG.tj(E:gG)(h:E.Ok)(k:Nat)(hk:k<=E.n) : -10000000000000000<=E.tk k/\E.tk k<=10000000000000000:=by
 unfold gG.tk nM;split
 .exact F7 (E.pY h k hk)
 .omega
theorem RA(m:S99)(hm:cI m)(r:Int)(hr:m.f4 / 3=r)(w:World):Calls Tryz.prog 38 #[.agg (Au m)] w fun e w'=>e=.returned (.int .i64 r)/\Below w.heap.size w w':=by
 subst hr;exact F6 m hm w
theorem RB(m:S99)(r:Int)(hr:1=r)(w:World):Calls Tryz.prog 37 #[.agg (Au m)] w fun e w'=>e=.returned (.int .i64 r)/\Below w.heap.size w w':=by
 subst hr;exact F5 m w
theorem Mh(E:gG)(HE:E.Ok)(k:Nat)(w W:World)(hk:k < E.sn)(hI:E.I k w W) :
  Calls Tryz.prog 40 #[.int .i64 (k:Int),.int .i64 (rG E.kd E.an E.l E.x k),.int .i64 (wW E.kd E.an E.l E.x k),.pointer (some ⟨E.bS,0,none⟩),.pointer (some ⟨E.bA,0,none⟩),.pointer (some ⟨E.bT,0,none⟩),.pointer (some ⟨E.bK,0,none⟩),.pointer (some ⟨E.bP,0,none⟩),.pointer (some ⟨E.bO,0,none⟩),.pointer (some ⟨E.bE,0,none⟩)] W
   fun e W'=>e=.returned (.tuple #[])/\E.I (k+1) w W'/\E.Kp W W':=by
 obtain⟨oA,oc,om,ho,hR⟩:=hI.o;have hkn:k < E.n:=Nat.lt_of_lt_of_le hk HE.sn;have HO:=aj (And.intro ho hR);have mS:=aj hI;have vk:=aj HE;have hn8:(k:Int)<=4096:=by have:=HE.ln;omega
 obtain⟨y,hy⟩:∃ y:Int,(k:Int)=y:=⟨_,rfl⟩;have hy2:=hy.symm;have HY:=aj hy2;have q0:0<=y:=by omega
 have q1:y < (E.n:Int):=by omega
 obtain⟨ad,e0,k0,k1,k2,k3,k4,k5⟩:=eV hI.c y q0 q1;have hal:E.A=some ad:=e0;have hmm:cI (aV E.l y):=HE.ms _ (by rw[hy2];exact o_ (by have:=HE.ln.1;omega));obtain⟨m,hm⟩:∃ m,aV E.l y=m:=⟨_,rfl⟩;obtain⟨f,hf⟩:∃ f,rG E.kd E.an E.l E.x k=f:=⟨_,rfl⟩;obtain⟨g,hg⟩:∃ g,wW E.kd E.an E.l E.x k=g:=⟨_,rfl⟩;obtain⟨t,ht⟩:∃ t,E.tk k=t:=⟨_,rfl⟩;have hfr:=HE.at_ k hk;have hgr:=HE.wd k hk;have htr:=E.tj HE k (by omega);rw[hf] at hfr ⊢;rw[hg] at hgr ⊢;rw[ht] at htr;rw[hm] at k0 k1 k2 k3 k4 k5 hmm;rw[hy];have HM:=aj (And.intro hm (And.intro hf (And.intro hg ht)));have s0:W.cell? ⟨E.bS,0,none⟩=some (.slice (some ad) E.n E.c):=by rw[<-hal];exact(ak hI.s 0).trans rfl
 have tG:=aj (And.intro hk hkn);have JU:=aj hal;obtain⟨f0,f1⟩:=hfr;obtain⟨g0,g1⟩:=hgr;obtain⟨t0,t1⟩:=htr;have tD:=HE.dr;obtain⟨dr0,dr1⟩:=tD;have z0:=cM k0 (.cells #[.int .i64 0,.int .i64 0,.int .i64 0,.int .i64 0,.int .i64 0,.int .i64 0] 99);have p0:=eq_true q0;have p1:=eq_true q1;have JM:=aj hmm;clear hm hf hg ht hkn hk hy hy2 hI HE ho hR e0 hal hmm;go_enter Tryz.func40,Tryz.ntmps40;go_upto_region 1 with(fail);have tF:=aj (aH W (.cells (Au m) 99));have lI:=aj (show Below W.heap.size W (W.alloc (.cells (Au m) 99)) from (Below.refl _ _).alloc (Nat.le_refl _) _);obtain⟨bm,F4⟩:∃ bm,W.heap.size=bm:=⟨_,rfl⟩;have Yv:=aj F4;rw[F4] at tF ⊢;clear F4 k0 k1 k2 k3 k4 k5 z0 s0;generalize W.alloc (.cells (Au m) 99)=w5 at *;have m0:=Bx.cell ((ak tF.out 0).trans rfl:w5.cell? ⟨bm,0,none⟩=some (.int .i64 m.f0));have m1:=Bx.cell ((ak tF.out 1).trans rfl:w5.cell? ⟨bm,1,none⟩=some (.int .i64 m.f1));have m2:=Bx.cell ((ak (ay mS.out.a lI.out) 0).trans rfl:w5.cell? ⟨E.bA,0,none⟩=some (.int .i64 E.ad));have m3:=Bx.cell ((ak (ay mS.out.t lI.out) 0).trans rfl:w5.cell? ⟨E.bT,0,none⟩=some (.func (.func 39) #[] #[.pointer (some ⟨E.jV,0,none⟩),.pointer (some ⟨E.bX,0,none⟩),.pointer (some ⟨E.bK,0,none⟩),.pointer (some ⟨E.DW,0,none⟩)]));have HTC:=aj (fun(w':World) (hb:Below w5.heap.size w5 w')=>pq E.sp E.ex (E.qF k) E.al E.jV E.bX E.bK E.DW w' ((ak (ay (ay mS.out.sp lI.out) hb) 0).trans rfl) ((ak (ay (ay mS.out.x lI.out) hb) 0).trans rfl) ((ak (ay (ay mS.out.kk lI.out) hb) 0).trans rfl) ((ak (ay (ay mS.out.al lI.out) hb) 0).trans rfl) (by have:=E.pY vk.out k (by have:=tG.out;omega);omega) vk.out.al t HM.out.2.2.2);have r1:IntKind.i64.wrap (f+E.ad)=f+E.ad:=IntWalk.i64_in _ (by omega);have r2:IntKind.i64.wrap (f+E.ad+t)=f+E.ad+t:=IntWalk.i64_in _ (by omega);have r1':wrap64 (f+E.ad)=f+E.ad:=dN _ (by omega);have r2':wrap64 (f+E.ad+t)=f+E.ad+t:=dN _ (by omega);have m0':=m0;clear m0 m1 m2 m3 m0';have m0:w5.cell? ⟨bm,0,none⟩=some (.int .i64 m.f0):=(ak tF.out 0).trans rfl;have m1:w5.cell? ⟨bm,1,none⟩=some (.int .i64 m.f1):=(ak tF.out 1).trans rfl;have m2:w5.cell? ⟨E.bA,0,none⟩=some (.int .i64 E.ad):=(ak (ay mS.out.a lI.out) 0).trans rfl;have m3:w5.cell? ⟨E.bT,0,none⟩=some (.func (.func 39) #[] #[.pointer (some ⟨E.jV,0,none⟩),.pointer (some ⟨E.bX,0,none⟩),.pointer (some ⟨E.bK,0,none⟩),.pointer (some ⟨E.DW,0,none⟩)]):=(ak (ay mS.out.t lI.out) 0).trans rfl;go_cut [14] (fun v14 wc=>v14=.pointer (some ⟨w5.heap.size,0,none⟩)/\wc.heap[w5.heap.size]? = some (.cells #[.int .i64 m.f0,.int .i64 m.f1,.int .i64 (f+E.ad+t),.int .i64 g] 48 (0,0))/\Below w5.heap.size w5 wc)
 case first =>
  have HZ5:=aj (Below.refl w5.heap.size w5);go_region_held3 (fun w'=>w'.cell? ⟨bm,0,none⟩=some (.int .i64 m.f0)/\w'.cell? ⟨bm,1,none⟩=some (.int .i64 m.f1)/\w'.cell? ⟨E.bA,0,none⟩=some (.int .i64 E.ad)/\w'.cell? ⟨E.bT,0,none⟩=some (.func (.func 39) #[] #[.pointer (some ⟨E.jV,0,none⟩),.pointer (some ⟨E.bX,0,none⟩),.pointer (some ⟨E.bK,0,none⟩),.pointer (some ⟨E.DW,0,none⟩)])) (first|exact⟨m0,m1,m2,m3⟩|exact⟨cM m0 _,cM m1 _,cM m2 _,cM m3 _⟩|go_keep) (first|(go_at_call 39;go_loud(refine(HTC.out _ (by repeat(first|exact HZ5.out|apply aF|apply aA|apply aK))).mono ?_;rintro e w6 ⟨rfl,rfl⟩)))
  all_goals
   go_wp2;go_meet
   case rel=>exact⟨rfl,b_ (aH w5 _),((Below.refl _ _).alloc (Nat.le_refl _) _).drew⟩
 case rest =>
  obtain⟨rfl,hg5,hb5⟩:=hcut;have HG:=aj hg5;have HB5:=aj hb5;have HS5:=aj (show W.heap.size<=w5.heap.size from lI.out.size);obtain⟨bg,hbg⟩:∃ b,w5.heap.size=b:=⟨_,rfl⟩;rw[hbg] at HG HB5 HS5 ⊢;have HBG:=aj hbg;have Ey:=aj (show Below W.heap.size W wc from lI.out.trans ((show Below w5.heap.size w5 wc by rw[hbg];exact HB5.out).mono lI.out.size));have F8:=aj (ay tF.out (show Below w5.heap.size w5 wc by rw[hbg];exact HB5.out));have Uu:bm < bg:=by have:=aY tF.out;omega
  have OP:=aj Uu;have ZU:=aj (aY mS.out.kk);clear hbg hg5 hb5 m0 m1 m2 m3 r1 r2 r1' r2' Uu;obtain⟨gw,NP⟩:∃ gw,E.gW k=gw:=⟨_,rfl⟩;have PD:=aj NP;obtain⟨k',hk'⟩:∃ k',E.qF (k+1)=k':=⟨_,rfl⟩;have Uv:=aj hk';obtain⟨kk,hkk⟩:∃ kk,E.qF k=kk:=⟨_,rfl⟩;have Er:=aj hkk;clear NP hk' hkk;have n2:wc.cell? ⟨bm,2,none⟩=some (.int .i64 m.f2):=(ak F8.out 2).trans rfl;have s2:wc.cell? ⟨E.bS,2,none⟩=some (.int .i64 (E.an:Int)):=(ak (ay mS.out.s Ey.out) 2).trans rfl;obtain⟨an,han⟩:∃ an:Int,(E.an:Int)=an:=⟨_,rfl⟩;have JR:=aj han;rw[han] at s2;clear han;obtain⟨ib,hib⟩:∃ ib,E.Mg k=ib:=⟨_,rfl⟩;have TQ:=aj hib;have Jk:(m.f2 == 3 && decide (an<=y))=ib:=by
   rw[<-hib];unfold gG.Mg;rw[<-HY.out,HM.out.1,<-JR.out,HY.out]
   congr 1
   simp
  clear hib;go_upto_region 2 with(fail);go_cut [41] (fun v41 wd=>v41=.bool ib/\wc=wd)
  case first =>
   obtain⟨b1,hb1⟩:∃ b1,(m.f2 == 3)=b1:=⟨_,rfl⟩;rw[hb1] at Jk;cases b1 with
   | true =>
    have HE:=aj Jk;clear Jk;go_wp2;go_meet
    case rel=>exact⟨by rw[<-HE.out,Bool.true_and],(by first|rfl|trivial)⟩
   | false =>
    have HE:=aj Jk;clear Jk;go_wp2;go_meet
    case rel=>exact⟨by rw[<-HE.out,Bool.false_and],(by first|rfl|trivial)⟩
  case rest =>
   obtain⟨rfl,rfl⟩:=hcut;clear n2 s2 Jk;go_upto_if 41 with(fail);go_cut [15] (fun v15 wd=>wd.heap[bg]? = some (.cells #[.int .i64 m.f0,.int .i64 m.f1,.int .i64 (f+E.ad+t),.int .i64 gw] 48 (0,0))/\wd.heap[E.bK]? = some (.cells #[.int .i64 k'] 3 (0,0))/\fB (fun i=>i=E.bK) W wd)
   case first =>
    cases ib with
    | false =>
     have HE:=aj (show gw=g/\k'=kk by
      rw[<-PD.out,<-Uv.out,<-Er.out];unfold gG.gW;simp only[gG.qF];rw[TQ.out,if_neg (by decide),if_neg (by decide)];exact⟨HM.out.2.2.1,rfl⟩)
     go_wp2;go_meet
     case rel=>exact⟨by rw[HE.out.1];exact HG.out,by rw[HE.out.2,<-Er.out];exact ay mS.out.kk Ey.out,fB.ji Ey.out (Nat.le_refl _)⟩
    | true =>
     obtain⟨pt,hpt⟩:∃ pt,partOf E.ex m=pt:=⟨_,rfl⟩;obtain⟨t2,ht2⟩:∃ t2,E.tk (k+1)=t2:=⟨_,rfl⟩;have hkr:=E.uy vk.out k (by have:=tG.out;omega);rw[Er.out] at hkr;have Uw:kk<=5591040:=(by have:=tG.out;have:=vk.out.ln;omega);have Wr:0<=pt/\pt<=1365:=by
      have:=JM.out;unfold cI at this;rw[<-hpt];unfold partOf;split<;>omega
     have HE:=aj (show gw=g+(t2 - t)/\k'=kk+pt by
      rw[<-PD.out,<-Uv.out,<-Er.out];unfold gG.gW;simp only[gG.qF];rw[TQ.out,if_pos rfl,if_pos rfl];have e1:aV E.l (k:Int)=m:=(by rw[<-HM.out.1,HY.out]);rw[e1,hpt,HM.out.2.2.1,HM.out.2.2.2,ht2];exact⟨rfl,rfl⟩)
     have Mi:=E.tj vk.out (k+1) (by have:=tG.out;omega);rw[ht2] at Mi;have HT2:=aj ht2;have yN:=aj hpt;have Sw:=aj Wr;have SG:=aj (And.intro hkr Uw);have Yw:=aj Mi;have m3:wc.cell? ⟨E.bT,0,none⟩=some (.func (.func 39) #[] #[.pointer (some ⟨E.jV,0,none⟩),.pointer (some ⟨E.bX,0,none⟩),.pointer (some ⟨E.bK,0,none⟩),.pointer (some ⟨E.DW,0,none⟩)]):=(ak (ay mS.out.t Ey.out) 0).trans rfl;have Yx:=aj (show Calls Tryz.prog 39 _ wc _ from pq E.sp E.ex (E.qF k) E.al E.jV E.bX E.bK E.DW wc ((ak (ay mS.out.sp Ey.out) 0).trans rfl) ((ak (ay mS.out.x Ey.out) 0).trans rfl) ((ak (ay mS.out.kk Ey.out) 0).trans rfl) ((ak (ay mS.out.al Ey.out) 0).trans rfl) (by have:=E.pY vk.out k (by have:=tG.out;omega);omega) vk.out.al t HM.out.2.2.2);clear ht2 hpt Wr hkr Uw Mi;go_upto_region 4 with(go_at_call 39;go_loud(refine Yx.out.mono ?_;rintro e w6 ⟨rfl,rfl⟩));clear m3;have u0:=Bx.cell ((ak (ay mS.out.kk Ey.out) 0).trans rfl:wc.cell? ⟨E.bK,0,none⟩=some (.int .i64 (E.qF k)));rw[Er.out] at u0;have v0:=Bx.cell ((ak F8.out 0).trans rfl:wc.cell? ⟨bm,0,none⟩=some (.int .i64 m.f0));have v1:=Bx.cell ((ak F8.out 1).trans rfl:wc.cell? ⟨bm,1,none⟩=some (.int .i64 m.f1));have v2:=Bx.cell ((ak F8.out 2).trans rfl:wc.cell? ⟨bm,2,none⟩=some (.int .i64 m.f2));have v3:=Bx.cell ((ak F8.out 3).trans rfl:wc.cell? ⟨bm,3,none⟩=some (.int .i64 m.f3));have v4:=Bx.cell ((ak F8.out 4).trans rfl:wc.cell? ⟨bm,4,none⟩=some (.int .i64 m.f4));have v5:=Bx.cell ((ak F8.out 5).trans rfl:wc.cell? ⟨bm,5,none⟩=some (.int .i64 m.f5));have Wr:=Sw.out;have hkr:=SG.out;have a1:IntKind.i64.wrap (kk+pt)=kk+pt:=IntWalk.i64_in _ (by omega);have LX:wrap64 (kk+pt)=kk+pt:=dN _ (by omega);obtain⟨pf,hpf⟩:∃ pf,(if E.ex < 0 then 38 else 37)=pf:=⟨_,rfl⟩;have Bs:=aj ((ak (ay mS.out.p Ey.out) 0).trans rfl:wc.cell? ⟨E.bP,0,none⟩=some (.func (.func (if E.ex < 0 then 38 else 37)) #[] #[]));clear Wr hkr;go_cut [48] (fun v48 wd=>∃ w7,Below wc.heap.size wc w7/\wd=w7.setCell ⟨E.bK,0,none⟩ (.int .i64 k'))
     case first =>
      by_cases c0:E.ex < 0
      .have u1:=Bx.cell (show wc.cell? ⟨E.bP,0,none⟩=some (.func (.func 38) #[] #[]) by rw[Bs.out,if_pos c0]);have HC:=aj (show m.f4 / 3=pt by rw[<-yN.out];unfold partOf;rw[if_pos c0]);clear hpf c0;refine cE 5 (by kernel_rfl) (by kernel_rfl) ?_;simp only[List.take_succ_cons,List.take_zero,List.drop_succ_cons,List.drop_zero]
       repeat(go_big_quiet_step ((go_at_call 38;exact Bx.cu (RA m JM.out pt HC.out _))))
       refine wpQuiet_nil ?_;intro w7 hb7;have x0:w7.cell? ⟨E.bK,0,none⟩=some (.int .i64 kk):=(by rw[<-Er.out];exact(ak (ay (ay mS.out.kk Ey.out) hb7) 0).trans rfl);have fz:=aB (ay (ay mS.out.kk Ey.out) hb7) 0;clear u0 u1 v0 v1 v2 v3 v4 v5;go_wp2;go_meet
       case rel=>exact⟨w7,hb7,by rw[HE.out.2]⟩
      .have u1:=Bx.cell (show wc.cell? ⟨E.bP,0,none⟩=some (.func (.func 37) #[] #[]) by rw[Bs.out,if_neg c0]);have HC:=aj (show 1=pt by rw[<-yN.out];unfold partOf;rw[if_neg c0]);clear hpf c0;refine cE 5 (by kernel_rfl) (by kernel_rfl) ?_;simp only[List.take_succ_cons,List.take_zero,List.drop_succ_cons,List.drop_zero]
       repeat(go_big_quiet_step ((go_at_call 37;exact Bx.cu (RB m pt HC.out _))))
       refine wpQuiet_nil ?_;intro w7 hb7;have x0:w7.cell? ⟨E.bK,0,none⟩=some (.int .i64 kk):=(by rw[<-Er.out];exact(ak (ay (ay mS.out.kk Ey.out) hb7) 0).trans rfl);have fz:=aB (ay (ay mS.out.kk Ey.out) hb7) 0;clear u0 u1 v0 v1 v2 v3 v4 v5;go_wp2;go_meet
       case rel=>exact⟨w7,hb7,by rw[HE.out.2]⟩
     case rest =>
      obtain⟨w7,hb7,rfl⟩:=hcut;clear u0 v0 v1 v2 v3 v4 v5 a1 LX hpf;have HB7:=aj (Ey.out.trans (hb7.mono Ey.out.size));have HG7:=aj (ay HG.out hb7);have Ux:¬ bg=E.bK:=(by have h1:=ZU.out;have h2:=HS5.out;have h3:=OP.out;omega);have HG8:=aj (cw (p:=⟨E.bK,0,none⟩) HG7.out Ux (.int .i64 k'));have HK8:=aj (show(w7.setCell ⟨E.bK,0,none⟩ (.int .i64 k')).heap[E.bK]? = some (.cells #[.int .i64 k'] 3 (0,0)) from aN (ay mS.out.kk HB7.out) 0 _ rfl);have HF8:=aj (show fB (fun i=>i=E.bK) W (w7.setCell ⟨E.bK,0,none⟩ (.int .i64 k')) from (fB.ji HB7.out (Nat.le_refl _)).set E.bK 0 _ (.inl rfl));clear Ux hb7;generalize w7.setCell ⟨E.bK,0,none⟩ (.int .i64 k')=w8 at *;have eY:=vk.out;have nS:E.jV≠E.bK:=(by have:=eY.o3;have:=eY.o4;have:=eY.o5;omega);have nX:E.bX≠E.bK:=(by have:=eY.o2;have:=eY.o3;have:=eY.o4;have:=eY.o5;omega);have nA:E.DW≠E.bK:=(by have:=eY.o6;omega);have nT:E.bT≠E.bK:=(by have:=eY.o6;have:=eY.o7;have:=eY.o8;omega);have hT2:nM E.sp E.ex k' E.al=t2:=(by rw[<-Uv.out];exact HT2.out);have hmr : -10000000000000000<=E.ex * k'/\E.ex * k'<=10000000000000000:=(by rw[<-Uv.out];exact E.pY vk.out (k+1) (by have:=tG.out;omega));have Yy:=aj (fun(i:Bx w8)=>pq E.sp E.ex k' E.al E.jV E.bX E.bK E.DW i.W ((ak (ay (HF8.out.blk mS.out.sp nS) i.hb) 0).trans rfl) ((ak (ay (HF8.out.blk mS.out.x nX) i.hb) 0).trans rfl) ((ak (ay HK8.out i.hb) 0).trans rfl) ((ak (ay (HF8.out.blk mS.out.al nA) i.hb) 0).trans rfl) (by omega) vk.out.al t2 hT2);have m3:=Bx.cell ((ak (HF8.out.blk mS.out.t nT) 0).trans rfl:w8.cell? ⟨E.bT,0,none⟩=some (.func (.func 39) #[] #[.pointer (some ⟨E.jV,0,none⟩),.pointer (some ⟨E.bX,0,none⟩),.pointer (some ⟨E.bK,0,none⟩),.pointer (some ⟨E.DW,0,none⟩)]));have m4:=Bx.cell ((ak HG8.out 3).trans rfl:w8.cell? ⟨bg,3,none⟩=some (.int .i64 g));have Mi:=Yw.out;have b1:IntKind.i64.wrap (t2 - t)=t2 - t:=IntWalk.i64_in _ (by omega);have b2:IntKind.i64.wrap (g+(t2 - t))=g+(t2 - t):=IntWalk.i64_in _ (by omega);have b1':wrap64 (t2 - t)=t2 - t:=dN _ (by omega);have b2':wrap64 (g+(t2 - t))=g+(t2 - t):=dN _ (by omega);clear eY nS nX nA nT hT2 hmr Mi;go_upto_region 5 with(fail);refine cE 8 (by kernel_rfl) (by kernel_rfl) ?_;simp only[List.take_succ_cons,List.take_zero,List.drop_succ_cons,List.drop_zero]
      repeat(go_big_quiet_step ((go_at_call 39;exact Bx.of_same (by refine(Yy.out _).mono ?_;rintro e w' ⟨h1,h2⟩;exact⟨h1,h2.symm⟩))))
      refine wpQuiet_nil ?_;intro w9 hb9;clear m3 m4;have HG9:=aj (ay HG8.out hb9);have HK9:=aj (ay HK8.out hb9);have HF9:=aj (HF8.out.trans (fB.ji hb9 (Nat.le_refl _)));have x0:w9.cell? ⟨bg,3,none⟩=some (.int .i64 g):=(ak HG9.out 3).trans rfl;have fz:=aB HG9.out 3;have Ux:¬ E.bK=bg:=(by have h1:=ZU.out;have h2:=HS5.out;have h3:=OP.out;omega);have PI:=aj Ux;clear Ux;go_wp2;go_meet
      case rel=>exact⟨by rw[HE.out.1];exact aN HG9.out 3 _ rfl,cw (p:=⟨bg,3,none⟩) HK9.out PI.out _,HF9.out.set bg 3 _ (.inr (by have h2:=HS5.out;have h3:=OP.out;omega))⟩
   case rest =>
    obtain⟨hg6,hk6,hf6⟩:=hcut;have HG6:=aj hg6;have HK6:=aj hk6;have HF6:=aj hf6;have eY:=vk.out;have Yz : -30000000000000000<=gw/\gw<=30000000000000000:=by
     have h1:=E.tj vk.out (k+1) (by have:=tG.out;omega);have h2:=E.tj vk.out k (by have:=tG.out;omega);rw[<-PD.out];unfold gG.gW;rw[HM.out.2.2.1];split<;>omega
    have JL:=aj (show E.bO≠E.bK/\E.bO≠E.bE/\E.bK≠E.bE/\E.bS≠E.bK/\E.bX≠E.bK/\E.jV≠E.bK/\E.bA≠E.bK/\E.DW≠E.bK/\E.bP≠E.bK/\E.bT≠E.bK/\E.bE≠E.bK by
     have:=eY.o1;have:=eY.o2;have:=eY.o3;have:=eY.o4;have:=eY.o5;have:=eY.o6;have:=eY.o7;have:=eY.o8;have:=eY.o9;omega)
    have Ck:=aj (show(E.bS≠E.bO/\E.bX≠E.bO/\E.jV≠E.bO/\E.bA≠E.bO/\E.bK≠E.bO/\E.DW≠E.bO/\E.bP≠E.bO/\E.bT≠E.bO/\E.bE≠E.bO)/\(E.bS≠E.bE/\E.bX≠E.bE/\E.jV≠E.bE/\E.bA≠E.bE/\E.bK≠E.bE/\E.DW≠E.bE/\E.bP≠E.bE/\E.bT≠E.bE/\E.bO≠E.bE) by
     have:=eY.o1;have:=eY.o2;have:=eY.o3;have:=eY.o4;have:=eY.o5;have:=eY.o6;have:=eY.o7;have:=eY.o8;have:=eY.o9;omega)
    have JQ:=aj (show E.base<=E.bK/\E.base<=E.bO/\E.base<=E.bE by
     have:=eY.o1;have:=eY.o2;have:=eY.o3;have:=eY.o4;have:=eY.o5;have:=eY.o6;have:=eY.o7;have:=eY.o8;have:=eY.o9;have:=eY.bs;omega)
    have YA:=aj (aY mS.out.e);have OQ:=aj (HF6.out.blk HO.out.1 JL.out.1);have HR6:=aj (HF6.out.C HO.out.2 (fun j hj _ hk=>(vk.out.ok j hj).2.2.2.2.2.1 hk));have HB6:=aj (show Below E.base W wc from HF6.out.below (by have:=YA.out;have:=JQ.out;omega) (fun j hj=>by rw[hj];exact JQ.out.1));have HOW:=aj (show ∀ j,(Value.slice oA om oc).ownBlock=some j->E.ok j/\j < W.heap.size from fun j hj=>⟨HO.out.2.1 j hj,Kd.ED HO.out.2 j hj⟩);have za:=aj (show(E.G ++ E.mR k).length<=4097 by
     have h1:=vk.out.gl;have h2:=tG.out;have h3:=vk.out.ln;rw[List.length_append];unfold gG.mR;rw[List.length_map,List.length_range];omega)
    have x0:wc.cell? ⟨E.bO,0,none⟩=some (.slice oA om oc):=(ak OQ.out 0).trans rfl;have z0:wc.cell? ⟨bg,0,none⟩=some (.int .i64 m.f0):=(ak HG6.out 0).trans rfl;have z1:wc.cell? ⟨bg,1,none⟩=some (.int .i64 m.f1):=(ak HG6.out 1).trans rfl;have z2:wc.cell? ⟨bg,2,none⟩=some (.int .i64 (f+E.ad+t)):=(ak HG6.out 2).trans rfl;have z3:wc.cell? ⟨bg,3,none⟩=some (.int .i64 gw):=(ak HG6.out 3).trans rfl;clear hg6 hk6 hf6 eY;go_upto_region 7 with(at_builtin;go_loud(refine Kd.gH k48 (w0:=W) (W:=wc) E.base rfl (.tmp 57) (.tmp 59) 42 48 (.agg #[(.int .i64 0),(.int .i64 0),(.int .i64 0),(.int .i64 0)]) 32 rfl Tryz.underlying42 AZ rfl (by decide) (by decide) _ (E.G ++ E.mR k) ⟨m.f0,m.f1,f+E.ad+t,gw⟩ [.int .i64 m.f0,.int .i64 m.f1,.int .i64 (f+E.ad+t),.int .i64 gw] E.ok (fun _=>False) (by rfl) (by rfl) (vI _ _ _ _) (fun _ h=>h.elim) (fun j hj=>vk.out.fr j (by have h1:=YA.out;have h2:=HF6.out.size;omega)) HR6.out HB6.out (by have h1:=YA.out;have h2:=HF6.out.size;have:=JQ.out;omega) (by have:=za.out;omega) ?_;intro v1 w1 hR1 hB1 kr AQ;obtain⟨A9,c9,e9,hc9,ha9,hC9⟩:=fX hR1;generalize (E.G ++ E.mR k ++ [(⟨m.f0,m.f1,f+E.ad+t,gw⟩:S48)]).length=N9 at e9;subst e9;have HR1:=aj hR1;have HB1:=aj hB1;have xY:=aj kr;have Xk:=aj AQ;clear hC9 hc9 ha9 hR1 hB1 kr AQ;have y0:w1.cell? ⟨E.bO,0,none⟩=some (.slice oA om oc):=(ak (cJ OQ.out xY.out (fun he=>(vk.out.ok _ (HOW.out _ he.symm).1).2.2.2.1 rfl)) 0).trans rfl;have fz:=aB (cJ OQ.out xY.out (fun he=>(vk.out.ok _ (HOW.out _ he.symm).1).2.2.2.1 rfl)) 0));clear z0 z1 z2 z3 x0 y0 fz;have ZV:=aj (show bg≠E.bO/\bg≠E.bE/\∀ j,(Value.slice oA om oc).ownBlock=some j->j≠bg by
     have h1:=Yv.out;have h2:=OP.out;have h3:=aY mS.out.e;have h4:=aY HO.out.1;refine⟨by omega,by omega,fun j hj=>by have:=(HOW.out j hj).2;omega⟩)
    have HG9:=aj (cw (p:=⟨E.bO,0,none⟩) (cJ HG6.out xY.out (fun he=>ZV.out.2.2 _ he.symm rfl)) ZV.out.1 (.slice A9 N9 c9));have HE9:=aj (cw (p:=⟨E.bO,0,none⟩) (cJ (HF6.out.blk mS.out.e JL.out.2.2.2.2.2.2.2.2.2.2) xY.out (fun he=>(vk.out.ok _ (HOW.out _ he.symm).1).2.2.2.2.2.2.2.2.2 rfl)) Ck.out.1.2.2.2.2.2.2.2.2 (.slice A9 N9 c9));have HO9:=aj (aN (cJ OQ.out xY.out (fun he=>(vk.out.ok _ (HOW.out _ he.symm).1).2.2.2.1 rfl)) 0 (.slice A9 N9 c9) rfl)
    have RD:=aj (show ∀ {j:Nat} {ty:TypeId} {cs:Array Value},W.heap[j]? = some (.cells cs ty (0,0))->j≠E.bK->j≠E.bO->j≠E.bE->¬ E.ok j->∀ u v,((w1.setCell ⟨E.bO,0,none⟩ u).setCell ⟨E.bE,0,none⟩ v).heap[j]? = some (.cells cs ty (0,0)) from
     fun h n1 n2 n3 n4 u v=>cw (p:=⟨E.bE,0,none⟩) (cw (p:=⟨E.bO,0,none⟩) (cJ (HF6.out.blk h n1) xY.out (fun he=>n4 (HOW.out _ he.symm).1)) n2 _) n3 _)
    have g2:=(ak HG9.out 2).trans rfl;have g3:=(ak HG9.out 3).trans rfl;have e0:=(ak HE9.out 0).trans rfl;have fz:=aB HE9.out 0;replace g2:(w1.setCell ⟨E.bO,0,none⟩ (.slice A9 N9 c9)).cell? ⟨bg,2,none⟩=some (.int .i64 (f+E.ad+t)):=g2;replace g3:(w1.setCell ⟨E.bO,0,none⟩ (.slice A9 N9 c9)).cell? ⟨bg,3,none⟩=some (.int .i64 gw):=g3;obtain⟨hg1,hg2⟩:=Yz;go_wp2;refine bodyPost_end (results_none rfl _ _ _) rfl ?_;have pE:=vk.out;have hok:=fun j (hj:E.ok j)=>pE.ok j hj
    refine⟨rfl,?_,?kp⟩
    case kp =>
     refine⟨?_,?_⟩
     .have h1:=HF6.out.size;have h2:=xY.out.size;have h3:∀ (w:World) (a:Addr) (v:Value),(w.setCell a v).heap.size=w.heap.size:=fun w a v=>by simp[World.setCell]
      rw[h3,h3];omega
     intro b hb n1 n2 n3 hr;have hr':(Value.slice oA om oc).ownBlock≠some b:=by
      have:=gG.vW HO.out.1;rw[this] at hr;exact hr
     refine⟨?_,?_⟩
     .rw[Below.heap_setCell _ ⟨E.bE,0,none⟩ _ b n3,Below.heap_setCell _ ⟨E.bO,0,none⟩ _ b n2,xY.out.block b (by have:=HF6.out.size;omega) (fun e=>hr' e.symm)];exact HF6.out.block b hb n1
     .rw[gG.vW (E:=E) (cw (p:=⟨E.bE,0,none⟩) HO9.out Ck.out.2.2.2.2.2.2.2.2.2 _)];rcases Xk.out with e1|⟨b',e1,hb'⟩
      .rw[e1];exact hr'
      .rw[e1];intro q;injection q with q;have:=HF6.out.size;omega
    refine⟨RD.out mS.out.s JL.out.2.2.2.1 Ck.out.1.1 Ck.out.2.1 (fun h=>(hok _ h).1 rfl) _ _,
     RD.out mS.out.x JL.out.2.2.2.2.1 Ck.out.1.2.1 Ck.out.2.2.1 (fun h=>(hok _ h).2.1 rfl) _ _,
     RD.out mS.out.sp JL.out.2.2.2.2.2.1 Ck.out.1.2.2.1 Ck.out.2.2.2.1 (fun h=>(hok _ h).2.2.1 rfl) _ _,
     RD.out mS.out.a JL.out.2.2.2.2.2.2.1 Ck.out.1.2.2.2.1 Ck.out.2.2.2.2.1 (fun h=>(hok _ h).2.2.2.2.1 rfl) _ _,
     ?_,
     RD.out mS.out.al JL.out.2.2.2.2.2.2.2.1 Ck.out.1.2.2.2.2.2.1 Ck.out.2.2.2.2.2.2.1 (fun h=>(hok _ h).2.2.2.2.2.2.1 rfl) _ _,
     RD.out mS.out.p JL.out.2.2.2.2.2.2.2.2.1 Ck.out.1.2.2.2.2.2.2.1 Ck.out.2.2.2.2.2.2.2.1 (fun h=>(hok _ h).2.2.2.2.2.2.2.1 rfl) _ _,
     RD.out mS.out.t JL.out.2.2.2.2.2.2.2.2.2.1 Ck.out.1.2.2.2.2.2.2.2.1 Ck.out.2.2.2.2.2.2.2.2.1 (fun h=>(hok _ h).2.2.2.2.2.2.2.2.1 rfl) _ _,
     ?_,?_,?_,?_⟩
    .rw[Uv.out];exact cw (p:=⟨E.bE,0,none⟩) (cw (p:=⟨E.bO,0,none⟩) (cJ HK6.out xY.out (fun he=>(hok _ (HOW.out _ he.symm).1).2.2.2.2.2.1 rfl)) Ck.out.1.2.2.2.2.1 _) Ck.out.2.2.2.2.2.1 _
    .refine aN HE9.out 0 _ ?_;have e1:E.Ew (k+1)=f+E.ad+t+gw:=by
      show E.gX k+E.gW k=_;unfold gG.gX;rw[PD.out,HM.out.2.1,HM.out.2.2.2]
     rw[e1];rfl
    .refine⟨A9,c9,_,cw (p:=⟨E.bE,0,none⟩) HO9.out Ck.out.2.2.2.2.2.2.2.2.2 _,?_⟩;have e1:E.G ++ E.mR (k+1)=E.G ++ E.mR k ++ [(⟨m.f0,m.f1,f+E.ad+t,gw⟩:S48)]:=by
      rw[gG.Aw,List.append_assoc]
      congr 2
      unfold gG.Wq gG.gX;have e1:aV E.l (k:Int)=m:=(by rw[<-HM.out.1,HY.out]);rw[e1,PD.out,HM.out.2.1,HM.out.2.2.2]
     rw[e1];exact Kd.ou (p:=⟨E.bE,0,none⟩) (Kd.ou (p:=⟨E.bO,0,none⟩) HR1.out (fun j hj=>(hok j hj).2.2.2.1) _) (fun j hj=>(hok j hj).2.2.2.2.2.2.2.2.2) _
    .refine DX mS.out.c (fun a ha=>?_);obtain⟨r1,r2⟩:=pE.rw a ha;have hlt:a.block < W.heap.size:=(by have:=aY mS.out.s;omega);have n1:a.block≠E.bK/\a.block≠E.bO/\a.block≠E.bE:=by
      have:=pE.o1;have:=pE.o2;have:=pE.o3;have:=pE.o4;have:=pE.o5;have:=pE.o6;have:=pE.o7;have:=pE.o8;have:=pE.o9;omega
     exact(Below.heap_setCell _ ⟨E.bE,0,none⟩ _ a.block n1.2.2).trans ((Below.heap_setCell _ ⟨E.bO,0,none⟩ _ a.block n1.2.1).trans ((xY.out.block a.block (by have:=HF6.out.size;omega) (fun he=>r2 (HOW.out _ he.symm).1)).trans (HF6.out.block a.block hlt n1.1)))
    .exact mS.out.far.trans ((HB1.out.setCell JQ.out.2.1 _).setCell JQ.out.2.2 _)
end Go.Proofs.YtcaallkkeighdaaGreatDoor.P
namespace Go.Proofs.YtcaallkkeighdaaGreatDoor.P
open Go.RowKit aD aQ aR
def F9(a b:S99):Prop:=b.f5=0\/(shows a.f2=true/\0<=a.f4+a.f5+b.f5)
def Ga:List S99->Prop
 | []=>True
 | [_]=>True
 | a :: b :: l=>F9 a b/\Ga (b :: l)
theorem RE{c:Int}(h:shows (kindOf c)=true):2<=ow c:=by
 have h1:=DH h;unfold ow at h1 ⊢
 repeat' split
 all_goals first|omega|simp_all
theorem Jl{p:Pa}{s:qc}{c d:S50}{r:List S50}(h:zR p s (refsOf (c :: d :: r)))(hk:c.f2=kindOf (bt p.tx c.f0)):F9 (mg p s c) (mg p (fN p s c) d):=by
 have hz:=h.size c;have hl:=h.look c;show iN p d (dG (fN p s c) d) (shows c.f2 && (dG s c).f2 == 1) (bt p.tx c.f0) (cA p (dG s c))=0\/(shows c.f2=true/\0<=iM p c (dG s c) (vL s.ma)+iN p c (dG s c) s.kn s.bf s.ps+iN p d (dG (fN p s c) d) (shows c.f2 && (dG s c).f2 == 1) (bt p.tx c.f0) (cA p (dG s c)));by_cases hq:(shows d.f2 && (dG (fN p s c) d).f2 == 1 && (shows c.f2 && (dG s c).f2 == 1) && cA p (dG s c) == cA p (dG (fN p s c) d))=true
 .right;have hq2:=hq;simp only[Bool.and_eq_true,beq_iff_eq] at hq2;obtain⟨⟨_,hs,_⟩,hsz⟩:=hq2;refine⟨hs,?_⟩;have he:=RE (by rw[<-hk];exact hs);have hW:iM p c (dG s c) (vL s.ma)=fC (bt p.tx c.f0) (cA p (dG s c))+(dG s c).f1:=by
   unfold iM;rw[hs];rfl
  have hN:∀ a b:Int,-(cA p (dG s c) / 8)<=kU a b (cA p (dG s c)):=fun a b=>by
   unfold kU;have hr:=oy a b;have h3:rU a b * cA p (dG s c)<=2 * cA p (dG s c):=Int.mul_le_mul_of_nonneg_right hr.2 (by omega);omega
  have hK1 : -(cA p (dG s c) / 8)<=iN p c (dG s c) s.kn s.bf s.ps:=by
   unfold iN;split
   .exact hN _ _
   .omega
  have hK2 : -(cA p (dG s c) / 8)<=iN p d (dG (fN p s c) d) (shows c.f2 && (dG s c).f2 == 1) (bt p.tx c.f0) (cA p (dG s c)):=by
   unfold iN;rw[if_pos hq,<-hsz];exact hN _ _
  have hw:2 * cA p (dG s c) / 8<=fC (bt p.tx c.f0) (cA p (dG s c)):=by
   unfold fC;have h3:2 * cA p (dG s c)<=ow (bt p.tx c.f0) * cA p (dG s c):=Int.mul_le_mul_of_nonneg_right he (by omega);omega
  rw[hW];omega
 .left;unfold iN;rw[if_neg hq]
theorem yj{p:Pa}:∀ (l:List S50) (s:qc),zR p s (refsOf l)->(∀ c∈l,c.f2=kindOf (bt p.tx c.f0))->Ga (iO p s l)
 | [],_,_,_=>trivial
 | [_],_,_,_=>trivial
 | c :: d :: l,s,h,hk=>by
  refine⟨Jl h (hk c (by simp)),?_⟩;have h2:=h;rw[jP] at h2;exact yj (d :: l) (fN p s c) h2.next (fun e he=>hk e (List.mem_cons_of_mem _ he))
theorem DY{p:Pa}(hz:p.small)(h0:bB p=0):Ga (aW p):=by
 unfold aW;rw[if_pos h0];by_cases hn:0 < p.tx.size
 .exact yj _ _ (r9 hz h0 hn) (fun c hc=>by obtain⟨b,hb,rfl⟩:=vU _ _ hc;rfl)
 .have:cQ p.tx=[]:=by
   have hs:p.tx.size=0:=by omega
   unfold cQ;rw[hs];rfl
  rw[this];trivial
theorem Ga.tail{a:S99}:∀ {l:List S99},Ga (a :: l)->Ga l
 | [],_=>trivial
 | _ :: _,h=>h.2
theorem Ga.at:∀ {l:List S99},Ga l->∀ k,k+1 < l.length->F9 (l.getD k z99) (l.getD (k+1) z99)
 | [],_,_,h=>by simp at h
 | [_],_,_,h=>by simp at h
 | a :: b :: l,h,0,_=>h.1
 | a :: b :: l,h,k+1,hl=>Ga.at (l:=b :: l) h.2 k (by simpa using hl)
theorem G9(l:List S99)(k:Nat):aV l (k:Int)=l.getD k z99:=by unfold aV;simp
def zA(ah:Nat)(l:List S99):Nat->Int
 | 0=>0
 | k+1=>if (aV l k).f2=3/\ah<=k then zA ah l k+(aV l k).f4 / 3 else zA ah l k
theorem rA(kd:List Bool)(ah:Nat)(l:List S99)(x:Int)(hK:Ga l)(hM:∀ m∈l,cI m/\0<=m.f4+m.f5)(h0:kd.getD 0 false=false)(hA:∀ k,k < ah->k < l.length->(aV l k).f2=3)(hx:0<=x) :
  ∀ k,k<=l.length->(0<=zA ah l k/\x+zA ah l k<=n_ kd ah l x k/\n_ kd ah l x k<=x+4095 * (k:Int))/\(0 < k->shows (aV l ((k - 1:Nat):Int)).f2=true->x+zA ah l k<=n_ kd ah l x k - ((aV l ((k - 1:Nat):Int)).f4+(aV l ((k - 1:Nat):Int)).f5)) /\
   (k < l.length->x+zA ah l k<=rG kd ah l x k/\rG kd ah l x k<=n_ kd ah l x k/\0<=wW kd ah l x k/\wW kd ah l x k<=4095):=by
 have step:∀ k,k < l.length->(0<=zA ah l k/\x+zA ah l k<=n_ kd ah l x k/\n_ kd ah l x k<=x+4095 * (k:Int))->(0 < k->shows (aV l ((k - 1:Nat):Int)).f2=true->x+zA ah l k<=n_ kd ah l x k - ((aV l ((k - 1:Nat):Int)).f4+(aV l ((k - 1:Nat):Int)).f5)) ->
   x+zA ah l k<=rG kd ah l x k/\rG kd ah l x k<=n_ kd ah l x k/\0<=wW kd ah l x k/\wW kd ah l x k<=4095:=by
  intro k hk h1 h2;have hm:=hM _ (o_ hk);unfold cI at hm;have ha:x+zA ah l k<=rG kd ah l x k/\rG kd ah l x k<=n_ kd ah l x k:=by
   unfold rG SF;split
   .rename_i hq
    have hk0:0 < k:=by
     rcases Nat.eq_zero_or_pos k with rfl|h
     .rw[h0] at hq;cases hq
     .exact h
    have hc:=hK.at (k - 1) (by omega);rw[show k - 1+1=k by omega,<-G9,<-G9] at hc;rcases hc with hc|⟨hs,hc⟩
    .omega
    .have:=h2 hk0 hs;omega
   .omega
  refine⟨ha.1,ha.2,?_⟩;unfold wW Rx;split
  .omega
  .split
   .unfold eM;omega
   .omega
 intro k
 induction k with
 | zero =>
  intro hk;have h1:0<=zA ah l 0/\x+zA ah l 0<=n_ kd ah l x 0/\n_ kd ah l x 0<=x+4095 * ((0:Nat):Int):=by
   show 0<=(0:Int)/\x+0<=x/\x<=x+4095 * ((0:Nat):Int);omega
  exact⟨h1,fun h=>absurd h (by omega),fun h=>step 0 h h1 (fun h=>absurd h (by omega))⟩
 | succ k ih =>
  intro hk;obtain⟨h1,h2,h3⟩:=ih (by omega);have h4:=h3 (by omega);have hm:=(hM _ (o_ (show k < l.length by omega))).1;unfold cI at hm;have e:n_ kd ah l x (k+1)=rG kd ah l x k+wW kd ah l x k:=rfl;have hS:zA ah l (k+1)=if (aV l k).f2=3/\ah<=k then zA ah l k+(aV l k).f4 / 3 else zA ah l k:=rfl;have key:(0<=zA ah l (k+1)/\x+zA ah l (k+1)<=n_ kd ah l x (k+1)/\n_ kd ah l x (k+1)<=x+4095 * ((k+1:Nat):Int))/\(shows (aV l (k:Int)).f2=true->x+zA ah l (k+1)<=n_ kd ah l x (k+1) - ((aV l (k:Int)).f4+(aV l (k:Int)).f5)):=by
   rw[e,hS];by_cases hb:(aV l k).f2=3/\ah<=k
   .rw[if_pos hb];have hw:wW kd ah l x k=(aV l k).f4:=(by unfold wW Rx;rw[if_neg (by omega),if_neg (by omega)]);refine⟨by omega,fun hs=>?_⟩;rw[hb.1] at hs;exact absurd hs (by decide)
   .rw[if_neg hb];refine⟨by omega,fun hs=>?_⟩;have hna:¬ k < ah:=fun q=>by rw[hA k q (by omega)] at hs;exact absurd hs (by decide)
    have hn4:¬ (aV l k).f2=4:=fun q=>by rw[q] at hs;exact absurd hs (by decide)
    have hw:wW kd ah l x k=(aV l k).f4:=(by unfold wW Rx;rw[if_neg hna,if_neg hn4]);omega
  refine⟨key.1,fun _ hs=>key.2 hs,fun h=>step (k+1) h key.1 (fun _ hs=>key.2 hs)⟩
end Go.Proofs.YtcaallkkeighdaaGreatDoor.P
namespace Go.Proofs.YtcaallkkeighdaaGreatDoor.P
open Go.RowKit aD aQ aR
set_option linter.unusedSectionVars false
structure YB where
 l:List S99
 kd:List Bool
 ah:Nat
 so:Nat
 dr:Int
 hy:Int
structure JX where
 l:List S99
 kd:List Bool
 dr:Int
def zB(x:S46)(m:S99):Bool:=decide (m.f0 < x.f0) || decide (x.f1<=m.f0)
def Jm(I:List S75)(a:Int):Bool:=I.any (fun i=>i.f0 == 3 && i.f1 == a)
def iR(x:S46)(I:List S75)(cp:Int)(s:JX)(m:S99):JX :=
 if zB x m=true then s else if m.f0=0/\0 < cp then ⟨s.l,s.kd,cp⟩ else ⟨s.l ++ [m],s.kd ++ [decide (0 < s.l.length) && !Jm I m.f0],s.dr⟩
def iJ(x:S46)(I:List S75)(cp:Int):List S99->JX->JX
 | [],s=>s
 | m :: l,s=>iJ x I cp l (iR x I cp s m)
def tu(l:List S99):Nat->Nat
 | 0=>0
 | k+1=>if rz (aV l k)=true then tu l k else k+1
def rB(l:List S99)(so:Nat):Nat->Nat->Nat
 | 0,a=>a
 | d+1,a=>if a < so/\(aV l a).f2=3 then rB l so d (a+1) else a
def yp:List S99->Int->Int
 | [],z=>z
 | m :: l,z=>yp l (if m.f2=5 then m.f3 else z)
def rC(p:Pa)(l:List S99)(so:Nat):Int:=yp (l.drop so) (if 0 < so then (aV l ((so - 1:Nat):Int)).f3 else p.pr.f0)
def qG:ByteArray:=⟨#[45]⟩
noncomputable def aO(p:Pa)(x:S46):YB :=
 let s:=iJ x (cT p) (ig p (aW p)) (aW p) ⟨[],[],0⟩
 let so:=tu s.l s.l.length
 let ah:=if x.f0=0 then rB s.l so so 0 else 0
 ⟨s.l,s.kd,ah,so,s.dr,if x.f5=true then (cU qG (rC p s.l so)).1 else 0⟩
def YC(l:List S99)(kd:List Bool)(an sn:Nat)(x ad:Int)(sp:Bool)(ex al:Int):gG:=⟨l,kd,0,none,0,none,0,an,sn,0,0,x,ad,sp,ex,al,0,0,0,0,0,0,0,0,0,0,0,fun _=>True,[]⟩
namespace gG
variable{E E':gG}(h1:E.l=E'.l)(h2:E.kd=E'.kd)(h3:E.an=E'.an)(h4:E.x=E'.x)(h5:E.ad=E'.ad)(h6:E.sp=E'.sp)(h7:E.ex=E'.ex)(h8:E.al=E'.al)
include h1 h3 in
theorem Ay(k:Nat):E.Mg k=E'.Mg k:=by unfold Mg;rw[h1,h3]
include h1 h3 h7 in
theorem Az:∀ k,E.qF k=E'.qF k
 | 0=>rfl
 | k+1=>by
  simp only[qF];rw[Ay h1 h3 k,h1,h7,Az k]
include h1 h2 h3 h4 h5 h6 h7 h8
theorem yq(k:Nat):E.tk k=E'.tk k:=by unfold tk;rw[h6,h7,h8,Az h1 h3 h7 k]
theorem DZ(k:Nat):E.gX k=E'.gX k:=by unfold gX;rw[h1,h2,h3,h4,h5,yq h1 h2 h3 h4 h5 h6 h7 h8 k]
theorem D4(k:Nat):E.gW k=E'.gW k:=by
 unfold gW;rw[Ay h1 h3 k,h1,h2,h3,h4,yq h1 h2 h3 h4 h5 h6 h7 h8 k,yq h1 h2 h3 h4 h5 h6 h7 h8 (k+1)]
theorem Gb(k:Nat):E.mR k=E'.mR k:=by
 unfold mR
 congr 1
 funext j;unfold Wq;rw[h1,DZ h1 h2 h3 h4 h5 h6 h7 h8 j,D4 h1 h2 h3 h4 h5 h6 h7 h8 j]
theorem Jo:∀ k,E.Ew k=E'.Ew k
 | 0=>by simp only[Ew];rw[h4,h5]
 | k+1=>by simp only[Ew];rw[DZ h1 h2 h3 h4 h5 h6 h7 h8 k,D4 h1 h2 h3 h4 h5 h6 h7 h8 k]
end gG
noncomputable def eP(p:Pa)(x:S46):Int:=x.f3 - (n_ (aO p x).kd (aO p x).ah (aO p x).l x.f2 (aO p x).so+(aO p x).hy - x.f2)
noncomputable def fA(p:Pa)(x:S46):List S99:=((aO p x).l.take (aO p x).so).drop (aO p x).ah
noncomputable def D5(p:Pa)(x:S46)(last:Bool):Bool:=p.pr.f2 == 1 && !last && !Av (aO p x).l && decide (0 < qg (fA p x)) && (decide (0 < eP p x) || (decide (eP p x < 0) && decide (-(eP p x)<=qh (fA p x))))
noncomputable def fY(p:Pa)(x:S46)(last:Bool):gG:=YC (aO p x).l (aO p x).kd (aO p x).ah (aO p x).so x.f2 (jt p.pr.f2 (eP p x)) (D5 p x last) (eP p x) (if eP p x < 0 then qh (fA p x) else qg (fA p x))
noncomputable def pF(p:Pa)(x:S46):List S48:=if 0 < (aO p x).dr then [⟨0,fS p.tx.size 0 (cQ p.tx),x.f2 - (aO p x).dr,(aO p x).dr - 4⟩] else []
noncomputable def gb(p:Pa)(x:S46)(last:Bool):List S48 :=
 pF p x ++ (fY p x last).mR (aO p x).so ++ ((aO p x).l.drop (aO p x).so).map (fun m=>⟨m.f0,m.f1,(fY p x last).Ew (aO p x).so,0⟩) ++
  (if x.f5=true then [⟨x.f1,x.f1,(fY p x last).Ew (aO p x).so,(aO p x).hy⟩] else [])
end Go.Proofs.YtcaallkkeighdaaGreatDoor.P
