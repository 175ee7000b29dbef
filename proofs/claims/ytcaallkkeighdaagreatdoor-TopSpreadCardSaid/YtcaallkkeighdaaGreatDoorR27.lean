/- least.setter.ways finds the plain ways. -/
import Derived.Test.YtcaallkkeighdaaGreatDoorR26
set_option maxRecDepth 100000
set_option maxHeartbeats 16000000
set_option linter.unusedVariables false
set_option linter.unusedSimpArgs false
namespace Go.Proofs.YtcaallkkeighdaaGreatDoor.P
open Go.RowKit aD aQ aR
structure M5(w wr:World)(bs bc mb:Nat)(M:Wy)(cnt:Nat):Prop where
 below:Below w.heap.size w wr
 ge:w.heap.size<=bc/\w.heap.size<=mb
 bx:wr.heap[bc]? = some (.cells #[.pointer (some ⟨bs,0,none⟩)] 106 (0,0))
 mf:∃ F,MF wr 116 mb cnt F/\FM F M
theorem M5.step{w wr w':World}{bs bc mb:Nat}{M:Wy}{cnt:Nat}(h:M5 w wr bs bc mb M cnt)(hb:Below wr.heap.size wr w'):M5 w w' bs bc mb M cnt:=by
 obtain⟨F,h1,h2⟩:=h.mf;exact⟨h.below.trans (hb.mono h.below.size),h.ge,ay h.bx hb,F,h1.block (hb.block mb h1.lt),h2⟩
theorem Ad{w:World}{mb cnt base size n:Nat}{F:Lit->Option Value}{e:TypeId}{v:Value}{xs:List Value}(h:MF w 116 mb cnt F)(ho:w.ownsRow base e size v n xs):v.ownBlock≠some mb:=by
 obtain⟨es,cl,hm⟩:=h.isMap;rcases ho.2 with⟨rfl,_⟩|⟨g',cap,cur,rfl,_,hh,_⟩
 .simp[Value.ownBlock]
 .intro he;have:g'=mb:=by simpa [Value.ownBlock] using he
  subst this;rw[hm] at hh;cases hh
theorem M5.row{w wr w':World}{bs bc mb:Nat}{M:Wy}{cnt:Nat}(h:M5 w wr bs bc mb M cnt){v:Value}{xs:List Int}(ho:RI wr w.heap.size v xs)(hg:wr.grownBy w' v.ownBlock):M5 w w' bs bc mb M cnt:=by
 obtain⟨F,h1,h2⟩:=h.mf;refine⟨h.below.grown hg h.below.size (fR ho),h.ge,cJ h.bx hg (AO ho h.bx (by decide)),F,h1.kept hg (fun e=>Ad h1 ho e.symm),h2⟩
structure lC(w wr:World)(bs bc mb lim:Nat)(v5:Value)(lv:List Int)(v7:Value)(nx:List Int)(M:Wy):Prop where
 st:∃ cnt,M5 w wr bs bc mb M cnt/\cnt<=lim
 r5:RI wr w.heap.size v5 lv
 r7:RI wr w.heap.size v7 nx
 ne:rJ v5 v7
theorem lC.below{w wr:World}{bs bc mb lim:Nat}{v5 v7:Value}{lv nx:List Int}{M:Wy}(h:lC w wr bs bc mb lim v5 lv v7 nx M):Below w.heap.size w wr:=by
 obtain⟨cnt,h1,_⟩:=h.st;exact h1.below
theorem lC.bx{w wr:World}{bs bc mb lim:Nat}{v5 v7:Value}{lv nx:List Int}{M:Wy}(h:lC w wr bs bc mb lim v5 lv v7 nx M):wr.heap[bc]? = some (.cells #[.pointer (some ⟨bs,0,none⟩)] 106 (0,0)):=by
 obtain⟨cnt,h1,_⟩:=h.st;exact h1.bx
theorem lC.step{w wr w':World}{bs bc mb lim:Nat}{v5 v7:Value}{lv nx:List Int}{M:Wy}(h:lC w wr bs bc mb lim v5 lv v7 nx M)(hb:Below wr.heap.size wr w'):lC w w' bs bc mb lim v5 lv v7 nx M:=by
 obtain⟨cnt,h1,h2⟩:=h.st;exact⟨⟨cnt,h1.step hb,h2⟩,rH h.r5 hb,rH h.r7 hb,h.ne⟩
theorem lC.lim{w wr:World}{bs bc mb lim TI:Nat}{v5 v7:Value}{lv nx:List Int}{M:Wy}(h:lC w wr bs bc mb lim v5 lv v7 nx M)(hl:lim<=TI):lC w wr bs bc mb TI v5 lv v7 nx M:=by
 obtain⟨cnt,h1,h2⟩:=h.st;exact⟨⟨cnt,h1,by omega⟩,h.r5,h.r7,h.ne⟩
theorem lC.append{w wr w':World}{bs bc mb lim:Nat}{v5 v7 v1:Value}{lv nx:List Int}{M:Wy}(h:lC w wr bs bc mb lim v5 lv v7 nx M)(b:Int)(ho:w'.ownsRow w.heap.size 3 1 v1 (nx ++ [b]).length (jL .i64 (nx ++ [b])))(hg:wr.grownBy w' v7.ownBlock)(hat:v1.ownBlock=v7.ownBlock\/∃ b,v1.ownBlock=some b/\wr.heap.size<=b):lC w w' bs bc mb lim v5 lv v1 (nx ++ [b]) M:=by
 obtain⟨cnt,h1,h2⟩:=h.st;refine⟨⟨cnt,h1.row h.r7 hg,h2⟩,h.r5.grown hg ?_,ho,EC h.ne hat h.r5⟩;cases hq:v5.ownBlock with
 | none=>exact .inl rfl
 | some k=>exact .inr (fun e=>h.ne k hq e.symm)
theorem lC.look{w wr:World}{bs bc mb lim:Nat}{v5 v7:Value}{lv nx:List Int}{M:Wy}(h:lC w wr bs bc mb lim v5 lv v7 nx M)(b k:Int)(hb:sm b)(hk:sm k)(c:Bool) :
  (Instr.lookup 110 (.map (some mb)) (.agg #[.int .i64 b,.int .i64 k]) c).run Tryz.prog wr=.ok (if c then .tuple #[Ac (eB M b k),.bool (M b k).isSome] else Ac (eB M b k)) wr:=by
 obtain⟨cnt,h1,h2⟩:=h.st;obtain⟨F,h3,h4⟩:=h1.mf;have:=h3.look oQ Tryz.underlying110 (G1 wr) (mN b k hb hk) c;unfold LD at this;rw[this,h4 b k hb hk];unfold eB;cases M b k with
 | none=>rfl
 | some x=>rfl
theorem lC.stored{w wr:World}{bs bc mb lim:Nat}{v5 v7:Value}{lv nx:List Int}{M:Wy}(h:lC w wr bs bc mb lim v5 lv v7 nx M)(hl:lim < maxLen)(b k:Int)(hb:sm b)(hk:sm k)(x:Int × Int)
  {ops:Array Oper} {rest:List Oper} {o:Oper} {a:Act} {Q:Exit->Act->World->Prop} (hg:o.guard=none) (m' x' v':Operand) (hop:o.op=Op.mapUpdate 110 m' x' v') (hm:a.eval m'=.map (some mb)) (hx:a.eval x'=.agg #[.int .i64 b,.int .i64 k]) (hv:a.eval v'=.agg #[.int .i64 x.1,.int .i64 x.2])
  (hK:∀ w',lC w w' bs bc mb (lim+1) v5 lv v7 nx (nC M b k x)->wpList Tryz.prog ops Q rest (a.put o.dst undef) w'):wpList Tryz.prog ops Q (o :: rest) a wr:=by
 obtain⟨cnt,h1,h2⟩:=h.st;obtain⟨F,h3,h4⟩:=h1.mf;refine MF.store hg m' x' v' 110 hop h3 oQ Tryz.underlying110 (by omega) hm hx hv (mN b k hb hk) (fun w' hm' hg'=>hK w' ?_);have hne:∀ {v:Value} {xs:List Int},RI wr w.heap.size v xs->RI w' w.heap.size v xs:=fun{v xs} hr=>hr.grown hg' (by
  cases hq:v.ownBlock with
  | none=>exact .inl rfl
  | some k=>exact .inr (fun e=>Ad h3 hr (by rw[hq];exact e)))
 refine⟨⟨cnt+1,⟨h1.below.grown hg' h1.below.size (fun q e=>by injection e with e;subst e;exact h1.ge.2),h1.ge,cJ h1.bx hg' (fun e=>?_),_,hm',h4.put hb hk x⟩,by omega⟩,hne h.r5,hne h.r7,h.ne⟩;injection e with e;obtain⟨es,cl,hmm⟩:=h3.isMap;have:=h1.bx;rw[e,hmm] at this;cases this
theorem LH(X R:Int)(W:World):(Instr.field 113 (.agg #[.int .i64 X,.int .i64 R]) 0).run Tryz.prog W=.ok (.int .i64 X) W:=by kernel_rfl
theorem I6(X R:Int)(W:World):(Instr.field 113 (.agg #[.int .i64 X,.int .i64 R]) 1).run Tryz.prog W=.ok (.int .i64 R) W:=by kernel_rfl
theorem RI.slice{w:World}{base:Nat}{v:Value}{xs:List Int}(h:RI w base v xs):∃ A c,v=.slice A xs.length c:=Ho h
def PV(l:List S75)(k:Nat)(M:Wy)(nx lv:List Int):Prop:=WV l k M nx/\LV l k M lv
theorem PV.put{l:List S75}{k:Nat}{M:Wy}{nx lv:List Int}(h:PV l k M nx lv){bf:Int}(Ib:bf∈lv){b:Nat}(h1:bf < (b:Int))(h2:b<=l.length)(hf:gJ l bf b=true){d:Int}(hd:0<=d/\d<=200000000) :
  PV l k (if nD ((eB M bf ((k:Int) - 1)).1+d,bf) (M b k)=true then nC M b k ((eB M bf ((k:Int) - 1)).1+d,bf) else M) (if (M b k).isNone=true then nx ++ [(b:Int)] else nx) lv:=by
 refine⟨h.1.put h.2 Ib h1 h2 hf hd,⟨fun b' hb'=>?_,h.2.nd,h.2.ne⟩⟩;have:=h.2.at_ b' hb';refine⟨?_,this.2⟩;rcases this.1 with q|q
 .exact .inl q
 .refine .inr ⟨q.1,q.2.1,?_⟩;split
  .exact mO q.2.2
  .exact q.2.2
theorem TJ{w:World}{g:Nat}{a b:Int}(h0:w.cell? ⟨g,0,none⟩=some (.int .i64 a))(h1:w.cell? ⟨g,1,none⟩=some (.int .i64 b)):Kd.C (Kd.int .i64) w (some ⟨g,0,none⟩) 2 [a,b]:=by
 refine⟨rfl,by decide,fun _=>⟨⟨g,0,none⟩,rfl,fun j p hj=>⟨[.int .i64 p],rfl,rfl,fun i u hu=>?_⟩⟩⟩;cases i with
 | succ i=>simp at hu
 | zero =>
  simp at hu;subst hu;rw[add_plain]
  match j,hj with
  | 0,hj=>simp at hj;subst hj;exact h0
  | 1,hj=>simp at hj;subst hj;exact h1
  | j+2,hj=>simp at hj
def lH(k i b:Nat):Nat:=(k * 10000+i) * 10000+b
theorem LJ(k i b:Nat):lH k i b+1=lH k i (b+1):=by unfold lH;omega
theorem vT(k i b b':Nat)(h:b<=b'):lH k i b<=lH k i b':=by unfold lH;omega
theorem LK(k i b:Nat)(h:b<=10000):lH k i b<=lH k (i+1) 0:=by unfold lH;omega
theorem Q8(k i:Nat)(h:i<=10000):lH k i 0<=lH (k+1) 0 0:=by unfold lH;omega
theorem Dv(k i b:Nat)(hk:k<=10000)(hi:i<=10000)(hb:b<=10000):lH k i b < maxLen:=by unfold lH maxLen;omega
def LM(l:List S75)(w:World)(base:Nat)(M:Wy)(e:Ending)(w':World):Prop:=∃ mb,e=.returned (.map (some mb))/\(∃ cnt F,MF w' 116 mb cnt F/\FM F M)/\Below base w w'/\∃ k,WV l k M []
theorem FD{w:World}{bs n:Nat}{l:List S75}{A:Option Addr}{c:Nat}{A2:Option Addr}{m c2:Nat}{r:S30}{S:List S30}{g4 g5 g6 g7:Nat}(h:M4 w bs n l A c A2 m c2 r S g4 g5 g6 g7)(MR:Wy)(Q9:w_ l S r=MR) :
  Calls Tryz.prog 46 #[.pointer (some ⟨bs,0,none⟩)] w (LM l w w.heap.size MR):=by
 have H:=aj h;obtain⟨tm,XM⟩:∃ tm,KJ l=tm:=⟨_,rfl⟩;have HTM:=aj XM;have Sx:=aj (show Fk l S r tm (n+2 - 0) 0 (fun _ _=>none) [-1]=MR by rw[<-Q9,<-XM,Nat.sub_zero];unfold w_;rw[h.hn]);have HN8:=aj h.hn8;have dI:=aj (aP (aH w (.cells #[.pointer (some ⟨bs,0,none⟩)] 106)) (.map #[] 0));have hb1:=((Below.refl w.heap.size w).alloc (Nat.le_refl _) (.cells #[.pointer (some ⟨bs,0,none⟩)] 106)).alloc (by simp) (.map #[] 0);have HB1:=aj hb1;have XO:=MF.made (w.alloc (.cells #[.pointer (some ⟨bs,0,none⟩)] 106)) 116;rw[World.size_alloc] at XO;have Fq:=aj XO;have hmm:=@run_makeMap Tryz.prog;have n0:n<=8192:=h.hn8;clear h Q9 XM hb1 XO;go_enter Tryz.func46,Tryz.ntmps46;go_wp2_with (go_at_call 87;go_loud(refine(FB (H.out.below HB1.out).st H.out.hn H.out.hn8 tm HTM.out).mono ?_;rintro e w1 ⟨rfl,hb1⟩))
 have HS1:=aj (show M5 w w1 bs w.heap.size (w.heap.size+1) (fun _ _=>none) 0 from
  ⟨HB1.out.trans (hb1.mono HB1.out.size),⟨Nat.le_refl _,by omega⟩,ay dI.out hb1,_,Fq.out.block (hb1.block _ Fq.out.lt),fun b k _ _=>rfl⟩)
 obtain⟨bc,hbc⟩:∃ bc,w.heap.size=bc:=⟨_,rfl⟩;have Tw:=aj hbc;obtain⟨mb,hmb⟩:∃ mb,w.heap.size+1=mb:=⟨_,rfl⟩;have HS1:=aj (show M5 w w1 bs bc mb (fun _ _=>none) 0 by rw[<-hbc,<-hmb];exact HS1.out);rw[hmb,hbc];have HR1:=aj (show RI (w1.alloc (.cells #[.int .i64 (-1)] 3)) w.heap.size (.slice (some ⟨w1.heap.size,0,none⟩) 1 1) [-1] from Na w1 w.heap.size 3 .i64 [-1] HS1.out.below.size (by decide));have HS2:=aj (HS1.out.step ((Below.refl w1.heap.size w1).alloc (Nat.le_refl _) (.cells #[.int .i64 (-1)] 3)));obtain⟨v0,hv0⟩:∃ v,(Value.slice (some ⟨w1.heap.size,0,none⟩) 1 1)=v:=⟨_,rfl⟩;rw[hv0] at HR1 ⊢;generalize w1.alloc (.cells #[.int .i64 (-1)] 3)=w2 at *;clear hv0 hbc hmb hb1 hmm HS1;go_loopw [5,6] (fun v5 v6 wr=>∃ (z:Int) (k cnt:Nat) (M:Wy) (lv:List Int),v6=.int .i64 z/\aC (z=(k:Int))/\aC (Fk l S r tm (n+2 - k) k M lv=MR)/\aC (M5 w wr bs bc mb M cnt/\cnt<=lH k 0 0)/\aC (RI wr w.heap.size v5 lv)/\aC (PV l k M [] lv)) (fun _ v6 _=>n+2 - (intOf v6).toNat)
 case atStart=>exact⟨0,0,0,_,[-1],rfl,⟨rfl⟩,Sx,⟨HS2.out,Nat.zero_le _⟩,HR1,⟨WV.start l,LV.start l (.inr trivial)⟩⟩
 case round =>
  obtain⟨z,k,cnt,M,lv,rfl,hz,hW,hS,hR,hP⟩:=hrel;obtain⟨A5,c5,hv5⟩:=RI.slice hR.out;have HV5:=aj hv5;have hkn:=hP.out.2.ne;have TK:k<=n+1:=by rw[<-H.out.hn];exact hkn
  have TL:=hP.out.2.len;obtain⟨L,hL⟩:∃ L,lv.length=L:=⟨_,rfl⟩;have HL:=aj hL;have hL9:L<=8193:=by rw[<-hL];have:=H.out.hn;omega
  have z0:0<=z:=by have:=hz.out;omega
  have z1:z<=8193:=by have:=hz.out;omega
  have x0:wr.cell? ⟨bc,0,none⟩=some (.pointer (some ⟨bs,0,none⟩)):=(ak hS.out.1.bx 0).trans rfl;rw[hL] at hv5;subst hv5;by_cases hl0:L=0
  .have hlv:lv=[]:=List.length_eq_zero_iff.1 (by rw[hL];exact hl0);have HE:=aj (show M=MR by
    have:=hW.out;rw[hlv] at this;cases hd:n+2 - k with
    | zero=>rw[hd] at this;exact this
    | succ d=>rw[hd,Fk,if_pos rfl] at this;exact this)
   have d1:decide (0 < (L:Int))=false:=decide_eq_false (by omega);have d2:decide (0 < L)=false:=decide_eq_false (by omega);have d3:¬ 0 < L:=by omega
   clear hlv hl0 hL hkn TK TL;go_wp2;go_ret;obtain⟨F,hF1,hF2⟩:=hS.out.1.mf;exact⟨mb,rfl,⟨cnt,F,hF1,by rw[<-HE.out];exact hF2⟩,hS.out.1.below,k,by rw[<-HE.out];exact hP.out.1⟩
  .have d1:decide (0 < (L:Int))=true:=decide_eq_true (by omega);have d2:decide (0 < L)=true:=decide_eq_true (by omega);have d3:0 < L:=by omega
   have TM:k<=n:=by
    cases hlv:lv with
    | nil=>rw[hlv] at hL;exact absurd hL.symm hl0
    | cons b lv' =>
     have:=hP.out.2.at_ b (by rw[hlv];simp);have:=H.out.hn;omega
   obtain⟨R,LN⟩:∃ R,(bG S r k).f1=R:=⟨_,rfl⟩;have LO:=aj LN;obtain⟨MQ,Sy,hQ⟩:∃ MQ Sy,C6 l R tm k lv M []=(MQ,Sy):=⟨_,_,rfl⟩;have HQ:=aj hQ;have HW2:=aj (show Fk l S r tm (n+2 - (k+1)) (k+1) MQ (nE n Sy)=MR by
    have:=hW.out;rw[show n+2 - k=(n+2 - (k+1))+1 by omega,Fk,if_neg (fun q=>hl0 (by rw[<-hL,q];rfl)),LN,hQ,H.out.hn] at this;exact this)
   have HM0:=aj (show lC w wr bs bc mb (lH k 0 0) (.slice A5 L c5) lv (.slice none 0 0) [] M from ⟨⟨cnt,hS.out.1,hS.out.2⟩,hR.out,Gm _ _ _ _,Nb _⟩);have HK3:=aj TM;have HL0:=aj hl0;clear hl0 hL hkn TK TL LN hQ TM x0;go_wp2;obtain⟨wo,rfl⟩:∃ wo:World,wo=wr:=⟨_,rfl⟩;go_loopw [7,28] (fun v7 v28 wq=>∃ (q:Int) (i:Nat) (M':Wy) (nx:List Int),v28=.int .i64 q/\aC (q=(i:Int)/\i<=L)/\aC (C6 l R tm k (lv.drop i) M' nx=(MQ,Sy))/\aC (lC w wq bs bc mb (lH k i 0) (.slice A5 L c5) lv v7 nx M')/\aC (PV l k M' nx lv)) (fun _ v28 _=>L - (intOf v28).toNat)
   case atStart=>exact⟨0,0,M,[],rfl,⟨rfl,Nat.zero_le _⟩,HQ,HM0,hP⟩
   case round =>
    obtain⟨q,i,M',nx,rfl,hq,hQ',hM,TN⟩:=hrel;obtain⟨A7,c7,hv7⟩:=RI.slice hM.out.r7;have q0:0<=q:=(by have:=hq.out.1;omega);by_cases hlt:i < L
    .have d4:decide (q < (L:Int))=true:=decide_eq_true (by have:=hq.out.1;omega);have q1:q < (L:Int):=(by have:=hq.out.1;omega);have p0:=eq_true q0;have p1:=eq_true q1;have cg:=aj hlt;have hrow:wr.ownsRow w.heap.size 3 1 (.slice A5 L c5) L (jL .i64 lv):=(by have:=hM.out.r5;unfold RI at this;rw[HL.out] at this;exact this);obtain⟨bf,Ib⟩:∃ bf,rd lv q=bf:=⟨_,rfl⟩;have hA5:∃ g,A5=some ⟨g,0,none⟩:=by
      rcases hrow.2 with⟨e,e2⟩|⟨g,cap,cur,e,_⟩
      .omega
      .injection e with e;exact⟨g,e⟩
     obtain⟨XP,rfl⟩:=hA5;have hat:=(tJ hrow q q0 q1).1;rw[Ib] at hat;have Oz:=aj (show bf∈lv by
      rw[<-Ib];unfold rd;have e1:q.toNat < lv.length:=(by have:=HL.out;omega);rw[List.getD_eq_getElem?_getD,List.getElem?_eq_getElem e1];exact List.getElem_mem _)
     have OA:=aj (TN.out.2.at_ bf Oz.out);have I7 : -1<=bf:=(by rcases OA.out.1 with q|q<;>omega);have ab1:bf < (n:Int):=(by have:=OA.out.2.2;have:=H.out.hn;omega);obtain⟨a,ha⟩:∃ a:Int,((lstart l bf:Nat):Int)=a:=⟨_,rfl⟩;have HA:=aj ha;have x0:wr.cell? ⟨bc,0,none⟩=some (.pointer (some ⟨bs,0,none⟩)):=(ak hM.out.bx 0).trans rfl;obtain⟨MB,I8,hB⟩:∃ MB I8,tV l R tm k bf (l.length+1 - (bf+1).toNat) (bf+1).toNat M' nx=(MB,I8):=⟨_,_,rfl⟩;have HQ2:=aj (show C6 l R tm k (lv.drop (i+1)) MB I8=(MQ,Sy) by
      have:=hQ'.out;rw[List.drop_eq_getElem_cons (show i < lv.length by rw[HL.out];exact hlt)] at this;have e1:lv[i]'(by rw[HL.out];exact hlt)=bf:=by
       rw[<-Ib];unfold rd;rw[show q.toNat=i by have:=hq.out.1;omega,List.getD_eq_getElem?_getD,List.getElem?_eq_getElem (show i < lv.length by rw[HL.out];exact hlt)];rfl
      rw[e1,C6,hB] at this;exact this)
     have HB:=aj (show tV l R tm k bf (n+1 - (bf+1).toNat) (bf+1).toNat M' nx=(MB,I8) by rw[<-H.out.hn];exact hB);have Ep:=aj (H.out.below hM.out.below);clear hlt hrow hB ha Ib;go_upto_block 3 with(fail);have xH:(bf+1).toNat<=n:=(by omega);have Eu:=aj xH;go_cut [7] (fun v7 wc=>aC (lC w wc bs bc mb (lH k (i+1) 0) (.slice (some ⟨XP,0,none⟩) L c5) lv v7 I8 MB/\PV l k MB I8 lv))
     case first =>
      go_wp2_with (go_at_call 47;go_loud(refine(dP Ep.out.st H.out.hn H.out.hn8 bf I7 (by omega) a HA.out).mono ?_;rintro e w3 ⟨rfl,rfl⟩));obtain⟨wo2,rfl⟩:∃ wo2:World,wo2=wr:=⟨_,rfl⟩;have HM7:=aj (show lC w wo2 bs bc mb (lH k i (bf+1).toNat) (.slice (some ⟨XP,0,none⟩) L c5) lv (.slice A7 nx.length c7) nx M' by rw[<-hv7];exact hM.out.lim (vT k i _ _ (Nat.zero_le _)));go_loopw [7,11] (fun v7 v11 wq=>∃ (y:Int) (b:Nat) (M2:Wy) (nx2:List Int),v11=.int .i64 y/\aC (y=(b:Int)/\b<=n+1/\bf < (b:Int))/\aC (tV l R tm k bf (n+1 - b) b M2 nx2=(MB,I8))/\aC (lC w wq bs bc mb (lH k i b) (.slice (some ⟨XP,0,none⟩) L c5) lv v7 nx2 M2)/\aC (PV l k M2 nx2 lv)) (fun _ v11 _=>n+1 - (intOf v11).toNat)
      case atStart=>exact⟨bf+1,(bf+1).toNat,M',nx,rfl,⟨by omega,by omega,by omega⟩,HB,HM7,TN⟩
      case round =>
       obtain⟨y,b,M2,nx2,rfl,hy,hB2,hM2,FH⟩:=hrel;have hy0:0<=y:=(by have:=hy.out.1;omega);have hy8:y<=8193:=(by have:=hy.out;omega);have x0:wr.cell? ⟨bc,0,none⟩=some (.pointer (some ⟨bs,0,none⟩)):=(ak hM2.out.bx 0).trans rfl;have Q_:=aj (H.out.below hM2.out.below);have x1:wr.cell? ⟨bs,0,none⟩=some (.slice A n c):=(ak Q_.out.st.box 0).trans rfl;by_cases hbl:b<=n
       .have d5:decide (y<=(n:Int))=true:=decide_eq_true (by have:=hy.out.1;omega);have qD:=aj hbl;obtain⟨qb,Zx⟩:∃ qb,(tm && (decide (lstart l bf < b) && GP l R (lstart l bf) b))=qb:=⟨_,rfl⟩;have G2:=aj Zx;have TP:lstart l bf<=n:=(by have:=(mH l bf (by have:=H.out.hn;omega)).1;have:=H.out.hn;omega);have HLS:=aj TP;have hk8:k<=8192:=(by have:=HK3.out;omega);clear Zx TP;go_upto_region 15 with(fail);go_cut [4,19,58] (fun v4 v19 v58 wc=>v4=.bool tm/\v19=.bool tm/\v58=.bool qb/\aC (Below wr.heap.size wr wc))
        case first =>
         obtain⟨tq,XQ⟩:∃ tq,tm=tq:=⟨_,rfl⟩;have OB:=aj XQ;rw[XQ];clear XQ;cases tq with
         | false =>
          have HE:=aj (show false=qb by rw[<-G2.out,OB.out];rfl);go_wp2;go_meet
          case rel=>exact⟨by rw[OB.out],by rw[OB.out],by rw[HE.out],⟨Below.refl _ _⟩⟩
         | true =>
          by_cases hab:lstart l bf < b
          .have d6:decide (a < y)=true:=decide_eq_true (by have:=HA.out;have:=hy.out.1;omega);obtain⟨fb,M6⟩:∃ fb,GP l (bG S r k).f1 (lstart l bf) b=fb:=⟨_,rfl⟩;have HFB:=aj M6;have HE:=aj (show fb=qb by rw[<-G2.out,OB.out,decide_eq_true hab,<-M6,LO.out];rfl);clear hab M6;go_wp2_with (go_at_call 88;go_loud(refine(Ds Q_.out a y z (lstart l bf) b k HA.out.symm hy.out.1 hz.out HLS.out qD.out (by omega) fb HFB.out).mono ?_;rintro e w4 ⟨rfl,hb4⟩));go_meet
           case rel=>exact⟨by rw[OB.out],by rw[OB.out],by rw[HE.out],⟨hb4⟩⟩
          .have d6:decide (a < y)=false:=decide_eq_false (by have:=HA.out;have:=hy.out.1;omega);have HE:=aj (show false=qb by rw[<-G2.out,OB.out,decide_eq_false hab];rfl);clear hab;go_wp2;go_meet
           case rel=>exact⟨by rw[OB.out],by rw[OB.out],by rw[HE.out],⟨Below.refl _ _⟩⟩
        case rest =>
         obtain⟨rfl,rfl,rfl,hbw⟩:=hcut;have HM3:=aj (hM2.out.step hbw.out);have LP:=aj (Q_.out.below hbw.out);have x3:wc.cell? ⟨bc,0,none⟩=some (.pointer (some ⟨bs,0,none⟩)):=(ak HM3.out.bx 0).trans rfl;clear x0 x1;have hB3:=hB2.out;rw[show n+1 - b=(n+1 - (b+1))+1 by omega,tV] at hB3;cases qb with
         | true =>
          rw[if_pos G2.out] at hB3;have HE:=aj (show M2=MB/\nx2=I8 from ⟨congrArg Prod.fst hB3,congrArg Prod.snd hB3⟩);clear hB3;go_wp2;go_meet
          case rel =>
           obtain⟨rfl,rfl⟩:=HE.out;exact⟨HM3.out.lim (LK k i b (by have:=hy.out.2.1;have:=HN8.out;omega)),FH.out⟩
         | false =>
          rw[if_neg (by rw[G2.out];decide)] at hB3;obtain⟨fo,hfo⟩:∃ fo,gJ l bf b=fo:=⟨_,rfl⟩;have Wd:=aj hfo;rw[hfo] at hB3;clear hfo;cases fo with
          | false =>
           rw[if_pos rfl] at hB3;have HB4:=aj hB3;clear hB3;go_wp2_with (go_at_call 89;go_loud(refine(lu LP.out bf y b I7 (by omega) hy.out.1 qD.out false Wd.out).mono ?_;rintro e w4 ⟨rfl,hb4⟩));go_roundw
           case rel=>exact⟨y+1,b+1,M2,nx2,rfl,⟨by have:=hy.out.1;omega,by have:=qD.out;omega,by have:=hy.out.2.2;omega⟩,HB4,⟨(HM3.out.step hb4).lim (vT k i _ _ (by omega))⟩,FH⟩
           case measure=>have:=qD.out;have:=hy.out.1;simp[intOf];omega
          | true =>
           rw[if_neg (by decide)] at hB3;obtain⟨D,ok,hD⟩:∃ D ok,wZ l R bf b=(D,ok):=⟨_,_,rfl⟩;have HD:=aj (show wZ l (bG S r k).f1 bf b=(D,ok) by rw[LO.out];exact hD);have JJ:=aj (show 0<=D/\D<=200000000 by
            have:=Io l R bf b H.out.hi (by rw[H.out.hn];exact HN8.out) (by have:=fU H.out.h0 k;rw[<-LO.out];omega) (by have:=H.out.hn;omega) (by rw[H.out.hn];exact qD.out);rw[hD] at this;exact this)
           rw[hD] at hB3;clear hD;cases ok with
           | false =>
            rw[if_pos rfl] at hB3;have HB4:=aj hB3;clear hB3;go_wp2_with (first|(go_at_call 89;go_loud(refine(lu LP.out bf y b I7 (by omega) hy.out.1 qD.out true Wd.out).mono ?_;rintro e w4 ⟨rfl,hb4⟩;have HM4:=aj (HM3.out.step hb4);have I9:=aj (LP.out.below hb4);have x4:w4.cell? ⟨bc,0,none⟩=some (.pointer (some ⟨bs,0,none⟩)):=(ak HM4.out.bx 0).trans rfl))|(go_at_call 90;go_loud(refine(xI I9.out bf y z b k I7 (by omega) hy.out.1 hz.out qD.out D false HD.out).mono ?_;rintro e w5 ⟨rfl,hb5⟩)));go_roundw
            case rel=>exact⟨y+1,b+1,M2,nx2,rfl,⟨by have:=hy.out.1;omega,by have:=qD.out;omega,by have:=hy.out.2.2;omega⟩,HB4,⟨(HM4.out.step hb5).lim (vT k i _ _ (by omega))⟩,FH⟩
            case measure=>have:=qD.out;have:=hy.out.1;simp[intOf];omega
           | true =>
            rw[if_neg (by simp)] at hB3;have HB4:=aj hB3;clear hB3;go_upto_region 19 with(first|(go_at_call 89;go_loud(refine(lu LP.out bf y b I7 (by omega) hy.out.1 qD.out true Wd.out).mono ?_;rintro e w4 ⟨rfl,hb4⟩;have HM4:=aj (HM3.out.step hb4);have I9:=aj (LP.out.below hb4);have x4:w4.cell? ⟨bc,0,none⟩=some (.pointer (some ⟨bs,0,none⟩)):=(ak HM4.out.bx 0).trans rfl))|(go_at_call 90;go_loud(refine(xI I9.out bf y z b k I7 (by omega) hy.out.1 hz.out qD.out D true HD.out).mono ?_;rintro e w5 ⟨rfl,hb5⟩;have HM5:=aj (HM4.out.step hb5))));have sb:sm bf:=⟨by omega,by omega⟩;have sz:sm (z - 1):=⟨by omega,by omega⟩;obtain⟨g1,g2,hg⟩:∃ g1 g2,eB M2 bf (z - 1)=(g1,g2):=⟨_,_,rfl⟩;have hlk:(Instr.lookup 110 (.map (some mb)) (.agg #[.int .i64 bf,.int .i64 (z - 1)]) false).run Tryz.prog w5=.ok (.agg #[.int .i64 g1,.int .i64 g2]) w5:=by
             have:=HM5.out.look bf (z - 1) sb sz false;rw[hg] at this;exact this
            have hf1:=LH g1 g2;have jr:=aj (show eB M2 bf ((k:Int) - 1)=(g1,g2) by rw[<-hz.out];exact hg);have hgb:=vg FH.out.1 bf ((k:Int) - 1);rw[jr.out] at hgb;have hg0:0<=g1/\g1<=1700000000000:=by
             refine⟨hgb.1,Int.le_trans hgb.2 ?_⟩;split<;>omega
            have hD0:=JJ.out;clear hgb hg x3 x4;go_upto_region 20 with(fail);have HX6:=aj (aH w5 (.cells #[.int .i64 (g1+D),.int .i64 bf] 113));have HM6:=aj (HM5.out.step ((Below.refl w5.heap.size w5).alloc (Nat.le_refl _) (.cells #[.int .i64 (g1+D),.int .i64 bf] 113)));obtain⟨bx,hbx⟩:∃ bx,w5.heap.size=bx:=⟨_,rfl⟩;obtain⟨G,hG⟩:∃ G,g1+D=G:=⟨_,rfl⟩;have HG:=aj hG;have hG0:0<=G/\G<=1800000000000:=(by omega);rw[hG] at HX6 HM6 ⊢;rw[hbx] at HX6 ⊢;generalize w5.alloc (.cells #[.int .i64 G,.int .i64 bf] 113)=w6 at *;clear hlk hf1 hbx hG hg0 hD0;have sy:sm y:=⟨by omega,by omega⟩;have sz':sm z:=⟨by omega,by omega⟩;obtain⟨e1,e2,he⟩:∃ e1 e2,eB M2 y z=(e1,e2):=⟨_,_,rfl⟩;obtain⟨ib,hib⟩:∃ ib,(M2 y z).isSome=ib:=⟨_,rfl⟩;have hlk:(Instr.lookup 110 (.map (some mb)) (.agg #[.int .i64 y,.int .i64 z]) true).run Tryz.prog w6=.ok (.tuple #[.agg #[.int .i64 e1,.int .i64 e2],.bool ib]) w6:=by
             have:=HM6.out.look y z sy sz' true;rw[he,hib] at this;exact this
            have vk:=aj he;have TQ:=aj hib;clear he hib;go_upto_region 21 with(fail);have HX7:=aj (aP HX6.out (.cells #[.int .i64 e1,.int .i64 e2] 113));have HY7:=aj (aH w6 (.cells #[.int .i64 e1,.int .i64 e2] 113));have HM7:=aj (HM6.out.step ((Below.refl w6.heap.size w6).alloc (Nat.le_refl _) (.cells #[.int .i64 e1,.int .i64 e2] 113)));obtain⟨Q5,hby⟩:∃ bx,w6.heap.size=bx:=⟨_,rfl⟩;rw[hby] at HY7 ⊢;generalize w6.alloc (.cells #[.int .i64 e1,.int .i64 e2] 113)=w7 at *;clear hlk hby;have XR:=aj (FH.out.put Oz.out hy.out.2.2 (by rw[H.out.hn];exact qD.out) Wd.out JJ.out);have hput:=XR.out;have hB5:=HB4.out;rw[jr.out] at hput hB5;have hcast:M2 (b:Int) (k:Int)=M2 y z:=(by rw[hy.out.1,hz.out]);rw[show((g1,g2):Int × Int).1=g1 from rfl,HG.out] at hput;rw[show(((g1,g2):Int × Int).1+(D,true).1,bf)=(G,bf) from by rw[<-HG.out]] at hB5;rw[hcast] at hput hB5;cases ib with
            | false =>
             have hM0:M2 y z=none:=(by cases hq:M2 y z with|none=>rfl|some x=>have:=TQ.out;rw[hq] at this;cases this);rw[hM0] at hput hB5;have TR:PV l k (nC M2 b k (G,bf)) (nx2 ++ [(b:Int)]) lv:=hput;have LQ:=aj TR;have hB6:tV l R tm k bf (n+1 - (b+1)) (b+1) (nC M2 b k (G,bf)) (nx2 ++ [(b:Int)])=(MB,I8):=hB5;have HB6:=aj hB6;clear hput hB5 hcast hM0 TR hB6;have hlen:(nx2.length+1) * 8<=140737488355328:=(by have:=FH.out.1.len;have:=H.out.hn;have:=HN8.out;omega);go_upto_region 23 with(at_builtin;go_loud(refine tI (w0:=w) (W:=w7) w.heap.size rfl (.tmp 95) (.tmp 97) 107 3 .i64 8 rfl Tryz.underlying107 info3 (by decide) u7 nx2 y (by rfl) (by rfl) HM7.out.r7 HM7.out.below HM7.out.below.size hlen ?_;intro v8 w8 Px hB8 hg8 TS));have HM8:=aj (HM7.out.append y Px hg8 TS);have HX8:=aj (cJ HX7.out hg8 (AO HM7.out.r7 HX7.out (by decide)));clear Px hB8 hg8 TS hlen;refine aZ (by kernel_rfl) (by kernel_rfl) ?_
             repeat(go_big_quiet_step (fail))
             refine wpQuiet_nil ?_;intro w9 hb9;have HM9:=aj (HM8.out.step hb9);have HX9:=aj (ay HX8.out hb9);have y0:w9.cell? ⟨bx,0,none⟩=some (.int .i64 G):=(ak HX9.out 0).trans rfl;have y1:w9.cell? ⟨bx,1,none⟩=some (.int .i64 bf):=(ak HX9.out 1).trans rfl;have TT:lH k i b < maxLen:=Dv k i b (by omega) (by have:=cg.out;omega) (by have:=qD.out;omega);have TU:=aj TT;clear TT;go_wp2_with ((at_mapUpdate;go_loud(refine HM9.out.stored TU.out y z sy sz' (G,bf) rfl (.tmp 116) (.tmp 119) (.tmp 120) (by rfl) (by rfl) (by rfl) (by rfl) ?_;intro w10 hm10)));go_roundw
             case rel =>
              refine⟨y+1,b+1,nC M2 b k (G,bf),nx2 ++ [(b:Int)],rfl,⟨by have:=hy.out.1;omega,by have:=qD.out;omega,by have:=hy.out.2.2;omega⟩,HB6,⟨?_⟩,LQ⟩;rw[<-hy.out.1,<-hz.out,<-LJ];exact hm10
             case measure=>have:=qD.out;have:=hy.out.1;simp[intOf];omega
            | true =>
             have hM0:M2 y z=some (e1,e2):=by
              have h8:=vk.out;have h9:=TQ.out;unfold eB at h8;cases hq:M2 y z with
              | none=>rw[hq] at h9;cases h9
              | some x=>rw[hq] at h8;exact congrArg some h8
             rw[hM0] at hput hB5;obtain⟨bt,MW⟩:∃ bt,nD (G,bf) (some (e1,e2))=bt:=⟨_,rfl⟩;rw[MW] at hput hB5;have Py:=aj hput;have HB6:=aj hB5;have MZ:=aj (show decide (TG (ug G e1) (ug bf e2) < 0)=bt by rw[<-MW];exact I3 (G,bf) (e1,e2));have a0:w7.cell? ⟨bx,0,none⟩=some (.int .i64 G):=(ak HX7.out 0).trans rfl;have a1:w7.cell? ⟨bx,1,none⟩=some (.int .i64 bf):=(ak HX7.out 1).trans rfl;have c0:w7.cell? ⟨Q5,0,none⟩=some (.int .i64 e1):=(ak HY7.out 0).trans rfl;have c1:w7.cell? ⟨Q5,1,none⟩=some (.int .i64 e2):=(ak HY7.out 1).trans rfl;clear hput hB5 hcast hM0 MW;go_upto_region 23 with(fail);have b0:=Bx.cell a0;have b1:=Bx.cell a1;have d0:=Bx.cell c0;have Xy:=Bx.cell c1;refine cE 13 (by kernel_rfl) (by kernel_rfl) ?_;simp only[List.take_succ_cons,List.take_zero,List.drop_succ_cons,List.drop_zero]
             repeat(go_big_quiet_step ((go_at_call 92;exact Bx.Kt (IZ _ _ _ _ rfl))))
             refine wpQuiet_nil ?_;intro w9 hb9;have HM9:=aj (HM7.out.step hb9);have HX9:=aj (ay HX7.out hb9);clear b0 b1 d0 Xy a0 a1 c0 c1;go_upto_if 115 with(go_at_call 91;go_loud(refine(I0 (ug G e1) (ug bf e2) _ _ (TJ ((ak (aH _ _) 0).trans rfl) ((ak (aH _ _) 1).trans rfl)) _ rfl).mono ?_;rintro e w10 ⟨rfl,hd10⟩;have HM10:=aj ((HM9.out.step ((Below.refl _ _).alloc (Nat.le_refl _) (.cells #[.int .i64 (ug G e1),.int .i64 (ug bf e2)] 3))).step hd10.below);have HX10:=aj (ay (aP HX9.out (.cells #[.int .i64 (ug G e1),.int .i64 (ug bf e2)] 3)) hd10.below)));rw[MZ.out];cases bt with
             | true =>
              have LQ:=aj (show PV l k (nC M2 b k (G,bf)) nx2 lv from Py.out);have HB7:=aj (show tV l R tm k bf (n+1 - (b+1)) (b+1) (nC M2 b k (G,bf)) nx2=(MB,I8) from HB6.out);have y0:w10.cell? ⟨bx,0,none⟩=some (.int .i64 G):=(ak HX10.out 0).trans rfl;have y1:w10.cell? ⟨bx,1,none⟩=some (.int .i64 bf):=(ak HX10.out 1).trans rfl;have TT:lH k i b < maxLen:=Dv k i b (by omega) (by have:=cg.out;omega) (by have:=qD.out;omega);have TU:=aj TT;clear TT;go_wp2_with ((at_mapUpdate;go_loud(refine HM10.out.stored TU.out y z sy sz' (G,bf) rfl (.tmp 116) (.tmp 119) (.tmp 120) (by rfl) (by rfl) (by rfl) (by rfl) ?_;intro w11 hm11)));go_roundw
              case rel =>
               refine⟨y+1,b+1,nC M2 b k (G,bf),nx2,rfl,⟨by have:=hy.out.1;omega,by have:=qD.out;omega,by have:=hy.out.2.2;omega⟩,HB7,⟨?_⟩,LQ⟩;rw[<-hy.out.1,<-hz.out,<-LJ];exact hm11
              case measure=>have:=qD.out;have:=hy.out.1;simp[intOf];omega
             | false =>
              have LQ:=aj (show PV l k M2 nx2 lv from Py.out);have HB7:=aj (show tV l R tm k bf (n+1 - (b+1)) (b+1) M2 nx2=(MB,I8) from HB6.out);go_wp2;go_roundw
              case rel=>exact⟨y+1,b+1,M2,nx2,rfl,⟨by have:=hy.out.1;omega,by have:=qD.out;omega,by have:=hy.out.2.2;omega⟩,HB7,⟨HM10.out.lim (vT k i _ _ (by omega))⟩,LQ⟩
              case measure=>have:=qD.out;have:=hy.out.1;simp[intOf];omega
       .have d5:decide (y<=(n:Int))=false:=decide_eq_false (by have:=hy.out.1;omega);have HE:=aj (show M2=MB/\nx2=I8 by
         have:=hB2.out;rw[show n+1 - b=0 by omega,tV] at this;exact⟨congrArg Prod.fst this,congrArg Prod.snd this⟩)
        clear hbl;go_wp2;go_meet
        case rel =>
         obtain⟨rfl,rfl⟩:=HE.out;exact⟨hM2.out.lim (LK k i b (by have:=hy.out.2.1;have:=HN8.out;omega)),FH.out⟩
     case rest =>
      go_wp2;go_roundw
      case rel=>exact⟨q+1,i+1,MB,I8,rfl,⟨by have:=hq.out.1;omega,cg.out⟩,HQ2,⟨hcut.out.1⟩,⟨hcut.out.2⟩⟩
      case measure=>have:=cg.out;have:=hq.out.1;simp[intOf];omega
    .have d4:decide (q < (L:Int))=false:=decide_eq_false (by have:=hq.out.1;omega);have XS:i=L:=(by have:=hq.out.2;omega);have Wf:=aj (show M'=MQ/\nx=Sy by
      have:=hQ'.out;rw[List.drop_eq_nil_of_le (by rw[HL.out,XS];exact Nat.le_refl _),C6] at this;exact⟨congrArg Prod.fst this,congrArg Prod.snd this⟩)
     have h1:wr.cell? ⟨bc,0,none⟩=some (.pointer (some ⟨bs,0,none⟩)):=(ak hM.out.bx 0).trans rfl;have Ep:=aj (H.out.below hM.out.below);have h2:wr.cell? ⟨bs,0,none⟩=some (.slice A n c):=(ak Ep.out.st.box 0).trans rfl;have HH:=aj (And.intro h1 h2);have KT:=aj (show u7.ownBlock≠some bc/\u7.ownBlock≠some bs from ⟨fun e=>AO hM.out.r7 hM.out.bx (by decide) e.symm,fun e=>AO hM.out.r7 Ep.out.st.box (by decide) e.symm⟩);have nQ:=aj (show nx.length<=100000 by have:=TN.out.1.len;have:=H.out.hn;have:=HN8.out;omega);have TV:=aj XS;clear hlt XS h1 h2 hv7;go_wp2_with (first|(go_at_call 93;go_loud(refine(zu nx n c bs bc A u7 _ HH.out.1 HH.out.2 w.heap.size hM.out.r7 KT.out.1 KT.out.2 nQ.out).mono ?_;rintro e w4 ⟨v4,rfl,hR4,hg4,TW⟩;have HR4:=aj hR4;have HG4:=aj (And.intro hg4 TW);clear hR4 hg4 TW))|(go_at_call 95;go_loud(refine(FA w.heap.size v4 _ _ HR4.out (Nat.le_trans (List.length_filter_le _ _) nQ.out)).mono ?_;rintro e w5 ⟨rfl,hR5,hg5⟩)));go_roundw
     case rel =>
      obtain⟨rfl,rfl⟩:=Wf.out;obtain⟨cnt',hc1,hc2⟩:=hM.out.st;refine⟨z+1,k+1,cnt',M',nE n nx,rfl,⟨by have:=hz.out;omega⟩,HW2,⟨(hc1.row hM.out.r7 HG4.out.1).row HR4.out hg5,Nat.le_trans hc2 (Q8 k i (by have:=hq.out.2;omega))⟩,⟨hR5⟩,⟨?_⟩⟩;have NX:nE n nx=nE l.length nx:=(by rw[H.out.hn]);rw[NX];exact⟨TN.out.1.step,LV.step TN.out.1 (by rw[H.out.hn];exact HK3.out)⟩
     case measure=>have:=HK3.out;have:=hz.out;simp[intOf];omega
end Go.Proofs.YtcaallkkeighdaaGreatDoor.P
