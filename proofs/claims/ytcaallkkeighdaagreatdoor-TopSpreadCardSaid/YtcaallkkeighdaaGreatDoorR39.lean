/- set.prepare. -/
import Derived.Test.YtcaallkkeighdaaGreatDoorR38
set_option maxRecDepth 100000
set_option maxHeartbeats 16000000
set_option linter.unusedVariables false
set_option linter.unusedSimpArgs false
namespace Go.Proofs.YtcaallkkeighdaaGreatDoor.P
open Go.RowKit aD aQ aR
theorem Co{B:Nat}{w a b:World}{g:Nat}(h:Below B w a)(k:a.grownBy b (some g))(hB:B<=w.heap.size)(hg:B<=g):Below B w b :=
 ⟨k.os.trans h.os,k.tape.trans h.tape,k.output.trans h.output,Nat.le_trans h.size k.size,fun i hi=>(k.block i (by have:=h.size;omega) (fun e=>by injection e;omega)).trans (h.block i hi)⟩
theorem Ju{l:List S75}{k:Nat}(h:k < l.length):l.take (k+1)=l.take k ++ [fL l (k:Int)]:=by
 rw[List.take_succ_eq_append_getElem h]
 congr 2
 unfold fL;simp[List.getD_eq_getElem?_getD,List.getElem?_eq_getElem h]
theorem Mr{l:List S75}{k:Nat}(h:k < l.length):fL l (k:Int)∈l:=by
 unfold fL;simp[List.getD_eq_getElem?_getD,List.getElem?_eq_getElem h]
theorem zD{p:Pa}(hz:p.small)(h0:bB p=0):∀ i∈cT p,0<=i.f1/\i.f1<=(p.tx.size:Int):=by
 have hb:∀ k,k < (bL p).length->0<=(dY (bL p) k).f0/\(dY (bL p) k).f0<=(p.tx.size:Int):=fun k hk=>by
  have:=(cZ hz h0 _ (jU (lV hk))).2.1;omega
 refine xS p.tx (bL p) _ (fun i=>0<=i.f1/\i.f1<=(p.tx.size:Int)) (fun a b hab hbl=>hb a (by omega)) (fun k hk hx=>?_) (fun k hk=>hb k hk) (fun k hk=>hb k hk) _ 0 0 0 (by omega);have:=hb k hk;unfold fq;split
 .exact this
 .split
  .exact this
  .exact this
theorem yH{p:Pa}(hz:p.small):(aW p).length<=300:=by
 unfold aW;split
 .rw[pT];have h1:=nI p.tx p.tx.size 0;have h2:=hz.tx;show(cP p.tx p.tx.size 0).length<=300;omega
 .simp
structure Jv(w4:World)(bs bm N:Nat)(F:Lit->Option Value)(s:JX)(W:World):Prop where
 rows:∃ A c B cb,W.heap[bs]? = some (.cells #[.slice A s.l.length c,.slice B s.kd.length cb,.int .i64 0,.int .i64 0,.int .i64 s.dr,.int .i64 0] 90 (0,0)) /\
  k99.R 99 W (bs+1) (fun j=>some j≠(Value.slice B s.kd.length cb).ownBlock) (.slice A s.l.length c) s.l/\Kd.bool.R 4 W (bs+1) (fun j=>some j≠(Value.slice A s.l.length c).ownBlock) (.slice B s.kd.length cb) s.kd
 map:MF W 3 bm N F
 je:Below bs w4 W
theorem Jv.below{w4:World}{bs bm N:Nat}{F:Lit->Option Value}{s:JX}{W W':World}(h:Jv w4 bs bm N F s W)(hb:Below W.heap.size W W'):Jv w4 bs bm N F s W':=by
 obtain⟨⟨A,c,B,cb,h1,h2,h3⟩,h4,h5⟩:=h;exact⟨⟨A,c,B,cb,ay h1 hb,Kd.dL h2 hb,Kd.dL h3 hb⟩,h4.block (hb.block _ h4.lt),h5.trans (hb.mono (Nat.le_of_lt (aY h1)))⟩
theorem tB{ops:Array Oper}{rest:List Oper}{o:Oper}{a:Act}{w:World}{Q:Exit->Act->World->Prop}(hw:Region.wanted o (yielded ops a.tmps)=true)(x:Operand)(ho:o.op=.load 27 x)
  (g:Nat) (hx:a.eval x=.pointer (some ⟨g,0,none⟩)) (p:Pa) (As Am:Option Addr) (cs cm:Nat) (hg:w.heap[g]? = some (.cells (cG p As cs Am cm) 27 (0,0)))
  (h:wpList Tryz.prog ops Q rest (a.put o.dst (.agg (cG p As cs Am cm))) w):wpList Tryz.prog ops Q (o :: rest) a w :=
 wpList_step fun K hK=>by rw[if_pos hw];exact wp_load_row 27 x ho g hx 27 (cG p As cs Am cm) (0,0) _ hg Tryz.underlying27 rfl (cV p As cs Am cm) (hK _ _ h)
theorem PN(p:Pa){As Am A:Option Addr}{cs cm c n:Nat}(l:List S99)(w:World)(hn:l.length=n)(hl:Kd.C k99 w A n l)(hp:l≠[]->0 < p.tx.size)(h0:bB p=0)(ht:p.tx.size<=300)(co:Int)(yM:ig p l=co) :
  Calls Tryz.prog 27 #[.agg (cG p As cs Am cm),.slice A n c] w fun e w'=>e=.returned (.int .i64 co)/\Below w.heap.size w w':=by
 subst hn;have:=uP (gI h0).2.2.2.1;exact qu p l w hl hp this.1 (by omega) ht co yM
theorem yI{α:Type}{d:Kd α}{e base:Nat}{w w1:World}{u v v1:Value}{xs:List α}(hE:d.E=[])(h1:d.R e w base (fun j=>some j≠v.ownBlock) u xs)(hg:w.grownBy w1 v.ownBlock)(h2:∀ k,v1.ownBlock=some k->some k≠u.ownBlock) :
  d.R e w1 base (fun j=>some j≠v1.ownBlock) u xs :=
 Kd.fK (Kd.Gx hE (Kd.J7 h1 hE hg (fun k hk e=>h1.1 k e.symm hk.symm))) (fun k hk e=>h2 k e.symm hk)
theorem iD{α:Type}{d:Kd α}{e base bs i:Nat}{ok:Nat->Prop}{w:World}{u:Value}{xs:List α}(h:d.R e w base ok u xs)(hb:bs < base)(z:Value):d.R e (w.setCell ⟨bs,i,none⟩ z) base ok u xs :=
 Kd.fK (Kd.ou (p:=⟨bs,i,none⟩) (Kd.eS h) (fun j hj=>by have:=hj.2.1;show j≠bs;omega) _) (fun j hj=>hj.1)
theorem Ms{P:Program}{ops:Array Oper}{rest:List Oper}{o:Oper}{a:Act}{w:World}{Q:Exit->Act->World->Prop}(hgd:o.guard=none)(ty:TypeId)(x y:Operand)(ho:o.op=.store ty x y)
  (g:Nat) (cells:Array Value) (hx:a.eval x=.pointer (some ⟨g,0,none⟩)) (hy:a.eval y=.agg cells)
  (t:TypeId) (old:Array Value) (hg:w.heap[g]? = some (.cells old t (0,0))) (hi:(P.info? ty).map (·.size)=some cells.size)
  (hold:old.size=cells.size) (h1:cells.all (·.oneCell')=true)
  (h:∀ w1,w1.heap[g]? = some (.cells cells t (0,0))->(∀ k,k≠g->w1.heap[k]? = w.heap[k]?)->(∀ B w0,Below B w0 w->B<=g->Below B w0 w1)->wpList P ops Q rest (a.put o.dst undef) w1):wpList P ops Q (o :: rest) a w :=
 wpList_store_row hgd ty x y ho g cells hx hy t old hg hi hold h1 (h _ (setRow_heap w g old cells t (0,0) hg) (fun k hk=>setRow_other w g k cells hk) (fun B w0 hb hB=>below_setRow hb hB cells))
def Hg(w:World)(b i:Nat):Nat:=match w.cell? ⟨b,i,none⟩ with|some v=>(intOf v).toNat|none=>0
theorem tC{w:World}{b i:Nat}{z:Int}(h:w.cell? ⟨b,i,none⟩=some (.int .i64 z)):Hg w b i=z.toNat:=by
 unfold Hg;rw[h];rfl
structure Ef(w4:World)(bs:Nat)(l:List S99)(kd:List Bool)(A B:Option Addr)(c cb nl:Nat)(a so d h:Int)(W:World):Prop where
 b:W.heap[bs]? = some (.cells #[.slice A nl c,.slice B nl cb,.int .i64 a,.int .i64 so,.int .i64 d,.int .i64 h] 90 (0,0))
 l:k99.R 99 W (bs+1) (fun j=>some j≠(Value.slice B nl cb).ownBlock) (.slice A nl c) l
 k:Kd.bool.R 4 W (bs+1) (fun j=>some j≠(Value.slice A nl c).ownBlock) (.slice B nl cb) kd
 je:Below bs w4 W
namespace Ef
variable{w4 W W':World}{bs:Nat}{l:List S99}{kd:List Bool}{A B:Option Addr}{c cb nl:Nat}{a so d h:Int}
theorem below(q:Ef w4 bs l kd A B c cb nl a so d h W)(hb:Below W.heap.size W W'):Ef w4 bs l kd A B c cb nl a so d h W' :=
 ⟨ay q.b hb,Kd.dL q.l hb,Kd.dL q.k hb,q.je.trans (hb.mono (Nat.le_of_lt (aY q.b)))⟩
theorem UD(q:Ef w4 bs l kd A B c cb nl a so d h W)(z:Int):Ef w4 bs l kd A B c cb nl z so d h (W.setCell ⟨bs,2,none⟩ (.int .i64 z)) :=
 ⟨aN q.b 2 _ rfl,iD q.l (Nat.lt_succ_self _) _,iD q.k (Nat.lt_succ_self _) _,q.je.setCell (Nat.le_refl bs) _⟩
theorem RT(q:Ef w4 bs l kd A B c cb nl a so d h W)(z:Int):Ef w4 bs l kd A B c cb nl a z d h (W.setCell ⟨bs,3,none⟩ (.int .i64 z)) :=
 ⟨aN q.b 3 _ rfl,iD q.l (Nat.lt_succ_self _) _,iD q.k (Nat.lt_succ_self _) _,q.je.setCell (Nat.le_refl bs) _⟩
theorem YD(q:Ef w4 bs l kd A B c cb nl a so d h W)(z:Int):Ef w4 bs l kd A B c cb nl a so d z (W.setCell ⟨bs,5,none⟩ (.int .i64 z)) :=
 ⟨aN q.b 5 _ rfl,iD q.l (Nat.lt_succ_self _) _,iD q.k (Nat.lt_succ_self _) _,q.je.setCell (Nat.le_refl bs) _⟩
theorem reads(q:Ef w4 bs l kd A B c cb nl a so d h W):Kd.C k99 W A nl l/\nl<=c:=by
 obtain⟨A',c',e,hc,_,hC⟩:=fX q.l;injection e with e1 e2 e3;subst e1 e2 e3;exact⟨hC,hc⟩
end Ef
theorem yJ(l:List S99)(z:Nat)(h:0 < z):tu l z=if rz (aV l ((z - 1:Nat):Int))=true then tu l (z - 1) else z:=by
 obtain⟨k,rfl⟩:∃ k,z=k+1:=⟨z - 1,by omega⟩;rfl
theorem AK(l:List S99)(so a:Nat)(h:a < so):rB l so (so - a) a=if (aV l a).f2=3 then rB l so (so - (a+1)) (a+1) else a:=by
 obtain⟨d,hd⟩:∃ d,so - a=d+1:=⟨so - a - 1,by omega⟩;rw[hd,show so - (a+1)=d by omega,rB];by_cases q:(aV l a).f2=3
 .rw[if_pos ⟨h,q⟩,if_pos q]
 .rw[if_neg (fun r=>q r.2),if_neg q]
theorem Jw(l:List S99)(so a:Nat)(h:so<=a):rB l so (so - a) a=a:=by
 rw[show so - a=0 by omega];rfl
def Eh(p:Pa)(x:S46)(w:World)(e:Ending)(w':World):Prop:=∃ A c B cb,e=.returned (.agg #[.slice A (aO p x).l.length c,.slice B (aO p x).l.length cb,.int .i64 ((aO p x).ah:Int),.int .i64 ((aO p x).so:Int),.int .i64 (aO p x).dr,.int .i64 (aO p x).hy]) /\
 k99.R 99 w' w.heap.size (fun _=>True) (.slice A (aO p x).l.length c) (aO p x).l/\Kd.bool.R 4 w' w.heap.size (fun _=>True) (.slice B (aO p x).l.length cb) (aO p x).kd/\(aO p x).l.length<=c/\(aO p x).kd.length=(aO p x).l.length/\Below w.heap.size w w'
theorem zE(p:Pa)(x:S46){As Am:Option Addr}{cs cm:Nat}(w:World)(hA:dK w p As cs Am cm)(hz:p.small)(h0:bB p=0)(hx:gK p x)(htab:Lib.TabIs Tryz.prog w "strings.asciiSpace" .u8 Lib.asciiSpaceTab) :
  Calls Tryz.prog 30 #[.agg (cG p As cs Am cm),.agg (tH x)] w (Eh p x w):=by
 have HA:=aj hA;have HZ:=aj hz;have HX:=aj hx;have HT:=aj htab;have H0:=aj h0;have HB0:=aj ((((Below.refl w.heap.size w).alloc (Nat.le_refl _) (.cells (cG p As cs Am cm) 27)).alloc (by simp) (.cells (tH x) 46)).alloc (by simp;omega) (.cells #[.slice none 0 0,.slice none 0 0,.int .i64 0,.int .i64 0,.int .i64 0,.int .i64 0] 90));have dI:=aj (aP (aP (aH w (.cells (cG p As cs Am cm) 27)) (.cells (tH x) 46)) (.cells #[.slice none 0 0,.slice none 0 0,.int .i64 0,.int .i64 0,.int .i64 0,.int .i64 0] 90));have nj:=aP (aH (w.alloc (.cells (cG p As cs Am cm) 27)) (.cells (tH x) 46)) (.cells #[.slice none 0 0,.slice none 0 0,.int .i64 0,.int .i64 0,.int .i64 0,.int .i64 0] 90);have KG:=aH ((w.alloc (.cells (cG p As cs Am cm) 27)).alloc (.cells (tH x) 46)) (.cells #[.slice none 0 0,.slice none 0 0,.int .i64 0,.int .i64 0,.int .i64 0,.int .i64 0] 90);simp only[World.size_alloc] at nj KG;have kH:=aj nj;have JN:=aj KG;obtain⟨L,hL⟩:∃ L,aW p=L:=⟨_,rfl⟩;have HL:=aj hL;obtain⟨n,hn⟩:∃ n,L.length=n:=⟨_,rfl⟩;have HN:=aj hn;obtain⟨I,hI⟩:∃ I,cT p=I:=⟨_,rfl⟩;have HI:=aj hI;obtain⟨ni,hni⟩:∃ n,I.length=n:=⟨_,rfl⟩;have Ws:=aj hni;have HN3:=aj (show n<=300 by rw[<-hn,<-hL];exact yH hz);have HI6:=aj (show ni<=601 by rw[<-hni,<-hI];exact pW hz);have mS:=aj (show ∀ i∈I,cY i by rw[<-hI];exact sY hz h0);clear hA hz hx htab h0 nj KG hL hn hI hni;go_enter Tryz.func30,Tryz.ntmps30;go_upto_region 1 with(fail);obtain⟨bx,hbx⟩:∃ bx,w.heap.size=bx:=⟨_,rfl⟩;have mK:=aj hbx;rw[hbx] at dI kH JN ⊢;generalize ((w.alloc (.cells (cG p As cs Am cm) 27)).alloc (.cells (tH x) 46)).alloc (.cells #[.slice none 0 0,.slice none 0 0,.int .i64 0,.int .i64 0,.int .i64 0,.int .i64 0] 90)=w0 at *;clear hbx;go_upto_region 2 with(first|((with_reducible refine aS (N:=19) rfl ?_);go_loud(refine wpList_load_row rfl 27 _ rfl bx rfl 27 (cG p As cs Am cm) (0,0) _ (by exact dI.out) Tryz.underlying27 rfl (cV p As cs Am cm) ?_))|(go_at_call 26;go_loud(refine(kG p _ (dK.below HA.out HB0.out) HZ.out).mono ?_;rintro e w1 ⟨v1,rfl,hR1,hb1⟩;rw[HL.out] at hR1;obtain⟨A1,c1,e1,hc1,_,hC1⟩:=fX hR1;rw[HN.out] at e1 hc1 hC1;subst e1;have HC1:=aj (And.intro hC1 hc1);have HB1:=aj (HB0.out.trans (hb1.mono HB0.out.size));have oY:=aj (ay dI.out hb1);have tg:=aj (ay kH.out hb1);have YE:=aj (ay JN.out hb1);clear hR1 hb1 hC1 hc1)));go_upto_region 3 with(first|((with_reducible refine aS (N:=24) rfl ?_);go_loud(refine wpList_load_row rfl 27 _ rfl bx rfl 27 (cG p As cs Am cm) (0,0) _ (by exact oY.out) Tryz.underlying27 rfl (cV p As cs Am cm) ?_))|(go_at_call 12;go_loud(refine(DG p _ (dK.below HA.out HB1.out) HZ.out H0.out (eG HT.out HB1.out)).mono ?_;rintro e w2 ⟨v2,rfl,hR2,hb2⟩;rw[HI.out] at hR2;obtain⟨A2,c2,e2,hc2,_,hC2⟩:=fX hR2;rw[Ws.out] at e2 hc2 hC2;subst e2;have HC2:=aj (And.intro hC2 hc2);have HD2:=aj (And.intro (Kd.aM HC1.out.1 hb2) HC1.out.2);have HB2:=aj (HB1.out.trans (hb2.mono HB1.out.size));have nu:=aj (ay oY.out hb2);have nY:=aj (ay tg.out hb2);have Ik:=aj (ay YE.out hb2);clear hR2 hb2 hC2 hc2)));have hmm:=@run_makeMap Tryz.prog;have HM0:=aj (MF.made w2 3);have HB3:=aj (HB2.out.alloc HB2.out.size (.map #[] 0));have HW3:=aj (show Below w2.heap.size w2 (w2.alloc (.map #[] 0)) from (Below.refl _ _).alloc (Nat.le_refl _) _);go_wp2;obtain⟨bm,F4⟩:∃ b,w2.heap.size=b:=⟨_,rfl⟩;have lI:=aj F4;rw[F4] at HM0 ⊢;have HW3:=aj (show Below bm w2 (w2.alloc (.map #[] 0)) by rw[<-F4];exact HW3.out);have HC2:=aj (show ∀ W,Below bm w2 W->Kd.C k75 W A2 ni I by rw[<-F4];exact fun W h=>Kd.aM HC2.out.1 h);have HIR:=aj (show ∀ i∈I,sm i.f1 by
  intro i hi;have h1:=zD (p:=p) HZ.out H0.out i (by rw[HI.out];exact hi);unfold sm;have:=HZ.out.tx;omega)
 clear F4 hmm;go_loopw [31] (fun v31 wr=>∃ (y:Int) (k:Nat) (F:Lit->Option Value),v31=.int .i64 y/\aC (y=(k:Int)/\k<=ni)/\aC (MF wr 3 bm k F/\BF F (I.take k))/\aC (Below bm w2 wr)) (fun v31 _=>ni - (intOf v31).toNat)
 case atStart=>exact⟨0,0,_,rfl,⟨rfl,Nat.zero_le _⟩,⟨HM0.out,by rw[List.take_zero];exact BF.nil⟩,HW3⟩
 case round =>
  obtain⟨y,k,F,rfl,hy,hM,hB⟩:=hrel;by_cases hlt:k < ni
  .have d1:decide (y < (ni:Int))=true:=decide_eq_true (by have:=hy.out.1;omega);have q0:0<=y:=by have:=hy.out.1;omega
   have q1:y < (ni:Int):=by have:=hy.out.1;omega
   have q2:y<=601:=by have:=HI6.out;omega
   obtain⟨ad,e0,k0,k1,k2,k3,k4,k5,k6,k7⟩:=eD (HC2.out _ hB.out) y q0 q1;subst e0;have Ie:=Ju (l:=I) (k:=k) (by rw[Ws.out];exact hlt);have hmem:=Mr (l:=I) (k:=k) (by rw[Ws.out];exact hlt);rw[<-hy.out.1] at Ie hmem;have qP:=HIR.out _ hmem;obtain⟨i,hi⟩:∃ i,fL I y=i:=⟨_,rfl⟩;rw[hi] at k0 k1 k2 k3 k4 k5 k6 k7 Ie qP;have rE:=aj (And.intro Ie qP);have z0:=cM k0 (.cells #[.int .i64 0,.int .i64 0,.int .i64 0,.int .i64 0,.int .i64 0,.int .i64 0,.int .i64 0,.bool false] 75);have cg:=aj hlt;have p0:=eq_true q0;have p1:=eq_true q1;have Z1:=aj (hM.out.1.block (w':=wr.alloc (.cells #[.int .i64 i.f0,.int .i64 i.f1,.int .i64 i.f2,.int .i64 i.f3,.int .i64 i.f4,.int .i64 i.f5,.int .i64 i.f6,.bool i.f7] 75)) (Below.heap_alloc _ _ _ hM.out.1.lt));have L9:=aj (hB.out.alloc (by have h1:=hB.out.size;have:=lI.out;omega) (.cells #[.int .i64 i.f0,.int .i64 i.f1,.int .i64 i.f2,.int .i64 i.f3,.int .i64 i.f4,.int .i64 i.f5,.int .i64 i.f6,.bool i.f7] 75));clear hlt Ie hmem qP hi;by_cases c3:i.f0=3
   .have d2:(i.f0 == 3)=true:=beq_iff_eq.mpr c3;have Oz:=aj (show BF (sM F (.int .i64 i.f1) (.bool true)) (I.take (k+1)) by rw[rE.out.1];exact hM.out.2.put c3);clear c3;go_wp2_with (refine MF.store rfl _ _ _ 148 rfl Z1.out Mq Tryz.underlying148 (by have:=cg.out;have:=HI6.out;simp[maxLen];omega) rfl rfl rfl (UC rE.out.2) ?_;intro w9 hM9 hg9);go_roundw
    case rel=>exact⟨y+1,k+1,_,rfl,⟨by have:=hy.out.1;omega,cg.out⟩,⟨hM9,Oz.out⟩,⟨Co L9.out hg9 (by have:=lI.out;omega) (Nat.le_refl _)⟩⟩
    case measure=>have:=cg.out;have:=hy.out;simp[intOf];omega
   .have d2:(i.f0 == 3)=false:=beq_eq_false_iff_ne.mpr c3;have Oz:=aj (show BF F (I.take (k+1)) by rw[rE.out.1];exact hM.out.2.skip c3);clear c3;go_wp2;go_roundw
    case rel=>exact⟨y+1,k+1,F,rfl,⟨by have:=hy.out.1;omega,cg.out⟩,⟨Z1.out.mono (by omega),Oz.out⟩,L9⟩
    case measure=>have:=cg.out;have:=hy.out;simp[intOf];omega
  .have d1:decide (y < (ni:Int))=false:=decide_eq_false (by have:=hy.out.1;omega);have Fq:=aj (show BF F I by
    have:=hM.out.2;rw[List.take_of_length_le (by rw[Ws.out];omega)] at this;exact this)
   have HM4:=aj (hM.out.1.block (w':=wr.alloc (.cells #[.slice none 0 0,.slice none 0 0,.int .i64 0,.int .i64 0,.int .i64 0,.int .i64 0] 90)) (Below.heap_alloc _ _ _ hM.out.1.lt));have HB4:=aj (hB.out.alloc (by have h1:=hB.out.size;have:=lI.out;omega) (.cells #[.slice none 0 0,.slice none 0 0,.int .i64 0,.int .i64 0,.int .i64 0,.int .i64 0] 90));have HS4:=aj (aH wr (.cells #[.slice none 0 0,.slice none 0 0,.int .i64 0,.int .i64 0,.int .i64 0,.int .i64 0] 90));have Mt:=aj (show bm < wr.heap.size from hM.out.1.lt);obtain⟨kF,hkF⟩:∃ j,k=j:=⟨_,rfl⟩;rw[hkF] at HM4;clear hlt;go_wp2;obtain⟨bs,hbs⟩:∃ b,wr.heap.size=b:=⟨_,rfl⟩;have YF:=aj (show(wr.alloc (.cells #[.slice none 0 0,.slice none 0 0,.int .i64 0,.int .i64 0,.int .i64 0,.int .i64 0] 90)).heap.size=bs+1 by rw[World.size_alloc,hbs]);rw[hbs] at HS4 Mt ⊢;clear hbs;generalize wr.alloc (.cells #[.slice none 0 0,.slice none 0 0,.int .i64 0,.int .i64 0,.int .i64 0,.int .i64 0] 90)=w4 at *;obtain⟨cp,MV⟩:∃ cp,ig p L=cp:=⟨_,rfl⟩;have MY:=aj MV;obtain⟨sF,Z2⟩:∃ sF,iJ x I cp L ⟨[],[],0⟩=sF:=⟨_,rfl⟩;have VR:=aj Z2;clear MV Z2;go_loopw [44] (fun v44 wq=>∃ (y:Int) (k:Nat) (s:JX),v44=.int .i64 y/\aC (y=(k:Int)/\k<=n)/\aC (iJ x I cp (L.drop k) s=sF/\s.l.length<=k/\s.kd.length=s.l.length)/\aC (Jv w4 bs bm kF F s wq)) (fun v44 _=>n - (intOf v44).toNat)
   case atStart=>exact⟨0,0,⟨[],[],0⟩,rfl,⟨rfl,Nat.zero_le _⟩,⟨by rw[List.drop_zero];exact VR.out,Nat.le_refl _,rfl⟩,⟨⟨none,0,none,0,HS4.out,Kd.nO _ _ _ _ _,Kd.nO _ _ _ _ _⟩,HM4.out,Below.refl _ _⟩⟩
   case round =>
    obtain⟨y,k,s,rfl,hy,hs,hP⟩:=hrel;by_cases hlt:k < n
    .have d1:decide (y < (n:Int))=true:=decide_eq_true (by have:=hy.out.1;omega);have q0:0<=y:=(by have:=hy.out.1;omega);have q1:y < (n:Int):=(by have:=hy.out.1;omega);have q3:y<=300:=(by have:=HN3.out;omega);have HQ:=aj (show Below bm w2 wr from HB4.out.trans (hP.out.je.mono (by have:=Mt.out;omega)));have HQ2:=aj (show Below w2.heap.size w2 wr by rw[lI.out];exact HQ.out);obtain⟨ad,e0,k0,k1,k2,k3,k4,k5⟩:=eV (Kd.aM HD2.out.1 HQ2.out) y q0 q1;subst e0;have tD:=drop_at (l:=L) (k:=k) (by rw[HN.out];exact hlt);rw[<-hy.out.1] at tD;obtain⟨m,hm⟩:∃ m,aV L y=m:=⟨_,rfl⟩;rw[hm] at k0 k1 k2 k3 k4 k5 tD;have hs1:=hs.out.1;rw[tD,iJ] at hs1;have HS1:=aj hs1;have z0:=cM k0 (.cells #[.int .i64 0,.int .i64 0,.int .i64 0,.int .i64 0,.int .i64 0,.int .i64 0] 99);have cg:=aj hlt;have p0:=eq_true q0;have p1:=eq_true q1;have wN:=aj (show sm m.f0 from by
      have h1:m∈L:=List.mem_of_mem_drop (i:=k) (by rw[tD];simp);have h2:=(cZ HZ.out H0.out m (by rw[HL.out];exact h1)).2.1;have:=HZ.out.tx;unfold sm;omega)
     clear hlt tD hm hs1;go_upto_region 14 with(fail);have tF:=aj (aH wr (.cells (Au m) 99));have JT:=aj (show Below wr.heap.size wr (wr.alloc (.cells (Au m) 99)) from (Below.refl _ _).alloc (Nat.le_refl _) _);have QL:=aj (show Jv w4 bs bm kF F s (wr.alloc (.cells (Au m) 99)) from by
      obtain⟨⟨A,c,B,cb,h1,h2,h3⟩,h4,h5⟩:=hP.out;exact⟨⟨A,c,B,cb,ay h1 JT.out,Kd.dL h2 JT.out,Kd.dL h3 JT.out⟩,h4.block (Below.heap_alloc _ _ _ h4.lt),h5.alloc (by have h6:=h5.size;have:=YF.out;omega) _⟩)
     obtain⟨bq,vJ⟩:∃ b,wr.heap.size=b:=⟨_,rfl⟩;have ac1:=aj vJ;rw[vJ] at tF ⊢;clear vJ k0 k1 k2 k3 k4 k5 z0;generalize wr.alloc (.cells (Au m) 99)=w5 at *;have HQ5:=aj (HQ2.out.trans (JT.out.mono HQ2.out.size));have m0:w5.cell? ⟨bq,0,none⟩=some (.int .i64 m.f0):=(ak tF.out 0).trans rfl;have x0:w5.cell? ⟨bx+1,0,none⟩=some (.int .i64 x.f0):=(ak (ay nY.out HQ5.out) 0).trans rfl;have x1:w5.cell? ⟨bx+1,1,none⟩=some (.int .i64 x.f1):=(ak (ay nY.out HQ5.out) 1).trans rfl;obtain⟨ob,Jy⟩:∃ ob,zB x m=ob:=⟨_,rfl⟩;have UE:=aj Jy;go_cut [59] (fun v59 wc=>v59=.bool ob/\w5=wc)
     case first =>
      by_cases c1:m.f0 < x.f0
      .have d2:decide (m.f0 < x.f0)=true:=decide_eq_true c1;have HE:=aj (show true=ob by rw[<-Jy];unfold zB;rw[d2];rfl);clear Jy c1;go_wp2;go_meet
       case rel=>exact⟨by rw[<-HE.out],(by first|rfl|trivial)⟩
      .have d2:decide (m.f0 < x.f0)=false:=decide_eq_false c1;obtain⟨d,hd⟩:∃ d,decide (x.f1<=m.f0)=d:=⟨_,rfl⟩;have HE:=aj (show d=ob by rw[<-Jy,<-hd];unfold zB;rw[d2];rfl);clear Jy c1;go_wp2;go_meet
       case rel=>exact⟨by rw[<-HE.out],(by first|rfl|trivial)⟩
     case rest =>
      obtain⟨rfl,rfl⟩:=hcut;clear Jy x0 x1;cases ob with
      | true =>
       have HST:=aj (show iJ x I cp (L.drop (k+1)) s=sF by
        have:=HS1.out;unfold iR at this;rw[if_pos UE.out] at this;exact this)
       go_wp2;go_roundw
       case rel=>exact⟨y+1,k+1,s,rfl,⟨by have:=hy.out.1;omega,cg.out⟩,⟨HST.out,by have:=hs.out.2.1;omega,hs.out.2.2⟩,QL⟩
       case measure=>have:=cg.out;have:=hy.out;simp[intOf];omega
      | false =>
       have Bs:=aj (ay nu.out HQ5.out);have Wt:=aj (Kd.aM HD2.out.1 HQ5.out);have M7:=aj (show L≠[]->0 < p.tx.size from fun h=>(wP (p:=p) (by rw[HL.out];exact h)).2);obtain⟨db,hdb⟩:∃ db,(m.f0 == 0 && decide (0 < cp))=db:=⟨_,rfl⟩;have Pt:=aj hdb;go_upto_region 15 with(fail);go_cut [68] (fun v68 wc=>v68=.bool db/\Below w5.heap.size w5 wc)
       case first =>
        by_cases c1:m.f0=0
        .have d2:(m.f0 == 0)=true:=beq_iff_eq.mpr c1;obtain⟨d,hd⟩:∃ d,decide (0 < cp)=d:=⟨_,rfl⟩;have HE:=aj (show d=db by rw[<-hdb,<-hd,d2];rfl);clear hdb c1;go_wp2_with (first|((with_reducible refine aS (N:=64) rfl ?_);go_loud(refine tB (by first|rfl|(go_simp;done)) _ rfl bx rfl p As Am cs cm (by exact Bs.out) ?_))|(go_at_call 27;go_loud(refine(PN p L _ HN.out Wt.out M7.out H0.out HZ.out.tx cp MY.out).mono ?_;rintro e w6 ⟨rfl,hb6⟩)));go_meet
         case rel=>exact⟨by rw[<-HE.out],hb6⟩
        .have d2:(m.f0 == 0)=false:=beq_eq_false_iff_ne.mpr c1;have HE:=aj (show false=db by rw[<-hdb,d2];rfl);clear hdb c1;go_wp2;go_meet
         case rel=>exact⟨by rw[<-HE.out],Below.refl _ _⟩
       case rest =>
        obtain⟨rfl,hb6⟩:=hcut;have HB6:=aj hb6;have HP6:=aj (QL.out.below hb6);have YG:=aj (ay Bs.out hb6);have YH:=aj (Kd.aM Wt.out hb6);clear hdb hb6 m0;cases db with
        | true =>
         obtain⟨⟨A,c,B,cb,h1,h2,h3⟩,h4,h5⟩:=HP6.out;have HR1:=aj h1;have HR2:=aj h2;have HR3:=aj h3;have HR4:=aj h4;have HR5:=aj h5;have HST:=aj (show iJ x I cp (L.drop (k+1)) ⟨s.l,s.kd,cp⟩=sF by
          have:=HS1.out;unfold iR at this;rw[if_neg (by rw[UE.out];decide),if_pos (by have h:=Pt.out;simp only[Bool.and_eq_true,beq_iff_eq,decide_eq_true_eq] at h;exact h)] at this;exact this)
         clear h1 h2 h3 h4 h5;go_wp2_with (first|((with_reducible refine aS (N:=69) rfl ?_);go_loud(refine wpList_load_row rfl 27 _ rfl bx rfl 27 (cG p As cs Am cm) (0,0) _ (by exact YG.out) Tryz.underlying27 rfl (cV p As cs Am cm) ?_))|(go_at_call 27;go_loud(refine(PN p L _ HN.out YH.out M7.out H0.out HZ.out.tx cp MY.out).mono ?_;rintro e w7 ⟨rfl,hb7⟩;have HB7:=aj hb7;have b4:w7.cell? ⟨bs,4,none⟩=some (.int .i64 s.dr):=(ak (ay HR1.out hb7) 4).trans rfl;have fz:=aB (ay HR1.out hb7) 4;clear hb7)));go_roundw
         case rel=>exact⟨y+1,k+1,⟨s.l,s.kd,cp⟩,rfl,⟨by have:=hy.out.1;omega,cg.out⟩,⟨HST.out,by have:=hs.out.2.1;show s.l.length<=k+1;omega,hs.out.2.2⟩,⟨⟨A,c,B,cb,aN (ay HR1.out HB7.out) 4 _ rfl,Kd.fK (Kd.ou (p:=⟨bs,4,none⟩) (Kd.eS (Kd.dL HR2.out HB7.out)) (fun j hj=>by have:=hj.2.1;show j≠bs;omega) _) (fun j hj=>hj.1),Kd.fK (Kd.ou (p:=⟨bs,4,none⟩) (Kd.eS (Kd.dL HR3.out HB7.out)) (fun j hj=>by have:=hj.2.1;show j≠bs;omega) _) (fun j hj=>hj.1)⟩,(HR4.out.block (HB7.out.block _ HR4.out.lt)).block (Below.heap_setCell _ ⟨bs,4,none⟩ _ bm (by have:=Mt.out;show bm≠bs;omega)),(HR5.out.trans (HB7.out.mono (Nat.le_of_lt (aY HR1.out)))).setCell (Nat.le_refl bs) _⟩⟩
         case measure=>have:=cg.out;have:=hy.out;simp[intOf];omega
        | false =>
         obtain⟨⟨A,c,B,cb,h1,h2,h3⟩,h4,h5⟩:=HP6.out;obtain⟨nl,hnl⟩:∃ n,s.l.length=n:=⟨_,rfl⟩;have nQ:=aj hnl;have hkl:s.kd.length=nl:=hs.out.2.2.trans hnl;have Jd:=aj hkl;obtain⟨b,hb⟩:∃ b,Jm I m.f0=b:=⟨_,rfl⟩;obtain⟨dd,UF⟩:∃ dd,(decide (0 < nl) && !b)=dd:=⟨_,rfl⟩;have HST:=aj (show iJ x I cp (L.drop (k+1)) ⟨s.l ++ [m],s.kd ++ [dd],s.dr⟩=sF by
          have:=HS1.out;unfold iR at this;rw[if_neg (by rw[UE.out];decide),if_neg (by have h:=Pt.out;intro q;rw[decide_eq_true q.2,q.1] at h;cases h),hnl,hb,UF] at this;exact this)
         rw[hnl,hkl] at h1;rw[hnl,hkl] at h2 h3;have lk:(Instr.lookup 148 (.map (some bm)) (.int .i64 m.f0) false).run Tryz.prog wc=.ok (.bool b) wc:=by
          have:=h4.look Mq Tryz.underlying148 (Tryz.zeroValue4 wc) (UC wN.out) false;rw[this,Fq.out _ wN.out,hb];cases b<;>rfl
         have HR1:=aj h1;have HR2:=aj h2;have HR3:=aj h3;have HR4:=aj h4;have HR5:=aj h5;have Cp:=aj (ay tF.out HB6.out);have zf:=aj (show bs < wc.heap.size/\bq < wc.heap.size/\bs≠bq from ⟨aY h1,aY Cp.out,by intro q;have e1:=Cp.out;rw[<-q,h1] at e1;injection e1 with e1;injection e1 with _ e1;cases e1⟩);have Sj:=aj lk;have m0:wc.cell? ⟨bq,0,none⟩=some (.int .i64 m.f0):=(ak Cp.out 0).trans rfl;have b0:wc.cell? ⟨bs,0,none⟩=some (.slice A nl c):=(ak h1 0).trans rfl;have b1:wc.cell? ⟨bs,1,none⟩=some (.slice B nl cb):=(ak h1 1).trans rfl;clear h1 h2 h3 h4 h5 hnl hkl hb lk;go_upto_region 17 with(fail);go_cut [14] (fun v14 wd=>v14=.pointer (some ⟨bq,0,none⟩)/\Jv w4 bs bm kF F ⟨s.l,s.kd ++ [dd],s.dr⟩ wd/\wd.heap[bq]? = some (.cells (Au m) 99 (0,0)))
         case first =>
          by_cases hp:0 < nl
          .have d2:decide (0 < (nl:Int))=true:=decide_eq_true (by omega);have d3:decide (0 < nl)=true:=decide_eq_true hp;have lk:=Sj.out;obtain⟨nb,hnb⟩:∃ nb,(!b)=nb:=⟨_,rfl⟩;have HE:=aj (show nb=dd by rw[<-UF,<-hnb,decide_eq_true hp,Bool.true_and]);clear hp UF;go_wp2_with ((with_reducible refine aS (N:=87) rfl ?_);go_loud(refine Kd.gH Kd.bool (w0:=wc) (W:=wc) (bs+1) rfl (.tmp 74) (.tmp 86) 88 4 (.bool false) 1 rfl Tryz.underlying88 Kg rfl (by decide) (by decide) (.slice B nl cb) s.kd nb [.bool nb] (fun j=>some j≠(Value.slice A nl c).ownBlock) (fun _=>False) (by rfl) (by rfl) rfl (fun _ h=>h.elim) (fun j hj he=>by have:=Kd.ED HR2.out j he.symm;omega) HR3.out (Below.refl _ _) (by have:=zf.out;omega) (by rw[Jd.out];have h1:=hs.out.2.1;rw[nQ.out] at h1;have:=cg.out;have:=HN3.out;omega) ?_;intro v1 w1 hR1 hB1 kr _;obtain⟨A9,c9,e9,hc9,ha9,hC9⟩:=fX hR1;generalize hN9:(s.kd ++ [nb]).length=N9 at e9;subst e9;have HN9:=aj hN9;have HQ1:=aj hR1;have G2:=aj hB1;have xY:=aj kr;have HX1:=aj (cJ HR1.out kr (fun he=>by have:=Kd.eS HR3.out;have h:=this.1 bs he.symm;have:=h.2.1;omega));have y1:w1.cell? ⟨bs,1,none⟩=some (.slice B nl cb):=(ak HX1.out 1).trans rfl;have fz:=aB HX1.out 1;clear hR1 hB1 kr hN9 hc9 ha9 hC9));go_meet
           case rel =>
            rw[HE.out] at HQ1 HN9;refine⟨rfl,⟨⟨A,c,A9,c9,?_,?_,?_⟩,?_,?_⟩,?_⟩
            .rw[nQ.out,HN9.out];exact aN HX1.out 1 _ rfl
            .rw[nQ.out,HN9.out];exact iD (yI rfl HR2.out xY.out (fun k hk=>HQ1.out.1 k hk)) (Nat.lt_succ_self _) _
            .rw[nQ.out,HN9.out];exact iD HQ1.out (Nat.lt_succ_self _) _
            .exact(MF.kept HR4.out xY.out (fun he=>by have h:=(Kd.eS HR3.out).1 bm he.symm;have:=h.2.1;have:=Mt.out;omega)).block (Below.heap_setCell _ ⟨bs,1,none⟩ _ bm (by have:=Mt.out;show bm≠bs;omega))
            .exact(HR5.out.trans (G2.out.mono (Nat.le_succ _))).setCell (Nat.le_refl bs) _
            .exact cw (p:=⟨bs,1,none⟩) (cJ Cp.out xY.out (fun he=>by have h:=(Kd.eS HR3.out).1 bq he.symm;obtain⟨_,_,_,q,hq,cells,hc⟩:=h;rw[Cp.out] at hc;injection hc with hc;injection hc with _ hc;subst hc;revert hq;decide)) (by have:=zf.out;show bq≠bs;omega) _
          .have d2:decide (0 < (nl:Int))=false:=decide_eq_false (by omega);have d3:decide (0 < nl)=false:=decide_eq_false hp;have HE:=aj (show false=dd by rw[<-UF,decide_eq_false hp,Bool.false_and]);clear hp UF;go_wp2_with ((with_reducible refine aS (N:=87) rfl ?_);go_loud(refine Kd.gH Kd.bool (w0:=wc) (W:=wc) (bs+1) rfl (.tmp 74) (.tmp 86) 88 4 (.bool false) 1 rfl Tryz.underlying88 Kg rfl (by decide) (by decide) (.slice B nl cb) s.kd false [.bool false] (fun j=>some j≠(Value.slice A nl c).ownBlock) (fun _=>False) (by rfl) (by rfl) rfl (fun _ h=>h.elim) (fun j hj he=>by have:=Kd.ED HR2.out j he.symm;omega) HR3.out (Below.refl _ _) (by have:=zf.out;omega) (by rw[Jd.out];have h1:=hs.out.2.1;rw[nQ.out] at h1;have:=cg.out;have:=HN3.out;omega) ?_;intro v1 w1 hR1 hB1 kr _;obtain⟨A9,c9,e9,hc9,ha9,hC9⟩:=fX hR1;generalize hN9:(s.kd ++ [false]).length=N9 at e9;subst e9;have HN9:=aj hN9;have HQ1:=aj hR1;have G2:=aj hB1;have xY:=aj kr;have HX1:=aj (cJ HR1.out kr (fun he=>by have:=Kd.eS HR3.out;have h:=this.1 bs he.symm;have:=h.2.1;omega));have y1:w1.cell? ⟨bs,1,none⟩=some (.slice B nl cb):=(ak HX1.out 1).trans rfl;have fz:=aB HX1.out 1;clear hR1 hB1 kr hN9 hc9 ha9 hC9));go_meet
           case rel =>
            rw[HE.out] at HQ1 HN9;refine⟨rfl,⟨⟨A,c,A9,c9,?_,?_,?_⟩,?_,?_⟩,?_⟩
            .rw[nQ.out,HN9.out];exact aN HX1.out 1 _ rfl
            .rw[nQ.out,HN9.out];exact iD (yI rfl HR2.out xY.out (fun k hk=>HQ1.out.1 k hk)) (Nat.lt_succ_self _) _
            .rw[nQ.out,HN9.out];exact iD HQ1.out (Nat.lt_succ_self _) _
            .exact(MF.kept HR4.out xY.out (fun he=>by have h:=(Kd.eS HR3.out).1 bm he.symm;have:=h.2.1;have:=Mt.out;omega)).block (Below.heap_setCell _ ⟨bs,1,none⟩ _ bm (by have:=Mt.out;show bm≠bs;omega))
            .exact(HR5.out.trans (G2.out.mono (Nat.le_succ _))).setCell (Nat.le_refl bs) _
            .exact cw (p:=⟨bs,1,none⟩) (cJ Cp.out xY.out (fun he=>by have h:=(Kd.eS HR3.out).1 bq he.symm;obtain⟨_,_,_,q,hq,cells,hc⟩:=h;rw[Cp.out] at hc;injection hc with hc;injection hc with _ hc;subst hc;revert hq;decide)) (by have:=zf.out;show bq≠bs;omega) _
         case rest =>
          obtain⟨rfl,hP7,hR7⟩:=hcut;clear HR1 HR2 HR3 HR4 HR5 Cp zf Sj;obtain⟨⟨A,c,B,cb,h1,h2,h3⟩,h4,h5⟩:=hP7;obtain⟨N2,hN2⟩:∃ n,(s.kd ++ [dd]).length=n:=⟨_,rfl⟩;have HN2:=aj (And.intro hN2 (show N2=(s.l ++ [m]).length by rw[<-hN2,List.length_append,List.length_append,Jd.out,nQ.out];rfl));replace h1:wc.heap[bs]? = some (.cells #[.slice A s.l.length c,.slice B (s.kd ++ [dd]).length cb,.int .i64 0,.int .i64 0,.int .i64 s.dr,.int .i64 0] 90 (0,0)):=h1;replace h2:k99.R 99 wc (bs+1) (fun j=>some j≠(Value.slice B (s.kd ++ [dd]).length cb).ownBlock) (.slice A s.l.length c) s.l:=h2;replace h3:Kd.bool.R 4 wc (bs+1) (fun j=>some j≠(Value.slice A s.l.length c).ownBlock) (.slice B (s.kd ++ [dd]).length cb) (s.kd ++ [dd]):=h3;rw[nQ.out,hN2] at h1 h2 h3;have HR1:=aj h1;have HR2:=aj h2;have HR3:=aj h3;have HR4:=aj h4;have HR5:=aj h5;have Cp:=aj hR7;have zf:=aj (show bs < wc.heap.size/\bq < wc.heap.size/\bs≠bq from ⟨aY h1,aY hR7,by intro q;have e1:=hR7;rw[<-q,h1] at e1;injection e1 with e1;injection e1 with _ e1;cases e1⟩);have m0:wc.cell? ⟨bq,0,none⟩=some (.int .i64 m.f0):=(ak hR7 0).trans rfl;have m1:wc.cell? ⟨bq,1,none⟩=some (.int .i64 m.f1):=(ak hR7 1).trans rfl;have m2:wc.cell? ⟨bq,2,none⟩=some (.int .i64 m.f2):=(ak hR7 2).trans rfl;have m3:wc.cell? ⟨bq,3,none⟩=some (.int .i64 m.f3):=(ak hR7 3).trans rfl;have m4:wc.cell? ⟨bq,4,none⟩=some (.int .i64 m.f4):=(ak hR7 4).trans rfl;have m5:wc.cell? ⟨bq,5,none⟩=some (.int .i64 m.f5):=(ak hR7 5).trans rfl;have b0:wc.cell? ⟨bs,0,none⟩=some (.slice A nl c):=(ak h1 0).trans rfl;clear h1 h2 h3 h4 h5 hN2 hR7;go_wp2_with ((with_reducible refine aS (N:=93) rfl ?_);go_loud(refine Kd.gH k99 (w0:=wc) (W:=wc) (bs+1) rfl (.tmp 90) (.tmp 92) 82 99 (.agg #[(.int .i64 0),(.int .i64 0),(.int .i64 0),(.int .i64 0),(.int .i64 0),(.int .i64 0)]) 48 rfl Tryz.underlying82 J8 rfl (by decide) (by decide) (.slice A nl c) s.l m [.int .i64 m.f0,.int .i64 m.f1,.int .i64 m.f2,.int .i64 m.f3,.int .i64 m.f4,.int .i64 m.f5] (fun j=>some j≠(Value.slice B N2 cb).ownBlock) (fun _=>False) (by rfl) (by rfl) (Gy _ _ _ _) (fun _ h=>h.elim) (fun j hj he=>by have:=Kd.ED HR3.out j he.symm;omega) HR2.out (Below.refl _ _) (by have:=zf.out;omega) (by have h1:=hs.out.2.1;have:=cg.out;have:=HN3.out;omega) ?_;intro v1 w1 hR1 hB1 kr _;obtain⟨A9,c9,e9,hc9,ha9,hC9⟩:=fX hR1;generalize hN9:(s.l ++ [m]).length=N9 at e9;subst e9;have HN9:=aj hN9;have HQ1:=aj hR1;have G2:=aj hB1;have xY:=aj kr;have HX1:=aj (cJ HR1.out kr (fun he=>by have:=Kd.eS HR2.out;have h:=this.1 bs he.symm;have:=h.2.1;omega));have y1:w1.cell? ⟨bs,0,none⟩=some (.slice A nl c):=(ak HX1.out 0).trans rfl;have fz:=aB HX1.out 0;clear hR1 hB1 kr hN9 hc9 ha9 hC9));go_roundw
          case rel =>
           refine⟨y+1,k+1,⟨s.l ++ [m],s.kd ++ [dd],s.dr⟩,rfl,⟨by have:=hy.out.1;omega,cg.out⟩,⟨HST.out,?_,?_⟩,⟨⟨A9,c9,B,cb,?_,?_,?_⟩,?_,?_⟩⟩
           .show(s.l ++ [m]).length<=k+1;rw[List.length_append];have:=hs.out.2.1;simp only[List.length_cons,List.length_nil];omega
           .show(s.kd ++ [dd]).length=(s.l ++ [m]).length;rw[HN2.out.1,HN2.out.2]
           .show(w1.setCell ⟨bs,0,none⟩ (.slice A9 N9 c9)).heap[bs]? = some (.cells #[.slice A9 (s.l ++ [m]).length c9,.slice B (s.kd ++ [dd]).length cb,.int .i64 0,.int .i64 0,.int .i64 s.dr,.int .i64 0] 90 (0,0));rw[HN9.out,HN2.out.1];exact aN HX1.out 0 _ rfl
           .show k99.R 99 (w1.setCell ⟨bs,0,none⟩ (.slice A9 N9 c9)) (bs+1) (fun j=>some j≠(Value.slice B (s.kd ++ [dd]).length cb).ownBlock) (.slice A9 (s.l ++ [m]).length c9) (s.l ++ [m]);rw[HN9.out,HN2.out.1];exact iD HQ1.out (Nat.lt_succ_self _) _
           .show Kd.bool.R 4 (w1.setCell ⟨bs,0,none⟩ (.slice A9 N9 c9)) (bs+1) (fun j=>some j≠(Value.slice A9 (s.l ++ [m]).length c9).ownBlock) (.slice B (s.kd ++ [dd]).length cb) (s.kd ++ [dd]);rw[HN9.out,HN2.out.1];exact iD (yI rfl HR3.out xY.out (fun k hk=>HQ1.out.1 k hk)) (Nat.lt_succ_self _) _
           .exact(MF.kept HR4.out xY.out (fun he=>by have h:=(Kd.eS HR2.out).1 bm he.symm;have:=h.2.1;have:=Mt.out;omega)).block (Below.heap_setCell _ ⟨bs,0,none⟩ _ bm (by have:=Mt.out;show bm≠bs;omega))
           .exact(HR5.out.trans (G2.out.mono (Nat.le_succ _))).setCell (Nat.le_refl bs) _
          case measure=>have:=cg.out;have:=hy.out;simp[intOf];omega
    .have d1:decide (y < (n:Int))=false:=decide_eq_false (by have:=hy.out.1;omega);have YI:=aj (show s=sF by
      have:=hs.out.1;rw[List.drop_eq_nil_of_le (by rw[HN.out];omega)] at this;exact this)
     have Jd:=aj hs.out.2.2;obtain⟨⟨A,c,B,cb,h1,h2,h3⟩,h4,h5⟩:=hP.out;obtain⟨eT,kQ,dr⟩:=s;obtain⟨nl,hnl⟩:∃ n,eT.length=n:=⟨_,rfl⟩;have hkl:kQ.length=nl:=Jd.out.trans hnl;have nQ:=aj hnl;have tG:=aj hkl;have HN4:=aj (show nl<=300 by have h:=hs.out.2.1;have h':eT.length<=k:=h;have:=hy.out.2;have:=HN3.out;omega);have HQ:=aj (show Ef w4 bs eT kQ A B c cb nl 0 0 dr 0 wr from by
      refine⟨?_,?_,?_,h5⟩
      .rw[<-hkl];rw[<-hkl] at hnl;rw[show kQ.length=eT.length from hnl.symm];rw[show kQ.length=eT.length from hnl.symm] at h1;exact h1
      .have:=h2;rw[show(JX.mk eT kQ dr).l.length=nl from hnl,show(JX.mk eT kQ dr).kd.length=nl from hkl] at this;exact this
      .have:=h3;rw[show(JX.mk eT kQ dr).l.length=nl from hnl,show(JX.mk eT kQ dr).kd.length=nl from hkl] at this;exact this)
     have b0:wr.cell? ⟨bs,0,none⟩=some (.slice A nl c):=(ak HQ.out.b 0).trans rfl;have b3:wr.cell? ⟨bs,3,none⟩=some (.int .i64 0):=(ak HQ.out.b 3).trans rfl;have fz:=aB HQ.out.b 3;have HQ3:=aj (HQ.out.RT (nl:Int));clear h1 h2 h3 h4 h5 hnl hkl hlt;go_wp2;clear b0 b3 fz;obtain⟨SO,Z4⟩:∃ SO,tu eT nl=SO:=⟨_,rfl⟩;have KH:=aj Z4;clear Z4;generalize wr.setCell ⟨bs,3,none⟩ (.int .i64 (nl:Int))=w8 at *;have HW8:=aj (show ∀ W,Below bs w4 W->Below w2.heap.size w2 W from fun W hW=>by rw[lI.out];exact HB4.out.trans (hW.mono (Nat.le_of_lt Mt.out)));go_loopw [] (fun wq=>∃ (z:Nat),aC (z<=nl/\tu eT z=SO)/\aC (Ef w4 bs eT kQ A B c cb nl 0 (z:Int) dr 0 wq)) (fun wq=>Hg wq bs 3)
     case atStart=>exact⟨nl,⟨Nat.le_refl _,KH.out⟩,HQ3⟩
     case round =>
      obtain⟨z,hz,hQ⟩:=hrel;obtain⟨zi,YJ⟩:∃ zi:Int,(z:Int)=zi:=⟨_,rfl⟩;have JZ:=aj YJ;obtain⟨tt,Jz⟩:∃ tt,(decide (0 < z) && rz (aV eT (zi - 1)))=tt:=⟨_,rfl⟩;have BX:=aj Jz;rw[YJ] at hQ;have b0:wr.cell? ⟨bs,0,none⟩=some (.slice A nl c):=(ak hQ.out.b 0).trans rfl;have b3:wr.cell? ⟨bs,3,none⟩=some (.int .i64 zi):=(ak hQ.out.b 3).trans rfl;have Wu:=aj b3;have HC:=aj hQ.out.reads;clear YJ Jz;go_upto_region 21 with(fail);go_cut [112] (fun v112 wc=>v112=.bool tt/\Below wr.heap.size wr wc)
      case first =>
       by_cases hp:0 < z
       .have d2:decide (0 < zi)=true:=decide_eq_true (by have:=JZ.out;omega);have q0:0<=zi - 1:=(by have:=JZ.out;omega);have q1:zi - 1 < (nl:Int):=(by have:=JZ.out;have:=hz.out.1;omega);have q2:zi<=300:=(by have:=HN4.out;omega);obtain⟨ad,e0,k0,k1,k2,k3,k4,k5⟩:=eV HC.out.1 (zi - 1) q0 q1;subst e0;obtain⟨bb,rF⟩:∃ bb,rz (aV eT (zi - 1))=bb:=⟨_,rfl⟩;have HE:=aj (show bb=tt by rw[<-BX.out,<-rF,decide_eq_true hp,Bool.true_and]);obtain⟨m,hm⟩:∃ m,aV eT (zi - 1)=m:=⟨_,rfl⟩;rw[hm] at k0 k1 k2 k3 k4 k5 rF;have qx:=aj rF;have p0:=eq_true q0;have p1:=eq_true q1;have j0:=k0;have j1:=k1;have j2:=k2;have j3:=k3;have j4:=k4;have j5:=k5;rw[show(zi - 1).toNat=zi.toNat - 1 by omega] at j0 j1 j2 j3 j4 j5;clear hp hm rF;go_wp2_with (go_at_call 72;go_loud(refine(DP m _ bb qx.out).mono ?_;rintro e w6 ⟨rfl,hb6⟩));go_meet
        case rel=>exact⟨by rw[HE.out],hb6⟩
       .have d2:decide (0 < zi)=false:=decide_eq_false (by have:=JZ.out;omega);have HE:=aj (show false=tt by rw[<-BX.out,decide_eq_false hp,Bool.false_and]);clear hp;go_wp2;go_meet
        case rel=>exact⟨by rw[HE.out],Below.refl _ _⟩
      case rest =>
       obtain⟨rfl,hb6⟩:=hcut;have HQ6:=aj (hQ.out.below hb6);clear b0 b3 hb6;cases tt with
       | true =>
        have YK:0 < z:=by
         have h:=BX.out;rw[Bool.and_eq_true] at h;exact of_decide_eq_true h.1
        have HST:=aj (show tu eT (z - 1)=SO by
         have h:=BX.out;rw[Bool.and_eq_true] at h;have h2:=hz.out.2;rw[yJ eT z YK,show(((z - 1:Nat):Int))=zi - 1 by have:=JZ.out;omega,if_pos h.2] at h2;exact h2)
        have Z5:=aj YK;have q0:0<=zi:=(by have:=JZ.out;omega);have q2:zi<=300:=(by have:=JZ.out;have:=hz.out.1;have:=HN4.out;omega);have b3:wc.cell? ⟨bs,3,none⟩=some (.int .i64 zi):=(ak HQ6.out.b 3).trans rfl;have fz:=aB HQ6.out.b 3;clear YK;go_wp2;go_roundw
        case rel=>exact⟨z - 1,⟨by have:=hz.out.1;omega,HST.out⟩,⟨by rw[show(((z - 1:Nat):Int))=zi - 1 by have:=JZ.out;have:=Z5.out;omega];exact HQ6.out.RT (zi - 1)⟩⟩
        case measure =>
         have e1:=tC Wu.out;have e2:=tC ((ak (HQ6.out.RT (zi - 1)).b 3).trans rfl);have:=JZ.out;have:=Z5.out;rw[e1,e2];omega
       | false =>
        have YL:=aj (show z=SO by
         have h:=BX.out;have h2:=hz.out.2;by_cases hp:0 < z
         .rw[decide_eq_true hp,Bool.true_and] at h;rw[yJ eT z hp,show(((z - 1:Nat):Int))=zi - 1 by have:=JZ.out;omega,if_neg (by rw[h];decide)] at h2;exact h2
         .have:z=0:=by omega
          subst this;exact h2)
        have rE:=aj (show SO<=nl by rw[<-YL.out];exact hz.out.1);have yK:=aj (show(SO:Int)=zi by rw[<-YL.out];exact JZ.out);clear BX Wu HC JZ YL hz hQ HQ3;go_wp2;obtain⟨AH,Z6⟩:∃ AH,(if x.f0=0 then rB eT SO SO 0 else 0)=AH:=⟨_,rfl⟩;have Z7:=aj Z6;clear Z6;go_loopw [] (fun wq=>∃ (a:Nat),aC (a<=SO/\(if x.f0=0 then rB eT SO (SO - a) a else a)=AH)/\aC (Ef w4 bs eT kQ A B c cb nl (a:Int) zi dr 0 wq)) (fun wq=>SO - Hg wq bs 2)
        case atStart=>exact⟨0,⟨Nat.zero_le _,by rw[Nat.sub_zero];exact Z7.out⟩,HQ6⟩
        case round =>
         obtain⟨a,ha,hQ⟩:=hrel;obtain⟨ai,hai⟩:∃ ai:Int,(a:Int)=ai:=⟨_,rfl⟩;have J0:=aj hai;obtain⟨tt,Jz⟩:∃ tt,(decide (x.f0=0) && decide (a < SO) && decide ((aV eT ai).f2=3))=tt:=⟨_,rfl⟩;have BX:=aj Jz;rw[hai] at hQ;have b0:wr.cell? ⟨bs,0,none⟩=some (.slice A nl c):=(ak hQ.out.b 0).trans rfl;have b2:wr.cell? ⟨bs,2,none⟩=some (.int .i64 ai):=(ak hQ.out.b 2).trans rfl;have b3:wr.cell? ⟨bs,3,none⟩=some (.int .i64 zi):=(ak hQ.out.b 3).trans rfl;have x0:wr.cell? ⟨bx+1,0,none⟩=some (.int .i64 x.f0):=(ak (ay nY.out (HW8.out _ hQ.out.je)) 0).trans rfl;have L9:=aj b2;have HC:=aj hQ.out.reads;clear hai Jz;go_upto_region 23 with(fail);go_cut [136] (fun v136 wc=>v136=.bool tt/\wr=wc)
         case first =>
          by_cases c0:x.f0=0
          .have d0:(x.f0 == 0)=true:=beq_iff_eq.mpr c0;by_cases c1:a < SO
           .have d2:decide (ai < zi)=true:=decide_eq_true (by have:=J0.out;have:=yK.out;omega);have q0:0<=ai:=(by have:=J0.out;omega);have q1:ai < (nl:Int):=(by have:=J0.out;have:=rE.out;omega);obtain⟨ad,e0,k0,k1,k2,k3,k4,k5⟩:=eV HC.out.1 ai q0 q1;subst e0;have p0:=eq_true q0;have p1:=eq_true q1;by_cases c2:(aV eT ai).f2=3
            .have d3:((aV eT ai).f2 == 3)=true:=beq_iff_eq.mpr c2;have HE:=aj (show true=tt by rw[<-BX.out,decide_eq_true c0,decide_eq_true c1,decide_eq_true c2];rfl);generalize aV eT ai=m at k0 k1 k2 k3 k4 k5 d3;clear c0 c1 c2;go_wp2;go_meet
             case rel=>exact⟨by rw[HE.out],rfl⟩
            .have d3:((aV eT ai).f2 == 3)=false:=beq_eq_false_iff_ne.mpr c2;have HE:=aj (show false=tt by rw[<-BX.out,decide_eq_true c0,decide_eq_true c1,decide_eq_false c2];rfl);generalize aV eT ai=m at k0 k1 k2 k3 k4 k5 d3;clear c0 c1 c2;go_wp2;go_meet
             case rel=>exact⟨by rw[HE.out],rfl⟩
           .have d2:decide (ai < zi)=false:=decide_eq_false (by have:=J0.out;have:=yK.out;omega);have HE:=aj (show false=tt by rw[<-BX.out,decide_eq_false c1,Bool.and_false,Bool.false_and]);clear c0 c1;go_wp2;go_meet
            case rel=>exact⟨by rw[HE.out],rfl⟩
          .have d0:(x.f0 == 0)=false:=beq_eq_false_iff_ne.mpr c0;have HE:=aj (show false=tt by rw[<-BX.out,decide_eq_false c0,Bool.false_and,Bool.false_and]);clear c0;go_wp2;go_meet
           case rel=>exact⟨by rw[HE.out],rfl⟩
         case rest =>
          obtain⟨rfl,rfl⟩:=hcut;clear b0 b2 b3 x0;cases tt with
          | true =>
           have Jz:(x.f0=0/\a < SO)/\(aV eT ai).f2=3:=by
            have h:=BX.out;simp only[Bool.and_eq_true,decide_eq_true_eq] at h;exact h
           have HST:=aj (show(if x.f0=0 then rB eT SO (SO - (a+1)) (a+1) else a+1)=AH by
            have h2:=ha.out.2;rw[if_pos Jz.1.1,AK eT SO a Jz.1.2,J0.out,if_pos Jz.2] at h2;rw[if_pos Jz.1.1];exact h2)
           have Z8:=aj Jz.1.2;have q0:0<=ai:=(by have:=J0.out;omega);have q2:ai<=300:=(by have:=J0.out;have:=Jz.1.2;have:=rE.out;have:=HN4.out;omega);have b2:wr.cell? ⟨bs,2,none⟩=some (.int .i64 ai):=(ak hQ.out.b 2).trans rfl;have fz:=aB hQ.out.b 2;clear Jz;go_wp2;go_roundw
           case rel=>exact⟨a+1,⟨Z8.out,HST.out⟩,⟨by rw[show(((a+1:Nat):Int))=ai+1 by have:=J0.out;omega];exact hQ.out.UD (ai+1)⟩⟩
           case measure =>
            have e1:=tC L9.out;have e2:=tC ((ak (hQ.out.UD (ai+1)).b 2).trans rfl);have:=J0.out;have:=Z8.out;rw[e1,e2];omega
          | false =>
           have Wp:=aj (show a=AH by
            have h:=BX.out;have h2:=ha.out.2;by_cases c0:x.f0=0
            .rw[if_pos c0] at h2;by_cases c1:a < SO
             .rw[decide_eq_true c0,decide_eq_true c1,Bool.true_and,Bool.true_and] at h;rw[AK eT SO a c1,J0.out,if_neg (by simpa using h)] at h2;exact h2
             .rw[Jw eT SO a (by omega)] at h2;exact h2
            .rw[if_neg c0] at h2;exact h2)
           have YM:=aj (show(AH:Int)=ai by rw[<-Wp.out];exact J0.out);obtain⟨hf,RU⟩:∃ hf,x.f5=hf:=⟨_,rfl⟩;have YN:=aj RU;have x5:wr.cell? ⟨bx+1,5,none⟩=some (.bool hf):=(by rw[<-RU];exact(ak (ay nY.out (HW8.out _ hQ.out.je)) 5).trans rfl);obtain⟨HY,Z9⟩:∃ HY,(if hf=true then (cU qG (rC p eT SO)).1 else 0)=HY:=⟨_,rfl⟩;have K_:=aj Z9;clear BX L9 HC J0 Wp ha RU Z9;have HQ9:=aj hQ.out;go_upto_if 142 with(fail);clear x5;go_cut [15] (fun v15 wc=>Ef w4 bs eT kQ A B c cb nl ai zi dr HY wc)
           case first =>
            cases hf with
            | false =>
             go_wp2;go_meet
             case rel=>rw[<-K_.out];exact HQ9.out
            | true =>
             have x2:wr.cell? ⟨bx,2,none⟩=some (.int .i64 p.pr.f0):=(ak (ay nu.out (HW8.out _ HQ9.out.je)) 2).trans rfl;have b3:wr.cell? ⟨bs,3,none⟩=some (.int .i64 zi):=(ak HQ9.out.b 3).trans rfl;have b0:wr.cell? ⟨bs,0,none⟩=some (.slice A nl c):=(ak HQ9.out.b 0).trans rfl;have HC:=aj HQ9.out.reads;obtain⟨Z0,hZ0⟩:∃ Z0,(if 0 < SO then (aV eT (zi - 1)).f3 else p.pr.f0)=Z0:=⟨_,rfl⟩;have HZ0:=aj hZ0;clear hZ0;obtain⟨dz,hdz⟩:∃ dz,decide (0 < zi)=dz:=⟨_,rfl⟩;have SH:=aj hdz;go_upto_if 148 with(fail);clear x2 hdz;go_cut [15] (fun v15 wc=>v15=.int .i64 Z0/\wr=wc)
             case first =>
              cases dz with
              | true =>
               have hp:0 < SO:=(by have:=of_decide_eq_true SH.out;have:=yK.out;omega);have q0:0<=zi - 1:=(by have:=yK.out;omega);have q1:zi - 1 < (nl:Int):=(by have:=yK.out;have:=rE.out;omega);have q2:zi<=300:=(by have:=HN4.out;omega);obtain⟨ad,e0,k0,k1,k2,k3,k4,k5⟩:=eV HC.out.1 (zi - 1) q0 q1;subst e0;have HE:=aj (show(aV eT (zi - 1)).f3=Z0 by rw[<-HZ0.out,if_pos hp]);generalize aV eT (zi - 1)=m at k0 k1 k2 k3 k4 k5 HE;have j3:=k3;rw[show(zi - 1).toNat=zi.toNat - 1 by omega] at j3;have p0:=eq_true q0;have p1:=eq_true q1;clear hp;go_wp2;go_meet
               case rel=>exact⟨by rw[<-HE.out],rfl⟩
              | false =>
               have hp:¬ 0 < SO:=(by have:=of_decide_eq_false SH.out;have:=yK.out;omega);have HE:=aj (show p.pr.f0=Z0 by rw[<-HZ0.out,if_neg hp]);clear hp;go_wp2;go_meet
               case rel=>exact⟨by rw[<-HE.out],rfl⟩
             case rest =>
              obtain⟨rfl,rfl⟩:=hcut;have hct:=Cw (P:=Tryz.prog) 82 99 .i64 Tryz.underlying82 rfl 6 rfl A nl c zi (by have:=yK.out;omega) (by have:=yK.out;have:=rE.out;omega) wr;rw[show zi.toNat=SO by have:=yK.out;omega] at hct;have HC2:=aj (show ∀ W,Ef w4 bs eT kQ A B c cb nl ai zi dr 0 W->Kd.C k99 W (if c=SO then A else A.map (·.add (SO * 6))) (nl - SO) (eT.drop SO) from fun W hW=>by
               have h:=hW.reads;have h2:=Kd.mW (m:=SO) (k:=k99) (c:=c) (by rw[nQ.out];exact h.1) (by rw[nQ.out];exact rE.out) (by rw[nQ.out];exact h.2);rw[List.length_drop,nQ.out] at h2;exact h2)
              obtain⟨A2,hA2⟩:∃ A2,(if c=SO then A else A.map (·.add (SO * 6)))=A2:=⟨_,rfl⟩;obtain⟨m2,hm2⟩:∃ m2,nl - SO=m2:=⟨_,rfl⟩;obtain⟨D,hD⟩:∃ D,eT.drop SO=D:=⟨_,rfl⟩;have HD:=aj (And.intro hD (show D.length=m2 by rw[<-hD,List.length_drop,nQ.out,hm2]));rw[hA2,hm2] at hct;rw[hA2,hm2,hD] at HC2;obtain⟨c2,hc2⟩:∃ c2,c - SO=c2:=⟨_,rfl⟩;rw[hc2] at hct;have HM2:=aj (show m2<=300 by have:=HN4.out;omega);have SY:=aj (show yp D Z0=rC p eT SO by
               unfold rC;rw[hD]
               congr 1
               rw[<-HZ0.out];by_cases hp:0 < SO
               .rw[if_pos hp,if_pos hp,show((SO - 1:Nat):Int)=zi - 1 by have:=yK.out;omega]
               .rw[if_neg hp,if_neg hp])
              clear hA2 hm2 hD hc2;go_wp2;clear hct b0 b3;go_loopw [15,163] (fun v15 v163 wq=>∃ (z y:Int) (k:Nat),v15=.int .i64 z/\v163=.int .i64 y/\aC (y=(k:Int)/\k<=m2)/\aC (yp (D.drop k) z=rC p eT SO)/\aC (Ef w4 bs eT kQ A B c cb nl ai zi dr 0 wq)) (fun _ v163 _=>m2 - (intOf v163).toNat)
              case atStart=>exact⟨Z0,0,0,rfl,rfl,⟨rfl,Nat.zero_le _⟩,⟨by rw[List.drop_zero];exact SY.out⟩,HQ9⟩
              case round =>
               obtain⟨z,y,k,rfl,rfl,hy,hS,hQ⟩:=hrel;by_cases hlt:k < m2
               .have d1:decide (y < (m2:Int))=true:=decide_eq_true (by have:=hy.out.1;omega);have q0:0<=y:=(by have:=hy.out.1;omega);have q1:y < (m2:Int):=(by have:=hy.out.1;omega);have q2:y<=300:=(by have:=HM2.out;omega);obtain⟨ad,e0,k0,k1,k2,k3,k4,k5⟩:=eV (HC2.out _ hQ.out) y q0 q1;subst e0;have hS2:=hS.out;rw[drop_at (by rw[HD.out.2];exact hlt),<-hy.out.1,yp] at hS2;obtain⟨m,hm⟩:∃ m,aV D y=m:=⟨_,rfl⟩;rw[hm] at k0 k1 k2 k3 k4 k5 hS2;have z0:=cM k0 (.cells #[.int .i64 0,.int .i64 0,.int .i64 0,.int .i64 0,.int .i64 0,.int .i64 0] 99);have cg:=aj hlt;have Z_:=aj (hQ.out.below ((Below.refl wr.heap.size wr).alloc (Nat.le_refl _) (.cells (Au m) 99)));have p0:=eq_true q0;have p1:=eq_true q1;by_cases c5:m.f2=5
                .have d2:(m.f2 == 5)=true:=beq_iff_eq.mpr c5;rw[if_pos c5] at hS2;have HS2:=aj hS2;clear hlt hS2 hm c5;go_wp2;go_roundw
                 case rel=>exact⟨m.f3,y+1,k+1,rfl,rfl,⟨by have:=hy.out.1;omega,cg.out⟩,HS2,Z_⟩
                 case measure=>have:=cg.out;have:=hy.out;simp[intOf];omega
                .have d2:(m.f2 == 5)=false:=beq_eq_false_iff_ne.mpr c5;rw[if_neg c5] at hS2;have HS2:=aj hS2;clear hlt hS2 hm c5;go_wp2;go_roundw
                 case rel=>exact⟨z,y+1,k+1,rfl,rfl,⟨by have:=hy.out.1;omega,cg.out⟩,HS2,Z_⟩
                 case measure=>have:=cg.out;have:=hy.out;simp[intOf];omega
               .have d1:decide (y < (m2:Int))=false:=decide_eq_false (by have:=hy.out.1;omega);have HE:=aj (show(cU qG z).1=HY by
                 have h:=hS.out;rw[List.drop_eq_nil_of_le (by rw[HD.out.2];omega)] at h;rw[<-K_.out];refine Eq.trans ?_ (if_pos trivial).symm;rw[<-h];rfl)
                clear hlt;go_wp2_with (go_at_call 65;go_loud(refine(lN qG z _).mono ?_;rintro e w6 ⟨rfl,hb6⟩;have HQ6:=aj (hQ.out.below hb6);rw[HE.out];have b5:w6.cell? ⟨bs,5,none⟩=some (.int .i64 0):=(ak HQ6.out.b 5).trans rfl;have fz:=aB HQ6.out.b 5;clear hb6));go_meet
                case rel=>exact HQ6.out.YD HY
           case rest =>
            have HQ9:=aj hcut;clear hcut;have YO:=aj (ay Ik.out (HW8.out _ HQ9.out.je));have qx:=aj (HB2.out.trans ((HW8.out _ HQ9.out.je).mono HB2.out.size));go_wp2_with (first|((with_reducible refine aS (N:=179) rfl ?_);go_loud(refine wpList_load_row rfl 90 _ rfl bs rfl 90 #[.slice A nl c,.slice B nl cb,.int .i64 ai,.int .i64 zi,.int .i64 dr,.int .i64 HY] (0,0) _ (by exact HQ9.out.b) Tryz.underlying90 rfl (by kernel_rfl) ?_))|(refine Ms rfl 90 _ _ rfl (bx+2) #[.slice A nl c,.slice B nl cb,.int .i64 ai,.int .i64 zi,.int .i64 dr,.int .i64 HY] rfl rfl 90 _ YO.out (by kernel_rfl) rfl (by simp[Value.oneCell']) ?_;intro w9 hw9 hk9 hB9;have HW9:=aj (And.intro hw9 (And.intro hk9 hB9));clear hw9 hk9 hB9));refine bodyPost_ret (results_cell_row Tryz.results30 _ _ (bx+2) 90 #[.slice A nl c,.slice B nl cb,.int .i64 ai,.int .i64 zi,.int .i64 dr,.int .i64 HY] (0,0) _ rfl HW9.out.1 Tryz.underlying90 rfl (by kernel_rfl)) rfl ?_;have YP:aO p x=⟨eT,kQ,AH,SO,dr,HY⟩:=by
             unfold aO;rw[HI.out,HL.out,MY.out,VR.out,<-YI.out];dsimp only;rw[nQ.out,KH.out,Z7.out,YN.out,K_.out]
            have ac2:bx+2 < bs:=(by have:=aY Ik.out;have:=lI.out;have:=Mt.out;omega);have hw:w.heap.size<=bs+1:=(by have:=mK.out;omega);unfold Eh;rw[YP];dsimp only;rw[nQ.out,tG.out,YM.out,yK.out];refine⟨A,c,B,cb,rfl,?_,?_,HQ9.out.reads.2,rfl,HW9.out.2.2 _ _ qx.out (by have:=mK.out;omega)⟩
            .exact Kd.fK (Kd.fF (Kd.qH (Kd.eS HQ9.out.l) (fun j hj _=>HW9.out.2.1 j (by have:=hj.2.1;omega))) hw) (fun _ _=>trivial)
            .exact Kd.fK (Kd.fF (Kd.qH (Kd.eS HQ9.out.k) (fun j hj _=>HW9.out.2.1 j (by have:=hj.2.1;omega))) hw) (fun _ _=>trivial)
end Go.Proofs.YtcaallkkeighdaaGreatDoor.P
