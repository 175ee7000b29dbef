/- The iterator that cluster.each hands back yields a text's clusters,in order: for every text of at most 4,096 bytes and every loop body that keeps what the iterator made. What cluster.wrong,cluster.place and cluster.each answer: for every text. cluster.Split answers as the plain splitOf: for every text. -/
import Derived.RangeFuncNested
import Derived.RangeFuncBound
import Derived.RangeFuncCalls
import Derived.RangeFuncLeaves
import Derived.Shelf.Abstract
import Derived.OwnWalkIn
import Derived.TacticsInMore
import Derived.LoopNIn
import Derived.LoopIn
import Derived.RangeFuncBox
import Derived.Outline
import Derived.Test.YtcaallkkeighdaaGreatDoorR05
set_option maxRecDepth 100000
set_option maxHeartbeats 16000000
set_option linter.unusedVariables false
set_option linter.unusedSimpArgs false
namespace Go.Proofs.YtcaallkkeighdaaGreatDoor.P
open Go.RowKit Go.Shelf aD aQ aR
attribute [local go_sem] Oper.semAt_some
def fT.f(a0:Int):Option (Bool):=if a0=94 then (some true) else (if a0=96 then (some true) else (some (a0 == 126)))
theorem fT.calls(a0:Int)(r:Bool)(w:World)(h:fT.f a0=some r) :
  Calls Tryz.prog 60 #[.int .u8 a0] w fun e w'=>e=.returned (.bool r)/\aU w w':=by
 have H:(if a0=94 then (some true) else (if a0=96 then (some true) else (some (a0 == 126))))=some r:=h;clear h;by_cases c2:a0=94
 .rw[if_pos c2] at H;have wI:(a0 == 94)=true:=beq_iff_eq.mpr c2;have WW:(a0 != 94)=false:=bne_eq_false_iff_eq.mpr c2;clear c2;obtain rfl:=Option.some.inj H;go_enter Tryz.func60,Tryz.ntmps60;go_wp2;go_ret;exact⟨by first|rfl|(simp;done)|(simp[*];done),by repeat(first|exact aU.refl _|apply aU.step)⟩
 .rw[if_neg c2] at H;have wI:(a0 == 94)=false:=beq_eq_false_iff_ne.mpr c2;have WW:(a0 != 94)=true:=bne_iff_ne.mpr c2;by_cases c3:a0=96
  .rw[if_pos c3] at H;have yX:(a0 == 96)=true:=beq_iff_eq.mpr c3;have WX:(a0 != 96)=false:=bne_eq_false_iff_eq.mpr c3;clear c3;obtain rfl:=Option.some.inj H;go_enter Tryz.func60,Tryz.ntmps60;go_wp2;go_ret;exact⟨by first|rfl|(simp;done)|(simp[*];done),by repeat(first|exact aU.refl _|apply aU.step)⟩
  .rw[if_neg c3] at H;have yX:(a0 == 96)=false:=beq_eq_false_iff_ne.mpr c3;have WX:(a0 != 96)=true:=bne_iff_ne.mpr c3;obtain rfl:=Option.some.inj H;go_enter Tryz.func60,Tryz.ntmps60;go_wp2;go_ret;exact⟨by first|rfl|(simp;done)|(simp[*];done),by repeat(first|exact aU.refl _|apply aU.step)⟩
theorem Hz(c:Int):cr.f c=some (fP c):=by
 unfold cr.f fP;by_cases h1:97<=c<;>by_cases h2:c<=122<;>by_cases h3:65<=c<;>by_cases h4:c<=90<;>simp[h1,h2,h3,h4]
theorem Bf(c:Int):gi.f c=some (kindOf c):=by
 unfold gi.f kindOf;rw[Hz];simp only[Option.bind_some];by_cases h1:32 < c<;>by_cases h2:c<=126<;>simp only[h1,h2,and_self,if_true,if_false,and_true,and_false]<;>(repeat' split)<;>first|rfl|simp_all
theorem zP(c:Int):fT.f c=some (pR c):=by
 unfold fT.f pR;by_cases h1:c=94
 .simp[h1]
 .by_cases h2:c=96
  .simp[h2]
  .by_cases h3:c=126<;>simp[h1,h2,h3]
structure Kc0(ρ:World->Option Nat)(n₁ Bn:Nat)(W W':World):Prop where
 size:W.heap.size<=W'.heap.size
 text:W'.heap[Bn]? = W.heap[Bn]?
 same:∀ (i:Nat) (o:Obj),n₁<=i->W.heap[i]? = some o->o.isCells=true->some i≠ρ W->W'.heap[i]? = some o
 row:∀ r,ρ W'=some r->(ρ W=some r\/W.heap.size<=r)/\r < W'.heap.size
def Kc(ρ:World->Option Nat)(n₁ Bn:Nat)(W W':World):Prop:=(∀ r,ρ W=some r->r < W.heap.size)->Kc0 ρ n₁ Bn W W'
theorem Kc0.trans{ρ:World->Option Nat}{n₁ Bn:Nat}{A B C:World}(h:Kc0 ρ n₁ Bn A B)(k:Kc0 ρ n₁ Bn B C):Kc0 ρ n₁ Bn A C:=by
 refine⟨Nat.le_trans h.size k.size,k.text.trans h.text,fun i o hn hi hc hne=>?_,fun r hr=>?_⟩
 .refine k.same i o hn (h.same i o hn hi hc hne) hc (fun e=>?_);rcases (h.row i e.symm).1 with q|q
  .exact hne q.symm
  .have:=(Array.getElem?_eq_some_iff.1 hi).1;omega
 .obtain⟨q,hlt⟩:=k.row r hr;refine⟨?_,hlt⟩;rcases q with q|q
  .exact(h.row r q).1
  .exact .inr (Nat.le_trans h.size q)
theorem Kc.trans{ρ:World->Option Nat}{n₁ Bn:Nat}{A B C:World}(h:Kc ρ n₁ Bn A B)(k:Kc ρ n₁ Bn B C):Kc ρ n₁ Bn A C:=fun wf=>(h wf).trans (k (fun r e=>((h wf).row r e).2))
theorem cell_of_heap{W W':World}{b i:Nat}(h:W'.heap[b]? = W.heap[b]?):W'.cell? ⟨b,i,none⟩=W.cell? ⟨b,i,none⟩:=by
 unfold World.cell?;simp only[h]
theorem zQ{A B:World}{g i:Nat}{v:Value}(h:A.grownBy B none)(hg:A.heap.size<=g):A.grownBy (B.setCell ⟨g,i,none⟩ v) none :=
 ⟨h.os,h.tape,h.output,Nat.le_trans h.size (KeepsWalks.setCell B _ v).size,fun k hk hr=>(Below.heap_setCell B ⟨g,i,none⟩ v k (show k≠g by omega)).trans (h.block k hk hr)⟩
theorem oz{A B:World}(h:A.grownBy B none)(n:Nat):A.grownBy (B.drewN n) none:=⟨h.os,h.tape,h.output,h.size,h.block⟩
theorem CJ{A B C:World}(h:aU A B)(k:B.grownBy C none):A.grownBy C none:=by
 obtain⟨n,rfl⟩:=h.out;exact⟨k.os,k.tape,k.output,k.size,k.block⟩
theorem SS(s:ByteArray)(hs:s.size<=4096)(n:Nat)(hn:1<=n)(l Bn n₁:Nat)(Sh:Bn < n₁)(ρ:World->Option Nat)(hρ:∀ A B:World,(∀ i,i < n₁->B.heap[i]? = A.heap[i]?)->ρ B=ρ A)
  (J Jx:List S50->World->Prop) (hJ:∀ pre A B,J pre A->A.grownBy B none->J pre B)
  (hY:∀ pre x W,J pre W->pre.length < (cQ s).length->YieldAt Fence.wide (n - 1) Tryz.prog l #[.agg #[.int .i64 x.f0,.int .i64 x.f1,.int .i64 x.f2]] W fun e W' =>
   (e=.returned (.bool true)/\J (pre ++ [x]) W'/\Kc ρ n₁ Bn W W')\/(e=.returned (.bool false)/\Jx (pre ++ [x]) W'))
  (W:World) (hW:n₁<=W.heap.size) (hc:W.cell? ⟨Bn,0,none⟩=some (.string s)) (hr:∀ r,ρ W=some r->r < W.heap.size) (h0:J [] W) :
  CallsIn Fence.wide n Tryz.prog 59 #[.func (.yield l) #[] #[],.pointer (some ⟨Bn,0,none⟩)] W fun e W'=>(∃ v,e=.returned v)/\((∃ ys,ys=cQ s/\J ys W')\/(∃ pre,pre <+: cQ s/\Jx pre W')):=by
 refine callsIn_of_wp Tryz.func59 rfl trivial ?_ rfl;simp only[Tryz.ntmps59,List.size_toArray,List.length_cons,List.length_nil,Nat.reduceAdd,Nat.reduceSub,Array.replicate_succ,Array.replicate_zero,List.push_toArray,List.append_toArray,List.nil_append,List.cons_append];refine wpIn_wide.2 ?_;go_wp2
 go_loopw [3] (fun v3 wr=>∃ (x:Int) (a:Nat) (pre:List S50),v3=.int .i64 x/\aC (x=(a:Int))/\aC (a<=s.size)/\aC (cQ s=pre ++ rest s a)/\aC (J pre wr)/\aC (n₁<=wr.heap.size)/\wr.cell? ⟨Bn,0,none⟩=some (.string s)/\aC (∀ r,ρ wr=some r->r < wr.heap.size))
  (fun v3 _=>s.size - (intOf v3).toNat)
 case atStart=>exact⟨0,0,[],rfl,⟨rfl⟩,⟨Nat.zero_le _⟩,⟨rfl⟩,⟨h0⟩,⟨hW⟩,hc,⟨hr⟩⟩
 case round =>
  clear hc hr h0;obtain⟨x,a,pre,rfl,hxa,ha,hpre,Y_,hsz,hc,hr⟩:=hrel;by_cases hlt:a < s.size
  .have hx:=nN s x;have hb:=mz s x;have p6:(0<=x)=True:=eq_true (by rw[hxa.out];omega);have q6:(x < (s.size:Int))=True:=eq_true (by rw[hxa.out];omega);have x0:0<=x:=by rw[hxa.out];omega
   have x1:x<=4095:=by rw[hxa.out];omega
   go_upto_block 2 with(go_at_call 58;(with_reducible refine(gi.calls (bt s x) (kindOf (bt s x)) _ (Bf _)).mono ?_);rintro e w1 ⟨rfl,hd⟩;have hc1:w1.cell? ⟨Bn,0,none⟩=some (.string s):=(by obtain⟨m,rfl⟩:=hd.out;exact hc));go_cut [] from 5 to 50 (fun wc=>aC (w1.grownBy wc none)/\aC (wc.heap[w1.heap.size]? = some (.cells #[.int .i64 x,.int .i64 (fH s a:Nat),.int .i64 (kindOf (bt s x))] 50 (0,0))))
   case first =>
    go_wp2;go_loopg [] 3 (fun kq wq=>∃ (y:Int) (t:Nat),aC (y=(t:Int))/\aC (kq+t=a+4)/\aC (t<=s.size)/\aC (ext s a (kindOf (bt s x)) kq t=fH s a)/\aC (w1.grownBy wq none)/\aC (wq.heap[w1.heap.size]? = some (.cells #[.int .i64 x,.int .i64 y,.int .i64 (kindOf (bt s x))] 50 (0,0))))
    case atStart =>
     refine⟨x+1,a+1,⟨by rw[hxa.out];omega⟩,⟨by omega⟩,⟨by omega⟩,⟨by unfold fH;rw[hxa.out]⟩,⟨World.grownBy_alloc _ _ _⟩,⟨aH _ _⟩⟩
    case round =>
     obtain⟨y,t,hy,hkt,hts,hext,VK,vJ⟩:=hrel;have Ql:=World.block_lt_of_cell? w1 _ hc1;have O_:wr.cell? ⟨Bn,0,none⟩=some (.string s):=(cell_of_heap (VK.out.block Bn Ql (by simp))).trans hc1;have z0:wr.cell? ⟨w1.heap.size,0,none⟩=some (.int .i64 x):=(ak vJ.out 0).trans rfl;have z1:wr.cell? ⟨w1.heap.size,1,none⟩=some (.int .i64 y):=(ak vJ.out 1).trans rfl;have z2:wr.cell? ⟨w1.heap.size,2,none⟩=some (.int .i64 (kindOf (bt s x))):=(ak vJ.out 2).trans rfl;have g1:=aB vJ.out 1;have y0:0<=y:=(by rw[hy.out];omega);have y1:y<=4096:=(by have:=hts.out;rw[hy.out];omega);have stop:¬ (kindOf (bt s x)=1/\t < s.size/\t < a+3/\pR (bt s (t:Int))=true)->aC (w1.grownBy wr none)/\aC (wr.heap[w1.heap.size]? = some (.cells #[.int .i64 x,.int .i64 (fH s a:Nat),.int .i64 (kindOf (bt s x))] 50 (0,0))):=by
      intro hno;refine⟨VK,⟨?_⟩⟩;have:fH s a=t:=by
       rw[<-hext.out];cases gk with
       | zero=>rfl
       | succ k=>simp only[ext];rw[if_neg hno]
      rw[this,<-hy.out];exact vJ.out
     have HS:=aj stop;clear stop;by_cases e1:kindOf (bt s x)=1
     .have b1:(kindOf (bt s x) == 1)=true:=beq_iff_eq.mpr e1;have E1:=aj e1;clear e1;by_cases e2:t < s.size
      .have b2:decide (y < (s.size:Int))=true:=decide_eq_true (by rw[hy.out];omega);by_cases e3:t < a+3
       .have b3:decide (y < x+3)=true:=decide_eq_true (by rw[hy.out,hxa.out];omega);have hxy:=nN s y;have py:(0<=y)=True:=eq_true y0;have qy:(y < (s.size:Int))=True:=eq_true (by rw[hy.out];omega);obtain⟨kk,rfl⟩:∃ m,gk=m+1:=⟨gk - 1,by have:=hkt.out;omega⟩;by_cases e4:pR (bt s y)=true
        .go_wp2_with (go_at_call 60;(with_reducible refine(fT.calls (bt s y) true _ ((zP _).trans (congrArg some e4))).mono ?_);rintro e w2 ⟨rfl,⟨nd,rfl⟩⟩);go_roundg kk
         case measure=>omega
         case rel =>
          refine⟨y+1,t+1,⟨by rw[hy.out];omega⟩,⟨by have:=hkt.out;omega⟩,⟨by omega⟩,⟨?_⟩,⟨?_⟩,⟨?_⟩⟩
          .have:=hext.out;simp only[ext] at this;rw[if_pos ⟨E1.out,e2,e3,by rw[<-hy.out];exact e4⟩] at this;exact this
          .first|exact oz (zQ VK.out (Nat.le_refl _)) _|exact zQ (oz VK.out _) (Nat.le_refl _)
          .first|exact bU (aN vJ.out 1 _ rfl) _|exact aN (bU vJ.out _) 1 _ rfl
        .have e4':=Bool.eq_false_iff.mpr e4;go_wp2_with (go_at_call 60;(with_reducible refine(fT.calls (bt s y) false _ ((zP _).trans (congrArg some e4'))).mono ?_);rintro e w2 ⟨rfl,⟨nd,rfl⟩⟩);go_meet
         case rel =>
          obtain⟨q1,q2⟩:=HS.out (fun q=>e4 (by rw[hy.out];exact q.2.2.2));exact⟨⟨oz q1.out _⟩,⟨bU q2.out _⟩⟩
       .have b3:decide (y < x+3)=false:=decide_eq_false (by rw[hy.out,hxa.out];omega);go_wp2;go_meet
        case rel=>exact HS.out (fun q=>e3 q.2.2.1)
      .have b2:decide (y < (s.size:Int))=false:=decide_eq_false (by rw[hy.out];omega);go_wp2;go_meet
       case rel=>exact HS.out (fun q=>e2 q.2.1)
     .have b1:(kindOf (bt s x) == 1)=false:=beq_eq_false_iff_ne.mpr e1;go_wp2;go_meet
      case rel=>exact HS.out (fun q=>e1 q.1)
   case rest =>
    obtain⟨hg,hbk⟩:=hcut;have Ql:=World.block_lt_of_cell? w1 _ hc1;have O_:wc.cell? ⟨Bn,0,none⟩=some (.string s):=(cell_of_heap (hg.out.block Bn Ql (by simp))).trans hc1;have NP:=CJ hd hg.out;have hJc:=hJ pre _ wc Y_.out NP;have hlen:pre.length < (cQ s).length:=(by rw[hpre.out,kM s a hlt];simp);have z0:wc.cell? ⟨w1.heap.size,0,none⟩=some (.int .i64 x):=(ak hbk.out 0).trans rfl;have z1:wc.cell? ⟨w1.heap.size,1,none⟩=some (.int .i64 (fH s a:Nat)):=(ak hbk.out 1).trans rfl;have z2:wc.cell? ⟨w1.heap.size,2,none⟩=some (.int .i64 (kindOf (bt s x))):=(ak hbk.out 2).trans rfl;obtain⟨fn,tmps,assign,body,hy,hR⟩:=hY pre (rS s a) wc hJc hlen;simp only[rS,<-hxa.out] at hy;go_upto_region 5 with(fail);refine(wpIn_wide (n:=n)).1 ?_
    gi_wp2
    have hn1:n₁<=w1.heap.size:=(by have:=hsz.out;have:=hd.below.size;omega);have hnew:w1.heap.size < wc.heap.size:=aY hbk.out;have Za:ρ wc=ρ wr:=hρ _ _ (fun i hi=>(NP.block i (by have:=hsz.out;omega) (by simp)));have hne:some w1.heap.size≠ρ wc:=by
     intro e;rw[Za] at e;have:=hr.out _ e.symm;have:=hd.below.size;omega
    refine hR.mono ?_;rintro e W3 (⟨rfl,hJ3,hk3⟩|⟨rfl,WY⟩)
    .replace hk3:=hk3 (fun r e=>by rw[Za] at e;have:=hr.out r e;have:=NP.size;omega);have hb3:=hk3.same _ _ hn1 hbk.out rfl hne;have z13:W3.cell? ⟨w1.heap.size,1,none⟩=some (.int .i64 (fH s a:Nat)):=(ak hb3 1).trans rfl;have hc3:W3.cell? ⟨Bn,0,none⟩=some (.string s):=(cell_of_heap hk3.text).trans O_
     gi_wp2
     go_wp2;go_roundw
     case rel =>
      refine⟨_,fH s a,pre ++ [rS s a],rfl,⟨rfl⟩,⟨wH s a hlt⟩,⟨?_⟩,⟨hJ3⟩,⟨?_⟩,hc3,⟨fun r hr3=>(hk3.row r hr3).2⟩⟩
      .rw[hpre.out,kM s a hlt];simp
      .have:=hk3.size;omega
     case measure =>
      have:=jf s a;have:=wH s a hlt;have:=hxa.out;simp[intOf];omega
    .gi_wp2
     go_wp2;refine bodyPost_ret (results_none rfl _ _ _) rfl ?_;refine⟨⟨_,rfl⟩,.inr ⟨pre ++ [rS s a],⟨rest s (fH s a),?_⟩,WY⟩⟩;rw[hpre.out,kM s a hlt];simp
  .have q6:(x < (s.size:Int))=False:=eq_false (by rw[hxa.out];omega);go_wp2;go_end0;refine⟨⟨_,rfl⟩,.inl ⟨pre,?_,Y_.out⟩⟩;have:=hpre.out;rw[Km s a (by omega),List.append_nil] at this;exact this.symm
end Go.Proofs.YtcaallkkeighdaaGreatDoor.P
namespace Go.Proofs.YtcaallkkeighdaaGreatDoor.P
open Go.RowKit Go.Shelf aD aQ aR
theorem h_(s:ByteArray)(w:World):Calls Tryz.prog 24 #[.string s] w fun e w'=>e=.returned (.int .i64 (cB s))/\Below w.heap.size w w':=by
 by_cases h:4096 < s.size
 .have hf:cB s=3:=by unfold cB;rw[if_pos h]
  have HF:=aj hf;clear hf;have b:decide (4096 < (s.size:Int))=true:=decide_eq_true (by omega);go_enter Tryz.func24,Tryz.ntmps24;go_wp2;go_ret;exact⟨by show Ending.returned (.int .i64 3)=_;rw[HF.out],Below.refl _ _⟩
 .have HF:=aj (show cB s=mY s s.size 0 by unfold cB;rw[if_neg h]);have b:decide (4096 < (s.size:Int))=false:=decide_eq_false (by omega);have hz:s.size<=4096:=by omega
  clear h;have kb:=fun W=>f_ (P:=Tryz.prog) 9 133 5 Tryz.underlying9 Tryz.underlying133 Tryz.underlying5 s W
  go_enter Tryz.func24,Tryz.ntmps24;go_wp2
  go_loopw [11] (fun v11 wr=>∃ (x:Int) (i:Nat),v11=.int .i64 x/\aC (x=(i:Int))/\aC (i<=s.size)/\aC (cB s=mY s (s.size - i) i)/\aC (dZ wr .u8 (some ⟨w.heap.size,0,none⟩) s.size (bytesOf s))/\aC (Below w.heap.size w wr))
   (fun v11 _=>s.size - (intOf v11).toNat)
  case atStart=>exact⟨0,0,rfl,⟨rfl⟩,⟨Nat.zero_le _⟩,HF,⟨oq w 5 s (by omega)⟩,⟨fE (Below.refl _ _) (Nat.le_refl _) 5 s⟩⟩
  case round =>
   obtain⟨x,i,rfl,hx,hi,Qm,hrd,hB⟩:=hrel;clear kb;have x0:0<=x:=by rw[hx.out];omega
   by_cases hlt:i < s.size
   .have b1:decide (x < (s.size:Int))=true:=decide_eq_true (by rw[hx.out];omega);have x1:x<=4095:=(by rw[hx.out];omega);have q1:x < (s.size:Int):=(by rw[hx.out];omega);obtain⟨ad,e,hcell⟩:=hrd.out.at_ x x0 q1;cases e
    rw[gU] at hcell;have hcz:wr.cell? ⟨w.heap.size,x.toNat,none⟩=some (.int .u8 (bt s x)):=(by rw[<-hcell,add_plain]);clear hcell;have hstep:mY s (s.size - i) i=if kindOf (bt s x)=0 then 4 else mY s (s.size - (i+1)) (i+1):=by
     rw[show s.size - i=(s.size - (i+1))+1 from by omega];simp only[mY];rw[hx.out]
    have HS:=aj hstep;clear hstep;by_cases e1:kindOf (bt s x)=0
    .have b2:(kindOf (bt s x) == 0)=true:=beq_iff_eq.mpr e1;have E1:=aj e1;clear e1;go_wp2_with (go_at_call 58;(with_reducible refine(gi.calls (bt s x) (kindOf (bt s x)) _ (Bf _)).mono ?_);rintro e w2 ⟨rfl,⟨nd,rfl⟩⟩);go_ret;refine⟨?_,aA hB.out _⟩;show Ending.returned (.int .i64 4)=_;rw[Qm.out,HS.out,if_pos E1.out]
    .have b2:(kindOf (bt s x) == 0)=false:=beq_eq_false_iff_ne.mpr e1;go_wp2_with (go_at_call 58;(with_reducible refine(gi.calls (bt s x) (kindOf (bt s x)) _ (Bf _)).mono ?_);rintro e w2 ⟨rfl,⟨nd,rfl⟩⟩);go_roundw
     case rel =>
      refine⟨x+1,i+1,rfl,⟨by rw[hx.out];omega⟩,⟨by omega⟩,⟨?_⟩,⟨?_⟩,⟨aA hB.out _⟩⟩
      .rw[Qm.out,HS.out,if_neg e1]
      .exact⟨hrd.out.1,hrd.out.2.1,hrd.out.2.2⟩
     case measure=>have:=hx.out;simp[intOf];omega
   .have b1:decide (x < (s.size:Int))=false:=decide_eq_false (by rw[hx.out];omega);go_wp2;go_ret;refine⟨?_,hB.out⟩;show Ending.returned (.int .i64 0)=_;rw[Qm.out,show s.size - i=0 from by omega];rfl
theorem CK(s:ByteArray)(a:Int)(w:World):Calls Tryz.prog 116 #[.string s,.int .i64 a] w fun e w'=>e=.returned (.int .i64 (placeOf s a))/\Below w.heap.size w w':=by
 by_cases h:cB s=0
 .have b:(cB s == 0)=true:=beq_iff_eq.mpr h;by_cases h1:a < 0
  .have HF:=aj (show placeOf s a=5 by unfold placeOf;rw[if_pos h,if_pos (.inl h1)]);have b1:decide (a < 0)=true:=decide_eq_true h1;clear h h1;go_enter Tryz.func116,Tryz.ntmps116;go_wp2_with (go_at_call 24;refine(h_ s _).mono ?_;rintro e w1 ⟨rfl,hb⟩);go_ret;exact⟨by show Ending.returned (.int .i64 5)=_;rw[HF.out],hb⟩
  .have b1:decide (a < 0)=false:=decide_eq_false h1;by_cases h2:(s.size:Int) < a
   .have HF:=aj (show placeOf s a=5 by unfold placeOf;rw[if_pos h,if_pos (.inr h2)]);have b2:decide ((s.size:Int) < a)=true:=decide_eq_true h2;clear h h1 h2;go_enter Tryz.func116,Tryz.ntmps116;go_wp2_with (go_at_call 24;refine(h_ s _).mono ?_;rintro e w1 ⟨rfl,hb⟩);go_ret;exact⟨by show Ending.returned (.int .i64 5)=_;rw[HF.out],hb⟩
   .have HF:=aj (show placeOf s a=0 by unfold placeOf;rw[if_pos h,if_neg (fun q=>q.elim h1 h2)]);have b2:decide ((s.size:Int) < a)=false:=decide_eq_false h2;have H0:=aj h;clear h h1 h2;go_enter Tryz.func116,Tryz.ntmps116;go_wp2_with (go_at_call 24;refine(h_ s _).mono ?_;rintro e w1 ⟨rfl,hb⟩);go_ret;exact⟨by show Ending.returned (.int .i64 (cB s))=_;rw[HF.out,H0.out],hb⟩
 .have HF:=aj (show placeOf s a=cB s by unfold placeOf;rw[if_neg h]);have b:(cB s == 0)=false:=beq_eq_false_iff_ne.mpr h;clear h;go_enter Tryz.func116,Tryz.ntmps116;go_wp2_with (go_at_call 24;refine(h_ s _).mono ?_;rintro e w1 ⟨rfl,hb⟩);go_ret;exact⟨by show Ending.returned (.int .i64 (cB s))=_;rw[HF.out],hb⟩
theorem qL(s:ByteArray)(w:World):Calls Tryz.prog 25 #[.string s] w fun e w'=>e=.returned (.func (.func 59) #[] #[.pointer (some ⟨w.heap.size,0,none⟩)])/\w'=w.alloc (.cells #[.string s] 9):=by
 go_enter Tryz.func25,Tryz.ntmps25;go_wp2;go_ret;exact⟨rfl,rfl⟩
theorem qM(s:ByteArray)(hs:s.size<=4096)(n:Nat)(hn:1<=n)(Bn:Nat)(w:World)(Sh:Bn < w.heap.size)(ρ:World->Option Nat)(hρ:∀ A B:World,(∀ i,i < w.heap.size->B.heap[i]? = A.heap[i]?)->ρ B=ρ A)
  (hr:∀ r,ρ w=some r->r < w.heap.size) (hc:w.cell? ⟨Bn,0,none⟩=some (.string s)) :
  SeqStopsK Fence.wide n Tryz.prog 59 #[.pointer (some ⟨Bn,0,none⟩)] (fun x:S50=>#[Value.agg #[.int .i64 x.f0,.int .i64 x.f1,.int .i64 x.f2]]) (Kc ρ w.heap.size Bn) (fun ys=>ys=cQ s) (fun pre=>pre <+: cQ s) (cQ s).length w:=by
 intro l J Jx W hW hJ _ hY h0;refine SS s hs n hn l Bn w.heap.size Sh ρ hρ J Jx (fun pre A B h g=>hJ pre A B none h g (fun r e=>by cases e)) hY W hW.size ((hW.cell (p:=⟨Bn,0,none⟩) Sh).trans hc) ?_ h0;intro r e;have:ρ W=ρ w:=hρ w W (fun i hi=>hW.block i hi);rw[this] at e;exact Nat.lt_of_lt_of_le (hr r e) hW.size
theorem Kc.refl{ρ:World->Option Nat}{n₁ Bn:Nat}{W:World}(_:∀ r,ρ W=some r->r < W.heap.size):Kc ρ n₁ Bn W W:=fun hr=>⟨Nat.le_refl _,rfl,fun _ _ _ h _ _=>h,fun r h=>⟨.inl h,hr r h⟩⟩
def Qn:World->Option Nat:=fun _=>none
theorem Kc.none{n₁ Bn:Nat}{A B:World}{row:Option Nat}(h:A.grownBy B row)(hB:Bn < A.heap.size)(hne:row≠some Bn)(hrow:∀ r,row=some r->r < n₁):Kc Qn n₁ Bn A B :=
 fun _=>⟨h.size,h.block Bn hB (fun e=>hne e.symm),fun i o hn hi _ _=>(h.block i (Array.getElem?_eq_some_iff.1 hi).1 (fun e=>by have:=hrow i e.symm;omega)).trans hi,fun r e=>by cases e⟩
theorem Kc.putObj{ρ:World->Option Nat}{n₁ Bn:Nat}(W:World)(l:Nat)(o o':Obj)(hl:n₁<=l)(Sh:Bn < n₁)(h:W.heap[l]? = some o)(hc:o.isCells=false)(hρ:ρ (W.putObj l o')=ρ W)(_:∀ r,ρ W=some r->r < W.heap.size):Kc ρ n₁ Bn W (W.putObj l o'):=by
 intro hr;have hg:=grownBy_putObj' W l o';refine⟨hg.size,hg.block Bn (by have:=(Array.getElem?_eq_some_iff.1 h).1;omega) (fun e=>by cases e;omega),fun i q hn hi hq _=>(hg.block i (Array.getElem?_eq_some_iff.1 hi).1 (fun e=>?_)).trans hi,fun r e=>?_⟩
 .cases e
  rw[h] at hi;cases hi
  rw[hc] at hq;cases hq
 .rw[hρ] at e;exact⟨.inl e,Nat.lt_of_lt_of_le (hr r e) hg.size⟩
theorem CM{W W':World}{B n:Nat}{t:TypeId}{v:Value}(h:Boxed W B t v)(hb:Below n W W')(hn:B < n):Boxed W' B t v:=(hb.block B hn).trans h
theorem three(w w1:World)(v1 v2 v3:Value)(t1 t2 t3:TypeId)(hb:Below (((w.alloc (.cells #[v1] t1)).alloc (.cells #[v2] t2)).alloc (.cells #[v3] t3)).heap.size (((w.alloc (.cells #[v1] t1)).alloc (.cells #[v2] t2)).alloc (.cells #[v3] t3)) w1) :
  Boxed w1 w.heap.size t1 v1/\Boxed w1 (w.heap.size+1) t2 v2/\Boxed w1 (w.heap.size+1+1) t3 v3/\w.heap.size+1+1+1<=w1.heap.size/\Below w.heap.size w w1:=by
 have x1:=((Boxed.new w t1 v1).alloc (.cells #[v2] t2)).alloc (.cells #[v3] t3);have x2:=(Boxed.new (w.alloc (.cells #[v1] t1)) t2 v2).alloc (.cells #[v3] t3);have x3:=Boxed.new ((w.alloc (.cells #[v1] t1)).alloc (.cells #[v2] t2)) t3 v3;have hs:=hb.size;simp only[World.size_alloc] at x2 x3 hs;refine⟨CM x1 hb (by simp;omega),CM x2 hb (by simp),CM x3 hb (by simp),hs,?_⟩;have hB0:Below w.heap.size w (((w.alloc (.cells #[v1] t1)).alloc (.cells #[v2] t2)).alloc (.cells #[v3] t3)):=(((Below.refl _ w).alloc (Nat.le_refl _) _).alloc (by simp) _).alloc (by simp;omega) _;exact hB0.trans (hb.mono (by simp;omega))
theorem qN(s:ByteArray)(h:cB s=0):s.size<=4096:=by
 unfold cB at h;split at h
 .cases h
 .omega
end Go.Proofs.YtcaallkkeighdaaGreatDoor.P
namespace Go.Proofs.YtcaallkkeighdaaGreatDoor.P
open Go.RowKit Go.Shelf aD aQ aR
attribute [local go_sem] Oper.semAt_some
theorem kV{F:Fence}{n:Nat}{P:Program}(w:World){ops:Array Oper}{rest:List Oper}{o:Oper}{a:Act}{Q:Exit->Act->World->Prop}
  (hg:o.guard=none) (s x:Operand) (t:TypeId) (hop:o.op=Op.call { callee:=Callee.builtin Builtin.append,args:=#[s,x],argTypes:=#[t,t] })
  (base:Nat) (e:TypeId) (i:TypeInfo) (z:Value) (size bytes:Nat) (h1:P.underlying t=some (.slice e)) (h2:P.info? e=some i) (h3:i.zero=some z) (h4:i.size=size) (h5:i.bytes=bytes) (h6:z.cells.size=size) (h7:0 < size)
  (v:Value) (k:Nat) (xs:List Value) (hs:a.eval s=v) (hown:w.ownsRow base e size v k xs) (ad:Addr) (m c:Nat) (news:List Value) (hx:a.eval x=.slice (some ad) m c) (hn:news.length=m * size)
  (hc:∀ j u,news[j]? = some u->w.cell? (ad.add j)=some u) (h1c:∀ u∈news,u.oneCell'=true) (b1:k+m<=maxLen) (b2:(k+m) * bytes<=140737488355328) (b3:base<=w.heap.size)
  (hK:∀ v' w',w'.ownsRow base e size v' (k+m) (xs ++ news)->w.grownBy w' v.ownBlock->(v'.ownBlock=v.ownBlock\/v'.ownBlock=some w.heap.size)->wpListIn F n P ops Q rest (a.put o.dst v') w') :
  wpListIn F n P ops Q (o :: rest) a w:=by
 refine wpListIn_plain hg fun K hK'=>?_
 obtain⟨v',w',hrun,r1,r2,_,r3⟩:=run_append_own_at (P:=P) (w:=w) base t o.type e i z size bytes h1 h2 h3 h4 h5 h6 h7 v k xs hown ad m c news hn hc h1c b1 b2 b3;unfold Oper.wpIn;refine⟨?_,?_⟩
 .simp[Oper.about,hop,resolve,Target.leads,Sem.run_pure]
 .rw[Oper.semAt_plain F _ _ (by rw[hop];intro c hc';cases hc')];simp[execOp,hop,resolve,invoke,builtin,hs,hx,hrun,Result.andThen];exact hK' _ _ (hK v' w' r1 r2 r3)
def yY(Bo:Nat):World->Option Nat:=fun W=>(W.cell? ⟨Bo,0,none⟩).bind Value.ownBlock
theorem iV{W:World}{Bo:Nat}{t:TypeId}{v:Value}(h:Boxed W Bo t v):yY Bo W=v.ownBlock:=by unfold yY;rw[h.cell];rfl
theorem ES{W w1:World}{n₀ n₁ Bo Bn m k:Nat}{tmp:Obj}{v v' t:Value}{xs ys:List Value}(hv:Boxed W Bo 37 v)(hv2:Boxed (w1.setCell ⟨Bo,0,none⟩ v') Bo 37 v')(hT:Boxed W Bn 9 t)(Qo:Bo < n₁)(hne:Bn≠Bo)
  (hrow:W.ownsRow n₀ 50 3 v k xs) (hown':w1.ownsRow n₀ 50 3 v' m ys) (hgrow:(W.alloc tmp).grownBy w1 v.ownBlock) (hat:v'.ownBlock=v.ownBlock\/v'.ownBlock=some (W.alloc tmp).heap.size):Kc (yY Bo) n₁ Bn W (w1.setCell ⟨Bo,0,none⟩ v'):=by
 intro _;have hs2:=(grownBy_setCell' w1 Bo v').size;have hs1:=hgrow.size;simp only[World.size_alloc] at hs1 hat;refine⟨by omega,?_,fun i o hn hi hc SV=>?_,fun r hr=>?_⟩
 .exact((grownBy_setCell' w1 Bo v').block Bn (by have:=hT.lt;omega) (fun e=>hne (by cases e;rfl))).trans ((hgrow.block Bn (by have:=hT.lt;simp;omega) (hT.not_row (by decide) hrow)).trans (Below.heap_alloc W tmp Bn hT.lt))
 .have hlt:=(Array.getElem?_eq_some_iff.1 hi).1;rw[iV hv] at SV;exact((grownBy_setCell' w1 Bo v').block i (by omega) (fun e=>by cases e;omega)).trans ((hgrow.block i (by simp;omega) SV).trans ((Below.heap_alloc W tmp i hlt).trans hi))
 .rw[iV hv2] at hr;rw[iV hv];have hlt:=jW hown' r hr;refine⟨?_,by omega⟩;rcases hat with h|h
  .exact .inl (h ▸ hr)
  .rw[h] at hr;cases hr
   exact .inr (by omega)
theorem ET(W:World)(a b c:Value):∀ j u,[a,b,c][j]? = some u->(W.alloc (.cells #[a,b,c] 50)).cell? ((⟨W.heap.size,0,none⟩:Addr).add j)=some u:=World.news_of_block (cs:=#[a,b,c]) (t:=50) (fr:=(0,0)) (heap_alloc_new W _)
def lP(xs:List S50):List Value:=xs.flatMap (fun x=>[.int .i64 x.f0,.int .i64 x.f1,.int .i64 x.f2])
theorem rV(xs:List S50)(x:S50):lP (xs ++ [x])=lP xs ++ [.int .i64 x.f0,.int .i64 x.f1,.int .i64 x.f2]:=by simp[lP]
theorem Bg(w:World)(base:Nat)(ok:Nat->Prop)(xs:List S50):iY (k50.M w base ok) 3 xs (lP xs):=by
 suffices h:∀ ys:List S50,iY (k50.M w base ok) 3 ys.reverse (lP ys.reverse) by simpa using h xs.reverse
 intro ys
 induction ys with
 | nil=>exact iY.none _ _
 | cons y ys ih =>
  rw[List.reverse_cons,rV];exact ih.snoc (Np w base ok y) rfl
theorem kE(s:ByteArray):∀ d a,(cP s d a).length<=d
 | 0,a=>by simp[cP]
 | d+1,a=>by
  simp only[cP];split
  .have:=kE s d (fH s a);simp;omega
  .simp
theorem CN(s:ByteArray)(hw:cB s=0)(w:World):Calls Tryz.prog 8 #[.string s] w fun e w'=>∃ v0_:Value,e=.returned (.tuple #[v0_,.int .i64 0])/\Kd.R k50 50 w' w.heap.size (fun _=>True) v0_ (cQ s)/\Below w.heap.size w w':=by
 have b0:(cB s != 0)=false:=by rw[hw];rfl
 have sz:s.size<=4096:=qN s hw;have hlen:(cQ s).length<=4096:=Nat.le_trans (kE s _ _) sz;obtain⟨i0,hi,hz0,hz1,hz2⟩:=info_parts Qa;refine(callsIn_wide (n:=5)).1 ?_;refine callsIn_of_wp_marks Tryz.func8 rfl trivial ?_ rfl;simp only[Tryz.ntmps8,List.size_toArray,List.length_cons,List.length_nil,Nat.reduceAdd,Nat.reduceSub,Array.replicate_succ,Array.replicate_zero,List.push_toArray,List.append_toArray,List.nil_append,List.cons_append];refine wpIn_wide.2 ?_;go_wp2_with (first|(go_at_call 24;refine(h_ s _).mono ?_;rintro e w1 ⟨rfl,hB⟩)|(go_at_call 25;refine(qL s _).mono ?_;rintro e w2 ⟨rfl,rfl⟩));have hB1:Below w.heap.size w ((w1.alloc (.cells #[.slice none 0 0] 37)).alloc (.cells #[.string s] 9)):=(hB.alloc hB.size _).alloc (by have:=hB.size;simp;omega) _;have bT:=Boxed.new (w1.alloc (.cells #[.slice none 0 0] 37)) 9 (.string s);have y2:=(Boxed.new w1 37 (.slice none 0 0)).alloc (.cells #[.string s] 9);have EU:((w1.alloc (.cells #[.slice none 0 0] 37)).alloc (.cells #[.string s] 9)).heap.size=w1.heap.size+1+1:=by simp
 simp only[World.size_alloc] at bT;have hsz:=hB.size;obtain⟨W0,hW0⟩:∃ W0,(w1.alloc (.cells #[.slice none 0 0] 37)).alloc (.cells #[.string s] 9)=W0:=⟨_,rfl⟩;rw[hW0] at hB1 bT y2 EU ⊢;clear hW0 hB;refine(wpIn_wide (n:=5)).1 ?_
 refine wpIn_rangeFunc_ownH rfl (by omega) (gf:=59) (lb:=#[.pointer (some ⟨w1.heap.size+1,0,none⟩)]) rfl trivial (enters_of Tryz.func59 (by kernel_rfl) rfl)
  (qM s sz (5 - 1) (by omega) (w1.heap.size+1) W0 (by omega) (yY w1.heap.size) (fun A B h=>by unfold yY;rw[cell_of_heap (h w1.heap.size (by omega))]) (fun r e=>by rw[iV y2] at e;cases e) bT.cell)
  Kc.trans (fun W l o o' hl ho hc _=>fun wf=>Kc.putObj W l o o' hl (by omega) ho hc (by unfold yY;rw[cell_of_heap (World.putObj_heap_other (by omega))]) wf wf) (Below.refl _ _) (fun _=>rfl)
  (fun pre W=>((∃ v,Boxed W w1.heap.size 37 v/\W.ownsRow w.heap.size 50 3 v pre.length (lP pre)/\True)/\Boxed W (w1.heap.size+1) 9 (.string s))/\Below w.heap.size w W)
  (fun _ _ _=>False)
  (OwnFrom.and (OwnFrom.and (Own.from (holdsRow_own w.heap.size w1.heap.size 37 50 3 (fun pre=>pre.length) (fun pre=>lP pre) (fun _ _=>True)) _) (Own.from (boxed_own _ _ _) _)) (ownFrom_below (Nat.le_refl _) (by omega)))
  (fun _ _ _ _ _ hs _ _=>hs)
  ⟨⟨⟨_,y2,World.ownsRow_nil _ _ _ _,trivial⟩,bT⟩,hB1⟩
  (fun x a' W=>∃ Bx,w1.heap.size+1 < Bx/\W.heap[Bx]? = some (.cells #[.int .i64 x.f0,.int .i64 x.f1,.int .i64 x.f2] 50 (0,0))/\a'={ tmps:=#[.string s,undef,.slice none 0 0,.int .i64 0,.int .i64 0,.pointer (some ⟨w1.heap.size,0,none⟩),.pointer (some ⟨Bx,0,none⟩),.string s,.int .i64 0,.int .i64 0,.bool false,undef,.string s,.func (.func 59) #[] #[.pointer (some ⟨w1.heap.size+1,0,none⟩)],.agg #[.int .i64 x.f0,.int .i64 x.f1,.int .i64 x.f2],undef,undef,undef,undef,undef],defers:=[] })
  (fun x a' _ X Y row hs hg hr=>by
   obtain⟨Bx,e1,e2,e3⟩:=hs;refine⟨Bx,e1,(hg.block Bx (Array.getElem?_eq_some_iff.1 e2).1 (fun e=>?_)).trans e2,e3⟩;obtain⟨_,o,ho,hoc⟩:=hr Bx e.symm;rw[e2] at ho;cases ho
   cases hoc)
  ?assign ?body ?done ?stop
 case assign =>
  rintro l pre x W K ⟨⟨⟨v,z2,hrow,_⟩,zT⟩,hB2⟩ hK
  gi_wp2
  refine hK _ _ ((KeepsOthers.alloc _ _).from _) (fun wf=>?_) ⟨⟨⟨v,z2.alloc _,hrow.alloc _,trivial⟩,zT.alloc _⟩,hB2.alloc hB2.size _⟩ ⟨W.heap.size,zT.lt,aH _ _,rfl⟩;refine⟨by simp,Below.heap_alloc W _ _ zT.lt,fun i o _ hi _ _=>aP hi _,fun r e=>?_⟩;rw[iV (z2.alloc _)] at e;rw[iV z2];exact⟨.inl e,by have:=wf r (by rw[iV z2];exact e);simp;omega⟩
 case body =>
  rintro l pre x a' W hl ⟨r,hr⟩ ⟨⟨⟨v,hv,hrow,_⟩,zT⟩,hB2⟩ ⟨Bx,Zb,bX,rfl⟩ hlt;have hc:=hv.cell;have k0:W.cell? ⟨Bx,0,none⟩=some (.int .i64 x.f0):=(ak bX 0).trans rfl;have k1:W.cell? ⟨Bx,1,none⟩=some (.int .i64 x.f1):=(ak bX 1).trans rfl;have k2:W.cell? ⟨Bx,2,none⟩=some (.int .i64 x.f2):=(ak bX 2).trans rfl
  gi_wp2_with (gi_at_builtin;refine kV _ rfl _ _ 37 rfl w.heap.size 50 i0 (.agg #[.int .i64 0,.int .i64 0,.int .i64 0]) 3 24 Tryz.underlying37 hi hz0 hz1 hz2 rfl (by decide) _ _ _ rfl (hrow.alloc _) ⟨W.heap.size,0,none⟩ 1 1 [.int .i64 x.f0,.int .i64 x.f1,.int .i64 x.f2] rfl rfl (ET _ _ _ _) (by simp[Value.oneCell']) (by simp only[maxLen];omega) (by omega) (by have:=hB2.size;simp;omega) ?_;intro v' w1 hown' hgrow hat;obtain⟨g',cap',rfl⟩:=ownsRow_succ hown';obtain⟨hv1,hv2,hr2,hk2,hb2⟩:=hv.appended (by decide) hrow hB2.size (by omega) hown' hgrow;have hc1:=hv1.cell;have hf1:=hv1.frozen)
  exact⟨hk2.from _,ES hv hv2 zT (by omega) (by omega) hrow hown' hgrow hat,⟨⟨_,hv2,by rw[rV];simpa using hr2,trivial⟩,((zT.alloc _).kept hgrow (zT.not_row (by decide) hrow)).other (by omega) _⟩,hB2.trans hb2⟩
 case done =>
  rintro D ys W hD rfl ⟨⟨⟨v,hv,hrow,_⟩,zT⟩,hB2⟩ hK;have hc:=hv.cell;go_wp2;refine⟨by simp,.inl ⟨_,_,rfl,run_takeDeferred hK,?_⟩⟩;exact⟨_,results_tmp2 rfl _ _ _,v,rfl,⟨fun _ _=>trivial,lP _,ownsRow_putObj hrow _ hK rfl,Bg _ _ _ _⟩,hB2.trans (belowK_b (w:=w) (Nat.le_refl _) W D _ _ (by omega) hK rfl rfl)⟩
 case stop =>
  rintro D c pre W hD hpre h hK;exact h.elim
theorem iK.calls(k:Nat)(a0:ByteArray)(r1:List (S50))(r2:Int)(w:World)(h:iK.f k a0=some (r1,r2)) :
  Calls Tryz.prog 8 #[.string a0] w fun e w'=>∃ v0_:Value,e=.returned (.tuple #[v0_,.int .i64 r2])/\Kd.R k50 50 w' w.heap.size (fun _=>True) v0_ r1/\Below w.heap.size w w':=by
 obtain⟨rfl,rfl⟩:(gL a0).1=r1/\(gL a0).2=r2:=by
  have:gL a0=(r1,r2):=Option.some.inj h;rw[this];exact⟨rfl,rfl⟩
 clear h;by_cases hw:cB a0=0
 .have e:gL a0=(cQ a0,0):=by unfold gL;rw[if_pos hw]
  rw[e];exact CN a0 hw w
 .have HE:=aj (show gL a0=([],cB a0) by unfold gL;rw[if_neg hw]);have b0:(cB a0 != 0)=true:=by simp[hw]
  go_enter Tryz.func8,Tryz.ntmps8;go_wp2_with (go_at_call 24;refine(h_ a0 _).mono ?_;rintro e w1 ⟨rfl,hB⟩);go_ret2;exact⟨.slice none 0 0,by rw[HE.out];rfl,by rw[HE.out];exact Kd.nO _ _ _ _ _,hB⟩
end Go.Proofs.YtcaallkkeighdaaGreatDoor.P
