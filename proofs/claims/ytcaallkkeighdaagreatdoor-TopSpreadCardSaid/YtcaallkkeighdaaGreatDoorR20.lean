/- The breaker's line: gathered from an item on. -/
import Derived.Test.YtcaallkkeighdaaGreatDoorR19
set_option maxRecDepth 100000
set_option maxHeartbeats 16000000
set_option linter.unusedVariables false
set_option linter.unusedSimpArgs false
namespace Go.Proofs.YtcaallkkeighdaaGreatDoor.P
open Go.RowKit aD aQ aR
attribute [local go_sem] cN cO dw dA
structure Le(wp:World)(A:Option Addr)(c:Nat)(l:List S75)(bs br:Nat)(A2:Option Addr)(c2:Nat)(S:List S30)(r:S30):Prop where
 rd:Kd.C k75 wp A l.length l
 cap:l.length<=c
 sl:Il wp bs br A2 c2 S r
 ok:bV S r=0
 ins:∀ x∈l,cY x
 len:l.length<=8192
def lf(bs br:Nat):Value:=.func (.func 101) #[] #[.pointer (some ⟨bs,0,none⟩),.pointer (some ⟨br,0,none⟩)]
structure Dn(wp:World)(A:Option Addr)(c n bs br:Nat)(v:Value)(out:List S72)(w:World):Prop where
 hb:Below wp.heap.size wp w
 blk:w.heap[wp.heap.size]? = some (.cells #[.slice A n c,lf bs br,v] 171 (0,0))
 row:k72.R 72 w (wp.heap.size+1) (fun _=>True) v out
def QN(w0:World)(s:S30)(v:Value)(wc:World):Prop:=∃ g,v=.pointer (some ⟨g,0,none⟩)/\w0.heap.size<=g/\wc.heap[g]? = some (.cells #[.int .i64 s.f0,.int .i64 s.f1] 30 (0,0))/\Below w0.heap.size w0 wc
def Tn(R:Int × Int × Bool)(v6 v7 v8:Value):Prop:=v6=.int .i64 R.1/\v7=.int .i64 R.2.1/\v8=.bool R.2.2
def Lf(wp:World)(A:Option Addr)(c:Nat)(l:List S75)(bs br:Nat)(S:List S30)(r:S30)(out:List S72)(a:Nat)(e:Ending)(w':World):Prop:=e=.returned (.int .i64 ((dR l (bG S r out.length) a:Nat):Int))/\∃ v',Dn wp A c l.length bs br v' (out ++ [pU l (bG S r out.length) a]) w'
theorem Lg{n:Nat}{x:Int}(hx:(n:Int)=x)(s:List S30)(r:S30)(A:Option Addr)(c bs br:Nat)(w:World)(h:Il w bs br A c s r) :
  Calls Tryz.prog 101 #[.int .i64 x,.pointer (some ⟨bs,0,none⟩),.pointer (some ⟨br,0,none⟩)] w fun e w'=>e=.returned (.agg #[.int .i64 (bG s r n).f0,.int .i64 (bG s r n).f1])/\Below w.heap.size w w':=by
 subst hx;exact Bv n s r A c bs br w h
theorem GY:(Tryz.prog.info? 72).map (fun i=>(i.zero,i.size,i.bytes))=some (some (.agg #[.int .i64 0,.int .i64 0,.bool false,.bool false,.int .i64 0]),k72.sz,32):=Qc
theorem IK{i:Nat}{y:Int}(hy:(i:Int)=y)(l:List S75)(r:Bool)(A:Option Addr)(c b:Nat)(f v:Value)(w:World)(h:vD w b A c l f v)(hi:i<=l.length)(hn:l.length<=8192)(hr:eH l i=r) :
  Calls Tryz.prog 129 #[.pointer (some ⟨b,0,none⟩),.int .i64 y] w fun e w'=>e=.returned (.bool r)/\w'=w:=by
 subst hy;exact zl l i r A c b f v w h hi hn hr
theorem Dp{i:Nat}{y:Int}(hy:(i:Int)=y)(l:List S75)(at_ R:Int)(A:Option Addr)(c b:Nat)(f v:Value)(w:World)(h:vD w b A c l f v)(hi:i < l.length)(hn:l.length<=8192)(hx:cY (aX l i))(h0:0<=at_)(h1:at_<=1000000000000)(hr:ke (aX l i) at_=R) :
  Calls Tryz.prog 130 #[.pointer (some ⟨b,0,none⟩),.int .i64 y,.int .i64 at_] w fun e w'=>e=.returned (.int .i64 R)/\Below w.heap.size w w':=by
 subst hy;exact BL l i at_ R A c b f v w h hi hn hx h0 h1 hr
theorem vQ{P:Program}{o:Oper}{a:Act}{w':World}(ty:TypeId)(x:Operand)(ho:o.op=.load ty x)(g:Nat)(hx:a.eval x=.pointer (some ⟨g,0,none⟩))(t:TypeId)(cs:Array Value)(fr:Nat × Nat)(d:TypeDesc)
  (hg:w'.heap[g]? = some (.cells cs t fr)) (hu:P.underlying ty=some d) (hd:(match d with|.struct _|.array _ _=>true|_=>false)=true) (hi:(P.info? ty).map (·.size)=some cs.size):(execOp a.eval o).run P w'=.ok (.value (.agg cs)) w':=by
 unfold execOp;simp only[ho,hx,Instr.loadAt,Instr.sureAddr,Sem.run_bind,Sem.run_pure,Result.andThen_ok,run_loadVar_row w' g t ty cs fr d hg hu hd hi]
def Lh:Bool × List (List Nat × List Nat):=(true,[([],[]),([],[]),([1],[1]),([2],[2]),([3],[3]),([],[]),([5],[5]),([4,6],[4,6]),([0,0,1,2,3,4,5,6,7],[0]),([8,0,1,2,3,4,5,6,7],[8]),([9,7,7,0,1,2,3,4,5,6,7],[7,9])])
def QO:List Nat:=[0,0,2,6,14,0,32,126,255,511,1023]
theorem Li:jZ .any (opsOf Tryz.f103 23)=Lh:=by kernel_rfl
theorem IL:kC Lh.2 QO=true:=by kernel_rfl
theorem Fx(wp:World)(A:Option Addr)(c:Nat)(l:List S75)(bs br:Nat)(A2:Option Addr)(c2:Nat)(S:List S30)(r:S30)(v:Value)(out:List S72)(a:Nat)(w:World)(hF:Le wp A c l bs br A2 c2 S r)(hS:Dn wp A c l.length bs br v out w)(ha:a < l.length)(ho:out.length<=8192) :
  Calls Tryz.prog 103 #[.pointer (some ⟨wp.heap.size,0,none⟩),.int .i64 (a:Int)] w (Lf wp A c l bs br S r out a):=by
 have HF:=aj hF;have HS:=aj hS;obtain⟨oA,oc,ev,hoc,hoC⟩:=Kd.fG hS.row;subst ev;obtain⟨s,hs⟩:∃ s,bG S r out.length=s:=⟨_,rfl⟩;have Xz:=aj hs;obtain⟨n,hnn⟩:∃ n,l.length=n:=⟨_,rfl⟩;have dF:=aj hnn;obtain⟨k,hk⟩:∃ k,out.length=k:=⟨_,rfl⟩;have HK:=aj hk;have Tp:=aj (show bG S r k=s by rw[<-hk];exact hs);obtain⟨b,hb⟩:∃ b,wp.heap.size=b:=⟨_,rfl⟩;have Eu:=aj hb;obtain⟨x,hx⟩:∃ x:Int,(a:Int)=x:=⟨_,rfl⟩;have HX:=aj hx.symm;have JR:=aj (show a < n by omega);have HON:=aj ho;have hblk:=hS.blk;rw[hk,hb,hnn] at hblk;rw[hb,hx];have x0:w.cell? ⟨b,0,none⟩=some (.slice A n c):=(ak hblk 0).trans rfl;have x1:w.cell? ⟨b,1,none⟩=some (.func (.func 101) #[] #[.pointer (some ⟨bs,0,none⟩),.pointer (some ⟨br,0,none⟩)]):=(ak hblk 1).trans rfl;have x2:w.cell? ⟨b,2,none⟩=some (.slice oA k oc):=(ak hblk 2).trans rfl;have JQ:=aj hblk;clear hF hS hs hnn hk hb hx ha ho hoc hoC hblk;go_enter Tryz.func103,Tryz.ntmps103;go_upto_region 1 with(fail);go_cut [5] from 14 to 23 (fun v5 wc=>QN w s v5 wc)
 case first =>
  go_region_held3 (fun w'=>w'.cell? ⟨b,1,none⟩=some (.func (.func 101) #[] #[.pointer (some ⟨bs,0,none⟩),.pointer (some ⟨br,0,none⟩)])/\w'.cell? ⟨b,2,none⟩=some (.slice oA k oc)) (first|exact⟨x1,x2⟩|exact⟨cM x1 _,cM x2 _⟩|exact⟨bH hb2 x1,bH hb2 x2⟩|exact⟨cM (bH hb2 x1) _,cM (bH hb2 x2) _⟩|exact⟨bH hb2 (cM x1 _),bH hb2 (cM x2 _)⟩|exact⟨bH ((hq2.setCell (Nat.le_refl _) _).setCell (Nat.le_refl _) _) x1,bH ((hq2.setCell (Nat.le_refl _) _).setCell (Nat.le_refl _) _) x2⟩|go_keep)
   (first|(go_at_call 101;refine(Lg (n:=k) rfl S r A2 c2 bs br _ (HF.out.sl.below ((HS.out.hb).trans ((by repeat(with_reducible first|exact Below.refl _ _|apply aF|apply aA|apply aG):Below w.heap.size w _).mono HS.out.hb.size)))).mono ?_;rintro e w2 ⟨rfl,hb2⟩;have hq2:Below w.heap.size w w2:=Below.trans (by repeat(with_reducible first|exact Below.refl _ _|apply aF|apply aA|apply aG)) (hb2.mono (by simp));(try (have hz2:w2.heap[w.heap.size]? = some (.cells #[.int .i64 0,.int .i64 0] 30 (0,0)):=ay (b_ (aH _ _)) hb2;have z0:w2.cell? ⟨w.heap.size,0,none⟩=some (.int .i64 0):=(ak hz2 0).trans rfl;have z1:w2.cell? ⟨w.heap.size,1,none⟩=some (.int .i64 0):=(ak hz2 1).trans rfl;have f0:=aB hz2 0;have f1:=aB hz2 1)))) 
  all_goals go_wp2
  all_goals go_meet
  all_goals (rw[Tp.out] at *)
  all_goals first|exact⟨_,rfl,hq2.size,aH _ _,hq2.alloc hq2.size _⟩|exact⟨_,rfl,Nat.le_refl _,aN (aN hz2 0 _ rfl) 1 _ rfl,(hq2.setCell (Nat.le_refl _) _).setCell (Nat.le_refl _) _⟩
 case rest =>
  obtain⟨g,rfl,hg,hgb,hB⟩:=hcut;have HG:=aj hgb;have za:=aj hg;have HQ:=aj hB;have Sv:=aj (HS.out.hb.trans (hB.mono HS.out.hb.size));have JT:=aj (ay JQ.out hB);clear x0 x1 x2 hg hgb hB;generalize wc=wq at *;obtain⟨R,hR⟩:∃ R,tU l s a=R:=⟨_,rfl⟩;have HR:=aj hR;clear hR;have s0:wq.cell? ⟨g,0,none⟩=some (.int .i64 s.f0):=(ak HG.out 0).trans rfl;go_upto_block 0 with(fail);clear s0;have KH:=aj (show 0<=s.f0/\s.f0<=4095/\0<=s.f1/\s.f1<=4095 by rw[<-Xz.out];exact fU HF.out.ok _);go_cut [6,7,8] from 9 to 116 (fun v6 v7 v8 wc=>Tn R v6 v7 v8/\aC (Below wq.heap.size wq wc))
  case first =>
   go_wp2;go_loopw [6,7,8,9,10,11,12] (fun v6 v7 v8 v9 v10 v11 v12 wr=>∃ (best nat at_ en y:Int) (wide:Bool) (i:Nat),v6=.int .i64 best/\v7=.int .i64 nat/\v8=.bool wide/\v9=.int .i64 at_/\v10=.int .i64 en/\v11=.int .i64 y/\aC (y=(i:Int))/\aC (a<=i/\i<=n+1)/\aC (s.f0<=en/\en<=at_/\at_<=4095+2097152 * ((i:Int) - a))/\aC (mh l s a (n+1 - i) i at_ en best nat wide=R)/\aC (Below wq.heap.size wq wr)) (fun _ _ _ _ _ v11 _ _=>n+1 - (intOf v11).toNat)
   case atStart=>exact⟨-1,0,s.f0,s.f0,x,false,a,rfl,rfl,rfl,rfl,rfl,rfl,HX,⟨by have:=JR.out;omega⟩,⟨by have:=KH.out;omega⟩,⟨by rw[<-HR.out,<-dF.out];rfl⟩,⟨Below.refl _ _⟩⟩
   case round =>
    obtain⟨best,nat,at_,en,y,wide,i,rfl,rfl,rfl,rfl,rfl,rfl,hy,hi,hb,Tq,HB⟩:=hrel;have IU:=aj (show vD wr b A c l (lf bs br) (.slice oA k oc) from ⟨by have:=ay JT.out HB.out;rw[dF.out];exact this,Kd.aM HF.out.rd (Sv.out.trans (HB.out.mono Sv.out.size)),HF.out.cap⟩);have x0:wr.cell? ⟨b,0,none⟩=some (.slice A n c):=(ak (ay JT.out HB.out) 0).trans rfl;have HN8:=aj (show n<=8192 by rw[<-dF.out];exact HF.out.len);by_cases hin:i<=n
    .have d9:decide (y<=(n:Int))=true:=decide_eq_true (by rw[hy.out];omega);have Oh:=aj hin;have K_:=aj hy.out.symm;obtain⟨B,hB⟩:∃ B:Bool,(decide (a < i) && eH l i)=B:=⟨_,rfl⟩;have qx:=aj hB;clear hB hin;go_upto_region 8 with(fail);go_cut [45] from 29 to 44 (fun v45 wc=>v45=.bool B/\wr=wc)
     case first =>
      by_cases h1:a < i
      .have d1:decide (x < y)=true:=decide_eq_true (by rw[hy.out,HX.out];omega);have Lj:=aj (show eH l i=B by rw[<-qx.out,decide_eq_true h1,Bool.true_and]);clear h1;go_wp2_with (go_at_call 129;go_loud(refine(IK K_.out l B A c b _ _ wr IU.out (by rw[dF.out];exact Oh.out) HF.out.len Lj.out).mono ?_;rintro e w5 ⟨rfl,q_⟩;have q_:=q_.symm;subst q_));go_meet
       case rel=>exact⟨rfl,rfl⟩
      .have d1:decide (x < y)=false:=decide_eq_false (by rw[hy.out,HX.out];omega);have Lj:=aj (show false=B by rw[<-qx.out,decide_eq_false h1,Bool.false_and]);clear h1;go_wp2;go_meet
       case rel=>exact⟨congrArg Value.bool Lj.out,rfl⟩
     case rest =>
      obtain⟨rfl,rfl⟩:=hcut;go_upto_if 45 with(fail);have hstep:n+1 - i=(n - i)+1:=(by have:=Oh.out;omega);rw[hstep] at Tq;clear hstep;have z0:wr.cell? ⟨g,0,none⟩=some (.int .i64 s.f0):=(ak (ay HG.out HB.out) 0).trans rfl;have z1:wr.cell? ⟨g,1,none⟩=some (.int .i64 s.f1):=(ak (ay HG.out HB.out) 1).trans rfl;go_cut [6,7,8,12] from 46 to 95 (fun v6 v7 v8 v12 wc=>∃ (best nat:Int) (wide:Bool),v6=.int .i64 best/\v7=.int .i64 nat/\v8=.bool wide/\aC (mh l s a (n - i) (i+1) (if i < l.length then ke (aX l i) at_ else at_) (if i < l.length/\(aX l i).f0≠2 then ke (aX l i) at_ else en) best nat wide=R)/\wr=wc)
      case first =>
       cases B with
       | false =>
        have jr:=Tq.out;unfold mh at jr;rw[if_neg (by intro q;have:=qx.out;rw[decide_eq_true q.1,q.2] at this;cases this)] at jr;have jr:=aj jr;go_wp2;go_meet
        case rel=>exact⟨_,_,_,rfl,rfl,rfl,jr,rfl⟩
       | true =>
        have MZ:=aj (show a < i/\eH l i=true by simpa using qx.out);have jr:=Tq.out;unfold mh at jr;rw[if_pos MZ.out] at jr;have hb3:s.f0<=en/\en<=100000000000:=(by have:=hb.out;have:=hi.out;have:=HN8.out;omega);obtain⟨hb30,hb31⟩:=hb3;have hx0:=KH.out;obtain⟨hx1,hx2,hx3,hx4⟩:=hx0;have e1:wrap64 (en - s.f0)=en - s.f0:=dN _ (by omega);by_cases hp:i < n/\(aX l i).f0=3
        .have d2:decide (y < (n:Int))=true:=decide_eq_true (by rw[hy.out];omega);have q0:0<=y:=(by rw[hy.out];omega);have q1:y < (n:Int):=(by rw[hy.out];omega);have q2:y<=8192:=(by rw[hy.out];have:=HN8.out;omega);have p0:=eq_true q0;have p1:=eq_true q1;obtain⟨ad,e0,k0,_,_,k3,_⟩:=eD IU.out.rd y q0 (by rw[dF.out];exact q1);cases e0
         rw[dn hy.out] at k0 k3;have hg3:((aX l i).f0 == 3)=true:=(by simp[hp.2]);have zh:=aj (show sG l s i en=en - s.f0+(aX l i).f3 by unfold sG;rw[if_pos ⟨by rw[dF.out];exact hp.1,hp.2⟩]);have hw3:=(HF.out.ins _ (jI (l:=l) (i:=i) (by rw[dF.out];exact hp.1))).w;obtain⟨Q,hQ⟩:∃ Q,sG l s i en=Q:=⟨_,rfl⟩;have e2:wrap64 (en - s.f0+(aX l i).f3)=Q:=(by rw[<-hQ,zh.out];exact dN _ (by omega));rw[hQ] at jr;clear hQ zh hp hw3;generalize (aX l i).f3=W3 at k3 e2;generalize hgg:(aX l i).f0=g3 at k0 hg3;clear hgg;have HE2:=aj e2;by_cases hw:s.f1 < Q
         .have d3:decide (s.f1 < Q)=true:=decide_eq_true hw;have d4:decide (Q<=s.f1)=false:=decide_eq_false (by omega);by_cases hbs:best < 0
          .have d5:decide (best < 0)=true:=decide_eq_true hbs;rw[if_pos (.inl hbs),if_pos hw,<-hy.out] at jr;have jr:=aj jr;clear hw hbs;go_wp2;go_meet
           case rel=>exact⟨by rw[<-jr.out];exact⟨rfl,congrArg (Value.int .i64) HE2.out,rfl⟩,HB⟩
          .have d5:decide (best < 0)=false:=decide_eq_false hbs;rw[if_neg (by omega)] at jr;have jr:=aj jr;clear hw hbs;go_wp2;go_meet
           case rel=>exact⟨by rw[<-jr.out];exact⟨rfl,rfl,rfl⟩,HB⟩
         .have d3:decide (s.f1 < Q)=false:=decide_eq_false hw;have d4:decide (Q<=s.f1)=true:=decide_eq_true (by omega);rw[if_pos (.inr (by omega)),if_neg hw,<-hy.out] at jr;have jr:=aj jr;by_cases hbs:best < 0
          .have d5:decide (best < 0)=true:=decide_eq_true hbs;clear hw hbs;go_wp2;go_meet
           case rel=>exact⟨_,Q,_,rfl,congrArg (Value.int .i64) HE2.out,rfl,jr,rfl⟩
          .have d5:decide (best < 0)=false:=decide_eq_false hbs;clear hw hbs;go_wp2;go_meet
           case rel=>exact⟨_,Q,_,rfl,congrArg (Value.int .i64) HE2.out,rfl,jr,rfl⟩
        .have HP:=aj hp;have zh:=aj (show sG l s i en=en - s.f0 by unfold sG;rw[if_neg (by rw[dF.out];exact hp)];exact Int.add_zero _);rw[zh.out] at jr;clear zh;by_cases hp1:i < n
         .have d2:decide (y < (n:Int))=true:=decide_eq_true (by rw[hy.out];omega);have q0:0<=y:=(by rw[hy.out];omega);have q1:y < (n:Int):=(by rw[hy.out];omega);have q2:y<=8192:=(by rw[hy.out];have:=HN8.out;omega);have p0:=eq_true q0;have p1:=eq_true q1;obtain⟨ad,e0,k0,_⟩:=eD IU.out.rd y q0 (by rw[dF.out];exact q1);cases e0
          rw[dn hy.out] at k0;have hg3:((aX l i).f0 == 3)=false:=(by simpa using (fun q=>HP.out ⟨hp1,q⟩));clear hp hp1;generalize hgg:(aX l i).f0=g3 at k0 hg3;clear hgg;by_cases hw:s.f1 < en - s.f0
          .have d3:decide (s.f1 < en - s.f0)=true:=decide_eq_true hw;have d4:decide (en - s.f0<=s.f1)=false:=decide_eq_false (by omega);by_cases hbs:best < 0
           .have d5:decide (best < 0)=true:=decide_eq_true hbs;rw[if_pos (.inl hbs),if_pos hw,<-hy.out] at jr;have jr:=aj jr;clear hw hbs;go_wp2;go_meet
            case rel=>exact⟨by rw[<-jr.out];exact⟨rfl,rfl,rfl⟩,HB⟩
           .have d5:decide (best < 0)=false:=decide_eq_false hbs;rw[if_neg (by omega)] at jr;have jr:=aj jr;clear hw hbs;go_wp2;go_meet
            case rel=>exact⟨by rw[<-jr.out];exact⟨rfl,rfl,rfl⟩,HB⟩
          .have d3:decide (s.f1 < en - s.f0)=false:=decide_eq_false hw;have d4:decide (en - s.f0<=s.f1)=true:=decide_eq_true (by omega);rw[if_pos (.inr (by omega)),if_neg hw,<-hy.out] at jr;have jr:=aj jr;by_cases hbs:best < 0
           .have d5:decide (best < 0)=true:=decide_eq_true hbs;clear hw hbs;go_wp2;go_meet
            case rel=>exact⟨_,_,_,rfl,rfl,rfl,jr,rfl⟩
           .have d5:decide (best < 0)=false:=decide_eq_false hbs;clear hw hbs;go_wp2;go_meet
            case rel=>exact⟨_,_,_,rfl,rfl,rfl,jr,rfl⟩
         .have d2:decide (y < (n:Int))=false:=decide_eq_false (by rw[hy.out];omega);clear hp hp1;by_cases hw:s.f1 < en - s.f0
          .have d3:decide (s.f1 < en - s.f0)=true:=decide_eq_true hw;have d4:decide (en - s.f0<=s.f1)=false:=decide_eq_false (by omega);by_cases hbs:best < 0
           .have d5:decide (best < 0)=true:=decide_eq_true hbs;rw[if_pos (.inl hbs),if_pos hw,<-hy.out] at jr;have jr:=aj jr;clear hw hbs;go_wp2;go_meet
            case rel=>exact⟨by rw[<-jr.out];exact⟨rfl,rfl,rfl⟩,HB⟩
           .have d5:decide (best < 0)=false:=decide_eq_false hbs;rw[if_neg (by omega)] at jr;have jr:=aj jr;clear hw hbs;go_wp2;go_meet
            case rel=>exact⟨by rw[<-jr.out];exact⟨rfl,rfl,rfl⟩,HB⟩
          .have d3:decide (s.f1 < en - s.f0)=false:=decide_eq_false hw;have d4:decide (en - s.f0<=s.f1)=true:=decide_eq_true (by omega);rw[if_pos (.inr (by omega)),if_neg hw,<-hy.out] at jr;have jr:=aj jr;by_cases hbs:best < 0
           .have d5:decide (best < 0)=true:=decide_eq_true hbs;clear hw hbs;go_wp2;go_meet
            case rel=>exact⟨_,_,_,rfl,rfl,rfl,jr,rfl⟩
           .have d5:decide (best < 0)=false:=decide_eq_false hbs;clear hw hbs;go_wp2;go_meet
            case rel=>exact⟨_,_,_,rfl,rfl,rfl,jr,rfl⟩
      case rest =>
       obtain⟨Ll,QS,wide',rfl,rfl,rfl,QT,rfl⟩:=hcut;clear Tq z0 z1;have hat:=hb.out;have hii:=hi.out;have hn8:=HN8.out;have hs0:=KH.out.1;have HA0:=aj (show 0<=at_/\at_<=1000000000000 by omega);clear hat hii hn8 hs0;by_cases Oi:i < n
       .have HI2:=aj (show i < l.length by rw[dF.out];exact Oi);have d2:decide (y < (n:Int))=true:=decide_eq_true (by rw[hy.out];omega);have q0:0<=y:=(by rw[hy.out];omega);have q1:y < (n:Int):=(by rw[hy.out];omega);have q2:y<=8192:=(by rw[hy.out];have:=HN8.out;omega);have p0:=eq_true q0;have p1:=eq_true q1;have KL:=aj (HF.out.ins _ (jI HI2.out));obtain⟨P,hP⟩:∃ P,ke (aX l i) at_=P:=⟨_,rfl⟩;have HP:=aj hP;have Sw:=aj (show at_<=P/\P<=at_+2097152 by rw[<-hP];exact BK KL.out at_ HA0.out.1);rw[if_pos HI2.out,hP] at QT;clear Oi hP;by_cases kg:(aX l i).f0=2
        .rw[if_neg (fun q=>q.2 kg)] at QT;have hk2:((aX l i).f0 != 2)=false:=(by simp[kg]);clear kg;go_wp2_with (go_at_call 130;go_loud(refine(Dp K_.out l at_ P A c b _ _ wr IU.out HI2.out HF.out.len KL.out HA0.out.1 HA0.out.2 HP.out).mono ?_;rintro e w5 ⟨rfl,hb5⟩;have Lm:=aj (IU.out.below hb5);have x5:w5.cell? ⟨b,0,none⟩=some (.slice A n c):=(by rw[<-dF.out];exact(ak Lm.out.blk 0).trans rfl);obtain⟨ad,e0,k0,_⟩:=eD Lm.out.rd y q0 (by rw[dF.out];exact q1);cases e0;rw[dn hy.out] at k0;generalize (aX l i).f0=g3 at *));go_roundw
         case rel=>exact⟨Ll,QS,P,en,y+1,wide',i+1,rfl,rfl,rfl,rfl,rfl,rfl,⟨by rw[hy.out];omega⟩,⟨by have:=HI2.out;have:=dF.out;have:=hi.out;omega⟩,⟨by have:=hb.out;have:=Sw.out;omega⟩,⟨by rw[show n+1 - (i+1)=n - i by omega];exact QT.out⟩,⟨HB.out.trans (hb5.mono HB.out.size)⟩⟩
         case measure=>have:=HI2.out;have:=dF.out;have:=hy.out;simp[intOf];omega
        .rw[if_pos ⟨HI2.out,kg⟩] at QT;have hk2:((aX l i).f0 != 2)=true:=(by simpa using kg);clear kg;go_wp2_with (go_at_call 130;go_loud(refine(Dp K_.out l at_ P A c b _ _ wr IU.out HI2.out HF.out.len KL.out HA0.out.1 HA0.out.2 HP.out).mono ?_;rintro e w5 ⟨rfl,hb5⟩;have Lm:=aj (IU.out.below hb5);have x5:w5.cell? ⟨b,0,none⟩=some (.slice A n c):=(by rw[<-dF.out];exact(ak Lm.out.blk 0).trans rfl);obtain⟨ad,e0,k0,_⟩:=eD Lm.out.rd y q0 (by rw[dF.out];exact q1);cases e0;rw[dn hy.out] at k0;generalize (aX l i).f0=g3 at *));go_roundw
         case rel=>exact⟨Ll,QS,P,P,y+1,wide',i+1,rfl,rfl,rfl,rfl,rfl,rfl,⟨by rw[hy.out];omega⟩,⟨by have:=HI2.out;have:=dF.out;have:=hi.out;omega⟩,⟨by have:=hb.out;have:=Sw.out;omega⟩,⟨by rw[show n+1 - (i+1)=n - i by omega];exact QT.out⟩,⟨HB.out.trans (hb5.mono HB.out.size)⟩⟩
         case measure=>have:=HI2.out;have:=dF.out;have:=hy.out;simp[intOf];omega
       .have HI2:=aj (show ¬ i < l.length by rw[dF.out];exact Oi);have d2:decide (y < (n:Int))=false:=decide_eq_false (by rw[hy.out];omega);rw[if_neg HI2.out,if_neg (fun q=>HI2.out q.1)] at QT;have q2:0<=y/\y<=8192:=(by rw[hy.out];have:=HN8.out;have:=Oh.out;omega);obtain⟨q20,q21⟩:=q2;clear Oi;go_wp2;go_roundw
        case rel=>exact⟨Ll,QS,at_,en,y+1,wide',i+1,rfl,rfl,rfl,rfl,rfl,rfl,⟨by rw[hy.out];omega⟩,⟨by have:=Oh.out;have:=hi.out;omega⟩,⟨by have:=hb.out;omega⟩,⟨by rw[show n+1 - (i+1)=n - i by omega];exact QT.out⟩,HB⟩
        case measure=>have:=Oh.out;have:=hy.out;simp[intOf];omega
    .have d9:decide (y<=(n:Int))=false:=decide_eq_false (by rw[hy.out];omega);have HRE:=aj (show(best,nat,wide)=R by rw[<-Tq.out,show n+1 - i=0 by omega];rfl);clear hin;go_wp2;go_meet
     case rel=>exact⟨by rw[<-HRE.out];exact⟨rfl,rfl,rfl⟩,HB⟩
  case rest =>
   obtain⟨hL,HB⟩:=hcut;generalize wc=wo at *;obtain⟨rfl,rfl,rfl⟩:=hL;obtain⟨N,hN⟩:∃ N,dR l s a=N:=⟨_,rfl⟩;have hsp:=iw l s a (by have:=JR.out;have:=dF.out;omega);rw[hN,HR.out] at hsp;have zf:=aj (And.intro hsp.2.1 hsp.2.2.1);have IC:=aj (show pU l s a=⟨(a:Int),(N:Int),R.2.2,ny l N,R.2.1⟩ by unfold pU;rw[hN,HR.out]);have HN1:=aj hN;rw[hsp.1];generalize R.2.1=nat at *;generalize R.2.2=wide at *;clear hN hsp HR;obtain⟨y,hy'⟩:∃ y:Int,(N:Int)=y:=⟨_,rfl⟩;have hy:=aj hy'.symm;rw[hy'] at IC ⊢;rw[<-HX.out] at IC;clear hy';have IU:=aj (show vD wo b A c l (lf bs br) (.slice oA k oc) from ⟨by have:=ay JT.out HB.out;rw[dF.out];exact this,Kd.aM HF.out.rd (Sv.out.trans (HB.out.mono Sv.out.size)),HF.out.cap⟩);have HN8:=aj (show n<=8192 by rw[<-dF.out];exact HF.out.len);go_upto_region 22 with(fail);have HZ:=aj (aH wo (.cells #[.int .i64 x,.int .i64 y,.bool wide,.bool false,.int .i64 nat] 72));have HB2:=aj ((Below.refl wo.heap.size wo).alloc (Nat.le_refl _) (.cells #[.int .i64 x,.int .i64 y,.bool wide,.bool false,.int .i64 nat] 72));have hlt:=aY IU.out.blk;have QU:=aj (IU.out.below HB2.out);obtain⟨g2,hg2⟩:∃ g2,wo.heap.size=g2:=⟨_,rfl⟩;rw[hg2] at HZ HB2 hlt ⊢;obtain⟨W2,hW2⟩:∃ W2,wo.alloc (.cells #[.int .i64 x,.int .i64 y,.bool wide,.bool false,.int .i64 nat] 72)=W2:=⟨_,rfl⟩;rw[hW2] at HZ HB2 QU ⊢;have HG2:=aj hg2;clear hW2 hg2;have x0:W2.cell? ⟨b,0,none⟩=some (.slice A n c):=by rw[<-dF.out];exact(ak QU.out.blk 0).trans rfl
   have z3:W2.cell? ⟨g2,3,none⟩=some (.bool false):=(ak HZ.out 3).trans rfl;have f3:=aB HZ.out 3;go_cut [] from 122 to 139 (fun wx=>aC (wx.heap[g2]? = some (.cells #[.int .i64 x,.int .i64 y,.bool wide,.bool (ny l N),.int .i64 nat] 72 (0,0)))/\aC (Below g2 wo wx))
   case first =>
    by_cases V4:N < n
    .have d2:decide (y < (n:Int))=true:=decide_eq_true (by rw[hy.out];omega);have q0:0<=y:=(by rw[hy.out];omega);have q1:y < (n:Int):=(by rw[hy.out];omega);have q2:y<=8192:=(by rw[hy.out];have:=HN8.out;omega);have p0:=eq_true q0;have p1:=eq_true q1;obtain⟨ad,e0,_,_,_,_,_,_,_,k7⟩:=eD QU.out.rd y q0 (by rw[dF.out];exact q1);cases e0
     rw[dn hy.out] at k7;have HH:=aj (show ny l N=(aX l N).f7 by unfold ny;rw[decide_eq_true (by rw[dF.out];exact V4),Bool.true_and]);generalize (aX l N).f7=h7 at *;clear V4;go_wp2;go_meet
     case rel=>exact⟨⟨by rw[HH.out];exact aN HZ.out 3 _ rfl⟩,⟨HB2.out.setCell (Nat.le_refl _) _⟩⟩
    .have d2:decide (y < (n:Int))=false:=decide_eq_false (by rw[hy.out];omega);have HH:=aj (show ny l N=false by unfold ny;rw[decide_eq_false (by rw[dF.out];exact V4),Bool.false_and]);clear V4;go_wp2;go_meet
     case rel=>exact⟨⟨by rw[HH.out];exact aN HZ.out 3 _ rfl⟩,⟨HB2.out.setCell (Nat.le_refl _) _⟩⟩
   case rest =>
    obtain⟨HZ3,HB3⟩:=hcut;clear x0 z3 f3;go_upto_region 23 with(fail);have hb23:=HB.out.trans (HB3.out.mono (by rw[<-HG2.out];exact HB.out.size));have HWX:=aj (Sv.out.trans (hb23.mono Sv.out.size));have dI:=aj (show wc.heap[b]? = some (.cells #[.slice A n c,lf bs br,.slice oA k oc] 171 (0,0)) from ay JT.out hb23);have hR1:=Kd.dL (Kd.dL HS.out.row HQ.out) hb23;rw[Eu.out,HK.out] at hR1;have HR1:=aj hR1;clear hb23 hR1;have x2:wc.cell? ⟨b,2,none⟩=some (.slice oA k oc):=(ak dI.out 2).trans rfl;have f2:=aB dI.out 2;have z0:wc.cell? ⟨g2,0,none⟩=some (.int .i64 x):=(ak HZ3.out 0).trans rfl;have z1:wc.cell? ⟨g2,1,none⟩=some (.int .i64 y):=(ak HZ3.out 1).trans rfl;have z2:wc.cell? ⟨g2,2,none⟩=some (.bool wide):=(ak HZ3.out 2).trans rfl;have z3:wc.cell? ⟨g2,3,none⟩=some (.bool (ny l N)):=(ak HZ3.out 3).trans rfl;have z4:wc.cell? ⟨g2,4,none⟩=some (.int .i64 nat):=(ak HZ3.out 4).trans rfl;have KT:=aj (show ∀ r,(Value.slice oA k oc).ownBlock=some r->r < g2 by
     obtain⟨_,inner,hown,_⟩:=HS.out.row;intro r hr;have h1:=jW hown r (by rw[HK.out];exact hr);have h2:=HQ.out.size;have h3:=HB.out.size;rw[HG2.out] at h3;omega)
    have hbl:=aY dI.out;have hng:¬ g2=b:=(by omega);have hbg:¬ b=g2:=(by omega);have hgl:=aY HZ3.out;generalize ny l N=hy3 at *;have KP:=aj (show ∀ w2:World,wc.drew.grownBy w2 (Value.slice oA k oc).ownBlock->w2.heap[g2]? = some (.cells #[.int .i64 x,.int .i64 y,.bool wide,.bool hy3,.int .i64 nat] 72 (0,0)) from fun w2 h=>cJ (b_ HZ3.out) h (fun e=>absurd (KT.out g2 e.symm) (Nat.lt_irrefl _)));have KB:=aj (show ∀ w2:World,Below (b+1) wc w2->w2.heap[b]? = some (.cells #[.slice A n c,lf bs br,.slice oA k oc] 171 (0,0)) from fun w2 h=>(h.block b (Nat.lt_succ_self b)).trans dI.out);refine wB (n:=11) (S:=fun w'=>Below (b+1) wc w'/\w'.heap[g2]? = some (.cells #[.int .i64 x,.int .i64 y,.bool wide,.bool hy3,.int .i64 nat] 72 (0,0))) (ds:=[10]) #[aq,aq,aq,aq,aq,aq,aq,aq,aq,aq,aq] (by kernel_rfl) rfl rfl (⟨aG (Below.refl _ wc),b_ HZ3.out⟩) (fun hHeld=>?_);refine mA Li IL (fun dX ud=>?_);refine bW (i:=0) (N:=(some 140)) (v:=?_) (a':=?_) #[au,aq,aq,aq,aq,aq,aq,aq,aq,aq,aq] rfl rfl (bF dX.out (by kernel_rfl)) (fun _ _ _ h=>h) (Or.inl ⟨by rfl,?_⟩) ?_ ?_;rotate_left
    .intro w';go_simp
     with_reducible rfl
    rotate_left
    .simp only[Act.put,aE,aI,aJ,bC];rfl
    refine bW (i:=1) (N:=(some 141)) (v:=?_) (a':=?_) #[au,au,aq,aq,aq,aq,aq,aq,aq,aq,aq] rfl rfl (bF dX.out (by kernel_rfl)) (fun _ _ _ h=>h) (Or.inl ⟨by rfl,?_⟩) ?_ ?_;rotate_left
    .intro w';go_simp
     with_reducible rfl
    rotate_left
    .simp only[Act.put,aE,aI,aJ,bC];rfl
    refine bW (i:=2) (N:=(some 142)) (v:=?_) (a':=?_) #[au,au,au,aq,aq,aq,aq,aq,aq,aq,aq] rfl rfl (bF dX.out (by kernel_rfl)) (fun _ _ _ h=>h) (Or.inl ⟨by rfl,?_⟩) ?_ ?_;rotate_left
    .intro w';go_simp
     with_reducible rfl
    rotate_left
    .simp only[Act.put,aE,aI,aJ,bC];rfl
    refine bW (i:=3) (N:=(some 143)) (v:=?_) (a':=?_) #[au,au,au,au,aq,aq,aq,aq,aq,aq,aq] rfl rfl (bF dX.out (by kernel_rfl)) (fun _ _ _ h=>h) (Or.inl ⟨by rfl,?_⟩) ?_ ?_;rotate_left
    .intro w';go_simp
     with_reducible rfl
    rotate_left
    .simp only[Act.put,aE,aI,aJ,bC];rfl
    refine gY (i:=4) (N:=(some 144)) (v:=?_) (a':=?_) #[au,au,au,au,au,aq,aq,aq,aq,aq,aq] rfl rfl (dB dX.out ud.out (by kernel_rfl)) (fun _ _ _ h=>h) (Or.inl ⟨by rfl,?_⟩) hHeld ?_ ?_;rotate_left
    .intro w' hS;have Ts:=(ak (show w'.heap[b]? = some (.cells #[.slice A n c,lf bs br,.slice oA k oc] 171 (0,0)) from (hS.1.block b (Nat.lt_succ_self b)).trans dI.out) 2).trans (show _=some (.slice oA k oc) from rfl);go_simp
     with_reducible rfl
    rotate_left
    .simp only[Act.put,aE,aI,aJ,bC];rfl
    refine gY (i:=5) (N:=(some 145)) (v:=?_) (a':=?_) #[au,au,au,au,au,au,aq,aq,aq,aq,aq] rfl rfl (dB dX.out ud.out (by kernel_rfl)) (fun _ _ _ h=>h) (Or.inl ⟨by rfl,?_⟩) hHeld ?_ ?_;rotate_left
    .intro w' hS;refine Eq.trans (vQ 72 (.tmp 13) (by rfl) g2 (by rfl) 72 #[.int .i64 x,.int .i64 y,.bool wide,.bool hy3,.int .i64 nat] (0,0) _ hS.2 Tryz.underlying72 rfl (by kernel_rfl)) ?_
     with_reducible rfl
    rotate_left
    .simp only[Act.put,aE,aI,aJ,bC];rfl
    refine Cz (i:=6) (N:=(some 146)) #[au,au,au,au,au,au,au,aq,aq,aq,aq] rfl rfl (jy dX.out (by kernel_rfl)) (by decide) (fun K hK=>?_);refine J5 (v:=?_) (w1:=?_) (by rfl) rfl ?_ ?_;rotate_left 2
    .go_simp;constructor
     .rfl
     .rfl
    refine hK.out _ _ (⟨(aG (Below.refl (b+1) wc)).alloc (show b+1<=wc.drew.heap.size from by show b+1<=wc.heap.size;omega) _,aP (b_ HZ3.out) _⟩) (fun hHeld=>?_);clear hK K;refine zL (a':=?_) ?_ ?_;rotate_left
    .show Act.put _ (some 146) _=_;simp only[Act.put,aE,aI,aJ,bC];rfl
    refine Cz (i:=7) (N:=(some 147)) #[au,au,au,au,au,au,au,au,aq,aq,aq] rfl rfl (jy dX.out (by kernel_rfl)) (by decide) (fun K hK=>?_);rw[show(wc.alloc (.cells #[.int .i64 x,.int .i64 y,.bool wide,.bool hy3,.int .i64 nat] 72)).drew=wc.drew.alloc (.cells #[.int .i64 x,.int .i64 y,.bool wide,.bool hy3,.int .i64 nat] 72) from rfl];refine Kd.lZ k72 (w0:=wc) (W:=wc.drew) (b+1) rfl (.tmp 144) (.tmp 146) 59 72 (.agg #[.int .i64 0,.int .i64 0,.bool false,.bool false,.int .i64 0]) 32 rfl Tryz.underlying59 GY ?_ ?_ ?_ (.slice oA k oc) out ⟨x,y,wide,hy3,nat⟩ [.int .i64 x,.int .i64 y,.bool wide,.bool hy3,.int .i64 nat] (fun _=>True) (fun _=>False) ?_ ?_ (pQ _ _ _ _) (fun _ h=>h.elim) (fun _ _=>trivial) HR1.out (show Below (b+1) wc wc.drew from aG (Below.refl _ _)) ?_ ?_ ?_
    (focus (rfl))
    (focus (decide))
    (focus (decide))
    (focus (rfl))
    (focus (rfl))
    (focus (show b+1<=wc.heap.size;omega))
    (focus (have:=HON.out;omega))
    intro v2 w2 hR2 hb2 hg2 Qz;obtain⟨A3,c3,e3_,hc3,hC3⟩:=Kd.fG hR2;subst e3_;have hZ2:=KP.out w2 hg2;have k0:w2.cell? ⟨g2,0,none⟩=some (.int .i64 x):=(ak hZ2 0).trans rfl;have k1:w2.cell? ⟨g2,1,none⟩=some (.int .i64 y):=(ak hZ2 1).trans rfl;have k2:w2.cell? ⟨g2,2,none⟩=some (.bool wide):=(ak hZ2 2).trans rfl;have k3:w2.cell? ⟨g2,3,none⟩=some (.bool hy3):=(ak hZ2 3).trans rfl;have k4:w2.cell? ⟨g2,4,none⟩=some (.int .i64 nat):=(ak hZ2 4).trans rfl;have hB2:=KB.out w2 hb2;have m2:w2.cell? ⟨b,2,none⟩=some (.slice oA k oc):=(ak hB2 2).trans rfl;have n2:=aB hB2 2;refine hK.out _ _ (⟨hb2,hZ2⟩) (fun hHeld=>?_);clear hK K;refine zL (a':=?_) ?_ ?_;rotate_left
    .show Act.put _ (some 147) _=_;simp only[Act.put,aE,aI,aJ,bC];rfl
    refine bW (i:=8) (N:=(some 148)) (v:=?_) (a':=?_) #[au,au,au,au,au,au,au,au,au,aq,aq] rfl rfl (bF dX.out (by kernel_rfl)) (fun _ _ _ h=>h) (Or.inl ⟨by rfl,?_⟩) ?_ ?_;rotate_left
    .intro w';go_simp
     with_reducible rfl
    rotate_left
    .simp only[Act.put,aE,aI,aJ,bC];rfl
    refine bW (i:=9) (N:=(some 149)) (v:=?_) (a':=?_) #[au,au,au,au,au,au,au,au,au,au,aq] rfl rfl (bF dX.out (by kernel_rfl)) (fun _ _ _ h=>h) (Or.inl ⟨by rfl,?_⟩) ?_ ?_;rotate_left
    .intro w';go_simp
     with_reducible rfl
    rotate_left
    .simp only[Act.put,aE,aI,aJ,bC];rfl
    refine CA (i:=10) (N:=none) #[au,au,au,au,au,au,au,au,au,au,au] rfl rfl (jy dX.out (by kernel_rfl)) (by decide) (fun K hK=>?_);refine wC (w1:=?_) (by rfl) rfl ?_ ?_;rotate_left
    .go_simp;rfl
    refine hK.out _ _ ?_;clear hK K;refine CB (rQ dX.out (by kernel_rfl)) ?_
    all_goals go_wp2
    all_goals go_ret
    all_goals
     have hF1:fB (Eq b) w2 (w2.setCell ⟨b,2,none⟩ (.slice A3 (out.length+1) c3)):=(fB.refl _ _).set _ _ _ (.inl rfl);have hR8:=Kd.fK (ok':=fun _=>True) (hF1.C (Kd.eS hR2) (fun k hk _ e=>by have:=hk.2.1;omega)) (fun _ _=>trivial);refine⟨dh (by rw[Xz.out,HN1.out,<-hy.out]),.slice A3 (out.length+1) c3,?_,?_,?_⟩
     .rw[Eu.out];have hwx:=HWX.out;rw[Eu.out] at hwx;exact(hwx.trans (hb2.mono (Nat.le_succ b))).setCell (Nat.le_refl _) _
     .rw[Eu.out,dF.out];exact aN hB2 2 _ rfl
     .rw[Eu.out,Xz.out,IC.out];have h9:=hR8;rw[List.length_append] at h9;exact h9
end Go.Proofs.YtcaallkkeighdaaGreatDoor.P
