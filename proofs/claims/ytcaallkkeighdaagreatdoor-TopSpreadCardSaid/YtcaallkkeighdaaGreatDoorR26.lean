/- A paragraph's items as plain functions of its masses;the closures of item.walk. slices.Sort of a row of the call's own;least.setter.tame;cmp.Or of two comparisons. The map of the best ways in memory;what holds of the best ways while they are found. -/
import Derived.DeepKeys4
import Derived.DeepKeys3
import Derived.Maps.Keyed
import Derived.Test.YtcaallkkeighdaaGreatDoorR25
set_option maxRecDepth 100000
set_option maxHeartbeats 16000000
set_option linter.unusedVariables false
set_option linter.unusedSimpArgs false
namespace Go.Proofs.YtcaallkkeighdaaGreatDoor.P
open Go.RowKit aD aQ aR
attribute [local go_sem] Oper.semAt_some
def dY(l:List S99)(k:Nat):S99:=l.getD k z99
theorem sV{l:List S99}{i:Nat}(h:i < l.length):dY l i=l[i]:=by unfold dY;simp[List.getD_eq_getElem?_getD,List.getElem?_eq_getElem h]
theorem lV{l:List S99}{i:Nat}(h:i < l.length):dY l i∈l:=by rw[sV h];exact List.getElem_mem h
theorem vS{l:List S99}{x:Int}{i:Nat}(h:x=(i:Int)):aV l x=dY l i:=by rw[h];unfold aV dY;simp
def vf(tx:ByteArray)(l:List S99)(k:Nat):Bool:=(dY l k).f2 == 2 && bt tx (dY l k).f0 == 45
def fO(l:List S99)(fr k:Nat):List S75:=if k<=fr then [] else [C5 l fr k]
def kK(m:S99):S75:=⟨3,m.f0,m.f0,jl m.f3,0,0,100,true⟩
def jK(m:S99):S75:=⟨3,m.f0,m.f0,0,0,0,50,false⟩
def eO(tx:ByteArray)(l:List S99)(pl:List Bool):Nat->Nat->Nat->Nat->List S75
 | 0,k,_,fr=>fO l fr k
 | d+1,k,run,fr =>
  if boxedB (dY l k)=false then fO l fr k ++ fq (dY l k) :: eO tx l pl d (k+1) (k+1) (k+1)
  else if k=fr then eO tx l pl d (k+1) run fr
  else if pl.getD k false=true then fO l fr k ++ kK (dY l k) :: eO tx l pl d (k+1) run k
  else if (vf tx l (k - 1) && (!vf tx l k && decide (run < k - 1)))=true then fO l fr k ++ jK (dY l k) :: eO tx l pl d (k+1) run k
  else eO tx l pl d (k+1) run fr
def oO(tx:ByteArray)(l:List S99)(pl:List Bool):List S75:=eO tx l pl l.length 0 0 0
def oP(x:S75):Value:=.agg #[.int .i64 x.f0,.int .i64 x.f1,.int .i64 x.f2,.int .i64 x.f3,.int .i64 x.f4,.int .i64 x.f5,.int .i64 x.f6,.bool x.f7]
theorem TF{n a b:Nat}{x y:Int}{l:List S99}{X Y N:Int}(hn':l.length=n)(hx:(a:Int)=x)(hy:(b:Int)=y)(hX:(dY l a).f0=X)(hY:(dY l (b - 1)).f1=Y)(hN:qv l a b=N)(A:Option Addr)(c:Nat)(w:World)(hl:Kd.C k99 w A l.length l)(hc:l.length<=c)(hm:∀ m∈l,cI m)(hn:l.length<=4096)(h1:a < b)(h2:b<=l.length) :
  Calls Tryz.prog 82 #[.slice A n c,.int .i64 x,.int .i64 y] w fun e w'=>e=.returned (.agg #[.int .i64 1,.int .i64 X,.int .i64 Y,.int .i64 N,.int .i64 0,.int .i64 0,.int .i64 0,.bool false])/\Below w.heap.size w w':=by
 subst hn' hx hy;exact Ih l A c a b w hl hc hm hn h1 h2 X Y N hX hY hN
theorem Ox(k fr:Nat)(bf Q5 bl:Nat)(W:World)(hf:W.cell? ⟨bf,0,none⟩=some (.int .i64 (fr:Int)))(hk:k<=fr) :
  Calls Tryz.prog 81 #[.int .i64 (k:Int),.pointer (some ⟨bf,0,none⟩),.pointer (some ⟨Q5,0,none⟩),.pointer (some ⟨bl,0,none⟩)] W fun e W'=>e=.returned (.bool true)/\Below W.heap.size W W':=by
 have d1:decide ((k:Int)<=(fr:Int))=true:=decide_eq_true (by omega);generalize (k:Int)=x at *;generalize (fr:Int)=y at *;clear hk;go_enter Tryz.func81,Tryz.ntmps81;go_upto_region 1 with(fail);have y0:=Bx.cell hf;refine cE 9 (by kernel_rfl) (by kernel_rfl) ?_;simp only[List.take_succ_cons,List.take_zero,List.drop_succ_cons,List.drop_zero]
 repeat(go_big_quiet_step (fail))
 refine wpQuiet_nil ?_;intro w7 hb7;clear y0;go_wp2;go_ret;exact⟨rfl,hb7⟩
theorem Oy(lp:Nat)(l:List S99)(A:Option Addr)(c k fr:Nat)(bf Q5 bl:Nat)(W:World)(R:Ending->World->Prop)(hf:W.cell? ⟨bf,0,none⟩=some (.int .i64 (fr:Int)))(hy:W.cell? ⟨Q5,0,none⟩=some (.func (.yield lp) #[] #[]))(hb:W.cell? ⟨bl,0,none⟩=some (.slice A l.length c))
  (hl:Kd.C k99 W A l.length l) (hc:l.length<=c) (hm:∀ m∈l,cI m) (hn:l.length<=4096) (h1:fr < k) (h2:k<=l.length)
  (hY:∀ W2,Below W.heap.size W W2->YieldAt Fence.wide 5 Tryz.prog lp #[oP (C5 l fr k)] W2 R) (hR:∀ e w',R e w'->∃ b,e=.returned (.bool b)) :
  Calls Tryz.prog 81 #[.int .i64 (k:Int),.pointer (some ⟨bf,0,none⟩),.pointer (some ⟨Q5,0,none⟩),.pointer (some ⟨bl,0,none⟩)] W R:=by
 have d1:decide ((k:Int)<=(fr:Int))=false:=decide_eq_false (by omega);have Xy:decide (k<=fr)=false:=decide_eq_false (by omega);have HL:=aj hl;have HC:=aj hc;have HM:=aj hm;have HN:=aj hn;have H12:=aj (And.intro h1 h2);have HY:=aj hY;have HR:=aj hR;obtain⟨n,hnn⟩:∃ n,l.length=n:=⟨_,rfl⟩;have dF:=aj hnn;rw[hnn] at hb;obtain⟨x,hx⟩:∃ x:Int,(k:Int)=x:=⟨_,rfl⟩;obtain⟨y,hy'⟩:∃ y:Int,(fr:Int)=y:=⟨_,rfl⟩;have HX:=aj hx;have E0:=aj hy';rw[hx,hy'] at d1;rw[hx];rw[hy'] at hf;obtain⟨X,hX⟩:∃ X,(dY l fr).f0=X:=⟨_,rfl⟩;obtain⟨Y,XL⟩:∃ Y,(dY l (k - 1)).f1=Y:=⟨_,rfl⟩;obtain⟨N,hN⟩:∃ N,qv l fr k=N:=⟨_,rfl⟩;have Sn:=aj (And.intro hX (And.intro XL hN));have G0:=aj (show oP (C5 l fr k)=.agg #[.int .i64 1,.int .i64 X,.int .i64 Y,.int .i64 N,.int .i64 0,.int .i64 0,.int .i64 0,.bool false] by rw[<-hX,<-XL,<-hN];rfl);clear hl hc hm hn h1 h2 hY hR hnn hx hy' hX XL hN;go_enter Tryz.func81,Tryz.ntmps81;go_upto_region 1 with(fail);have y0:=Bx.cell hf;have y1:=Bx.cell hy;have y2:=Bx.cell hb;refine(wpIn_wide (n:=6)).1 ?_;refine uf 9 (by kernel_rfl) (by kernel_rfl) ?_;simp only[List.take_succ_cons,List.take_zero,List.drop_succ_cons,List.drop_zero]
 repeat(go_big_quiet_step ((go_at_call 82;exact Bx.cu (TF dF.out E0.out HX.out Sn.out.1 Sn.out.2.1 Sn.out.2.2 A c _ (Kd.aM HL.out (Bx.hb _)) HC.out HM.out HN.out H12.out.1 H12.out.2))))
 refine wpQuiet_nil ?_;intro w7 hb7;obtain⟨fn,tmps,assign,body,LB,Q6⟩:=HY.out w7 hb7;rw[G0.out] at LB;clear y0 y1 y2
 gi_wp2
 refine Q6.mono ?_;intro e W3 hr;obtain⟨b,rfl⟩:=HR.out e W3 hr
 gi_wp2
 go_wp2;exact hr
theorem Fz(p:Pa){As Am:Option Addr}{cs cm:Nat}(l:List S99)(A:Option Addr)(c k:Nat)(r:Bool)(bl bp:Nat)(W:World)(hb:W.cell? ⟨bl,0,none⟩=some (.slice A l.length c))(ht:W.cell? ⟨bp,0,none⟩=some (.string p.tx))(hl:Kd.C k99 W A l.length l)(hk:k < l.length)(hn:l.length<=4096)(hm:0<=(dY l k).f0/\(dY l k).f0 < (p.tx.size:Int))(hr:vf p.tx l k=r) :
  Calls Tryz.prog 80 #[.int .i64 (k:Int),.pointer (some ⟨bl,0,none⟩),.pointer (some ⟨bp,0,none⟩)] W fun e W'=>e=.returned (.bool r)/\Below W.heap.size W W':=by
 have HL:=aj hl;obtain⟨n,hnn⟩:∃ n,l.length=n:=⟨_,rfl⟩;have dF:=aj hnn;rw[hnn] at hb hn hk;obtain⟨x,hx⟩:∃ x:Int,(k:Int)=x:=⟨_,rfl⟩;have HX:=aj hx.symm;rw[hx];have q0:0<=x:=by omega
 have q1:x < (n:Int):=by omega
 have q2:x<=8192:=by omega
 have p0:=eq_true q0;have p1:=eq_true q1;obtain⟨ad,e0,k0,k1,k2,_⟩:=eV HL.out x q0 (by rw[dF.out];exact q1);cases e0
 rw[vS HX.out] at k0 k1 k2;have HR:=aj hr;unfold vf at HR;generalize dY l k=m at *;obtain⟨m0,m1⟩:=hm;have u0:=eq_true m0;have u1:=eq_true m1;have hxx:=nN p.tx m.f0;clear hl hnn hx hk hr hn;by_cases h2:m.f2=2
 .have d2:(m.f2 == 2)=true:=by simp[h2]
  have HF:=aj (show(bt p.tx m.f0 == 45)=r by rw[<-HR.out,d2,Bool.true_and]);clear h2;go_enter Tryz.func80,Tryz.ntmps80;go_upto_region 1 with(fail);have y0:=Bx.cell hb;have y1:=Bx.cell ht;have y2:=Bx.cell k0;have y3:=Bx.cell k2;refine cE 17 (by kernel_rfl) (by kernel_rfl) ?_;simp only[List.take_succ_cons,List.take_zero,List.drop_succ_cons,List.drop_zero]
  repeat(go_big_quiet_step (fail))
  refine wpQuiet_nil ?_;intro w7 hb7;clear y0 y1 y2 y3;go_wp2;go_ret;exact⟨dQ HF.out.symm,hb7⟩
 .have d2:(m.f2 == 2)=false:=by simpa using h2
  have HF:=aj (show false=r by rw[<-HR.out,d2,Bool.false_and]);clear h2;go_enter Tryz.func80,Tryz.ntmps80;go_upto_region 1 with(fail);have y0:=Bx.cell hb;have y1:=Bx.cell ht;have y2:=Bx.cell k0;have y3:=Bx.cell k2;refine cE 17 (by kernel_rfl) (by kernel_rfl) ?_;simp only[List.take_succ_cons,List.take_zero,List.drop_succ_cons,List.drop_zero]
  repeat(go_big_quiet_step (fail))
  refine wpQuiet_nil ?_;intro w7 hb7;clear y0 y1 y2 y3;go_wp2;go_ret;exact⟨dQ HF.out.symm,hb7⟩
end Go.Proofs.YtcaallkkeighdaaGreatDoor.P
namespace Go.Proofs.YtcaallkkeighdaaGreatDoor.P
open Go.RowKit aD aQ aR
theorem FA(base:Nat)(v:Value)(xs:List Int)(w:World)(hR:RI w base v xs)(hl:xs.length<=100000) :
  Calls Tryz.prog 95 #[v] w fun e w'=>e=.returned (.tuple #[])/\RI w' base v (xs.mergeSort (fun a b=>decide (a<=b)))/\w.grownBy w' v.ownBlock:=by
 rcases RI.form hR with⟨rfl,rfl⟩|⟨g,cap,cur,rfl,hg1,hg2,hg3,hg4,hg5,hg6⟩
 .refine(Tryz.slices_Sort_int_none none 0 w).mono ?_;rintro e w' ⟨rfl,rfl⟩;refine⟨rfl,?_,World.grownBy.refl _ _⟩;have e:([]:List Int).mergeSort (fun a b=>decide (a<=b))=[]:=by simp
  rw[e];exact hR
 .refine(Tryz.slices_Sort_int g 0 cap xs w (holds_of_blockI hg2 hg6) (aY hg2) (by omega)).mono ?_;rintro e w' ⟨rfl,k,os,rfl⟩;have hlen:(xs.mergeSort (fun a b=>decide (a<=b))).length=xs.length:=List.length_mergeSort _;refine⟨rfl,?_,grownBy_sortedI _⟩;have:=ownsRow_sortedI (base:=base) (n:=k) (os:=os) (ss:=xs) (ts:=xs.mergeSort (fun a b=>decide (a<=b))) hlen hg1 hg2 hg3 hg4 (by omega);unfold RI jL;rw[hlen];exact this
theorem xK(x:S75)(w:World)(b:Bool)(hb:decide (x.f3 < x.f5)=b) :
  Calls Tryz.prog 122 #[oP x] w fun e w'=>e=.returned (.bool b)/\Below w.heap.size w w':=by
 subst hb;unfold oP;go_enter Tryz.func122,Tryz.ntmps122;go_wp2;go_ret;exact⟨rfl,(Below.refl _ _).alloc (Nat.le_refl _) _⟩
def xL(l:List S75):Nat->Nat->Int
 | 0,_=>-1
 | d+1,j=>if (aX l j).f3 < (aX l j).f5 then (j:Int) else xL l d (j+1)
theorem Ab(l:List S75):∀ d j,j+d=l.length->decide (0<=xL l d j)=(l.drop j).any (fun x=>decide (x.f3 < x.f5))
 | 0,j,h=>by
  rw[List.drop_eq_nil_of_le (by omega)];rfl
 | d+1,j,h=>by
  rw[List.drop_eq_getElem_cons (by omega),List.any_cons,<-sE (by omega)];unfold xL;by_cases c:(aX l j).f3 < (aX l j).f5
  .rw[if_pos c,decide_eq_true c];simp
  .rw[if_neg c,decide_eq_false c,Ab l d (j+1) (by omega)];rfl
theorem zx(l:List S75)(A:Option Addr)(n c:Nat)(w:World)(hn:l.length=n)(hl:Kd.C k75 w A n l)(hn8:n<=8192)(r:Int)(hr:xL l n 0=r) :
  Calls Tryz.prog 142 #[.slice A n c,.func (.func 122) #[] #[]] w fun e w'=>e=.returned (.int .i64 r)/\Below w.heap.size w w':=by
 have HR:=aj hr;have HN:=aj hn;have HL:=aj hl;clear hr hn hl;go_enter Tryz.func142,Tryz.ntmps142;go_wp2;go_loopw [8] (fun v8 wr=>∃ (y:Int) (j:Nat),v8=.int .i64 y/\aC (y=(j:Int))/\aC (j<=n)/\aC (xL l (n - j) j=r)/\aC (Below w.heap.size w wr)) (fun v8 _=>n - (intOf v8).toNat)
 case atStart=>exact⟨0,0,rfl,⟨rfl⟩,⟨Nat.zero_le _⟩,⟨HR.out⟩,⟨Below.refl _ _⟩⟩
 case round =>
  obtain⟨y,j,rfl,hy,hj,hG,hB⟩:=hrel;by_cases hlt:j < n
  .have d1:decide (y < (n:Int))=true:=decide_eq_true (by rw[hy.out];omega);have q0:0<=y:=by rw[hy.out];omega
   have q1:y < (n:Int):=by rw[hy.out];omega
   have q3:y<=8192:=by omega
   have p0:=eq_true q0;have p1:=eq_true q1;obtain⟨ad,e0,k0,k1,k2,k3,k4,k5,k6,k7⟩:=eD (Kd.aM HL.out hB.out) y q0 q1;cases e0
   rw[dn hy.out] at k0 k1 k2 k3 k4 k5 k6 k7;have hG2:=hG.out;rw[show n - j=(n - (j+1))+1 by omega,xL] at hG2;have cg:=aj hlt;have HAG:=aj (show oP (aX l j)=oP (aX l j) from rfl);by_cases he:(aX l j).f3 < (aX l j).f5
   .rw[if_pos he] at hG2;have HG2:=aj hG2;have HE:=aj (decide_eq_true he);generalize aX l j=x at *;clear hlt he hG2;go_wp2_with (go_at_call 122;go_loud(refine(xK x _ true HE.out).mono ?_;rintro e w1 ⟨rfl,hb1⟩));go_ret;exact⟨dh (by rw[<-HG2.out,hy.out]),hB.out.trans (hb1.mono hB.out.size)⟩
   .rw[if_neg he] at hG2;have HG2:=aj hG2;have HE:=aj (decide_eq_false he);generalize aX l j=x at *;clear hlt he hG2;go_wp2_with (go_at_call 122;go_loud(refine(xK x _ false HE.out).mono ?_;rintro e w1 ⟨rfl,hb1⟩));go_roundw
    case rel=>exact⟨y+1,j+1,rfl,⟨by rw[hy.out];omega⟩,⟨cg.out⟩,HG2,⟨hB.out.trans (hb1.mono hB.out.size)⟩⟩
    case measure=>have:=cg.out;have:=hy.out;simp[intOf];omega
  .have d1:decide (y < (n:Int))=false:=decide_eq_false (by rw[hy.out];omega);have HQ:=aj (show r = -1 by rw[<-hG.out,show n - j=0 by omega];rfl);clear hlt;go_wp2;go_ret;exact⟨dh (by rw[HQ.out]),hB.out⟩
theorem xM(l:List S75)(A:Option Addr)(n c:Nat)(w:World)(hn:l.length=n)(hl:Kd.C k75 w A n l)(hn8:n<=8192)(b:Bool)(hb:l.any (fun x=>decide (x.f3 < x.f5))=b) :
  Calls Tryz.prog 121 #[.slice A n c,.func (.func 122) #[] #[]] w fun e w'=>e=.returned (.bool b)/\Below w.heap.size w w':=by
 obtain⟨r,hr⟩:∃ r,xL l n 0=r:=⟨_,rfl⟩;have HR:=aj hr;have HQ:=aj (show b=decide (0<=r) by rw[<-hb,<-hr,<-hn,Ab l l.length 0 (by omega)];rfl);have HN:=aj hn;have HL:=aj hl;clear hb hr hn hl;go_enter Tryz.func121,Tryz.ntmps121;go_wp2_with (go_at_call 142;go_loud(refine(zx l A n c _ HN.out HL.out hn8 r HR.out).mono ?_;rintro e w1 ⟨rfl,hb1⟩));go_ret;exact⟨dQ HQ.out,hb1⟩
theorem FB{w:World}{bs n:Nat}{l:List S75}{A:Option Addr}{c:Nat}{A2:Option Addr}{m c2:Nat}{r:S30}{g4 g5 g6 g7:Nat}(h:zo w bs n l A c A2 m c2 r g4 g5 g6 g7)(hn:l.length=n)(hn8:n<=8192)(b:Bool)(hb:KJ l=b) :
  Calls Tryz.prog 87 #[.pointer (some ⟨bs,0,none⟩)] w fun e w'=>e=.returned (.bool b)/\Below w.heap.size w w':=by
 have H:=aj h;have HN:=aj hn;have x0:w.cell? ⟨bs,0,none⟩=some (.slice A n c):=(ak h.box 0).trans rfl;obtain⟨t,ht⟩:∃ t,l.any (fun x=>decide (x.f3 < x.f5))=t:=⟨_,rfl⟩;have HT:=aj ht;have HQ:=aj (show b = !t by rw[<-hb,<-ht];rfl);clear h hn hb ht;go_enter Tryz.func87,Tryz.ntmps87;go_wp2_with (go_at_call 121;go_loud(refine(xM l A n c _ HN.out H.out.hl hn8 t HT.out).mono ?_;rintro e w1 ⟨rfl,hb1⟩));go_ret;exact⟨dQ HQ.out,hb1⟩
def ug(a b:Int):Int:=if a < b then -1 else if b < a then 1 else 0
theorem IZ(a b:Int)(w:World)(r:Int)(hr:ug a b=r):Calls Tryz.prog 92 #[.int .i64 a,.int .i64 b] w fun e w'=>e=.returned (.int .i64 r)/\aU w w':=by
 refine cmp_Compare_int.calls a b r w ?_;rw[<-hr];unfold cmp_Compare_int.f cmp_isNaN_int.f ug;simp
 repeat' split
 all_goals first|rfl|omega
def TG(a b:Int):Int:=if a≠0 then a else b
theorem I0(a b:Int)(A:Option Addr)(w:World)(hl:Kd.C (Kd.int .i64) w A 2 [a,b])(r:Int)(hr:TG a b=r):Calls Tryz.prog 91 #[.slice A 2 2] w fun e w'=>e=.returned (.int .i64 r)/\aU w w':=by
 refine dH.calls 4 A 2 [a,b] r w hl (Nat.le_refl _) ?_;rw[<-hr];have w1:wrap64 1=1:=dN _ (by omega);have w2:wrap64 2=2:=dN _ (by omega);unfold TG;by_cases ha:a=0
 .subst ha;by_cases hb:b=0
  .subst hb;simp[dH.f,dH.l0,rd,w1,w2]
  .simp[dH.f,dH.l0,rd,hb,w1,w2]
 .simp[dH.f,dH.l0,rd,ha]
theorem I3(x y:Int × Int):decide (TG (ug x.1 y.1) (ug x.2 y.2) < 0)=nD x (some y):=by
 unfold TG ug nD;rw[Bool.eq_iff_iff,decide_eq_true_iff,decide_eq_true_iff]
 repeat' split
 all_goals omega
theorem laidOut:laidOutB Tryz.prog=true:=by kernel_rfl
theorem Q7:116 < Tryz.prog.types.size:=of_decide_eq_true (show decide (116 < Tryz.prog.types.size)=true by kernel_rfl)
theorem oQ:Maps.Keyed Tryz.prog 116:=Maps.Keyed.of_law (deep_law_laid laidOut (m:=2) (by omega) Q7 (by kernel_rfl) (by kernel_rfl))
def sm(x:Int):Prop:=-100000<=x/\x<=100000
theorem LC{a:Int}(h:sm a):(Lit.int .i64 a).wf=true:=by
 have h1:=h.1;have h2:=h.2;show(decide _ && decide _)=true;rw[Bool.and_eq_true];exact⟨decide_eq_true (show(-9223372036854775808:Int)<=a by omega),decide_eq_true (show a<=(9223372036854775807:Int) by omega)⟩
def I4(a b:Int):Lit:=.string (keyBytes [.int .i64 a,.int .i64 b])
def LD(a b:Int):Value:=.agg #[.int .i64 a,.int .i64 b]
theorem mN(a b:Int)(ha:sm a)(hb:sm b):keyOf Tryz.prog 116 (LD a b)=some (I4 a b):=by
 have wa:=LC ha;have wb:=LC hb;have hkt:Tryz.prog.keyType 116=true:=by kernel_rfl
 have hf:(Value.agg #[.int .i64 a,.int .i64 b]).formed Tryz.prog 116=true:=by kernel_rfl
 unfold keyOf LD I4;rw[Tryz.underlying116];simp only[hkt,hf];have e:Tryz.prog.keyLits (Tryz.prog.types.size+1) 116 (Value.agg #[Value.int .i64 a,Value.int .i64 b]).cells.toList=some [.int .i64 a,.int .i64 b]:=by
  unfold Program.keyLits;rw[Tryz.underlying116];obtain⟨m,hm⟩:∃ m,Tryz.prog.types.size=m+1:=⟨280,by kernel_rfl⟩;rw[hm];have c2:Tryz.prog.cellsOf 116=2:=by kernel_rfl
  have c1:Tryz.prog.cellsOf 3=1:=by kernel_rfl
  simp[Program.keyLits,Tryz.underlying3,wa,wb,Value.cells,c1,c2]
 rw[e];simp
theorem LG{a b c d:Int}(ha:sm a)(hb:sm b)(hc:sm c)(hd:sm d)(h:I4 a b=I4 c d):a=c/\b=d:=by
 have e:=oQ.inj (mN a b ha hb) (by rw[h];exact mN c d hc hd);unfold LD at e;injection e with e;have e1:=congrArg Array.toList e;simp at e1;exact e1
def Ac(x:Int × Int):Value:=.agg #[.int .i64 x.1,.int .i64 x.2]
def FM(F:Lit->Option Value)(M:Wy):Prop:=∀ b k,sm b->sm k->F (I4 b k)=(M b k).map Ac
theorem FM.put{F:Lit->Option Value}{M:Wy}(h:FM F M){b k:Int}(hb:sm b)(hk:sm k)(x:Int × Int):FM (sM F (I4 b k) (Ac x)) (nC M b k x):=fun b' k' hb' hk'=>by
 unfold nC;by_cases e:b'=b/\k'=k
 .obtain⟨rfl,rfl⟩:=e;rw[if_pos ⟨rfl,rfl⟩,pV (oQ.key (mN b' k' hb hk))];rfl
 .rw[if_neg e,k_ (fun q=>e (LG hb' hk' hb hk q))];exact h b' k' hb' hk'
theorem G1(w:World):(zeroValue 113).run Tryz.prog w=.ok (.agg #[.int .i64 0,.int .i64 0]) w:=by kernel_rfl
structure WV(l:List S75)(n:Nat)(M:Wy)(nx:List Int):Prop where
 ent:∀ b k x,M b k=some x->(0<=k/\k<=(n:Int))/\(-1<=x.2/\x.2 < b/\b<=(l.length:Int))/\(0<=x.1/\x.1<=(k+1) * 200000000)/\gJ l x.2 b.toNat=true/\(k=0/\x.2 = -1\/1<=k/\0<=x.2/\(M x.2 (k - 1)).isSome=true)
 TH:∀ b∈nx,(M b n).isSome=true/\(n:Int)<=b/\b<=(l.length:Int)
 nd:nx.Nodup
structure LV(l:List S75)(n:Nat)(M:Wy)(lv:List Int):Prop where
 at_:∀ b∈lv,(n=0/\b = -1\/1<=n/\0<=b/\(M b ((n:Int) - 1)).isSome=true)/\(n:Int) - 1<=b/\b < (l.length:Int)
 nd:lv.Nodup
 ne:n<=l.length+1
theorem uh:∀ (N:Nat) (l:List Int),l.Nodup->(∀ x∈l,0<=x/\x < (N:Int))->l.length<=N
 | 0,l,_,h=>by
  cases l with
  | nil=>simp
  | cons x l=>have:=h x (by simp);omega
 | N+1,l,hn,h=>by
  have h1:=uh N (l.filter (fun x=>x != (N:Int))) (hn.sublist List.filter_sublist) (fun x hx=>by
   have:=h x (List.mem_filter.1 hx).1;have h2:x≠(N:Int):=by have:=(List.mem_filter.1 hx).2;simpa using this
   omega)
  have h2:l.length<=(l.filter (fun x=>x != (N:Int))).length+1:=by
   have e:l.length=(l.filter (fun x=>x != (N:Int))).length+(l.filter (fun x=>!(x != (N:Int)))).length:=by
    have:=List.length_eq_countP_add_countP (fun x=>x != (N:Int)) (l:=l);rw[List.countP_eq_length_filter,List.countP_eq_length_filter] at this;rw[this]
    congr 3
    funext x;by_cases q:x=(N:Int)<;>simp[q]
   have e2:(l.filter (fun x=>!(x != (N:Int)))).length<=1:=by
    have e3:(fun x:Int=>!(x != (N:Int)))=(fun x=>x == (N:Int)):=(by funext x;simp[bne]);rw[e3,<-List.count_eq_length_filter];exact List.nodup_iff_count.1 hn _
   omega
  omega
theorem WV.len{l:List S75}{n:Nat}{M:Wy}{nx:List Int}(h:WV l n M nx):nx.length<=l.length+1 :=
 uh (l.length+1) nx h.nd (fun x hx=>by have:=(h.TH x hx).2;omega)
theorem LV.len{l:List S75}{n:Nat}{M:Wy}{lv:List Int}(h:LV l n M lv):lv.length<=l.length+1:=by
 have h1:(lv.map (fun x=>x+1)).length<=l.length+1:=uh (l.length+1) _ (List.Pairwise.map _ (fun a b (e:a≠b)=>show a+1≠b+1 by omega) h.nd) (fun x hx=>by
  obtain⟨y,hy,rfl⟩:=List.mem_map.1 hx;have:=(h.at_ y hy).2;rcases (h.at_ y hy).1 with q|q<;>omega)
 simpa using h1
theorem vg{l:List S75}{n:Nat}{M:Wy}{nx:List Int}(h:WV l n M nx)(b k:Int):0<=(eB M b k).1/\(eB M b k).1<=(if 0<=k then (k+1) * 200000000 else 0):=by
 unfold eB;cases e:M b k with
 | none=>simp;split<;>omega
 | some x =>
  have:=h.ent b k x e;simp only[Option.getD_some];rw[if_pos this.1.1];exact this.2.2.1
theorem mO{M:Wy}{b k b' k':Int}{x:Int × Int}(h:(M b' k').isSome=true):(nC M b k x b' k').isSome=true:=by
 unfold nC;split
 .rfl
 .exact h
theorem WV.put{l:List S75}{n:Nat}{M:Wy}{nx lv:List Int}(h:WV l n M nx)(hL:LV l n M lv){bf:Int}(Ib:bf∈lv){b:Nat}(h1:bf < (b:Int))(h2:b<=l.length)(hf:gJ l bf b=true){d:Int}(hd:0<=d/\d<=200000000) :
  WV l n (if nD ((eB M bf ((n:Int) - 1)).1+d,bf) (M b n)=true then nC M b n ((eB M bf ((n:Int) - 1)).1+d,bf) else M) (if (M b n).isNone=true then nx ++ [(b:Int)] else nx):=by
 have hg:=vg h bf ((n:Int) - 1);have hb:=hL.at_ bf Ib;have hd1:0<=(eB M bf ((n:Int) - 1)).1+d/\(eB M bf ((n:Int) - 1)).1+d<=((n:Int)+1) * 200000000:=by
  split at hg<;>omega
 generalize (eB M bf ((n:Int) - 1)).1+d=D at *;by_cases MW:nD (D,bf) (M b n)=true
 .rw[if_pos MW];have hent:∀ b' k x,nC M b n (D,bf) b' k=some x->(0<=k/\k<=(n:Int))/\(-1<=x.2/\x.2 < b'/\b'<=(l.length:Int))/\(0<=x.1/\x.1<=(k+1) * 200000000)/\gJ l x.2 b'.toNat=true/\(k=0/\x.2 = -1\/1<=k/\0<=x.2/\(nC M b n (D,bf) x.2 (k - 1)).isSome=true):=by
   intro b' k x hx;by_cases e:b'=(b:Int)/\k=(n:Int)
   .obtain⟨rfl,rfl⟩:=e;have e2:x=(D,bf):=(by unfold nC at hx;rw[if_pos ⟨rfl,rfl⟩] at hx;exact(Option.some.inj hx).symm);subst e2;refine⟨by omega,⟨by show -1<=bf;rcases hb.1 with q|q<;>omega,h1,by omega⟩,hd1,by rw[Int.toNat_natCast];exact hf,?_⟩;rcases hb.1 with q|q
    .exact .inl ⟨by omega,q.2⟩
    .exact .inr ⟨by omega,q.2.1,mO q.2.2⟩
   .have hx2:M b' k=some x:=(by unfold nC at hx;rw[if_neg e] at hx;exact hx);obtain⟨a1,a2,a3,a4,a5⟩:=h.ent b' k x hx2;refine⟨a1,a2,a3,a4,?_⟩;rcases a5 with q|q
    .exact .inl q
    .exact .inr ⟨q.1,q.2.1,mO q.2.2⟩
  refine⟨hent,?_,?_⟩
  .intro x hx;split at hx
   .rcases List.mem_append.1 hx with hx|hx
    .have:=h.TH x hx;exact⟨mO this.1,this.2⟩
    .rw[List.mem_singleton.1 hx];exact⟨by unfold nC;rw[if_pos ⟨rfl,rfl⟩];rfl,by omega,by omega⟩
   .have:=h.TH x hx;exact⟨mO this.1,this.2⟩
  .split
   .rename_i hn
    refine List.nodup_append.2 ⟨h.nd,by simp,fun x hx y hy e=>?_⟩;rw[List.mem_singleton.1 hy] at e;have:=(h.TH x hx).1;rw[e] at this;rw[Option.isNone_iff_eq_none] at hn;rw[hn] at this;cases this
   .exact h.nd
 .rw[if_neg MW];have hn:(M b n).isNone=false:=by
   cases q:M b n with
   | none=>rw[q] at MW;exact absurd rfl MW
   | some y=>rfl
  rw[hn,if_neg (by decide)];exact h
theorem WV.start(l:List S75):WV l 0 (fun _ _=>none) []:=⟨fun _ _ _ h=>(by cases h),fun _ h=>(by cases h),List.nodup_nil⟩
theorem LV.start(l:List S75)(h:0 < l.length\/True):LV l 0 (fun _ _=>none) [-1]:=⟨fun b hb=>by rw[List.mem_singleton.1 hb];exact⟨.inl ⟨rfl,rfl⟩,by omega,by omega⟩,by simp,by omega⟩
theorem WV.step{l:List S75}{n:Nat}{M:Wy}{nx:List Int}(h:WV l n M nx):WV l (n+1) M [] :=
 ⟨fun b k x hx=>by
  obtain⟨a1,a2,a3,a4,a5⟩:=h.ent b k x hx;exact⟨by omega,a2,a3,a4,a5⟩,fun _ h=>(by cases h),List.nodup_nil⟩
theorem I5{n:Nat}{nx:List Int}{b:Int}:b∈nE n nx↔b∈nx/\b≠(n:Int):=by
 unfold nE;rw[List.mem_mergeSort,List.mem_filter];simp
theorem LV.step{l:List S75}{n:Nat}{M:Wy}{nx:List Int}(h:WV l n M nx)(hn:n<=l.length):LV l (n+1) M (nE l.length nx):=by
 refine⟨fun b hb=>?_,?_,by omega⟩
 .obtain⟨h1,h2⟩:=I5.1 hb;have:=h.TH b h1;exact⟨.inr ⟨by omega,by omega,by rw[show((n+1:Nat):Int) - 1=(n:Int) by omega];exact this.1⟩,by omega,by omega⟩
 .unfold nE;exact(List.mergeSort_perm _ _).nodup_iff.2 (h.nd.sublist List.filter_sublist)
end Go.Proofs.YtcaallkkeighdaaGreatDoor.P
