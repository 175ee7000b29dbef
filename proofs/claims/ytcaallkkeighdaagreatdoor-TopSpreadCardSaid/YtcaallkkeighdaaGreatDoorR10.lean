/- What metric.looks and its function answer: the look of a byte,asked of places that rise. A paragraph's masses,as plain functions of it: what each is,how many there are,within which bounds. The state of metric.Masses between two clusters: what its memory holds,and what its own steps keep of it. -/
import Derived.RegionTactic
import Derived.Test.YtcaallkkeighdaaGreatDoorR09
set_option maxRecDepth 100000
set_option maxHeartbeats 16000000
set_option linter.unusedVariables false
set_option linter.unusedSimpArgs false
namespace Go.Proofs.YtcaallkkeighdaaGreatDoor.P
open Go.RowKit aD aQ aR
def cG(p:Pa)(As:Option Addr)(cs:Nat)(Am:Option Addr)(cm:Nat):Array Value:=#[.string p.tx,.slice As p.sp.length cs,.int .i64 p.pr.f0,.int .i64 p.pr.f1,.int .i64 p.pr.f2,.int .i64 p.pr.f3,.int .i64 p.pr.f4,.int .i64 p.pr.f5,.int .i64 p.pr.f6,.int .i64 p.pr.f7,.int .i64 p.pr.f8,.int .i64 p.pr.f9,.int .i64 p.pr.f10,.int .i64 p.pr.f11,.int .i64 p.pr.f12,.int .i64 p.pr.f13,.int .i64 p.pr.f14,.int .i64 p.pr.f15,.int .i64 p.pr.f16,.string p.lb,.slice Am p.ma.length cm]
theorem cV(p:Pa)(As:Option Addr)(cs:Nat)(Am:Option Addr)(cm:Nat):(Tryz.prog.info? 27).map (·.size)=some (cG p As cs Am cm).size:=by
 show(Tryz.prog.info? 27).map (·.size)=some 21;kernel_rfl
theorem rY(p:Pa){As Am:Option Addr}{cs cm:Nat}(w:World)(hA:dK w p As cs Am cm)(hz:p.small):Calls Tryz.prog 28 #[.agg (cG p As cs Am cm)] w fun e w'=>e=.returned (.int .i64 (bB p))/\Below w.heap.size w w':=CQ p w hA hz
theorem add_zero'(a:Addr):a.add 0=a:=by unfold Addr.add;simp
theorem cM{w:World}{p:Addr}{v:Value}(h:w.cell? p=some v)(o:Obj):(w.alloc o).cell? p=some v:=(World.cell?_alloc_lt w o p (World.block_lt_of_cell? w p h)).trans h
def kW(l:List S123):Int:=(l.headD z123).f0
def qO(l:List S123):S121:=(l.headD z123).f1
def rZ:List S123->Int->Int->List S123 × Int
 | s :: t :: l,e,a=>if e<=a then rZ (t :: l) (e+t.f0) a else (s :: t :: l,e)
 | l,e,_=>(l,e)
theorem CR(l:List S123)(A:Option Addr)(c:Nat)(w:World)(hl:Kd.C k123 w A l.length l):Calls Tryz.prog 61 #[.slice A l.length c] w fun e w' =>
  e=.returned (.func (.func 106) #[] #[.pointer (some ⟨w.heap.size,0,none⟩),.pointer (some ⟨w.heap.size+1,0,none⟩)])/\w'=(w.alloc (.cells #[.slice A l.length c] 22)).alloc (.cells #[.int .i64 (kW l)] 3):=by
 cases l with
 | nil =>
  have b1:decide (0 < (0:Int))=false:=by decide
  go_enter Tryz.func61,Tryz.ntmps61;go_wp2;go_ret;exact⟨rfl,rfl⟩
 | cons s l =>
  have q1:decide (0 < (((s :: l).length:Nat):Int))=true:=decide_eq_true (by simp);obtain⟨ad,e0,h0,_⟩:=jH hl 0 (by omega) (by simp);cases e0
  have hr:bI (s :: l) 0=s:=rfl;rw[hr] at h0;simp only[Int.toNat_zero,Nat.zero_mul,add_zero'] at h0;have he:kW (s :: l)=s.f0:=rfl;have p1:(0:Int) < (((s :: l).length:Nat):Int):=by simp
  rw[he];generalize (s :: l).length=n at *;clear hr he hl;have p2:0 < n:=by omega
  have h2:=cM (cM h0 (.cells #[.slice (some ad) n c] 22)) (.cells #[.int .i64 0] 3);clear h0;go_enter Tryz.func61,Tryz.ntmps61;go_wp2;go_ret;exact⟨rfl,rfl⟩
structure Bk(w:World)(bl be:Nat)(A:Option Addr)(c:Nat)(l:List S123)(e:Int):Prop where
 ne:bl≠be
 b1:w.heap[bl]? = some (.cells #[.slice A l.length c] 22 (0,0))
 b2:w.heap[be]? = some (.cells #[.int .i64 e] 3 (0,0))
 rd:Kd.C k123 w A l.length l
 cap:l.length<=c
def Gz(l:List S123):Prop:=∀ x∈l,0<=x.f0/\x.f0<=300
theorem eu.far{α:Type}{d:Kd α}{w w1:World}{A:Option Addr}{n:Nat}{ps:List α}(h:d.C w A n ps)(hK:∀ x c,d.K w x c->d.K w1 x c)(hc:∀ p v,w.cell? p=some v->0 < n->(∃ ad,A=some ad/\p.block=ad.block)->w1.cell? p=some v):d.C w1 A n ps :=
 ⟨h.1,h.2.1,fun hn=>by
  obtain⟨ad,e,hh⟩:=h.2.2 hn;refine⟨ad,e,fun j p hj=>?_⟩;obtain⟨c,hl,hk,hi⟩:=hh j p hj;exact⟨c,hl,hK _ _ hk,fun i u hu=>hc _ _ (hi i u hu) hn ⟨ad,e,by unfold Addr.add;split<;>rfl⟩⟩⟩
theorem EV{w w1:World}(x:S123)(c:List Value)(h:k123.K w x c):k123.K w1 x c:=by
 obtain rfl:=zO h;exact AX w1 x
theorem Bk.far{S:Nat->Prop}{w w':World}{bl be:Nat}{A:Option Addr}{c:Nat}{l:List S123}{e:Int}(h:Bk w bl be A c l e)(hF:fB S w w')(h1:¬ S bl)(h2:¬ S be)(h3:l≠[]->∀ ad,A=some ad->¬ S ad.block):Bk w' bl be A c l e :=
 ⟨h.ne,hF.blk h.b1 h1,hF.blk h.b2 h2,eu.far h.rd (fun x c=>EV x c) (fun p v hv hp ⟨ad,e1,e2⟩=>hF.cell hv (by rw[e2];exact h3 (List.ne_nil_of_length_pos hp) ad e1)),h.cap⟩
def Qq(l:List S123)(e a:Int)(bl be N:Nat)(w:World)(r:Ending)(w':World):Prop :=
 r=.returned (.agg #[.int .i64 (qO (rZ l e a).1).f0,.int .i64 (qO (rZ l e a).1).f1,.int .i64 (qO (rZ l e a).1).f2]) /\
  ∃ A' c',Bk w' bl be A' c' (rZ l e a).1 (rZ l e a).2/\(∀ ad,A'=some ad->ad.block < N)/\fB (fun k=>k=bl\/k=be) w w'
theorem CS{x y:S121}(h:y=x):Ending.returned (.agg #[.int .i64 x.f0,.int .i64 x.f1,.int .i64 x.f2])=.returned (.agg #[.int .i64 y.f0,.int .i64 y.f1,.int .i64 y.f2]):=by rw[h]
theorem CT(l:List S123)(e a:Int)(A:Option Addr)(c bl be:Nat)(w:World)(h:Bk w bl be A c l e)(hne:l≠[])(hs:Gz l)(hn:l.length<=300)(h0:0<=e)(h1:e+300 * (l.length:Int)<=200000)
  (N:Nat) (hNl:N<=bl) (hNe:N<=be) (hA:∀ ad,A=some ad->ad.block < N) :
  Calls Tryz.prog 106 #[.int .i64 a,.pointer (some ⟨bl,0,none⟩),.pointer (some ⟨be,0,none⟩)] w (Qq l e a bl be N w):=by
 have H:=aj h;have HS:=aj hs;have HN:=aj hne;have HA:=aj hA;have H0:=aj h0;have H1:=aj h1;have HL:=aj hn;clear h hs hne hA h0 h1 hn;have hbl:=aY H.out.b1;have hbe:=aY H.out.b2;go_enter Tryz.func106,Tryz.ntmps106;go_upto_region 1 with(fail);go_loopg [] l.length (fun kq wq=>∃ (l':List S123) (e':Int) (A':Option Addr) (c':Nat),aC (Bk wq bl be A' c' l' e')/\aC (rZ l' e' a=rZ l e a)/\aC (kq=l'.length/\l'.length<=300)/\aC (Gz l')/\aC (l'≠[])/\aC (0<=e'/\e'+300 * (l'.length:Int)<=200000)/\aC (∀ ad,A'=some ad->ad.block < N)/\aC (fB (fun k=>k=bl\/k=be) w wq)/\aC (wq.heap[w.heap.size]? = some (.cells #[.int .i64 0,.int .i64 0,.int .i64 0] 121 (0,0))))
 case atStart =>
  have hS:fB (fun _=>False) w (w.alloc (.cells #[.int .i64 0,.int .i64 0,.int .i64 0] 121)):=(fB.refl _ _).alloc _;exact⟨l,e,A,c,⟨H.out.far hS id id (fun _ _ _=>id)⟩,⟨rfl⟩,⟨rfl,HL.out⟩,HS,HN,⟨H0.out,H1.out⟩,HA,⟨(fB.refl _ _).alloc _⟩,⟨aH _ _⟩⟩
 case round =>
  clear H HS HN HA H0 H1 HL;obtain⟨l',e',A',c',HK,Ku,Zc,HS,HN,H1,HA,HF,HX⟩:=hrel;have z1:wr.cell? ⟨bl,0,none⟩=some (.slice A' l'.length c'):=(ak HK.out.b1 0).trans rfl;have z2:wr.cell? ⟨be,0,none⟩=some (.int .i64 e'):=(ak HK.out.b2 0).trans rfl;have f1:=aB HK.out.b1 0;have f2:=aB HK.out.b2 0;obtain⟨m,hm⟩:∃ m,m=l'.length:=⟨_,rfl⟩;rw[<-hm] at z1;have HM:=aj hm;clear hm;have hm0:0 < m:=by rw[HM.out];exact List.length_pos_iff.mpr HN.out
  have hm1:(0:Int) < (m:Int):=by omega
  cases l' with
  | nil=>exact absurd rfl HN.out
  | cons s l2 =>
   cases l2 with
   | nil =>
    have b1:decide (1 < (m:Int))=false:=(by rw[HM.out];simp);obtain⟨ad,e0,k0,k1,k2,k3⟩:=jH HK.out.rd 0 (by omega) (by simp only[List.length_cons,List.length_nil];omega);cases e0
    simp only[Int.toNat_zero,Nat.zero_mul,add_zero'] at k0 k1 k2 k3;have hrd:bI ([s]) 0=s:=rfl;rw[hrd] at k0 k1 k2 k3;clear hrd;have hlk:qO (rZ l e a).1=s.f1:=(by rw[<-Ku.out];simp only[rZ];rfl);have Kv:rZ l e a=([s],e'):=(by rw[<-Ku.out];simp only[rZ]);have HAD:=aj Kv;have Sj:=aj hlk;have hw0:w.heap.size < wr.heap.size:=aY HX.out;have hz:=aB HX.out 0;have hz1:=aB HX.out 1;have hz2:=aB HX.out 2;have hy0:wr.cell? ⟨w.heap.size,0,none⟩=some (.int .i64 0):=(ak HX.out 0).trans rfl;have hy1:wr.cell? ⟨w.heap.size,1,none⟩=some (.int .i64 0):=(ak HX.out 1).trans rfl;have hy2:wr.cell? ⟨w.heap.size,2,none⟩=some (.int .i64 0):=(ak HX.out 2).trans rfl;clear hlk Kv;go_wp2;refine bodyPost_ret (results_cell_row Tryz.results106 _ _ w.heap.size 121 #[.int .i64 s.f1.f0,.int .i64 s.f1.f1,.int .i64 s.f1.f2] (0,0) _ rfl (aN (aN (aN HX.out 0 _ rfl) 1 _ rfl) 2 _ rfl) Tryz.underlying121 rfl (by kernel_rfl)) rfl ?_;have hS:fB (Eq w.heap.size) wr (((wr.setCell ⟨w.heap.size,0,none⟩ (.int .i64 s.f1.f0)).setCell ⟨w.heap.size,1,none⟩ (.int .i64 s.f1.f1)).setCell ⟨w.heap.size,2,none⟩ (.int .i64 s.f1.f2)):=(((fB.refl _ _).set _ _ _ (.inl rfl)).set _ _ _ (.inl rfl)).set _ _ _ (.inl rfl);refine⟨CS Sj.out,some ad,c',?_,HA.out,HF.out.then_ hS (fun i hi q=>by cases q;omega)⟩;rw[HAD.out];exact HK.out.far hS (by omega) (by omega) (fun _ q hq=>by have:=HA.out q hq;omega)
   | cons t l3 =>
    have b1:decide (1 < (m:Int))=true:=decide_eq_true (by rw[HM.out];simp only[List.length_cons];omega);by_cases c1:e'<=a
    .have b2:decide (e'<=a)=true:=decide_eq_true c1;obtain⟨ad,e0,_⟩:=jH HK.out.rd 0 (by omega) (by simp only[List.length_cons,List.length_nil];omega);cases e0
     have MV:=HK.out.cap;simp only[List.length_cons] at MV;have g1:¬ c'=1:=(by omega);have hm2:m=(t :: l3).length+1:=(by rw[HM.out];rfl);have WZ:=HA.out ad rfl;have had:ad.block≠bl/\ad.block≠be:=⟨by omega,by omega⟩;have tD:=Kd.mW (m:=1) HK.out.rd (by simp) HK.out.cap;rw[if_neg g1] at tD;simp only[Option.map_some,Nat.one_mul,List.drop_succ_cons,List.drop_zero] at tD;have hsz:k123.sz=4:=rfl;rw[hsz,show ad.add 4=⟨ad.block,ad.off+4,none⟩ by have:=bM ad 0 4 (by omega);rw[add_zero'] at this;simpa using this] at tD;have HD:=aj tD;have HM2:=aj hm2;have aa3:=aY HK.out.b1;clear tD hsz hm2 MV;go_wp2;have hF2:fB (fun k=>k=bl) wr (wr.setCell ⟨bl,0,none⟩ (.slice (some ⟨ad.block,ad.off+4,none⟩) (m - 1) (c' - 1))):=(fB.refl _ _).set _ _ _ (.inl rfl)
     have hW2:Bk (wr.setCell ⟨bl,0,none⟩ (.slice (some ⟨ad.block,ad.off+4,none⟩) (m - 1) (c' - 1))) bl be (some ⟨ad.block,ad.off+4,none⟩) (c' - 1) (t :: l3) e' :=
      ⟨HK.out.ne,aN HK.out.b1 0 _ (by rw[show m - 1=(t :: l3).length by rw[HM2.out];rfl];rfl),hF2.blk HK.out.b2 (fun q=>HK.out.ne q.symm),eu.far HD.out (fun x c=>EV x c) (fun p v hv _ ⟨q,e1,e2⟩=>hF2.cell hv (by cases e1;rw[e2];exact had.1)),by have:=HK.out.cap;simp only[List.length_cons] at this ⊢;omega⟩
     obtain⟨W2,hW⟩:∃ W2,wr.setCell ⟨bl,0,none⟩ (.slice (some ⟨ad.block,ad.off+4,none⟩) (m - 1) (c' - 1))=W2:=⟨_,rfl⟩;rw[hW] at hW2 hF2 ⊢;clear hW z1 z2 f1 f2;have y1:=Bx.cell ((ak hW2.b1 0).trans rfl);have y2:=Bx.cell ((ak hW2.b2 0).trans rfl);obtain⟨_,e0,k0,_⟩:=jH hW2.rd 0 (by omega) (by simp only[List.length_cons,List.length_nil];omega);cases e0
     simp only[Int.toNat_zero,Nat.zero_mul,add_zero'] at k0;rw[show bI (t :: l3) 0=t from rfl] at k0;have y3:=Bx.cell k0;have y4:=Bx.blk hW2.b2;have y5:=Bx.blk hW2.b1;have hq1:(0:Int) < ((t :: l3).length:Int):=(by simp only[List.length_cons];omega);have hq2:0 < (t :: l3).length:=(by simp);have HW2:=aj hW2;have HF2:=aj hF2;clear k0 hW2 hF2;generalize hn3:(t :: l3).length=n3 at y1 hq1 hq2;have HN3:=aj hn3;clear hn3;have ht:=HS.out t (by simp);have qP:wrap64 (e'+t.f0)=e'+t.f0:=dN _ (by have:=H1.out;simp only[List.length_cons] at this;omega);refine cE 6 (by kernel_rfl) (by kernel_rfl) ?_;simp only[List.take_succ_cons,List.take_zero,List.drop_succ_cons,List.drop_zero]
     repeat(go_big_quiet_step (fail))
     refine wpQuiet_nil ?_;intro w7 hb7;have y6:=ay HW2.out.b2 hb7;have y7:=aB y6 0;have y8:w7.cell? ⟨be,0,none⟩=some (.int .i64 e'):=(ak y6 0).trans rfl;clear y1 y2 y3 y4 y5;go_wp2;go_roundg (l3.length+1)
     case measure=>have:=Zc.out.1;simp only[List.length_cons] at this;omega
     case rel =>
      have hF7:fB (fun k=>k=be) w7 (w7.setCell ⟨be,0,none⟩ (.int .i64 (e'+t.f0))):=(fB.refl _ _).set _ _ _ (.inl rfl);have hF8:fB (fun _=>False) W2 w7:=fB.ji hb7 (Nat.le_refl _);have hL7:=HW2.out.far hF8 id id (fun _ _ _=>id);have hw0:w.heap.size < wr.heap.size:=aY HX.out;refine⟨t :: l3,e'+t.f0,some ⟨ad.block,ad.off+4,none⟩,c' - 1,⟨⟨hL7.ne,hF7.blk hL7.b1 hL7.ne,aN hL7.b2 0 _ rfl,eu.far hL7.rd (fun x c=>EV x c) (fun p v hv _ ⟨q,e1,e2⟩=>hF7.cell hv (by cases e1;rw[e2];exact had.2)),hL7.cap⟩⟩,⟨?_⟩,⟨by simp,by have:=Zc.out.2;simp only[List.length_cons] at this ⊢;omega⟩,⟨fun x hx=>HS.out x (List.mem_cons_of_mem _ hx)⟩,⟨by simp⟩,⟨?_⟩,⟨?_⟩,⟨?_⟩,⟨?_⟩⟩
      .rw[<-Ku.out];simp only[rZ];rw[if_pos c1]
      .have:=H1.out;simp only[List.length_cons] at this ⊢;omega
      .intro q hq;cases hq;exact WZ
      .exact((HF.out.then_ HF2.out (fun i _ q=>.inl q)).then_ hF8 (fun i _ q=>q.elim)).then_ hF7 (fun i _ q=>.inr q)
      .exact hF7.blk (hF8.blk (HF2.out.blk HX.out (by omega)) id) (by omega)
    .have b2:decide (e'<=a)=false:=decide_eq_false c1;obtain⟨ad,e0,k0,k1,k2,k3⟩:=jH HK.out.rd 0 (by omega) (by simp only[List.length_cons,List.length_nil];omega);cases e0
     simp only[Int.toNat_zero,Nat.zero_mul,add_zero'] at k0 k1 k2 k3;have hrd:bI (s :: t :: l3) 0=s:=rfl;rw[hrd] at k0 k1 k2 k3;clear hrd;have hlk:qO (rZ l e a).1=s.f1:=(by rw[<-Ku.out];simp only[rZ];rw[if_neg c1];rfl);have Kv:rZ l e a=(s :: t :: l3,e'):=(by rw[<-Ku.out];simp only[rZ];rw[if_neg c1]);have HAD:=aj Kv;have Sj:=aj hlk;have hw0:w.heap.size < wr.heap.size:=aY HX.out;have hz:=aB HX.out 0;have hz1:=aB HX.out 1;have hz2:=aB HX.out 2;have hy0:wr.cell? ⟨w.heap.size,0,none⟩=some (.int .i64 0):=(ak HX.out 0).trans rfl;have hy1:wr.cell? ⟨w.heap.size,1,none⟩=some (.int .i64 0):=(ak HX.out 1).trans rfl;have hy2:wr.cell? ⟨w.heap.size,2,none⟩=some (.int .i64 0):=(ak HX.out 2).trans rfl;clear hlk Kv;go_wp2;refine bodyPost_ret (results_cell_row Tryz.results106 _ _ w.heap.size 121 #[.int .i64 s.f1.f0,.int .i64 s.f1.f1,.int .i64 s.f1.f2] (0,0) _ rfl (aN (aN (aN HX.out 0 _ rfl) 1 _ rfl) 2 _ rfl) Tryz.underlying121 rfl (by kernel_rfl)) rfl ?_;have hS:fB (Eq w.heap.size) wr (((wr.setCell ⟨w.heap.size,0,none⟩ (.int .i64 s.f1.f0)).setCell ⟨w.heap.size,1,none⟩ (.int .i64 s.f1.f1)).setCell ⟨w.heap.size,2,none⟩ (.int .i64 s.f1.f2)):=(((fB.refl _ _).set _ _ _ (.inl rfl)).set _ _ _ (.inl rfl)).set _ _ _ (.inl rfl);refine⟨CS Sj.out,some ad,c',?_,HA.out,HF.out.then_ hS (fun i hi q=>by cases q;omega)⟩;rw[HAD.out];exact HK.out.far hS (by omega) (by omega) (fun _ q hq=>by have:=HA.out q hq;omega)
structure qc where
 sp:List S123
 en:Int
 ma:List ByteArray
 kn:Bool
 bf:Int
 ps:Int
def cA(p:Pa)(lk:S121):Int:=if lk.f0=0 then p.pr.f0 else lk.f0
def shows(k:Int):Bool:=k == 1 || k == 2
def iM(p:Pa)(c:S50)(lk:S121)(m:ByteArray):Int:=if (shows c.f2 || c.f2 == 3)=true then fC (bt p.tx c.f0) (cA p lk)+lk.f1 else if c.f2=7 then ox m (cA p lk) else 0
def iN(p:Pa)(c:S50)(lk:S121)(kn:Bool)(bf ps:Int):Int:=if (shows c.f2 && lk.f2 == 1 && kn && ps == cA p lk)=true then kU bf (bt p.tx c.f0) (cA p lk) else 0
def JI(s:qc)(c:S50):List S123 × Int:=rZ s.sp s.en c.f0
def dG(s:qc)(c:S50):S121:=qO (JI s c).1
def vL(l:List ByteArray):ByteArray:=l.headD ByteArray.empty
def mg(p:Pa)(s:qc)(c:S50):S99:=⟨c.f0,c.f1,c.f2,cA p (dG s c),iM p c (dG s c) (vL s.ma),iN p c (dG s c) s.kn s.bf s.ps⟩
def fN(p:Pa)(s:qc)(c:S50):qc:=⟨(JI s c).1,(JI s c).2,if c.f2=7 then s.ma.tail else s.ma,shows c.f2 && (dG s c).f2 == 1,bt p.tx c.f0,cA p (dG s c)⟩
def iO(p:Pa):qc->List S50->List S99
 | _,[]=>[]
 | s,c :: l=>mg p s c :: iO p (fN p s c) l
def tR(p:Pa):qc->List S50->qc
 | s,[]=>s
 | s,c :: l=>tR p (fN p s c) l
def r8(p:Pa):qc:=⟨p.sp,kW p.sp,p.ma,false,0,0⟩
def aW(p:Pa):List S99:=if bB p=0 then iO p (r8 p) (cQ p.tx) else []
theorem qQ(p:Pa)(c:S50):∀ (l:List S50) (s:qc),iO p s (l ++ [c])=iO p s l ++ [mg p (tR p s l) c]
 | [],s=>rfl
 | d :: l,s=>by
  have:=qQ p c l (fN p s d);simp only[List.cons_append,iO,tR,this]
theorem tS(p:Pa)(c:S50):∀ (l:List S50) (s:qc),tR p s (l ++ [c])=fN p (tR p s l) c
 | [],s=>rfl
 | d :: l,s=>by
  have:=tS p c l (fN p s d);simp only[List.cons_append,tR,this]
theorem pT(p:Pa):∀ (l:List S50) (s:qc),(iO p s l).length=l.length
 | [],s=>rfl
 | d :: l,s=>by simp[iO,pT p l]
structure zR(p:Pa)(s:qc)(n:Nat):Prop where
 sp:s.sp≠[]
 lk:∀ x∈s.sp,j7 x.f1=true/\0<=x.f0/\x.f0<=300
 ln:s.sp.length<=300
 en:0<=s.en/\s.en+300 * (s.sp.length:Int)<=200000
 ma:s.ma.length=n
 Si:∀ m∈s.ma,gB m=true
 pz:1<=p.pr.f0/\p.pr.f0<=64
theorem Kx(a:Int):∀ (l:List S123) (e:Int),l≠[]->(∀ x∈l,0<=x.f0/\x.f0<=300)->0<=e->e+300 * (l.length:Int)<=200000 ->
  (rZ l e a).1≠[]/\(∀ x∈(rZ l e a).1,x∈l)/\(rZ l e a).1.length<=l.length/\0<=(rZ l e a).2/\(rZ l e a).2+300 * ((rZ l e a).1.length:Int)<=200000
 | [],e,h,_,_,_=>absurd rfl h
 | [s],e,h,hx,h0,h1=>⟨h,fun x q=>q,Nat.le_refl _,h0,h1⟩
 | s :: t :: l,e,h,hx,h0,h1=>by
  have ht:=hx t (by simp);simp only[rZ];split
  .simp only[List.length_cons] at h1;obtain⟨q1,q2,q3,q4,q5⟩:=Kx a (t :: l) (e+t.f0) (by simp) (fun x q=>hx x (List.mem_cons_of_mem _ q)) (by omega) (by simp only[List.length_cons];omega);exact⟨q1,fun x q=>List.mem_cons_of_mem _ (q2 x q),by simp only[List.length_cons] at q3 ⊢;omega,q4,q5⟩
  .exact⟨h,fun x q=>q,Nat.le_refl _,h0,h1⟩
theorem EW{l:List S123}(h:l≠[]):∃ x∈l,qO l=x.f1:=by
 cases l with
 | nil=>exact absurd rfl h
 | cons s l=>exact⟨s,by simp,rfl⟩
theorem EX{c:S121}(h:j7 c=true):0<=c.f0/\c.f0<=64/\0<=c.f1/\c.f1<=15/\(c.f2=0\/c.f2=1):=by
 unfold j7 at h;simpa using h
theorem zR.rZ{p:Pa}{s:qc}{n:Nat}(h:zR p s n)(c:S50):(JI s c).1≠[]/\(∀ x∈(JI s c).1,x∈s.sp)/\(JI s c).1.length<=s.sp.length/\0<=(JI s c).2/\(JI s c).2+300 * ((JI s c).1.length:Int)<=200000 :=
 Kx c.f0 s.sp s.en h.sp (fun x q=>(h.lk x q).2) h.en.1 h.en.2
theorem zR.look{p:Pa}{s:qc}{n:Nat}(h:zR p s n)(c:S50):0<=(dG s c).f0/\(dG s c).f0<=64/\0<=(dG s c).f1/\(dG s c).f1<=15/\((dG s c).f2=0\/(dG s c).f2=1):=by
 obtain⟨x,hx,e⟩:=EW (h.rZ c).1;have:=(h.lk x ((h.rZ c).2.1 x hx)).1;unfold dG;rw[e];exact EX this
theorem zR.size{p:Pa}{s:qc}{n:Nat}(h:zR p s n)(c:S50):1<=cA p (dG s c)/\cA p (dG s c)<=64:=by
 have h1:=h.look c;have h2:=h.pz;unfold cA;split<;>omega
theorem zR.next{p:Pa}{s:qc}{n:Nat}(c:S50)(h:zR p s (if c.f2=7 then n+1 else n)):zR p (fN p s c) n:=by
 have h1:=h.rZ c;refine⟨h1.1,fun x q=>h.lk x (h1.2.1 x q),by have:=h.ln;show(JI s c).1.length<=300;omega,⟨h1.2.2.2.1,h1.2.2.2.2⟩,?_,fun m q=>?_,h.pz⟩
 .show(if c.f2=7 then s.ma.tail else s.ma).length=n;have:=h.ma;split at this<;>simp_all
 .have q':m∈(if c.f2=7 then s.ma.tail else s.ma):=q;split at q'
  .exact h.Si m (List.mem_of_mem_tail q')
  .exact h.Si m q'
theorem uO:∀ (l:List S123) (n:Int),iz l n=true->n<=300->∀ x∈l,j7 x.f1=true/\0<=x.f0/\x.f0<=300
 | [],_,_,_,x,hx=>by simp at hx
 | s :: l,n,h,hn,x,hx=>by
  simp only[iz] at h;split at h
  .cases h
  .rename_i hc
   have hl:j7 s.f1=true:=by cases hq:j7 s.f1 with|true=>rfl|false=>exact absurd (.inr (.inr hq)) hc
   rcases List.mem_cons.1 hx with rfl|hx
   .exact⟨hl,by omega,by omega⟩
   .exact uO l _ h (by omega) x hx
theorem EY{l:List S123}{n:Int}(h:iz l n=true)(hn:0 < n):l≠[]:=by
 rintro rfl;simp[iz] at h;omega
def refsOf(l:List S50):Nat:=(l.filter (fun c=>c.f2 == 7)).length
theorem oB(s:ByteArray):∀ (d a:Nat) (c:S50),c∈cP s d a->∃ b,a<=b/\b < s.size/\c=rS s b
 | 0,a,c,h=>by simp[cP] at h
 | d+1,a,c,h=>by
  simp only[cP] at h;split at h
  .rename_i hl
   rcases List.mem_cons.1 h with rfl|h
   .exact⟨a,Nat.le_refl _,hl,rfl⟩
   .obtain⟨b,h1,h2,h3⟩:=oB s d _ c h;have:=jf s a;exact⟨b,by omega,h2,h3⟩
  .simp at h
theorem wK(s:ByteArray)(a:Nat)(h:a < s.size):(s.data.toList.drop a).count 2=(if bt s (a:Int)=2 then 1 else 0)+(s.data.toList.drop (a+1)).count 2:=by
 have hl:a < s.data.toList.length:=by simpa using h
 rw[List.drop_eq_getElem_cons hl,List.count_cons];have hb:bt s (a:Int)=(s.data.toList[a].toNat:Int):=by
  unfold bt;rw[dif_pos (by simpa using h)];rfl
 have:(s.data.toList[a] == 2)=decide (bt s (a:Int)=2):=by
  rw[hb,Bool.eq_iff_iff,beq_iff_eq,decide_eq_true_iff];constructor
  .intro q;rw[q];rfl
  .intro q;exact UInt8.toNat_inj.1 (by have:(s.data.toList[a].toNat:Int)=2:=q;show s.data.toList[a].toNat=2;omega)
 rw[this];by_cases q:bt s (a:Int)=2<;>simp[q]<;>omega
theorem zS(s:ByteArray)(a:Nat)(q:Int):∀ d t,(s.data.toList.drop (ext s a q d t)).count 2=(s.data.toList.drop t).count 2
 | 0,t=>rfl
 | d+1,t=>by
  simp only[ext];split
  .rename_i h
   rw[zS s a q d (t+1),wK s t h.2.1];have ha:=h.2.2.2;unfold pR at ha;rw[if_neg (by simp at ha;omega)];omega
  .rfl
theorem SX(c:Int):kindOf c=7↔c=2:=by
 unfold kindOf fP;constructor
 .intro h;simp only[decide_eq_true_eq] at h
  repeat' split at h
  all_goals omega
 .rintro rfl;decide
theorem zU(s:ByteArray):∀ d a,s.size<=a+d->refsOf (cP s d a)=(s.data.toList.drop a).count 2
 | 0,a,h=>by
  have:s.data.toList.drop a=[]:=List.drop_eq_nil_of_le (by simpa using h);rw[this];rfl
 | d+1,a,h=>by
  simp only[cP];split
  .rename_i hl
   have h1:=jf s a;have ih:=zU s d (fH s a) (by omega);have h2:(s.data.toList.drop (fH s a)).count 2=(s.data.toList.drop (a+1)).count 2:=zS s a _ 3 (a+1);rw[wK s a hl,<-h2,<-ih];have hk:(rS s a).f2=kindOf (bt s (a:Int)):=rfl;have h7:=SX (bt s (a:Int));unfold refsOf;by_cases q:bt s (a:Int)=2
   .rw[List.filter_cons_of_pos (by rw[hk,h7.2 q];rfl),if_pos q];simp;omega
   .rw[List.filter_cons_of_neg (by rw[hk,beq_iff_eq];exact fun e=>q (h7.1 e)),if_neg q];simp
  .have:s.data.toList.drop a=[]:=List.drop_eq_nil_of_le (by simpa using (by omega:s.size<=a));rw[this];rfl
theorem H7(s:ByteArray):refsOf (cQ s)=refs s:=by
 have:=zU s s.size 0 (by omega);rw[List.drop_zero] at this;exact this
theorem jP(c:S50)(l:List S50):refsOf (c :: l)=if c.f2=7 then refsOf l+1 else refsOf l:=by
 unfold refsOf;by_cases q:c.f2=7
 .rw[List.filter_cons_of_pos (by rw[q];rfl),if_pos q];rfl
 .rw[List.filter_cons_of_neg (by simpa using q),if_neg q]
theorem gI{p:Pa}(h:bB p=0):cB p.tx=0/\mF p.tx=false/\iz p.sp (p.tx.size:Int)=true/\p.pr.ok=true/\gN p.lb 16=true/\p.ma.length=refs p.tx/\p.ma.all gB=true:=by
 unfold bB at h;by_cases h1:cB p.tx=0
 .rw[if_neg (by simp[h1])] at h;by_cases h2:mF p.tx=true
  .rw[if_pos h2] at h;cases h
  .rw[if_neg h2] at h;by_cases h3:jO p=true
   .rw[if_pos h3] at h;cases h
   .rw[if_neg h3] at h;by_cases h4:p.ma.all gB=true
    .unfold jO at h3;simp at h3;exact⟨h1,by simpa using h2,h3.1,h3.2.1,h3.2.2.1,h3.2.2.2,h4⟩
    .rw[if_neg h4] at h;cases h
 .rw[if_pos h1] at h;exact absurd h h1
theorem uP{p:Pr}(h:p.ok=true):(1<=p.f0/\p.f0<=64)/\(1<=p.f1/\p.f1<=255)/\(0<=p.f2/\p.f2<=3)/\(0<=p.f3/\p.f3<=255)/\(0<=p.f4/\p.f4<=255)/\(0<=p.f5/\p.f5<=255)/\(0<=p.f12/\p.f12<=1)/\(0<=p.f13/\p.f13<=1)/\(0<=p.f14/\p.f14<=4):=by
 unfold Pr.ok Pr.bounds dW at h;simp only[List.all_cons,List.all_nil,Bool.and_eq_true,Bool.not_eq_true',Bool.or_eq_false_iff,decide_eq_false_iff_not] at h;omega
theorem r9{p:Pa}(hz:p.small)(h:bB p=0)(hn:0 < p.tx.size):zR p (r8 p) (refsOf (cQ p.tx)):=by
 obtain⟨h1,h2,h3,h4,h5,h6,h7⟩:=gI h;have hm:=uO p.sp _ h3 (by have:=hz.tx;omega);have hne:=EY h3 (by omega);refine⟨hne,hm,hz.sp,?_,by rw[H7];exact h6,fun m hmm=>List.all_eq_true.1 h7 m hmm,(uP h4).1⟩;have hl:=hz.sp;have he:0<=kW p.sp/\kW p.sp<=300:=by
  unfold kW;cases hs:p.sp with
  | nil=>exact absurd hs hne
  | cons x l=>have:=hm x (by rw[hs];simp);exact this.2
 show 0<=kW p.sp/\kW p.sp+300 * (p.sp.length:Int)<=200000;omega
theorem GA{p:Pa}:∀ (l r:List S50) (s:qc),zR p s (refsOf (l ++ r))->zR p (tR p s l) (refsOf r)
 | [],r,s,h=>h
 | c :: l,r,s,h=>by
  rw[List.cons_append,jP] at h;exact GA l r (fN p s c) h.next
end Go.Proofs.YtcaallkkeighdaaGreatDoor.P
namespace Go.Proofs.YtcaallkkeighdaaGreatDoor.P
open Go.RowKit aD aQ aR
def oC(x:S99):List Value:=[.int .i64 x.f0,.int .i64 x.f1,.int .i64 x.f2,.int .i64 x.f3,.int .i64 x.f4,.int .i64 x.f5]
def jk(xs:List S99):List Value:=xs.flatMap oC
theorem r_(xs:List S99)(x:S99):jk (xs ++ [x])=jk xs ++ oC x:=by simp[jk]
theorem Bm(w:World)(base:Nat)(ok:Nat->Prop)(xs:List S99):iY (k99.M w base ok) 6 xs (jk xs):=by
 suffices h:∀ ys:List S99,iY (k99.M w base ok) 6 ys.reverse (jk ys.reverse) by simpa using h xs.reverse
 intro ys
 induction ys with
 | nil=>exact iY.none _ _
 | cons y ys ih =>
  rw[List.reverse_cons,r_];exact ih.snoc (Gy w base ok y) rfl
theorem GD{w:World}{base:Nat}{v:Value}{xs:List S99}(h:w.ownsRow base 99 6 v xs.length (jk xs)):Kd.R k99 99 w base (fun _=>True) v xs:=⟨fun _ _=>trivial,jk xs,h,Bm _ _ _ _⟩
structure H8(p:Pa)(As:Option Addr)(cs:Nat)(Am:Option Addr)(cm:Nat)(w wr:World)(bp bl be:Nat)(A:Option Addr)(c:Nat)(sp:List S123)(en:Int)(v5 v9:Value)(out:List S99):Prop where
 below:Below w.heap.size w wr
 ord:w.heap.size<=bp/\bp < bl/\bl < be/\be < wr.heap.size
 box:wr.heap[bp]? = some (.cells (cG p As cs Am cm) 27 (0,0))
 lk:Bk wr bl be A c sp en
 VL:sp≠[]->∀ ad,A=some ad->ad.block < w.heap.size
 cl:Kd.R k50 50 wr 0 (fun k=>k < bl) v5 (cQ p.tx)
 row:wr.ownsRow (be+1) 99 6 v9 out.length (jk out)
section
variable{p:Pa}{As:Option Addr}{cs:Nat}{Am:Option Addr}{cm:Nat}{w wr wc:World}{bp bl be:Nat}{A:Option Addr}{c:Nat}{sp:List S123}{en:Int}{v5 v9:Value}{out:List S99}
theorem H8.more(h:H8 p As cs Am cm w wr bp bl be A c sp en v5 v9 out)(hb:Below wr.heap.size wr wc):H8 p As cs Am cm w wc bp bl be A c sp en v5 v9 out:=by
 have hF:fB (fun _=>False) wr wc:=fB.ji hb (Nat.le_refl _);exact⟨h.below.trans (hb.mono h.below.size),⟨h.ord.1,h.ord.2.1,h.ord.2.2.1,Nat.lt_of_lt_of_le h.ord.2.2.2 hb.size⟩,hF.blk h.box id,h.lk.far hF id id (fun _ _ _=>id),h.VL,hF.C h.cl (fun _ _ _=>id),wh h.row (fun k hk=>hb.block k (jW h.row k hk))⟩
theorem H8.look(h:H8 p As cs Am cm w wr bp bl be A c sp en v5 v9 out){A':Option Addr}{c':Nat}{sp':List S123}{en':Int}(hl:Bk wc bl be A' c' sp' en')(hA:∀ ad,A'=some ad->ad.block < w.heap.size)(hF:fB (fun k=>k=bl\/k=be) wr wc) :
  H8 p As cs Am cm w wc bp bl be A' c' sp' en' v5 v9 out:=by
 obtain⟨o1,o2,o3,o4⟩:=h.ord;exact⟨h.below.trans (hF.below h.below.size (fun k hk=>by omega)),⟨o1,o2,o3,Nat.lt_of_lt_of_le o4 hF.size⟩,hF.blk h.box (by omega),hl,fun _=>hA,hF.C h.cl (fun k hk _=>by omega),wh h.row (fun k hk=>hF.block k (jW h.row k hk) (by have:=fR h.row k hk;omega))⟩
theorem H8.grow(h:H8 p As cs Am cm w wr bp bl be A c sp en v5 v9 out){x:S99}{v':Value}{w1:World}{o:Obj}(hown:w1.ownsRow (be+1) 99 6 v' (out.length+1) (jk out ++ oC x))(hg:(wr.alloc o).grownBy w1 v9.ownBlock) :
  H8 p As cs Am cm w w1 bp bl be A c sp en v5 v' (out ++ [x]):=by
 obtain⟨o1,o2,o3,o4⟩:=h.ord;have hF:fB (fun k=>be < k) wr w1:=((fB.refl _ _).alloc o).grown hg (fun i hi=>by have:=fR h.row i hi.symm;exact .inl (by omega));refine⟨h.below.trans (hF.below h.below.size (fun k hk=>by omega)),⟨o1,o2,o3,Nat.lt_of_lt_of_le o4 hF.size⟩,hF.blk h.box (by omega),h.lk.far hF (by omega) (by omega) (fun hne ad e=>by have:=h.VL hne ad e;omega),h.VL,hF.C h.cl (fun k hk _=>by omega),?_⟩;rw[r_,List.length_append];exact hown
end
end Go.Proofs.YtcaallkkeighdaaGreatDoor.P
