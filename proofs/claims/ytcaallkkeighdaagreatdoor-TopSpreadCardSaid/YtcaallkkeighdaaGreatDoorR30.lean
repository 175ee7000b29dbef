/- The iterator of item.walk yields a paragraph's items,in order. -/
import Derived.Test.YtcaallkkeighdaaGreatDoorR29
set_option maxRecDepth 100000
set_option maxHeartbeats 16000000
set_option linter.unusedVariables false
set_option linter.unusedSimpArgs false
namespace Go.Proofs.YtcaallkkeighdaaGreatDoor.P
open Go.RowKit aD aQ aR
attribute [local go_sem] Oper.semAt_some
def BW(n:Nat)(pl:List Bool)(w:World)(e:Ending)(w':World):Prop:=∃ g c2 ws,e=.returned (.slice (some ⟨g,0,none⟩) (n+1) c2)/\n+1<=c2/\w.heap.size<=g/\w'.heap[g]? = some (.cells ws 4 (0,0))/\(∀ k,k<=n->ws[k]? = some (.bool (pl.getD k false)))/\Below w.heap.size w w'
section
variable{P:Program}{md:Region.Mode}{Q:Exit->Act->World->Prop}{n:Nat}
theorem oV{ops:Array Oper}{i f:Nat}{listed:Array Bool}{a:Act}{w:World}{o:Oper}(hr:Region.ready md ops listed=[i])(ho:ops[i]? = some o)
  (h:∀ K':Act->World->Prop,(∀ a w,wpAnyIn Fence.wide n P md ops Q f (listed.setIfInBounds i true) a w->K' a w)->if Region.wanted o (yielded ops a.tmps)=true then Oper.wp P o a w K' Q else K' (a.put o.dst undef) w):wpAnyIn Fence.wide n P md ops Q (f+1) listed a w:=by
 refine wpAnyIn_all hr (by simp) (fun j hj=>?_);obtain rfl:=List.mem_singleton.1 hj;refine wpOpIn_step ho (fun K' hK'=>?_);have:=h K' hK';split at this
 .rename_i hw;rw[if_pos hw];exact Oper.xJ this
 .rename_i hw;rw[if_neg hw];exact⟨fun _ _=>trivial,this⟩
def Dy(md:Region.Mode)(ops:Array Oper)(n:Nat)(listed:Array Bool):Bool :=
 decide (listed.size=ops.size) && (List.range ops.size).all (fun j=>!(listed.getD j false) || (match ops[j]? with|some oj=>oj.after.all (fun e=>!Region.binds md e || listed.getD e.on false)|none=>true)) && (List.range ops.size).all (fun t=>decide (t < n) || !(listed.getD t true))
theorem FL{ops:Array Oper}{m:Nat}{listed:Array Bool}(h:Dy md ops m listed=true):HeadInv md ops m listed:=by
 simp only[Dy,Bool.and_eq_true,decide_eq_true_eq,List.all_eq_true,List.mem_range,Bool.or_eq_true,Bool.not_eq_true'] at h;obtain⟨⟨h1,h2⟩,h3⟩:=h;refine⟨h1,fun j oj hj hl e he hb=>?_,fun t ht ht'=>?_⟩
 .have hlt:j < ops.size:=(Array.getElem?_eq_some_iff.1 hj).1;rcases h2 j hlt with q|q
  .rw[q] at hl;cases hl
  .rw[hj] at q;have:=Array.all_eq_true_iff_forall_mem.1 q e he;rcases Bool.or_eq_true_iff.1 this with r|r
   .rw[hb] at r;cases r
   .exact r
 .rcases h3 t ht' with q|q
  .omega
  .exact q
end
theorem FN{p:Pa}{As Am:Option Addr}{cs cm:Nat}{l:List S99}{A:Option Addr}{c n:Nat}{x:Int}{r:Bool}{Bl Bp:Nat}{W:World}(hn':l.length=n)(h0:0<=x)(h1:x < (n:Int))(hr:vf p.tx l x.toNat=r)
  (hb:W.heap[Bl]? = some (.cells #[.slice A l.length c] 82 (0,0))) (ht:W.heap[Bp]? = some (.cells (cG p As cs Am cm) 27 (0,0))) (hl:Kd.C k99 W A l.length l) (hn:l.length<=4096) (hm:∀ m∈l,0<=m.f0/\m.f0 < (p.tx.size:Int)) :
  Calls Tryz.prog 80 #[.int .i64 x,.pointer (some ⟨Bl,0,none⟩),.pointer (some ⟨Bp,0,none⟩)] W fun e W'=>e=.returned (.bool r)/\Below W.heap.size W W':=by
 have hlt:x.toNat < l.length:=by omega
 have:=Fz p (As:=As) (Am:=Am) (cs:=cs) (cm:=cm) l A c x.toNat r Bl Bp W ((ak hb 0).trans rfl) ((ak ht 0).trans rfl) hl hlt hn (hm _ (lV hlt)) hr
 rwa [show((x.toNat:Nat):Int)=x by omega] at this
theorem T_{p:Pa}{As Am:Option Addr}{cs cm:Nat}{l:List S99}{A:Option Addr}{c:Nat}{pl:List Bool}{Bp Bl Bo n1:Nat}{ρ:World->Option Nat}{lp:Nat}{J:List S75->World->Prop}(W:World)
  (hK:∀ g3 g7 gw,W.heap.size<=g3->W.heap.size<=g7->W.heap.size<=gw->g7≠g3->g7≠gw->SA p l A c Bp Bl Bo n1 W.heap.size ρ g3 g7 gw)
  (Y:Rf J ρ n1 Bo W.heap.size lp (oO p.tx l pl).length) (h0:J [] W) (hr:∀ r,ρ W=some r->r < W.heap.size)
  (PA:W.heap[Bp]? = some (.cells (cG p As cs Am cm) 27 (0,0))) (hbl:W.heap[Bl]? = some (.cells #[.slice A l.length c] 82 (0,0))) (hml:Kd.C k99 W A l.length l)
  (Ua:∀ W2,Below W.heap.size W W2->Calls Tryz.prog 79 #[.agg (cG p As cs Am cm),.slice A l.length c] W2 (BW l.length pl W2)) :
  Calls Tryz.prog 78 #[.func (.yield lp) #[] #[],.pointer (some ⟨Bp,0,none⟩),.pointer (some ⟨Bl,0,none⟩)] W fun e W'=>(∃ v,e=.returned v)/\J (oO p.tx l pl) W':=by
 have HK:=aj hK;have HY:=aj Y;have H0:=aj h0;have KX:=aj hr;have G4:=aj Ua;have HB1:=aj ((Below.refl W.heap.size W).alloc (Nat.le_refl _) (.cells #[.func (.yield lp) #[] #[]] 154));have HB3:=aj (aH W (.cells #[.func (.yield lp) #[] #[]] 154));have En:=aj (ay PA HB1.out);have qD:=aj (ay hbl HB1.out);have NU:=aj (Kd.aM hml HB1.out);obtain⟨n,hnn⟩:∃ n,l.length=n:=⟨_,rfl⟩;have dF:=aj hnn;obtain⟨T,hT⟩:∃ T,oO p.tx l pl=T:=⟨_,rfl⟩;have HT:=aj hT;rw[hT] at HY ⊢;have x0:(W.alloc (.cells #[.func (.yield lp) #[] #[]] 154)).cell? ⟨Bl,0,none⟩=some (.slice A n c):=by rw[<-hnn];exact(ak qD.out 0).trans rfl
 rw[hnn] at G4 qD;clear hK Y h0 hr PA hbl hml Ua hnn hT;go_enter Tryz.func78,Tryz.ntmps78;go_upto_region 2 with(first|((with_reducible refine aS (N:=12) rfl ?_);go_loud(refine wpList_load_row rfl 27 _ rfl (Bp) rfl 27 (cG p As cs Am cm) (0,0) _ (by exact En.out) Tryz.underlying27 rfl (cV p As cs Am cm) ?_))|(go_at_call 79;go_loud(refine(G4.out _ HB1.out).mono ?_;rintro e w2 ⟨gw,c2,ws,rfl,hc2,NP,hbw,ZC,hb2⟩;have HB2:=aj hb2;have tE:=aj hbw;have SC:=aj ZC;have PD:=aj NP;have HC2:=aj hc2;clear hb2 hbw ZC NP hc2)));clear x0;go_upto_region 5 with(fail);have Rh:=aj (HB1.out.trans (HB2.out.mono HB1.out.size));have HB4:=aj ((Below.refl w2.heap.size w2).alloc (Nat.le_refl _) (.cells #[.int .i64 0] 3));have HB7:=aj (aH w2 (.cells #[.int .i64 0] 3));obtain⟨W3,hW3⟩:∃ W3,w2.alloc (.cells #[.int .i64 0] 3)=W3:=⟨_,rfl⟩;obtain⟨g7,hg7⟩:∃ g7,w2.heap.size=g7:=⟨_,rfl⟩;obtain⟨g3,hg3⟩:∃ g3,W.heap.size=g3:=⟨_,rfl⟩;have HW23:=aj (HB2.out.trans (HB4.out.mono HB2.out.size));rw[hW3] at HB4 HB7 HW23 ⊢;have hgl:gw < w2.heap.size:=aY tE.out;have hsl:W.heap.size < w2.heap.size:=by have:=HB2.out.size;simp at this;omega
 have hgs:W.heap.size+1<=gw:=by have:=PD.out;simpa using this
 have HK3:=aj (HK.out g3 g7 gw (by omega) (by omega) (by omega) (by omega) (by omega));have Ia:=aj (Rh.out.trans (HB4.out.mono Rh.out.size));have HJ3:=aj (HY.out.below H0.out Ia.out);have HI3:=aj (show FJ p As cs Am cm l A c ws Bp Bl W.heap.size ρ lp g3 g7 gw 0 W3 from by
  have e:ρ W3=ρ W:=HK3.out.hρ W W3 (fun i hi=>Ia.out.block i (by have:=HK3.out.hn;omega));refine⟨Ia.out.size,ay En.out HW23.out,by rw[dF.out];exact ay qD.out HW23.out,Kd.aM NU.out HW23.out,by rw[<-hg3];exact ay HB3.out HW23.out,by rw[<-hg7];exact HB7.out,ay tE.out HB4.out,fun r hr=>?_⟩;rw[e] at hr;have:=KX.out r hr;have:=Ia.out.size;exact⟨by omega,by omega,by omega,by omega⟩)
 rw[hg7,hg3];rw[hg3] at HI3 HK3 HY;have x1:W3.cell? ⟨Bl,0,none⟩=some (.slice A n c):=by rw[<-dF.out];exact(ak HI3.out.bl 0).trans rfl
 clear hW3 hg7 hgl hsl hgs;go_upto_block 0 with(fail);clear x1;have BX:=aj (show eO p.tx l pl n 0 0 0=T by rw[<-HT.out,<-dF.out];rfl);have HN8:=aj (show n<=4096 by rw[<-dF.out];exact HK3.out.hl);clear HB1 HB2 HB3 HB4 HB7 En qD NU tE PD Rh G4 H0 HK KX HT HW23 Ia hg3;go_wp2;go_loopw [6,19] (fun v6 v19 wr=>∃ (x:Int) (run k fr:Nat) (pre:List S75),v6=.int .i64 (run:Int)/\v19=.int .i64 x/\aC (x=(k:Int))/\aC (k<=n/\fr<=k/\run<=k)/\aC (pre ++ eO p.tx l pl (n - k) k run fr=T)/\aC (J pre wr)/\aC (FJ p As cs Am cm l A c ws Bp Bl g3 ρ lp g3 g7 gw fr wr)) (fun _ v19 _=>n - (intOf v19).toNat)
 case atStart=>exact⟨0,0,0,0,[],rfl,rfl,⟨rfl⟩,⟨by omega⟩,BX,HJ3,HI3⟩
 case round =>
  clear BX HJ3 HI3;obtain⟨x,run,k,fr,pre,rfl,rfl,hx,hk,hT,hJ,hI⟩:=hrel;have x1:wr.cell? ⟨Bl,0,none⟩=some (.slice A n c):=by rw[<-dF.out];exact(ak hI.out.bl 0).trans rfl
  by_cases hlt:k < n
  .have d9:decide (x < (n:Int))=true:=decide_eq_true (by rw[hx.out];omega);have q0:0<=x:=by rw[hx.out];omega
   have q1:x < (n:Int):=by rw[hx.out];omega
   have q2:x<=4096:=by rw[hx.out];have:=HN8.out;omega
   have p0:=eq_true q0;have p1:=eq_true q1;obtain⟨ad,e0,k0,k1,k2,k3,k4,k5⟩:=eV hI.out.ml x q0 (by rw[dF.out];exact q1);cases e0
   rw[vS hx.out] at k0 k1 k2 k3 k4 k5;obtain⟨m,hm⟩:∃ m,dY l k=m:=⟨_,rfl⟩;have HM:=aj hm;rw[hm] at k0 k1 k2 k3 k4 k5;have ZE:=aj (show cI m by rw[<-hm];exact HK3.out.hm _ (lV (by rw[dF.out];exact hlt)));have HMT:=aj (show 0<=m.f0/\m.f0 < (p.tx.size:Int) by rw[<-hm];exact HK3.out.ht _ (lV (by rw[dF.out];exact hlt)));have cg:=aj hlt;have lI:=aj ((Below.refl wr.heap.size wr).alloc (Nat.le_refl _) (.cells #[.int .i64 m.f0,.int .i64 m.f1,.int .i64 m.f2,.int .i64 m.f3,.int .i64 m.f4,.int .i64 m.f5] 99));have ZF:=aj (aH wr (.cells #[.int .i64 m.f0,.int .i64 m.f1,.int .i64 m.f2,.int .i64 m.f3,.int .i64 m.f4,.int .i64 m.f5] 99));clear hm hlt x1;obtain⟨g10,hg10⟩:∃ g,wr.heap.size=g:=⟨_,rfl⟩;have HG10:=aj hg10;clear hg10;cases PE:boxedB m with
   | false =>
    have G0:=aj PE;clear PE;go_upto_region 9 with(go_at_call 83;go_loud(refine(uU m _ G0.out _).mono ?_;rintro e w5 ⟨rfl,hb5⟩;have HB5:=aj (lI.out.trans (hb5.mono lI.out.size));have HZ5:=aj (ay ZF.out hb5)));have HI5:=aj (hI.out.below HK3.out HB5.out);have HJ5:=aj (HY.out.below hJ.out HB5.out);have HN1:=aj (show T.length > (pre ++ fO l fr k).length/\pre ++ fO l fr k ++ fq m :: eO p.tx l pl (n - (k+1)) (k+1) (k+1) (k+1)=T by
     have h1:=hT.out;rw[show n - k=(n - (k+1))+1 by have:=cg.out;omega,eO,HM.out,if_pos G0.out,<-List.append_assoc] at h1;refine⟨?_,h1⟩;rw[<-h1,List.length_append,List.length_cons];omega)
    have KR:=aj (show fr < k->pre.length < T.length by
     intro hf;have h1:=HN1.out.1;rw[List.length_append] at h1;omega)
    have ZG:=aj (show g3<=g10/\(∀ W',Below wr.heap.size wr W'->some g10≠ρ W') by
     have h1:=hI.out.sz;have h2:=HG10.out;refine⟨by omega,fun W' hb e=>?_⟩;have e2:ρ W'=ρ wr:=HK3.out.hρ wr W' (fun i hi=>hb.block i (by have:=HK3.out.hn;omega));rw[e2] at e;have:=(hI.out.row g10 e.symm).1;omega)
    have Ri:=aj hx.out.symm;have Jd:=aj (show k<=l.length by rw[dF.out];have:=cg.out;omega);clear k0 k1 k2 k3 k4 k5;go_cut [37] from 27 to 36 (fun v37 wc=>v37=.bool false/\aC (J (pre ++ fO l fr k ++ [fq m]) wc)/\aC (FJ p As cs Am cm l (some ad) c ws Bp Bl g3 ρ lp g3 g7 gw fr wc))
    case first =>
     refine(wpIn_wide (n:=6)).1 ?_;refine wpIn_region_any (by kernel_rfl) ?_;change wpAnyIn _ _ _ _ _ _ 11 (Array.replicate 11 false) _ (World.drew _);refine wpAnyIn_take (i:=0) rfl rfl (by kernel_rfl) (by kernel_rfl) (by kernel_rfl) (fun _ _ _ h=>h) ⟨.inl ⟨rfl,fun w=>rfl⟩,fun w=>rfl⟩ ?_;refine wpAnyIn_take (i:=1) rfl rfl (by kernel_rfl) (by kernel_rfl) (by kernel_rfl) (fun _ _ _ h=>h) ⟨.inl ⟨rfl,fun w=>rfl⟩,fun w=>rfl⟩ ?_;refine oV (i:=2) (by kernel_rfl) rfl ?_;intro K' hK';refine Eq.mpr (if_pos (by kernel_rfl)) ?_;simp only[List.getElem_toArray,List.getElem_cons_succ,List.getElem_cons_zero];go_simp;go_at_call 81;refine(BU HY.out HK3.out (HI5.out.below HK3.out (show Below w5.heap.size w5 w5.drew from aG (Below.refl _ _))) (HY.out.below HJ5.out (show Below w5.heap.size w5 w5.drew from aG (Below.refl _ _))) (k:=k) Ri.out Jd.out KR.out).mono ?_;rintro e w6 ⟨rfl,hJ6,hI6,hK6⟩;refine hK' _ _ ?_;clear hK' K';refine oV (i:=3) (by kernel_rfl) rfl ?_;intro K' hK';refine Eq.mpr (if_pos (by kernel_rfl)) ?_;simp only[List.getElem_toArray,List.getElem_cons_succ,List.getElem_cons_zero];go_simp;refine hK' _ _ ?_;clear hK' K';refine oV (i:=4) (by kernel_rfl) rfl ?_;intro K' hK';refine Eq.mpr (if_pos (by kernel_rfl)) ?_;simp only[List.getElem_toArray,List.getElem_cons_succ,List.getElem_cons_zero];go_simp;refine hK' _ _ ?_;clear hK' K';have HZ6:=aj (hK6 wr.heap.size _ (by rw[HG10.out];have:=HK3.out.hn;have:=ZG.out.1;omega) HZ5.out rfl (by rw[HG10.out];exact ZG.out.2 _ (aG HB5.out)));have y0:=Bx.cell ((ak hI6.b3 0).trans rfl:w6.cell? ⟨g3,0,none⟩=some (.func (.yield lp) #[] #[]));have y1:=Bx.cell ((ak HZ6.out 0).trans rfl:w6.cell? ⟨wr.heap.size,0,none⟩=some (.int .i64 m.f0));have y2:=Bx.cell ((ak HZ6.out 1).trans rfl:w6.cell? ⟨wr.heap.size,1,none⟩=some (.int .i64 m.f1));have y3:=Bx.cell ((ak HZ6.out 2).trans rfl:w6.cell? ⟨wr.heap.size,2,none⟩=some (.int .i64 m.f2));have y4:=Bx.cell ((ak HZ6.out 3).trans rfl:w6.cell? ⟨wr.heap.size,3,none⟩=some (.int .i64 m.f3));have y5:=Bx.cell ((ak HZ6.out 4).trans rfl:w6.cell? ⟨wr.heap.size,4,none⟩=some (.int .i64 m.f4));have y6:=Bx.cell ((ak HZ6.out 5).trans rfl:w6.cell? ⟨wr.heap.size,5,none⟩=some (.int .i64 m.f5));have HI6:=aj hI6;have HJ6:=aj hJ6;clear hI6 hJ6 hK6;refine u_ (C:=fun w'=>∃ i:Bx w6,w'=i.W) 5 8 3 6 (by kernel_rfl) (by kernel_rfl) (by kernel_rfl) (by decide) (by decide) (by rfl) (by rfl) (FL (by kernel_rfl)) (by kernel_rfl) ⟨⟨w6,Below.refl _ _⟩,rfl⟩ ?_;simp only[Nat.reduceSub,List.take_succ_cons,List.take_zero,List.drop_succ_cons,List.drop_zero]
     repeat(go_big_quiet_step ((go_at_call 84;exact Bx.cu (E_ m ⟨ZE.out.1,ZE.out.2.1⟩ _))))
     refine wpQuiet_nil ?_;rintro w7 ⟨i7,rfl⟩;have hb7:=i7.hb;generalize i7.W=w7 at *;clear y0 y1 y2 y3 y4 y5 y6;obtain⟨fn,tmps,assign,body,LB,Q6⟩:=HY.out.Wh (pre ++ fO l fr k) (fq m) w7 (HY.out.below HJ6.out hb7) HN1.out.1;unfold oP at LB
     gi_wp2
     refine Q6.mono ?_;rintro e w8 ⟨rfl,hJ8,hk8⟩
     gi_wp2
     go_meet
     case rel=>exact⟨rfl,⟨hJ8⟩,⟨(HI6.out.below HK3.out hb7).keep HK3.out hk8⟩⟩
    case rest =>
     obtain⟨rfl,hJ9,hI9⟩:=hcut;have c7:wc.cell? ⟨g7,0,none⟩=some (.int .i64 (fr:Int)):=(ak hI9.out.b7 0).trans rfl;have f7:=aB hI9.out.b7 0;have e1:wrap64 (x+1)=x+1:=dN _ (by omega);have Yg:=aj (show x+1=((k+1:Nat):Int) by rw[hx.out];omega);go_wp2;go_roundw
     case rel =>
      have hs:=hI9.out.FK HK3.out (k+1);have hj:=HY.out.FK HK3.out hI9.out hJ9.out (.int .i64 ((k+1:Nat):Int));rw[<-Yg.out] at hs hj;exact⟨x+1,k+1,k+1,k+1,_,by rw[Yg.out],rfl,Yg,⟨by have:=cg.out;omega⟩,⟨by rw[List.append_assoc];exact(List.append_assoc _ _ _ ▸ HN1.out.2)⟩,⟨hj⟩,⟨hs⟩⟩
     case measure=>have:=cg.out;have:=hx.out;simp[intOf];omega
   | true =>
    have G0:=aj PE;clear PE;go_upto_region 11 with(go_at_call 83;go_loud(refine(uU m _ G0.out _).mono ?_;rintro e w5 ⟨rfl,hb5⟩;have HB5:=aj (lI.out.trans (hb5.mono lI.out.size));have HZ5:=aj (ay ZF.out hb5)));have HI5:=aj (hI.out.below HK3.out HB5.out);have HJ5:=aj (HY.out.below hJ.out HB5.out);have c7:w5.cell? ⟨g7,0,none⟩=some (.int .i64 (fr:Int)):=(ak HI5.out.b7 0).trans rfl;have hstep:n - k=(n - (k+1))+1:=(by have:=cg.out;omega);by_cases SD:k=fr
    .have d1:(x == (fr:Int))=true:=(by rw[hx.out,SD];exact beq_self_eq_true _);have HT2:=aj (show pre ++ eO p.tx l pl (n - (k+1)) (k+1) run fr=T by
      have h1:=hT.out;rw[hstep,eO,HM.out,if_neg (by rw[G0.out];decide),if_pos SD] at h1;exact h1)
     clear SD hstep k0 k1 k2 k3 k4 k5;go_wp2;go_roundw
     case rel=>exact⟨x+1,run,k+1,fr,pre,rfl,rfl,⟨by rw[hx.out];omega⟩,⟨by have:=cg.out;have:=hk.out;omega⟩,HT2,HJ5,HI5⟩
     case measure=>have:=cg.out;have:=hx.out;simp[intOf];omega
    .have d1:(x == (fr:Int))=false:=(by rw[hx.out,beq_eq_false_iff_ne];omega);have hT2:=hT.out;rw[hstep,eO,HM.out,if_neg (by rw[G0.out];decide),if_neg SD] at hT2;have HK1:=aj (show fr < k/\1<=k by have:=hk.out;omega);have HT2:=aj hT2;have z0:w5.cell? ⟨wr.heap.size,0,none⟩=some (.int .i64 m.f0):=(ak HZ5.out 0).trans rfl;clear SD hstep k0 k1 k2 k3 k4 k5 hT2;go_upto_region 13 with(fail);have HB6:=aj ((Below.refl w5.heap.size w5).alloc (Nat.le_refl _) (.cells #[.int .i64 3,.int .i64 m.f0,.int .i64 m.f0,.int .i64 0,.int .i64 0,.int .i64 0,.int .i64 0,.bool false] 75));have HP6:=aj (aH w5 (.cells #[.int .i64 3,.int .i64 m.f0,.int .i64 m.f0,.int .i64 0,.int .i64 0,.int .i64 0,.int .i64 0,.bool false] 75));obtain⟨g11,hg11⟩:∃ g,w5.heap.size=g:=⟨_,rfl⟩;have HG11:=aj hg11;obtain⟨W6,hW6⟩:∃ W6,w5.alloc (.cells #[.int .i64 3,.int .i64 m.f0,.int .i64 m.f0,.int .i64 0,.int .i64 0,.int .i64 0,.int .i64 0,.bool false] 75)=W6:=⟨_,rfl⟩;rw[hW6] at HB6 HP6 ⊢;rw[hg11] at HP6 ⊢;have HI6:=aj (HI5.out.below HK3.out HB6.out);have HJ6:=aj (HY.out.below HJ5.out HB6.out);have HZ6:=aj (ay HZ5.out HB6.out);have jr:=aj (show g3<=g11/\(∀ W',Below w5.heap.size w5 W'->some g11≠ρ W') by
      have h1:=HI5.out.sz;refine⟨by omega,fun W' hb2 e=>?_⟩;have e2:ρ W'=ρ w5:=HK3.out.hρ w5 W' (fun i hi=>hb2.block i (by have:=HK3.out.hn;omega));rw[e2] at e;have:=(HI5.out.row g11 e.symm).1;omega)
     clear hW6 hg11 z0 c7;obtain⟨b,hb⟩:∃ b,pl.getD k false=b:=⟨_,rfl⟩;have tE:=aj hb;have xw:W6.cell? ⟨gw,x.toNat,none⟩=some (.bool b):=by
      rw[ak HI6.out.bw x.toNat,<-hb,show x.toNat=k by rw[hx.out];rfl];exact SC.out k (by have:=cg.out;omega)
     have r1:x < (n:Int)+1:=(by omega);have r2:x < ((n+1:Nat):Int):=(by omega);have t1:=eq_true r1;have t2:=eq_true r2;clear hb;have Ri:=aj hx.out.symm;have Jd:=aj (show k<=l.length by rw[dF.out];have:=cg.out;omega);have Ub:=aj jr.out.1;have z3:W6.cell? ⟨wr.heap.size,3,none⟩=some (.int .i64 m.f3):=(ak HZ6.out 3).trans rfl;have v3:W6.cell? ⟨g11,3,none⟩=some (.int .i64 0):=(ak HP6.out 3).trans rfl;have f3:=aB HP6.out 3;have v6:W6.cell? ⟨g11,6,none⟩=some (.int .i64 0):=(ak HP6.out 6).trans rfl;have f6:=aB HP6.out 6;have v7:W6.cell? ⟨g11,7,none⟩=some (.bool false):=(ak HP6.out 7).trans rfl;have f7:=aB HP6.out 7;cases b with
     | true =>
      have HT3:=aj (show pre ++ fO l fr k ++ kK m :: eO p.tx l pl (n - (k+1)) (k+1) run k=T by
       have h1:=HT2.out;rw[if_pos tE.out,<-List.append_assoc] at h1;exact h1)
      go_upto_region 17 with(go_at_call 85;go_loud(refine(sB m.f3 _).mono ?_;rintro e w7 ⟨rfl,hb7⟩;have HP7:=aj (ay HP6.out hb7);have v3:w7.cell? ⟨g11,3,none⟩=some (.int .i64 0):=(ak HP7.out 3).trans rfl;have v6:w7.cell? ⟨g11,6,none⟩=some (.int .i64 0):=(ak HP7.out 6).trans rfl;have v7:w7.cell? ⟨g11,7,none⟩=some (.bool false):=(ak HP7.out 7).trans rfl;have f3:=aB HP7.out 3;have f6:=aB HP7.out 6;have f7:=aB HP7.out 7));have HP8:=aj (show(((w7.setCell ⟨g11,6,none⟩ (.int .i64 100)).setCell ⟨g11,7,none⟩ (.bool true)).setCell ⟨g11,3,none⟩ (.int .i64 (jl m.f3))).heap[g11]? = some (.cells #[.int .i64 3,.int .i64 m.f0,.int .i64 m.f0,.int .i64 (jl m.f3),.int .i64 0,.int .i64 0,.int .i64 100,.bool true] 75 (0,0)) from aN (aN (aN HP7.out 6 _ rfl) 7 _ rfl) 3 _ rfl);have HB9:=aj (show Below w5.heap.size w5 (((w7.setCell ⟨g11,6,none⟩ (.int .i64 100)).setCell ⟨g11,7,none⟩ (.bool true)).setCell ⟨g11,3,none⟩ (.int .i64 (jl m.f3))) from (((HB6.out.trans (hb7.mono HB6.out.size)).setCell (by rw[HG11.out];exact Nat.le_refl _) _).setCell (by rw[HG11.out];exact Nat.le_refl _) _).setCell (by rw[HG11.out];exact Nat.le_refl _) _);generalize ((w7.setCell ⟨g11,6,none⟩ (.int .i64 100)).setCell ⟨g11,7,none⟩ (.bool true)).setCell ⟨g11,3,none⟩ (.int .i64 (jl m.f3))=W8 at *;have HI8:=aj (HI5.out.below HK3.out HB9.out);have HJ8:=aj (HY.out.below HJ5.out HB9.out);have HG8:=aj (show some g11≠ρ W8 from jr.out.2 W8 HB9.out);have Uc:=aj (show(pre ++ fO l fr k).length < T.length by rw[<-HT3.out];simp only[List.length_append,List.length_cons];omega);have KR:=aj (show pre.length < T.length by have:=Uc.out;rw[List.length_append] at this;omega);refine(wpIn_wide (n:=6)).1 ?_
      gi_wp2
      refine⟨trivial,callsIn_wide.2 ?_⟩;refine(BU HY.out HK3.out HI8.out HJ8.out (k:=k) Ri.out Jd.out (fun _=>KR.out)).mono ?_;rintro e w9 ⟨rfl,hJ9,hI9,hK9⟩;have HP9:=aj (hK9 g11 _ (by have:=HK3.out.hn;have:=Ub.out;omega) HP8.out rfl HG8.out);have HI9:=aj hI9;have HJ9:=aj hJ9;have u3:w9.cell? ⟨g3,0,none⟩=some (.func (.yield lp) #[] #[]):=(ak HI9.out.b3 0).trans rfl;have v0:w9.cell? ⟨g11,0,none⟩=some (.int .i64 3):=(ak HP9.out 0).trans rfl;have v1:w9.cell? ⟨g11,1,none⟩=some (.int .i64 m.f0):=(ak HP9.out 1).trans rfl;have v2:w9.cell? ⟨g11,2,none⟩=some (.int .i64 m.f0):=(ak HP9.out 2).trans rfl;have v3:w9.cell? ⟨g11,3,none⟩=some (.int .i64 (jl m.f3)):=(ak HP9.out 3).trans rfl;have v4:w9.cell? ⟨g11,4,none⟩=some (.int .i64 0):=(ak HP9.out 4).trans rfl;have v5:w9.cell? ⟨g11,5,none⟩=some (.int .i64 0):=(ak HP9.out 5).trans rfl;have v6:w9.cell? ⟨g11,6,none⟩=some (.int .i64 100):=(ak HP9.out 6).trans rfl;have v7:w9.cell? ⟨g11,7,none⟩=some (.bool true):=(ak HP9.out 7).trans rfl;obtain⟨fn,tmps,assign,body,LB,Q6⟩:=HY.out.Wh (pre ++ fO l fr k) (kK m) w9 HJ9.out Uc.out;unfold oP at LB;replace LB:(Instr.yield lp #[.agg #[.int .i64 3,.int .i64 m.f0,.int .i64 m.f0,.int .i64 (jl m.f3),.int .i64 0,.int .i64 0,.int .i64 100,.bool true]]).run Tryz.prog w9=.ok (.round lp fn tmps assign body) w9:=LB
      gi_wp2
      refine Q6.mono ?_;rintro e w10 ⟨rfl,hJ10,hk10⟩;have HI10:=aj (HI9.out.keep HK3.out hk10);have HJ10:=aj hJ10;have c7:w10.cell? ⟨g7,0,none⟩=some (.int .i64 (fr:Int)):=(ak HI10.out.b7 0).trans rfl;have f77:=aB HI10.out.b7 0
      gi_wp2
      go_wp2;go_roundw
      case rel =>
       have hs:=HI10.out.FK HK3.out k;have hj:=HY.out.FK HK3.out HI10.out HJ10.out (.int .i64 (k:Int));rw[Ri.out] at hs hj;exact⟨x+1,run,k+1,k,_,rfl,rfl,⟨by rw[hx.out];omega⟩,⟨by have:=cg.out;have:=hk.out;omega⟩,⟨by rw[List.append_assoc (pre ++ fO l fr k)];exact HT3.out⟩,⟨hj⟩,⟨hs⟩⟩
      case measure=>have:=cg.out;have:=hx.out;simp[intOf];omega
     | false =>
      have HT3:=aj (show pre ++ (if (vf p.tx l (k - 1) && (!vf p.tx l k && decide (run < k - 1)))=true then fO l fr k ++ jK m :: eO p.tx l pl (n - (k+1)) (k+1) run k else eO p.tx l pl (n - (k+1)) (k+1) run fr)=T by
       have h1:=HT2.out;rw[if_neg (by rw[tE.out];decide)] at h1;exact h1)
      go_upto_region 15 with(fail);obtain⟨D,hD⟩:∃ D,(vf p.tx l (k - 1) && (!vf p.tx l k && decide (run < k - 1)))=D:=⟨_,rfl⟩;rw[hD] at HT3;obtain⟨D1,hD1⟩:∃ D1,vf p.tx l (x - 1).toNat=D1:=⟨_,rfl⟩;obtain⟨D2,hD2⟩:∃ D2,vf p.tx l x.toNat=D2:=⟨_,rfl⟩;obtain⟨D3,hD3⟩:∃ D3,decide ((run:Int) < x - 1)=D3:=⟨_,rfl⟩;have Wi:=aj (show(D1 && (!D2 && D3))=D by
       rw[<-hD,<-hD1,<-hD2,<-hD3,show(x - 1).toNat=k - 1 by rw[hx.out];omega,show x.toNat=k by rw[hx.out];rfl,show decide ((run:Int) < x - 1)=decide (run < k - 1) by rw[hx.out];exact decide_eq_decide.2 (by have:=HK1.out;omega)])
      have HD1:=aj hD1;have HD2:=aj hD2;have e5:wrap64 (x - 1)=x - 1:=dN _ (by omega);have q5:0<=x - 1:=(by rw[hx.out];have:=HK1.out;omega);have q6:x - 1 < (n:Int):=(by omega);have HXD:=aj (And.intro (And.intro q5 q6) (And.intro q0 q1));have dI:=aj (Below.refl W6.heap.size W6);clear hD hD1 hD2;go_cut [61] from 62 to 77 (fun v61 wc=>v61=.bool D/\aC (Below W6.heap.size W6 wc))
      case first =>
       cases D1 with
       | false =>
        have HF:=aj (show false=D by have:=Wi.out;simpa using this);go_wp2_with (go_at_call 80;go_loud(refine(FN dF.out ?_ ?_ rfl (Bl:=Bl) (Bp:=Bp) (ay HI6.out.bl dI.out) (ay HI6.out.bp dI.out) (Kd.aM HI6.out.ml dI.out) HK3.out.hl HK3.out.ht).mono ?_;(focus (omega));(focus (omega));rintro e w7 ⟨rfl,hb7⟩;(first|rw[HD1.out]|rw[HD2.out]);have dI:=aj (dI.out.trans (hb7.mono dI.out.size))));go_meet
        case rel=>exact⟨congrArg Value.bool HF.out,dI⟩
       | true =>
        cases D2 with
        | true =>
         have HF:=aj (show false=D by have:=Wi.out;simpa using this);go_wp2_with (go_at_call 80;go_loud(refine(FN dF.out ?_ ?_ rfl (Bl:=Bl) (Bp:=Bp) (ay HI6.out.bl dI.out) (ay HI6.out.bp dI.out) (Kd.aM HI6.out.ml dI.out) HK3.out.hl HK3.out.ht).mono ?_;(focus (omega));(focus (omega));rintro e w7 ⟨rfl,hb7⟩;(first|rw[HD1.out]|rw[HD2.out]);have dI:=aj (dI.out.trans (hb7.mono dI.out.size))));go_meet
         case rel=>exact⟨congrArg Value.bool HF.out,dI⟩
        | false =>
         have HF:=aj (show D3=D by have:=Wi.out;simpa using this);go_wp2_with (go_at_call 80;go_loud(refine(FN dF.out ?_ ?_ rfl (Bl:=Bl) (Bp:=Bp) (ay HI6.out.bl dI.out) (ay HI6.out.bp dI.out) (Kd.aM HI6.out.ml dI.out) HK3.out.hl HK3.out.ht).mono ?_;(focus (omega));(focus (omega));rintro e w7 ⟨rfl,hb7⟩;(first|rw[HD1.out]|rw[HD2.out]);have dI:=aj (dI.out.trans (hb7.mono dI.out.size))));go_meet
         case rel=>exact⟨congrArg Value.bool HF.out,dI⟩
      case rest =>
       obtain⟨rfl,HB7⟩:=hcut;have HP7:=aj (ay HP6.out HB7.out);clear hD3 HD1 HD2 Wi;cases D with
       | false =>
        have HT4:=aj (show pre ++ eO p.tx l pl (n - (k+1)) (k+1) run fr=T by have:=HT3.out;rw[if_neg (by decide)] at this;exact this);have Oz:=aj (HB6.out.trans (HB7.out.mono HB6.out.size));clear HP7 v3 v6 v7 f3 f6 f7;go_wp2;go_roundw
        case rel=>exact⟨x+1,run,k+1,fr,pre,rfl,rfl,⟨by rw[hx.out];omega⟩,⟨by have:=cg.out;have:=hk.out;omega⟩,HT4,⟨HY.out.below HJ5.out Oz.out⟩,⟨HI5.out.below HK3.out Oz.out⟩⟩
        case measure=>have:=cg.out;have:=hx.out;simp[intOf];omega
       | true =>
        have HT5:=aj (show pre ++ fO l fr k ++ jK m :: eO p.tx l pl (n - (k+1)) (k+1) run k=T by have:=HT3.out;rw[if_pos rfl,<-List.append_assoc] at this;exact this);have v6:wc.cell? ⟨g11,6,none⟩=some (.int .i64 0):=(ak HP7.out 6).trans rfl;have f6:=aB HP7.out 6;go_upto_region 17 with(fail);have HP8:=aj (show(wc.setCell ⟨g11,6,none⟩ (.int .i64 50)).heap[g11]? = some (.cells #[.int .i64 3,.int .i64 m.f0,.int .i64 m.f0,.int .i64 0,.int .i64 0,.int .i64 0,.int .i64 50,.bool false] 75 (0,0)) from aN HP7.out 6 _ rfl);have HB9:=aj (show Below w5.heap.size w5 (wc.setCell ⟨g11,6,none⟩ (.int .i64 50)) from (HB6.out.trans (HB7.out.mono HB6.out.size)).setCell (by rw[HG11.out];exact Nat.le_refl _) _);generalize wc.setCell ⟨g11,6,none⟩ (.int .i64 50)=W8 at *;have HI8:=aj (HI5.out.below HK3.out HB9.out);have HJ8:=aj (HY.out.below HJ5.out HB9.out);have HG8:=aj (show some g11≠ρ W8 from jr.out.2 W8 HB9.out);have Uc:=aj (show(pre ++ fO l fr k).length < T.length by rw[<-HT5.out];simp only[List.length_append,List.length_cons];omega);have KR:=aj (show pre.length < T.length by have:=Uc.out;rw[List.length_append] at this;omega);refine(wpIn_wide (n:=6)).1 ?_
        gi_wp2
        refine⟨trivial,callsIn_wide.2 ?_⟩;refine(BU HY.out HK3.out HI8.out HJ8.out (k:=k) Ri.out Jd.out (fun _=>KR.out)).mono ?_;rintro e w9 ⟨rfl,hJ9,hI9,hK9⟩;have HP9:=aj (hK9 g11 _ (by have:=HK3.out.hn;have:=Ub.out;omega) HP8.out rfl HG8.out);have HI9:=aj hI9;have HJ9:=aj hJ9;have u3:w9.cell? ⟨g3,0,none⟩=some (.func (.yield lp) #[] #[]):=(ak HI9.out.b3 0).trans rfl;have v0:w9.cell? ⟨g11,0,none⟩=some (.int .i64 3):=(ak HP9.out 0).trans rfl;have v1:w9.cell? ⟨g11,1,none⟩=some (.int .i64 m.f0):=(ak HP9.out 1).trans rfl;have v2:w9.cell? ⟨g11,2,none⟩=some (.int .i64 m.f0):=(ak HP9.out 2).trans rfl;have v3:w9.cell? ⟨g11,3,none⟩=some (.int .i64 0):=(ak HP9.out 3).trans rfl;have v4:w9.cell? ⟨g11,4,none⟩=some (.int .i64 0):=(ak HP9.out 4).trans rfl;have v5:w9.cell? ⟨g11,5,none⟩=some (.int .i64 0):=(ak HP9.out 5).trans rfl;have v6:w9.cell? ⟨g11,6,none⟩=some (.int .i64 50):=(ak HP9.out 6).trans rfl;have v7:w9.cell? ⟨g11,7,none⟩=some (.bool false):=(ak HP9.out 7).trans rfl;obtain⟨fn,tmps,assign,body,LB,Q6⟩:=HY.out.Wh (pre ++ fO l fr k) (jK m) w9 HJ9.out Uc.out;unfold oP at LB;replace LB:(Instr.yield lp #[.agg #[.int .i64 3,.int .i64 m.f0,.int .i64 m.f0,.int .i64 0,.int .i64 0,.int .i64 0,.int .i64 50,.bool false]]).run Tryz.prog w9=.ok (.round lp fn tmps assign body) w9:=LB
        gi_wp2
        refine Q6.mono ?_;rintro e w10 ⟨rfl,hJ10,hk10⟩;have HI10:=aj (HI9.out.keep HK3.out hk10);have HJ10:=aj hJ10;have c7:w10.cell? ⟨g7,0,none⟩=some (.int .i64 (fr:Int)):=(ak HI10.out.b7 0).trans rfl;have f77:=aB HI10.out.b7 0
        gi_wp2
        go_wp2;go_roundw
        case rel =>
         have hs:=HI10.out.FK HK3.out k;have hj:=HY.out.FK HK3.out HI10.out HJ10.out (.int .i64 (k:Int));rw[Ri.out] at hs hj;exact⟨x+1,run,k+1,k,_,rfl,rfl,⟨by rw[hx.out];omega⟩,⟨by have:=cg.out;have:=hk.out;omega⟩,⟨by rw[List.append_assoc (pre ++ fO l fr k)];exact HT5.out⟩,⟨hj⟩,⟨hs⟩⟩
        case measure=>have:=cg.out;have:=hx.out;simp[intOf];omega
  .have d9:decide (x < (n:Int))=false:=decide_eq_false (by rw[hx.out];omega);have hkn:k=n:=by have:=hk.out;omega
   have Ri:=aj (show(k:Int)=x from hx.out.symm);have HT2:=aj (show pre ++ fO l fr k=T by have:=hT.out;rw[show n - k=0 by omega] at this;exact this);have tG:=aj hkn;clear hlt hkn;go_wp2_with (go_at_call 81;go_loud(refine(BU HY.out HK3.out hI.out hJ.out (k:=k) (x:=(n:Int)) (by rw[tG.out]) (by rw[tG.out,dF.out];exact Nat.le_refl _) (fun hf=>by rw[<-HT2.out];unfold fO;rw[if_neg (by omega)];simp)).mono ?_;rintro e w5 ⟨rfl,hJ5,hI5,_⟩));go_end0;exact⟨⟨_,rfl⟩,by rw[HT2.out] at hJ5;exact hJ5⟩
end Go.Proofs.YtcaallkkeighdaaGreatDoor.P
