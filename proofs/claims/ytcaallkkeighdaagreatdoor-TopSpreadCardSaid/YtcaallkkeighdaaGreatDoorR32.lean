/- item.Items collects what item.walk yields. item.Items of a checked paragraph,words and all. Plain facts of checked paragraphs: their masses,their items. Each item of a checked paragraph is one that may be. Each item of a checked paragraph is one that may be. -/
import Derived.Test.YtcaallkkeighdaaGreatDoorR31
set_option maxRecDepth 100000
set_option maxHeartbeats 16000000
set_option linter.unusedVariables false
set_option linter.unusedSimpArgs false
namespace Go.Proofs.YtcaallkkeighdaaGreatDoor.P
open Go.RowKit aD aQ aR
attribute [local go_sem] Oper.semAt_some
theorem FT(p:Pa){As Am:Option Addr}{cs cm:Nat}(A:Option Addr)(c n:Nat)(w:World) :
  Calls Tryz.prog 42 #[.agg (cG p As cs Am cm),.slice A n c] w fun e w'=>e=.returned (.func (.func 78) #[] #[.pointer (some ⟨w.heap.size,0,none⟩),.pointer (some ⟨w.heap.size+1,0,none⟩)])/\w'=(w.alloc (.cells (cG p As cs Am cm) 27)).alloc (.cells #[.slice A n c] 82):=by
 go_enter Tryz.func42,Tryz.ntmps42;go_wp2;go_ret;exact⟨rfl,rfl⟩
def lW(xs:List S75):List Value:=xs.flatMap (fun x=>[.int .i64 x.f0,.int .i64 x.f1,.int .i64 x.f2,.int .i64 x.f3,.int .i64 x.f4,.int .i64 x.f5,.int .i64 x.f6,.bool x.f7])
theorem sW(xs:List S75)(x:S75):lW (xs ++ [x])=lW xs ++ [.int .i64 x.f0,.int .i64 x.f1,.int .i64 x.f2,.int .i64 x.f3,.int .i64 x.f4,.int .i64 x.f5,.int .i64 x.f6,.bool x.f7]:=by simp[lW]
theorem B0(w:World)(base:Nat)(ok:Nat->Prop)(xs:List S75):iY (k75.M w base ok) 8 xs (lW xs):=by
 suffices h:∀ ys:List S75,iY (k75.M w base ok) 8 ys.reverse (lW ys.reverse) by simpa using h xs.reverse
 intro ys
 induction ys with
 | nil=>exact iY.none _ _
 | cons y ys ih =>
  rw[List.reverse_cons,sW];exact ih.snoc (Nn w base ok y) rfl
theorem FU(W:World)(x:S75):∀ j u,([.int .i64 x.f0,.int .i64 x.f1,.int .i64 x.f2,.int .i64 x.f3,.int .i64 x.f4,.int .i64 x.f5,.int .i64 x.f6,.bool x.f7]:List Value)[j]? = some u->(W.alloc (.cells #[.int .i64 x.f0,.int .i64 x.f1,.int .i64 x.f2,.int .i64 x.f3,.int .i64 x.f4,.int .i64 x.f5,.int .i64 x.f6,.bool x.f7] 75)).cell? ((⟨W.heap.size,0,none⟩:Addr).add j)=some u:=World.news_of_block (cs:=#[.int .i64 x.f0,.int .i64 x.f1,.int .i64 x.f2,.int .i64 x.f3,.int .i64 x.f4,.int .i64 x.f5,.int .i64 x.f6,.bool x.f7]) (t:=75) (fr:=(0,0)) (heap_alloc_new W _)
structure Rl(w:World)(Bo N0 lp D:Nat)(rec:Loop)(pre:List S75)(W:World):Prop where
 box:∃ v,Boxed W Bo 53 v/\W.ownsRow N0 75 8 v pre.length (lW pre)
 lp:W.heap[lp]? = some (.loop rec)
 df:W.heap[D]? = some (.deferred (some []))
 je:Below w.heap.size w W
theorem Rl.own{w:World}{Bo N0 lp D:Nat}{rec:Loop}(hw:w.heap.size<=N0)(Qo:Bo < N0)(hlp:lp < N0)(hD:D < N0):∀ pre X Y row,Rl w Bo N0 lp D rec pre X->X.grownBy Y row->(∀ r,row=some r->N0<=r/\(∃ q t f,X.heap[r]? = some (.cells q t f))/\yY Bo X≠some r)->Rl w Bo N0 lp D rec pre Y:=by
 rintro pre X Y row ⟨⟨v,hv,hrow⟩,hl,hd,hb⟩ hg hr;have hne:∀ b,b < N0->some b≠row:=fun b h e=>by have:=(hr b e.symm).1;omega
 refine⟨⟨v,hv.kept hg (hne _ Qo),hrow.kept hg ?_⟩,(hg.block _ (aY hl) (hne _ hlp)).trans hl,(hg.block _ (aY hd) (hne _ hD)).trans hd,hb.grown hg hb.size (fun k e=>by have:=(hr k e).1;omega)⟩;cases row with
 | none=>cases hv':v.ownBlock with
  | none=>exact .inl rfl
  | some r=>exact .inr (by simp)
 | some r =>
  refine .inr (fun e=>?_);have:=(hr r rfl).2.2;rw[iV hv] at this;exact this e
section
variable{P:Program}{n:Nat}
theorem FV{rec:Loop}{l:Nat}{W:World}{args:Array Value}{R:Ending->World->Prop}(hl:W.heap[l]? = some (.loop rec))(hs:args.size=rec.params.size)
  (h:rec.assign.wpIn (Fence.wide.inRound l) n P (Exit.then (fun a1 w1=>∃ w2,(Instr.beginRound l).run P w1=.ok () w2/\rec.body.wpIn (Fence.wide.inRound l) n P (roundPost P l R) a1 w2) (fun _ _ _=>False)) { tmps:=(rec.params.zip args).foldl (fun tmps (t,a)=>tmps.setIfInBounds t a) rec.tmps,defers:=[] } W):YieldAt Fence.wide n P l args W R :=
 ⟨_,_,_,_,run_yield hl hs,roundIn_of_wpIn trivial h⟩
theorem DE{g:Operand}{ps:Array Tmp}{assign body:Code}{Q:Exit->Act->World->Prop}{a:Act}{w:World}{gf:Nat}{lb:Array Value}(h1:1<=n)(hg:a.eval g=.func (.func gf) #[] lb)(eg:∀ args w,(callFunc gf args).run P w=.ok (.enter gf args) w)
  (h:∀ fn rec,rec=({ state:=.ready,pending:=none,fn:=fn,tmps:=a.tmps,params:=ps,assign:=assign,body:=body,defers:=w.heap.size }:Loop)->∀ W1,W1=(w.alloc (.deferred (some []))).alloc (.loop rec) ->
   Calls P gf (#[.func (.yield (w.heap.size+1)) #[] #[]] ++ lb) W1 (rangePost Fence.wide n P (w.heap.size+1) Q { a with defers:=[{ target:=.collected w.heap.size,args:=#[] }] ++ a.defers })):(Code.rangeFunc g ps assign body).wpIn Fence.wide n P Q a w:=by
 refine wpIn_rangeFunc ?_;intro fn _;obtain⟨rec,hrec⟩:∃ rec,rec=({ state:=.ready,pending:=none,fn:=fn,tmps:=a.tmps,params:=ps,assign:=assign,body:=body,defers:=w.heap.size }:Loop):=⟨_,rfl⟩;obtain⟨W1,hW1⟩:∃ W1,W1=(w.alloc (.deferred (some []))).alloc (.loop rec):=⟨_,rfl⟩;have h2:=h fn rec hrec W1 hW1;refine⟨w.heap.size+1,[{ target:=.collected w.heap.size,args:=#[] }],W1,{ target:=.fn (.func gf) lb,args:=#[.func (.yield (w.heap.size+1)) #[] #[]] },W1,gf,#[.func (.yield (w.heap.size+1)) #[] #[]] ++ lb,W1,?_,?_,?_,?_,?_,?_⟩
 .show(Instr.enterLoop fn a.tmps ps assign body none).run P w=_;rw[run_enterLoop_outer,hW1,hrec]
 .simp only[resolve,hg];simp[go_sem]
 .intro f' _;exact trivial
 .simp[invoke,go_sem,eg]
 .exact fun _=>h1
 .exact callsIn_wide.2 h2
end
theorem L8(p:Pa){As Am:Option Addr}{cs cm:Nat}(pl:List Bool)(w:World)(hA:dK w p As cs Am cm)(hz:p.small)(h0:bB p=0)(hmm:∀ m∈bL p,cI m/\0<=m.f0/\m.f0 < (p.tx.size:Int))(L7:(bL p).length<=4096)(hN:(oO p.tx (bL p) pl).length<=8192)
  (Ua:∀ W2,Below w.heap.size w W2->∀ A c,Kd.C k99 W2 A (bL p).length (bL p)->(bL p).length<=c->Calls Tryz.prog 79 #[.agg (cG p As cs Am cm),.slice A (bL p).length c] W2 (BW (bL p).length pl W2)) :
  Calls Tryz.prog 12 #[.agg (cG p As cs Am cm)] w fun e w'=>∃ v,e=.returned (.tuple #[v,.int .i64 0])/\k75.R 75 w' w.heap.size (fun _=>True) v (oO p.tx (bL p) pl)/\Below w.heap.size w w':=by
 have HA:=aj hA;have HZ:=aj hz;have H0:=aj h0;have JM:=aj hmm;have yO:=aj L7;have dF:=aj hN;have G4:=aj Ua;have HB0:=aj ((Below.refl w.heap.size w).alloc (Nat.le_refl _) (.cells (cG p As cs Am cm) 27));have dI:=aj (aH w (.cells (cG p As cs Am cm) 27));obtain⟨i0,hi,hz0,hz1,hz2⟩:=info_parts P_;obtain⟨l,hl⟩:∃ l,bL p=l:=⟨_,rfl⟩;have Et:=aj hl;rw[hl] at JM yO dF G4 ⊢;obtain⟨T,hT⟩:∃ T,oO p.tx l pl=T:=⟨_,rfl⟩;have HT:=aj hT;rw[hT] at dF ⊢;clear hA hz h0 hmm L7 hN Ua hl hT;refine(callsIn_wide (n:=6)).1 ?_;refine callsIn_of_wp_marks Tryz.func12 rfl trivial ?_ rfl;simp only[Tryz.ntmps12,List.size_toArray,List.length_cons,List.length_nil,Nat.reduceAdd,Nat.reduceSub,Array.replicate_succ,Array.replicate_zero,List.push_toArray,List.append_toArray,List.nil_append,List.cons_append];refine wpIn_wide.2 ?_;go_upto_region 5 with(first|((with_reducible refine aS (N:=9) rfl ?_);go_loud(refine wpList_load_row rfl 27 _ rfl (w.heap.size) rfl 27 (cG p As cs Am cm) (0,0) _ (by exact dI.out) Tryz.underlying27 rfl (cV p As cs Am cm) ?_))|(go_at_call 41;go_loud(refine(EZ p _ (dK.below HA.out HB0.out) HZ.out).mono ?_;rintro e w1 ⟨A,c,rfl,hml,hcc,hb1⟩;rw[H0.out];rw[Et.out] at *;have NU:=aj hml;have vP:=aj hcc;have HB1:=aj (HB0.out.trans (hb1.mono HB0.out.size));have dI:=aj (ay dI.out hb1);clear hb1 hml hcc)));have G0:=aj (Boxed.new w1 53 (.slice none 0 0));have L9:=aj ((Below.refl w1.heap.size w1).alloc (Nat.le_refl _) (.cells #[.slice none 0 0] 53));obtain⟨W2,hW2⟩:∃ W2,w1.alloc (.cells #[.slice none 0 0] 53)=W2:=⟨_,rfl⟩;obtain⟨Bo,Qo⟩:∃ Bo,w1.heap.size=Bo:=⟨_,rfl⟩;have HS2:=aj (show W2.heap.size=Bo+1 by rw[<-hW2,<-Qo];simp);rw[hW2,Qo] at G0;rw[hW2] at L9;rw[hW2,Qo];have HB2:=aj (HB1.out.trans (L9.out.mono HB1.out.size));have nu:=aj (ay dI.out L9.out);have Ym:=aj (show 0 < l.length->∀ ad,A=some ad->ad.block < Bo by
  intro hn ad e;obtain⟨J1,e0,k0,_⟩:=eV NU.out 0 (by omega) (by omega);rw[e] at e0;cases e0
  have:=World.block_lt_of_cell? w1 _ k0;rw[tK] at this;omega)
 have Yn:=aj Qo;clear hW2;go_wp2_with (first|((with_reducible refine aS (N:=16) rfl ?_);go_loud(refine wpList_load_row rfl 27 _ rfl (w.heap.size) rfl 27 (cG p As cs Am cm) (0,0) _ (by exact nu.out) Tryz.underlying27 rfl (cV p As cs Am cm) ?_))|(go_at_call 42;go_loud(refine(FT p A c l.length _).mono ?_;rintro e w3 ⟨rfl,rfl⟩)));have HP2:=aj (aP (aH W2 (.cells (cG p As cs Am cm) 27)) (.cells #[.slice A l.length c] 82));have HL2:=aH (W2.alloc (.cells (cG p As cs Am cm) 27)) (.cells #[.slice A l.length c] 82);rw[World.size_alloc] at HL2;have HB3:=aj (((Below.refl W2.heap.size W2).alloc (Nat.le_refl _) (.cells (cG p As cs Am cm) 27)).alloc (by simp) (.cells #[.slice A l.length c] 82));have hs3:((W2.alloc (.cells (cG p As cs Am cm) 27)).alloc (.cells #[.slice A l.length c] 82)).heap.size=Bo+3:=by simp[HS2.out]
 obtain⟨W3,hW3⟩:∃ W3,(W2.alloc (.cells (cG p As cs Am cm) 27)).alloc (.cells #[.slice A l.length c] 82)=W3:=⟨_,rfl⟩;rw[hW3] at HP2 HL2 HB3 hs3;rw[HS2.out] at HP2 HL2;rw[hW3,HS2.out];have HL3:=aj HL2;have HS3:=aj hs3;clear hW3 HL2 hs3;refine(wpIn_wide (n:=6)).1 ?_;refine DE (by omega) rfl (enters_of Tryz.func78 (by kernel_rfl) rfl) ?_;intro fn rec hrec W4 hW4;rw[HS3.out] at hrec ⊢;have hB4:Below W3.heap.size W3 W4:=by rw[hW4];exact((Below.refl W3.heap.size W3).alloc (Nat.le_refl _) _).alloc (by simp) _
 have hD4:W4.heap[Bo+3]? = some (.deferred (some [])):=by rw[hW4,<-HS3.out];exact(Below.heap_alloc _ _ _ (by simp)).trans (World.alloc_heap_new W3 _)
 have hL4:W4.heap[Bo+4]? = some (.loop rec):=by rw[hW4];have:=World.alloc_heap_new (W3.alloc (.deferred (some []))) (.loop rec);rwa [World.size_alloc,HS3.out] at this
 have hs4:W4.heap.size=Bo+5:=by rw[hW4];simp[HS3.out]
 have HS4:=aj hs4;have HB4:=aj (HB3.out.trans (hB4.mono HB3.out.size));have tE:=aj (HB2.out.trans (HB4.out.mono HB2.out.size));have PF:=aj (show w.heap.size<=Bo by rw[<-Yn.out];exact HB1.out.size);have HJ0:=aj (show Rl w Bo (Bo+5) (Bo+4) (Bo+3) rec [] W4 from ⟨⟨.slice none 0 0,ay G0.out HB4.out,World.ownsRow_nil _ _ _ _⟩,hL4,hD4,tE.out⟩);have HP4:=aj (ay HP2.out hB4);have HL4:=aj (ay HL3.out hB4);have HM4:=aj (Kd.aM NU.out (L9.out.trans (HB4.out.mono L9.out.size)));have B6:=aj hrec;clear hW4 hB4 hD4 hL4 hs4 hrec;have HY:Rf (Rl w Bo (Bo+5) (Bo+4) (Bo+3) rec) (yY Bo) (Bo+3) Bo (Bo+5) (Bo+4) T.length:=by
  refine⟨Rl.own (by have:=PF.out;omega) (by omega) (by omega) (by omega),?_⟩;rintro pre x W ⟨⟨v,hv,hrow⟩,hl,hd,hb⟩ hlen;refine FV hl (by rw[congrArg Loop.params B6.out];rfl) ?_;rw[congrArg Loop.assign B6.out,congrArg Loop.body B6.out,congrArg Loop.params B6.out,congrArg Loop.tmps B6.out];dsimp only;unfold oP;have HV:=aj hv;have NV:=aj hrow;have M7:=aj hl;have HDF:=aj hd;have qx:=aj hb;have Ft:=aj hlen;clear hv hrow hl hd hb hlen
  gi_wp2
  have hl1:=aP M7.out (.cells #[.int .i64 x.f0,.int .i64 x.f1,.int .i64 x.f2,.int .i64 x.f3,.int .i64 x.f4,.int .i64 x.f5,.int .i64 x.f6,.bool x.f7] 75);refine⟨_,run_beginRound hl1 (by rw[congrArg Loop.state B6.out]),?_⟩;have Yo:=aY M7.out;obtain⟨Wa,Rm⟩:∃ Wa,W.alloc (.cells #[.int .i64 x.f0,.int .i64 x.f1,.int .i64 x.f2,.int .i64 x.f3,.int .i64 x.f4,.int .i64 x.f5,.int .i64 x.f6,.bool x.f7] 75)=Wa:=⟨_,rfl⟩;have hsa:Wa.heap.size=W.heap.size+1:=by rw[<-Rm];simp
  rw[Rm] at hl1 ⊢;have hg1:W.grownBy Wa none:=by rw[<-Rm];exact World.grownBy_alloc _ _ _
  have bX1:Wa.heap[W.heap.size]? = some (.cells #[.int .i64 x.f0,.int .i64 x.f1,.int .i64 x.f2,.int .i64 x.f3,.int .i64 x.f4,.int .i64 x.f5,.int .i64 x.f6,.bool x.f7] 75 (0,0)):=by rw[<-Rm];exact aH _ _
  obtain⟨Wb,Rn⟩:∃ Wb,Wa.putObj (Bo+4) (.loop { rec with state:=.busy })=Wb:=⟨_,rfl⟩;have hg2:Wa.grownBy Wb (some (Bo+4)):=by rw[<-Rn];exact grownBy_putObj' _ _ _
  have hsb:Wb.heap.size=Wa.heap.size:=by rw[<-Rn];simp[World.putObj]
  have hoth:∀ k,k≠Bo+4->Wb.heap[k]? = Wa.heap[k]?:=fun k hk=>by rw[<-Rn];exact World.putObj_heap_other (by omega)
  have Ep:=aj (show Wb.heap.size=W.heap.size+1 by rw[hsb,hsa]);have Yp:=aj ((HV.out.kept hg1 (by simp)).kept hg2 (fun e=>by cases e));have E3:=aj (show Wb.ownsRow (Bo+5) 75 8 v pre.length (lW pre) by rw[<-Rn];exact ownsRow_putObj (by rw[<-Rm];exact NV.out.alloc _) _ hl1 rfl);have um:=aj ((hoth W.heap.size (by omega)).trans bX1);have Ph:=aj (show Wb.heap[Bo+4]? = some (.loop { rec with state:=.busy }) by rw[<-Rn];exact World.putObj_heap_same (by omega));have Pt:=aj (show Wb.heap[Bo+3]? = some (.deferred (some [])) by rw[hoth _ (by omega),<-Rm];exact aP HDF.out _);have Ro:=aj (show Below w.heap.size w Wb from (qx.out.grown hg1 qx.out.size (fun k e=>by cases e)).grown hg2 (by have:=qx.out.size;omega) (fun k e=>by cases e;have:=PF.out;omega));have HOLD:=aj (show ∀ k,k < W.heap.size->k≠Bo+4->Wb.heap[k]? = W.heap[k]? from fun k h1 h2=>(hoth k h2).trans (hg1.block k h1 (by simp)));rw[Rn];clear hl1 Rm hg1 bX1 Rn hg2 hoth hsa hsb;have hc:=Yp.out.cell;have k0:Wb.cell? ⟨W.heap.size,0,none⟩=some (.int .i64 x.f0):=(ak um.out 0).trans rfl;have k1:Wb.cell? ⟨W.heap.size,1,none⟩=some (.int .i64 x.f1):=(ak um.out 1).trans rfl;have k2:Wb.cell? ⟨W.heap.size,2,none⟩=some (.int .i64 x.f2):=(ak um.out 2).trans rfl;have k3:Wb.cell? ⟨W.heap.size,3,none⟩=some (.int .i64 x.f3):=(ak um.out 3).trans rfl;have k4:Wb.cell? ⟨W.heap.size,4,none⟩=some (.int .i64 x.f4):=(ak um.out 4).trans rfl;have k5:Wb.cell? ⟨W.heap.size,5,none⟩=some (.int .i64 x.f5):=(ak um.out 5).trans rfl;have k6:Wb.cell? ⟨W.heap.size,6,none⟩=some (.int .i64 x.f6):=(ak um.out 6).trans rfl;have k7:Wb.cell? ⟨W.heap.size,7,none⟩=some (.bool x.f7):=(ak um.out 7).trans rfl;have hl8:pre.length < 8192:=by have:=Ft.out;have:=dF.out;omega
  have ab7:Bo+5<=Wb.heap.size:=by have:=Ep.out;omega
  have ab8:=aj Yo
  gi_wp2_with (gi_at_builtin;go_loud(refine kV _ rfl _ _ 53 rfl (Bo+5) 75 i0 (.agg #[.int .i64 0,.int .i64 0,.int .i64 0,.int .i64 0,.int .i64 0,.int .i64 0,.int .i64 0,.bool false]) 8 64 Tryz.underlying53 hi hz0 hz1 hz2 rfl (by decide) _ _ _ rfl (E3.out.alloc _) ⟨Wb.heap.size,0,none⟩ 1 1 [.int .i64 x.f0,.int .i64 x.f1,.int .i64 x.f2,.int .i64 x.f3,.int .i64 x.f4,.int .i64 x.f5,.int .i64 x.f6,.bool x.f7] rfl rfl (FU _ _) (by simp[Value.oneCell']) (by simp only[maxLen];omega) (by omega) (by simp;omega) ?_;intro v' w1 hown' hgrow hat;obtain⟨g',cap',rfl⟩:=ownsRow_succ hown';have hv1:=(Yp.out.alloc (.cells #[.int .i64 x.f0,.int .i64 x.f1,.int .i64 x.f2,.int .i64 x.f3,.int .i64 x.f4,.int .i64 x.f5,.int .i64 x.f6,.bool x.f7] 75)).kept hgrow (Yp.out.not_row (by decide) E3.out);have hv2:=hv1.set (.slice (some ⟨g',0,none⟩) (pre.length+1) cap');have hr2:=hown'.kept (grownBy_setCell' w1 Bo (.slice (some ⟨g',0,none⟩) (pre.length+1) cap')) (.inr (hv1.not_row (by decide) hown').symm);have hc1:=hv1.cell;have hf1:=hv1.frozen))
  obtain⟨V,hV⟩:∃ V,(.slice (some ⟨g',0,none⟩) (pre.length+1) cap':Value)=V:=⟨_,rfl⟩;have hVo:V.ownBlock=some g':=by rw[<-hV];simp[Value.ownBlock]
  rw[hV] at hown' hat hv2 hr2 ⊢;have ab9:=Ep.out;have hsz1:Wb.heap.size+1<=w1.heap.size:=by have:=hgrow.size;simpa using this
  have EU:(w1.setCell ⟨Bo,0,none⟩ V).heap.size=w1.heap.size:=by simp[World.setCell]
  have Uf:=E3.out.lt
  have hkeep:∀ k,k < Wb.heap.size->k≠Bo->some k≠v.ownBlock->(w1.setCell ⟨Bo,0,none⟩ V).heap[k]? = Wb.heap[k]?:=fun k h1 h2 h3 =>
   ((grownBy_setCell' w1 Bo V).block k (by omega) (fun e=>h2 (by cases e;rfl))).trans ((hgrow.block k (by simp;omega) h3).trans (Below.heap_alloc _ _ _ h1))
  have hnl:∀ k,k < Bo+5->some k≠v.ownBlock:=fun k hk e=>by have:=(Uf k e.symm).1;omega
  have hl3:(w1.setCell ⟨Bo,0,none⟩ V).heap[Bo+4]? = some (.loop { rec with state:=.busy }):=(hkeep _ (by omega) (by omega) (hnl _ (by omega))).trans Ph.out;have heq:({ ({ rec with state:=.busy }:Loop) with state:=(if (none:Option Code).isNone then .ready else .done),pending:=none }:Loop)=rec:=by rw[B6.out];rfl
  refine⟨_,_,run_endRound none hl3,rfl,?_,?_⟩
  .rw[heq];have hg5:=grownBy_putObj' (w1.setCell ⟨Bo,0,none⟩ V) (Bo+4) (.loop rec);refine⟨⟨V,hv2.kept hg5 (fun e=>by cases e),?_⟩,World.putObj_heap_same (by omega),?_,?_⟩
   .rw[List.length_append,sW];exact ownsRow_putObj hr2 _ hl3 rfl
   .exact(World.putObj_heap_other (by omega)).trans ((hkeep _ (by omega) (by omega) (hnl _ (by omega))).trans Pt.out)
   .have hb1:=((Ro.out.alloc Ro.out.size (.cells #[.int .i64 x.f0,.int .i64 x.f1,.int .i64 x.f2,.int .i64 x.f3,.int .i64 x.f4,.int .i64 x.f5,.int .i64 x.f6,.bool x.f7] 75)).grown hgrow (by have:=Ro.out.size;simp;omega) (fun k e=>by have:=(Uf k e).1;have:=PF.out;omega)).setCell (p:=⟨Bo,0,none⟩) PF.out V;exact hb1.grown hg5 hb1.size (fun k e=>by cases e;have:=PF.out;omega)
  .rw[heq];have hg5:=grownBy_putObj' (w1.setCell ⟨Bo,0,none⟩ V) (Bo+4) (.loop rec);have hss:((w1.setCell ⟨Bo,0,none⟩ V).putObj (Bo+4) (.loop rec)).heap.size=w1.heap.size:=by simp[World.putObj,World.setCell]
   have hoth:∀ k,k≠Bo+4->((w1.setCell ⟨Bo,0,none⟩ V).putObj (Bo+4) (.loop rec)).heap[k]? = (w1.setCell ⟨Bo,0,none⟩ V).heap[k]?:=fun k hk=>World.putObj_heap_other (by omega)
   refine⟨by rw[hss];omega,fun b h1 h2=>?_,fun i o h1 h2 h3 h4=>?_,fun r hr=>?_⟩
   .exact(hoth b (by omega)).trans ((hkeep b (by omega) h2 (hnl _ (by omega))).trans (HOLD.out b (by omega) (by omega)))
   .rw[iV HV.out] at h4;have hlt:=aY h2;have hi4:i≠Bo+4:=fun e=>by subst e;rw[M7.out] at h2;cases h2;cases h3
    exact(hoth i hi4).trans ((hkeep i (by omega) (by omega) h4).trans ((HOLD.out i hlt hi4).trans h2))
   .rw[iV (hv2.kept hg5 (fun e=>by cases e))] at hr;rw[iV HV.out,hss];have hlt:=jW hr2 r hr;rw[EU] at hlt;refine⟨?_,hlt⟩;rcases hat with h|h
    .exact .inl (h ▸ hr)
    .rw[h] at hr;cases hr
     exact .inr (by simp;omega)
 have HY2:=aj HY;clear HY;change Calls Tryz.prog 78 #[.func (.yield (Bo+4)) #[] #[],.pointer (some ⟨Bo+1,0,none⟩),.pointer (some ⟨Bo+1+1,0,none⟩)] W4 _;refine(T_ (p:=p) (As:=As) (Am:=Am) (cs:=cs) (cm:=cm) (l:=l) (A:=A) (c:=c) (pl:=pl) (Bp:=Bo+1) (Bl:=Bo+1+1) (Bo:=Bo) (n1:=Bo+3) (ρ:=yY Bo) (lp:=Bo+4) (J:=Rl w Bo (Bo+5) (Bo+4) (Bo+3) rec) W4 ?_ ?_ HJ0.out ?_ HP4.out ?_ HM4.out ?_).mono ?_
 .intro g3 g7 gw h1 h2 h3 h4 h5;refine⟨⟨by omega,by omega⟩,⟨by omega,by omega⟩,fun hn ad e=>?_,by rw[HS4.out];omega,⟨h1,h2,h3⟩,⟨h4,h5⟩,fun X Y h=>?_,vP.out,yO.out,fun m hm=>(JM.out m hm).1,fun m hm=>(JM.out m hm).2⟩
  .have:=Ym.out hn ad e;omega
  .unfold yY;rw[cell_of_heap (h Bo (by omega))]
 .rw[HS4.out,HT.out];exact HY2.out
 .intro r hr;obtain⟨v,hv,hrow⟩:=HJ0.out.box;rw[iV hv] at hr;exact jW hrow r hr
 .exact HL4.out
 .intro W5 hb5;exact G4.out W5 (tE.out.trans (hb5.mono tE.out.size)) A c (Kd.aM HM4.out hb5) vP.out
 .rintro e W5 ⟨⟨u,rfl⟩,hJ5⟩;rw[HT.out] at hJ5;obtain⟨⟨v,hv,hrow⟩,hl,hd,hb⟩:=hJ5;obtain⟨W6,hW6⟩:∃ W6,W5.putObj (Bo+4) (.loop { rec with state:=.exhausted })=W6:=⟨_,rfl⟩;refine⟨none,W6,by rw[run_endLoop hl (by rw[congrArg Loop.state B6.out];simp),hW6];exact congrArg (fun q=>Result.ok q W6) (congrArg Loop.pending B6.out),?_⟩;have hg5:=grownBy_putObj' W5 (Bo+4) (.loop { rec with state:=.exhausted });have hv6:=hv.kept hg5 (fun e=>by cases e);have hr6:=ownsRow_putObj hrow (.loop { rec with state:=.exhausted }) hl rfl;have hd6:(W5.putObj (Bo+4) (.loop { rec with state:=.exhausted })).heap[Bo+3]? = some (.deferred (some [])):=(World.putObj_heap_other (by omega)).trans hd;have hb6:=hb.grown hg5 hb.size (fun k e=>by cases e;have:=PF.out;omega);rw[hW6] at hg5 hv6 hr6 hd6 hb6;clear hW6;have HV6:=aj hv6;have HR6:=aj hr6;have HD6:=aj hd6;have HB6:=aj hb6;clear hv hrow hl hd hb hg5 hr6 hd6 hb6;have hc:=hv6.cell;clear hv6;go_wp2;refine⟨by simp,.inl ⟨_,_,rfl,run_takeDeferred HD6.out,?_⟩⟩;have hg7:=grownBy_putObj' W6 (Bo+3) (.deferred none);exact⟨_,results_tmp2 rfl _ _ _,v,rfl,Kd.fF (base:=Bo+5) ⟨fun _ _=>trivial,lW _,ownsRow_putObj HR6.out _ HD6.out rfl,B0 _ _ _ _⟩ (by have:=PF.out;omega),HB6.out.grown hg7 HB6.out.size (fun k e=>by cases e;have:=PF.out;omega)⟩
end Go.Proofs.YtcaallkkeighdaaGreatDoor.P
namespace Go.Proofs.YtcaallkkeighdaaGreatDoor.P
open Go.RowKit aD aQ aR
noncomputable def cT(p:Pa):List S75:=oO p.tx (bL p) (nH p.tx p.pr.f12 (bL p))
theorem Jf(p:Pa){As Am:Option Addr}{cs cm:Nat}(w:World)(hA:dK w p As cs Am cm)(hz:p.small)(h0:bB p=0)(htab:Lib.TabIs Tryz.prog w "strings.asciiSpace" .u8 Lib.asciiSpaceTab)(hmm:∀ m∈bL p,cI m/\0<=m.f0/\m.f0 < (p.tx.size:Int))(BA:∀ m∈bL p,m.f2=1->fP (bt p.tx m.f0)=true)(L7:(bL p).length<=4096)(hN:(cT p).length<=8192) :
  Calls Tryz.prog 12 #[.agg (cG p As cs Am cm)] w fun e w'=>∃ v,e=.returned (.tuple #[v,.int .i64 0])/\k75.R 75 w' w.heap.size (fun _=>True) v (cT p)/\Below w.heap.size w w' :=
 L8 p (nH p.tx p.pr.f12 (bL p)) w hA hz h0 hmm L7 hN (fun W2 hb A c hC hc=>DC p (bL p) W2 hC (eG htab hb) L7 (fun m hm hk=>⟨(hmm m hm).2.1,(hmm m hm).2.2,BA m hm hk⟩))
theorem uo{p:Pa}{m:S99}:∀ (l:List S50) (s:qc),zR p s (refsOf l)->m∈iO p s l->∃ s' c r,c∈l/\m=mg p s' c/\zR p s' (refsOf (c :: r))
 | [],s,h,hm=>by cases hm
 | c :: l,s,h,hm=>by
  rcases List.mem_cons.1 hm with rfl|hm
  .exact⟨s,c,l,by simp,rfl,h⟩
  .rw[jP] at h;obtain⟨s',c',r,h1,h2,h3⟩:=uo l (fN p s c) h.next hm;exact⟨s',c',r,List.mem_cons_of_mem _ h1,h2,h3⟩
theorem FW{m:ByteArray}(h:gB m=true):m.size<=8:=by
 unfold gB at h;rw[Bool.and_eq_true] at h;have:=h.2;unfold gN at this;simp at this;omega
theorem vU(s:ByteArray)(c:S50)(h:c∈cQ s):∃ b:Nat,b < s.size/\c=rS s b:=by
 obtain⟨b,_,h2,h3⟩:=oB s s.size 0 c h;exact⟨b,h2,h3⟩
theorem G5{p:Pa}{s:qc}{c:S50}{r:List S50}(h:zR p s (refsOf (c :: r))):cI (mg p s c):=by
 have hz:=h.size c;have hk:=h.look c;have hw:=kT (bt p.tx c.f0) (cA p (dG s c)) (by omega) (by omega);have hn:=EP s.bf (bt p.tx c.f0) (cA p (dG s c)) (by omega) (by omega);have hW:0<=iM p c (dG s c) (vL s.ma)/\iM p c (dG s c) (vL s.ma)<=4095:=by
  unfold iM;split
  .omega
  .split
   .rename_i h7
    rw[jP,if_pos h7] at h;have hm:vL s.ma∈s.ma:=by
     have:=h.ma;unfold vL;cases hq:s.ma with
     | nil=>rw[hq] at this;simp at this
     | cons x l=>simp
    have h8:=FW (h.Si _ hm);have ht:=jh (vL s.ma) (cA p (dG s c)) (by omega) (by omega) (vL s.ma).size 0;show 0<=fJ _ _ _ _/\fJ _ _ _ _<=4095;omega
   .omega
 have hK : -64<=iN p c (dG s c) s.kn s.bf s.ps/\iN p c (dG s c) s.kn s.bf s.ps<=0:=by
  unfold iN;split
  .omega
  .omega
 exact⟨hW.1,hW.2,hK.1,hK.2⟩
theorem cZ{p:Pa}(hz:p.small)(h0:bB p=0):∀ m∈aW p,cI m/\(0<=m.f0/\m.f0 < (p.tx.size:Int))/\m.f2=kindOf (bt p.tx m.f0):=by
 intro m hm;unfold aW at hm;rw[if_pos h0] at hm;by_cases hn:0 < p.tx.size
 .obtain⟨s,c,r,hc,rfl,hO⟩:=uo _ _ (r9 hz h0 hn) hm;obtain⟨b,hb,rfl⟩:=vU _ _ hc;refine⟨G5 hO,⟨?_,?_⟩,rfl⟩
  .show(0:Int)<=(b:Int);omega
  .show(b:Int) < (p.tx.size:Int);omega
 .have:cQ p.tx=[]:=by
   have hs:p.tx.size=0:=by omega
   unfold cQ;rw[hs];rfl
  rw[this] at hm;cases hm
theorem jU{p:Pa}{m:S99}(h:m∈bL p):m∈aW p:=by
 unfold bL at h;split at h
 .exact List.mem_of_mem_drop h
 .exact h
theorem DF{c:Int}(h:kindOf c=1):fP c=true:=by
 unfold kindOf at h;cases hl:fP c with
 | true=>rfl
 | false =>
  rw[hl] at h;simp at h
  repeat' split at h
  all_goals omega
theorem nI(s:ByteArray):∀ d a,(cP s d a).length<=d
 | 0,a=>by simp[cP]
 | d+1,a=>by
  unfold cP;split
  .have:=nI s d (fH s a);simp;omega
  .simp
theorem xR{p:Pa}(hz:p.small):(bL p).length<=300:=by
 have h1:(aW p).length<=300:=by
  unfold aW;split
  .rw[pT];have:=nI p.tx p.tx.size 0;have:=hz.tx;unfold cQ;omega
  .simp
 unfold bL;split
 .simp;omega
 .exact h1
theorem Ah(l:List S99)(a b:Nat):(fO l a b).length<=1:=by
 unfold fO;split<;>simp
theorem nJ(tx:ByteArray)(l:List S99)(pl:List Bool):∀ d k run fr,(eO tx l pl d k run fr).length<=2 * d+1
 | 0,k,run,fr=>by unfold eO;have:=Ah l fr k;omega
 | d+1,k,run,fr=>by
  unfold eO;have h1:=Ah l fr k;have h2:=nJ tx l pl d (k+1) (k+1) (k+1);have h3:=nJ tx l pl d (k+1) run fr;have h4:=nJ tx l pl d (k+1) run k;split
  .simp;omega
  .split
   .omega
   .split
    .simp;omega
    .split
     .simp;omega
     .omega
theorem pW{p:Pa}(hz:p.small):(cT p).length<=601:=by
 have:=nJ p.tx (bL p) (nH p.tx p.pr.f12 (bL p)) (bL p).length 0 0 0;have:=xR hz;unfold cT oO;omega
theorem DG(p:Pa){As Am:Option Addr}{cs cm:Nat}(w:World)(hA:dK w p As cs Am cm)(hz:p.small)(h0:bB p=0)(htab:Lib.TabIs Tryz.prog w "strings.asciiSpace" .u8 Lib.asciiSpaceTab) :
  Calls Tryz.prog 12 #[.agg (cG p As cs Am cm)] w fun e w'=>∃ v,e=.returned (.tuple #[v,.int .i64 0])/\k75.R 75 w' w.heap.size (fun _=>True) v (cT p)/\Below w.heap.size w w' :=
 Jf p w hA hz h0 htab (fun m hm=>⟨(cZ hz h0 m (jU hm)).1,(cZ hz h0 m (jU hm)).2.1⟩) (fun m hm hk=>DF ((cZ hz h0 m (jU hm)).2.2.symm.trans hk)) (by have:=xR hz;omega) (by have:=pW hz;omega)
theorem sX(z:Int):0<=jl z/\jl z<=64:=by
 unfold jl cU;split
 .omega
 .split
  .omega
  .have:=jh ⟨#[45]⟩ z (by omega) (by omega) 1 0;show 0<=fJ _ _ 1 0/\fJ _ _ 1 0<=64;omega
theorem xS(tx:ByteArray)(l:List S99)(pl:List Bool)(P:S75->Prop)(h1:∀ a b,a < b->b<=l.length->P (C5 l a b))(h2:∀ k,k < l.length->boxedB (dY l k)=false->P (fq (dY l k)))(h3:∀ k,k < l.length->P (kK (dY l k)))(h4:∀ k,k < l.length->P (jK (dY l k))) :
  ∀ d k run fr,k+d=l.length->∀ x∈eO tx l pl d k run fr,P x:=by
 have hs:∀ fr k,k<=l.length->∀ x∈fO l fr k,P x:=by
  intro fr k hk x hx;unfold fO at hx;split at hx
  .cases hx
  .rw[List.mem_singleton.1 hx];exact h1 _ _ (by omega) hk
 intro d
 induction d with
 | zero =>
  intro k run fr hk x hx;unfold eO at hx;exact hs _ _ (by omega) x hx
 | succ d ih =>
  intro k run fr hk x hx;unfold eO at hx;split at hx
  .rename_i hb
   rcases List.mem_append.1 hx with hx|hx
   .exact hs _ _ (by omega) x hx
   .rcases List.mem_cons.1 hx with rfl|hx
    .exact h2 k (by omega) hb
    .exact ih _ _ _ (by omega) x hx
  .split at hx
   .exact ih _ _ _ (by omega) x hx
   .split at hx
    .rcases List.mem_append.1 hx with hx|hx
     .exact hs _ _ (by omega) x hx
     .rcases List.mem_cons.1 hx with rfl|hx
      .exact h3 k (by omega)
      .exact ih _ _ _ (by omega) x hx
    .split at hx
     .rcases List.mem_append.1 hx with hx|hx
      .exact hs _ _ (by omega) x hx
      .rcases List.mem_cons.1 hx with rfl|hx
       .exact h4 k (by omega)
       .exact ih _ _ _ (by omega) x hx
     .exact ih _ _ _ (by omega) x hx
theorem DH{c:Int}(h:shows (kindOf c)=true):1<=ow c:=by
 have hc:fP c=true\/(32 < c/\c<=126):=by
  unfold kindOf at h;by_cases hl:fP c=true
  .exact .inl hl
  .right;rw[if_neg hl] at h
   repeat' split at h
   all_goals first|(exact absurd h (by decide))|assumption
 have hr:32 < c/\c<=126:=by
  rcases hc with hl|h2
  .unfold fP at hl;have:=of_decide_eq_true hl;omega
  .exact h2
 unfold ow
 repeat' split
 all_goals omega
theorem L_{p:Pa}{s:qc}{c:S50}{r:List S50}(h:zR p s (refsOf (c :: r)))(hk:c.f2=kindOf (bt p.tx c.f0)):0<=(mg p s c).f4+(mg p s c).f5:=by
 have hin:=G5 h;have hz:=h.size c;have hl:=h.look c;by_cases hs:shows c.f2=true
 .have he:=DH (by rw[<-hk];exact hs);show 0<=iM p c (dG s c) (vL s.ma)+iN p c (dG s c) s.kn s.bf s.ps;have hW:iM p c (dG s c) (vL s.ma)=fC (bt p.tx c.f0) (cA p (dG s c))+(dG s c).f1:=by
   unfold iM;rw[hs];rfl
  rw[hW];have hK : -(cA p (dG s c) / 8)<=iN p c (dG s c) s.kn s.bf s.ps:=by
   unfold iN;split
   .unfold kU;have hr:=oy s.bf (bt p.tx c.f0);have h3:rU s.bf (bt p.tx c.f0) * cA p (dG s c)<=2 * cA p (dG s c):=Int.mul_le_mul_of_nonneg_right hr.2 (by omega);omega
   .omega
  have hw:cA p (dG s c) / 8<=fC (bt p.tx c.f0) (cA p (dG s c)):=by
   unfold fC;have h3:1 * cA p (dG s c)<=ow (bt p.tx c.f0) * cA p (dG s c):=Int.mul_le_mul_of_nonneg_right he (by omega);omega
  omega
 .have:iN p c (dG s c) s.kn s.bf s.ps=0:=by
   unfold iN;rw[if_neg];intro q;simp only[Bool.and_eq_true] at q;exact hs q.1.1.1
  show 0<=iM p c (dG s c) (vL s.ma)+iN p c (dG s c) s.kn s.bf s.ps;rw[this];have:=hin.1;show 0<=(mg p s c).f4+0;omega
theorem Ai(l:List S99)(h:∀ m∈l,cI m/\0<=m.f4+m.f5):∀ n,n<=l.length->0<=iE l n
 | 0,_=>Int.le_refl _
 | n+1,hn=>by
  have ih:=Ai l h n (by omega);have hm:l.getD n z99∈l:=by
   rw[List.getD_eq_getElem?_getD,List.getElem?_eq_getElem (by omega)];exact List.getElem_mem _
  have h1:=h _ hm;have h2:=h1.1.1;simp only[iE];split<;>omega
theorem uq(s:ByteArray):∀ d a,(cP s d a).Pairwise (fun c e=>c.f0<=e.f0)
 | 0,a=>by simp[cP]
 | d+1,a=>by
  unfold cP;split
  .refine List.pairwise_cons.2 ⟨fun e he=>?_,uq s d _⟩;obtain⟨b,h1,_,rfl⟩:=oB s d _ e he;have:=jf s a;show(a:Int)<=(b:Int);omega
  .exact List.Pairwise.nil
theorem xT(p:Pa):∀ (l:List S50) (s:qc),l.Pairwise (fun c e=>c.f0<=e.f0)->(iO p s l).Pairwise (fun c e=>c.f0<=e.f0)
 | [],s,h=>List.Pairwise.nil
 | c :: l,s,h=>by
  obtain⟨h1,h2⟩:=List.pairwise_cons.1 h;refine List.pairwise_cons.2 ⟨fun m hm=>?_,xT p l _ h2⟩;have:∀ (l:List S50) (s:qc),m∈iO p s l->∃ e∈l,m.f0=e.f0:=by
   intro l
   induction l with
   | nil=>intro s h;cases h
   | cons e l ih =>
    intro s h;rcases List.mem_cons.1 h with rfl|h
    .exact⟨e,by simp,rfl⟩
    .obtain⟨x,hx,q⟩:=ih _ h;exact⟨x,List.mem_cons_of_mem _ hx,q⟩
  obtain⟨e,he,q⟩:=this l _ hm;rw[q];exact h1 e he
theorem Aj(p:Pa):(bL p).Pairwise (fun c e=>c.f0<=e.f0):=by
 have h1:(aW p).Pairwise (fun c e=>c.f0<=e.f0):=by
  unfold aW;split
  .exact xT p _ _ (uq _ _ _)
  .exact List.Pairwise.nil
 unfold bL;split
 .exact h1.sublist (List.drop_sublist _ _)
 .exact h1
theorem nK{p:Pa}(hz:p.small)(h0:bB p=0):∀ m∈aW p,0<=m.f4+m.f5/\m.f0<=m.f1:=by
 intro m hm;unfold aW at hm;rw[if_pos h0] at hm;by_cases hn:0 < p.tx.size
 .obtain⟨s,c,r,hc,rfl,hO⟩:=uo _ _ (r9 hz h0 hn) hm;obtain⟨b,hb,rfl⟩:=vU _ _ hc;refine⟨L_ hO rfl,?_⟩;have:=jf p.tx b;show(b:Int)<=(fH p.tx b:Int);omega
 .have:cQ p.tx=[]:=by
   have hs:p.tx.size=0:=by omega
   unfold cQ;rw[hs];rfl
  rw[this] at hm;cases hm
theorem sY{p:Pa}(hz:p.small)(h0:bB p=0):∀ x∈cT p,cY x:=by
 have hb:∀ k,k < (bL p).length->dY (bL p) k∈aW p:=fun k hk=>jU (lV hk)
 have hl:=xR hz;refine xS p.tx (bL p) _ cY (fun a b hab hbl=>?_) (fun k hk hx=>?_) (fun k hk=>?_) (fun k hk=>?_) _ 0 0 0 (by omega)
 .have hm:∀ m∈(bL p).drop a,cI m/\0<=m.f4+m.f5:=fun m hm=>⟨(cZ hz h0 m (jU (List.mem_of_mem_drop hm))).1,(nK hz h0 m (jU (List.mem_of_mem_drop hm))).1⟩
  have h1:=Ai ((bL p).drop a) hm (b - a) (by rw[List.length_drop];omega);have h2:=oG ((bL p).drop a) (fun m q=>(hm m q).1) (b - a) (by rw[List.length_drop];omega);have ha:=cZ hz h0 _ (hb a (by omega));have he:=(nK hz h0 _ (hb (b - 1) (by omega))).2;have hr:(dY (bL p) a).f0<=(dY (bL p) (b - 1)).f0:=by
   by_cases q:a=b - 1
   .rw[<-q];exact Int.le_refl _
   .have:=List.pairwise_iff_getElem.1 (Aj p) a (b - 1) (by omega) (by omega) (by omega);rw[sV (by omega),sV (by omega)];exact this
  refine⟨by show(1:Int)<=1/\(1:Int)<=4;omega,⟨ha.2.1.1,?_⟩,⟨h1,?_⟩,by show(0:Int)<=0/\(0:Int)<=4095;omega,by show(0:Int)<=0/\(0:Int)<=4095;omega,by show(0:Int)<=0/\(0:Int)<=4095;omega,fun _=>⟨rfl,rfl⟩,fun _=>⟨rfl,rfl⟩,fun q=>by cases q⟩
  .show(dY (bL p) a).f0<=(dY (bL p) (b - 1)).f1;omega
  .show iE ((bL p).drop a) (b - a)<=2097152;omega
 .have hf:=cZ hz h0 _ (hb k hk);have hn:=nK hz h0 _ (hb k hk);have hh:=sX (dY (bL p) k).f3;generalize dY (bL p) k=m at *;have h4:=hf.1.1;have h5:=hf.1.2.1;unfold fq;split
  .exact⟨by simp,⟨hf.2.1.1,hn.2⟩,⟨h4,by simp;omega⟩,by simp;omega,by simp;omega,by simp,fun _=>⟨rfl,rfl⟩,fun q=>absurd rfl q,fun q=>by cases q⟩
  .split
   .exact⟨by simp,⟨hf.2.1.1,hn.2⟩,by simp,by simp,by simp,by simp,fun _=>⟨rfl,rfl⟩,fun _=>⟨rfl,rfl⟩,fun _=>rfl⟩
   .exact⟨by simp,⟨hf.2.1.1,hn.2⟩,⟨hh.1,by simp;omega⟩,by simp,by simp,by simp,fun q=>absurd rfl q,fun _=>⟨rfl,rfl⟩,fun q=>by cases q⟩
 .have hf:=cZ hz h0 _ (hb k hk);have hh:=sX (dY (bL p) k).f3;exact⟨by simp[kK],⟨hf.2.1.1,Int.le_refl _⟩,⟨hh.1,by simp[kK];omega⟩,by simp[kK],by simp[kK],by simp[kK],fun q=>absurd rfl q,fun _=>⟨rfl,rfl⟩,fun q=>by cases q⟩
 .have hf:=cZ hz h0 _ (hb k hk);exact⟨by simp[jK],⟨hf.2.1.1,Int.le_refl _⟩,by simp[jK],by simp[jK],by simp[jK],by simp[jK],fun q=>absurd rfl q,fun _=>⟨rfl,rfl⟩,fun q=>by cases q⟩
end Go.Proofs.YtcaallkkeighdaaGreatDoor.P
