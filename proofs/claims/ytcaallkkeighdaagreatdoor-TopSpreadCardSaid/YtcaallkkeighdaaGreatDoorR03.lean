/- Words of the walks, as far as these proofs use them: of rows, blocks, boxes and regions; the conditions stand in each statement. -/
import Derived.OrdersHeld
import Derived.Laws.BitsLemmas
import Derived.Laws.StructEq
import Derived.Test.YtcaallkkeighdaaGreatDoorR02
set_option maxRecDepth 100000
set_option maxHeartbeats 16000000
set_option linter.unusedVariables false
set_option linter.unusedSimpArgs false
namespace Go.Proofs.YtcaallkkeighdaaGreatDoor.aQ
section
variable{P:Program}{ops:Array Oper}{Q:Exit->Act->World->Prop}{md:Region.Mode}{S:World->Prop}{ds:List Nat}
def Region.jY(md:Region.Mode)(ops:Array Oper)(i:Nat):Nat->Nat->Bool
 | 0,_=>false
 | fuel+1,d=>match ops[d]? with
  | some o=>o.after.any fun e=>Region.binds md e && (e.on == i || Region.jY md ops i fuel e.on)
  | none=>false
def Region.rO(md:Region.Mode)(ops:Array Oper)(listed:Array Bool):Bool :=
 (List.range ops.size).all fun j=>!listed.getD j false || match ops[j]? with
  | some o=>o.after.all fun e=>!Region.binds md e || listed.getD e.on false
  | none=>true
def Region.Gq(md:Region.Mode)(ops:Array Oper)(listed:Array Bool)(ds:List Nat)(i:Nat):Bool :=
 ds.all fun d=>listed.getD d true || Region.jY md ops i ops.size d
def gh(md:Region.Mode)(ops:Array Oper)(listed:Array Bool):Prop :=
 ∀ j oj,ops[j]? = some oj->listed.getD j false=true->∀ e∈oj.after,Region.binds md e=true->listed.getD e.on false=true
theorem Region.AU{listed:Array Bool}(h:Region.rO md ops listed=true):gh md ops listed:=by
 intro j oj hj hl e he hb;have hlt:j < ops.size:=(Array.getElem?_eq_some_iff.1 hj).1;have h1:=List.all_eq_true.1 h j (List.mem_range.2 hlt);simp only[hl,hj,Bool.not_true,Bool.false_or] at h1;have h2:=Array.all_eq_true_iff_forall_mem.1 h1 e he
 simpa [hb] using h2
theorem gh.set{listed:Array Bool}{i:Nat}(h:gh md ops listed)(hi:i∈Region.ready md ops listed):gh md ops (listed.setIfInBounds i true):=by
 obtain⟨_,oi,hoi,hall⟩:=mem_ready.1 hi;intro j oj hj hl e he hb;by_cases hij:i=j
 .subst hij;have:oj=oi:=Option.some.inj (hj.symm.trans hoi);subst this;exact getD_set_true (hall e he hb)
 .rw[getD_set_ne false hij] at hl;exact getD_set_true (h j oj hj hl e he hb)
theorem Region.rP{listed:Array Bool}{i:Nat}(hc:gh md ops listed):∀ (fuel d:Nat),Region.jY md ops i fuel d=true->listed.getD d false=true->listed.getD i false=true
 | 0,_,h,_=>by simp[Region.jY] at h
 | fuel+1,d,h,hl=>by
  unfold Region.jY at h;cases ho:ops[d]? with
  | none=>rw[ho] at h;simp at h
  | some o =>
   rw[ho] at h;obtain⟨e,he,h1⟩:=Array.any_eq_true'.1 h;simp only[Bool.and_eq_true,Bool.or_eq_true,beq_iff_eq] at h1;have hle:=hc d o ho hl e he h1.1;rcases h1.2 with h2|h2
   .rw[<-h2];exact hle
   .exact Region.rP hc fuel e.on h2 hle
theorem Region.vu{listed:Array Bool}{i d fuel:Nat}(hc:gh md ops listed)(hr:Region.jY md ops i fuel d=true)(hun:listed.getD i true=false):d ∉ Region.ready md ops listed:=by
 intro hd;obtain⟨_,o,ho,hall⟩:=mem_ready.1 hd;have hi:listed.getD i false=true:=by
  cases fuel with
  | zero=>simp[Region.jY] at hr
  | succ n =>
   unfold Region.jY at hr;rw[ho] at hr;obtain⟨e,he,h1⟩:=Array.any_eq_true'.1 hr;simp only[Bool.and_eq_true,Bool.or_eq_true,beq_iff_eq] at h1;have hle:=hall e he h1.1;rcases h1.2 with h2|h2
   .rw[<-h2];exact hle
   .exact Region.rP hc n e.on h2 hle
 rcases Nat.lt_or_ge i listed.size with h'|h'
 .simp[h'] at hun hi;rw[hun] at hi;cases hi
 .simp[Array.getElem?_eq_none h'] at hun
def bZ(P:Program)(md:Region.Mode)(ops:Array Oper)(Q:Exit->Act->World->Prop)(S:World->Prop)(ds:List Nat):Nat->Array Bool->Act->World->Prop
 | 0,listed,a,w=>Region.ready md ops listed=[]/\Q .normal a w
 | fuel+1,listed,a,w =>
  (Region.ready md ops listed=[]->Q .normal a w) /\
  ∀ i∈Region.ready md ops listed,wpOp P ops Q i (fun a' w'=>(i ∉ ds->S w->S w')/\bZ P md ops Q S ds fuel (listed.setIfInBounds i true) a' w') a w
theorem qo:∀ (fuel:Nat) (listed:Array Bool) (a:Act) (w:World),bZ P md ops Q S ds fuel listed a w->wpAny P md ops Q fuel listed a w
 | 0,_,_,_,h=>h
 | fuel+1,_,_,_,h=>⟨h.1,fun i hi=>wpOp_mono (fun a' w' h'=>qo fuel _ a' w' h'.2) (h.2 i hi)⟩
theorem vv{i:Nat}{oi:Oper}{v:Value}(hi:ops[i]? = some oi)(hsel:∀ (j:Nat) (o:Oper) cs b,ops[j]? = some o->o.op≠.select cs b)
  (hQ:∀ c a w,Q (.panic c) (a.put oi.dst v) w->Q (.panic c) a w) (n:Nat) :
  ∀ (fuel:Nat) (listed:Array Bool) (a:Act) (w:World),
   (∀ j oj,ops[j]? = some oj->j≠i->listed.getD j true=false->(∀ e∈oj.after,Region.binds md e=true->e.on≠i)->oi.apart ops oj=true) ->
   gh md ops listed->(∀ d∈ds,listed.getD d true=false->Region.jY md ops i n d=true) ->
   i∈Region.ready md ops listed->YieldsIf P ops S oi v a->S w ->
   bZ P md ops Q S ds fuel (listed.setIfInBounds i true) (a.put oi.dst v) w->bZ P md ops Q S ds (fuel+1) listed a w:=by
 intro fuel
 induction fuel with
 | zero =>
  intro listed a w _ _ _ hr hy hS H;refine⟨fun h=>(by rw[h] at hr;cases hr),fun j hj=>?_⟩;by_cases hji:j=i
  .subst hji;exact hy.wpOp hi hS ⟨fun _ h=>h,H⟩
  .have:=ready_mono hj hji;rw[H.1] at this;cases this
 | succ fuel ih =>
  intro listed a w hfree hc hd hr hy hS H;refine⟨fun h=>(by rw[h] at hr;cases hr),fun j hj=>?_⟩;by_cases hji:j=i
  .subst hji;exact hy.wpOp hi hS ⟨fun _ h=>h,H⟩
  .have h1:=H.2 j (ready_mono hj hji);obtain⟨hjun,oj,hoj,hall⟩:=mem_ready.1 hj;have Hs:=(mem_ready.1 hr).1;have hnot:∀ e∈oj.after,Region.binds md e=true->e.on≠i:=fun e he hb heq=>by
    have h1:=hall e he hb;rw[heq] at h1;rcases Nat.lt_or_ge i listed.size with h'|h'
    .simp[h'] at Hs h1;rw[Hs] at h1;cases h1
    .simp[Array.getElem?_eq_none h'] at h1
   have hjd:j ∉ ds:=fun hm=>Region.vu hc (hd j hm hjun) Hs hj
   have h2:=wpOp_putIf hoj (hfree j oj hoj hji hjun hnot) (fun cs b=>hsel i oi cs b hi) (fun cs b=>hsel j oj cs b hoj) hQ hy h1
   have hfree':∀ k ok,ops[k]? = some ok->k≠i->(listed.setIfInBounds j true).getD k true=false ->
     (∀ e∈ok.after,Region.binds md e=true->e.on≠i)->oi.apart ops ok=true:=fun k ok hk hki hun hno=>by
    refine hfree k ok hk hki ?_ hno;by_cases hjk:j=k
    .subst hjk;exact hjun
    .rw[getD_set_ne true hjk] at hun;exact hun
   have hd':∀ d∈ds,(listed.setIfInBounds j true).getD d true=false->Region.jY md ops i n d=true:=fun d hm hun=>by
    refine hd d hm ?_;by_cases hjk:j=d
    .subst hjk;exact hjun
    .rw[getD_set_ne true hjk] at hun;exact hun
   refine wpOp_mono (fun a' w' h3=>⟨h3.2.1,ih (listed.setIfInBounds j true) a' w' hfree' (hc.set hj) hd' (ready_mono hr (Ne.symm hji)) h3.1 (h3.2.1 hjd hS) ?_⟩) h2;rw[Array.setIfInBounds_comm _ _ hji];exact h3.2.2
theorem yU{i:Nat}{oi:Oper}{v:Value}(hi:ops[i]? = some oi)(hsel:∀ (j:Nat) (o:Oper) cs b,ops[j]? = some o->o.op≠.select cs b)
  (hQ:∀ c a w,Q (.panic c) (a.put oi.dst v) w->Q (.panic c) a w) :
  ∀ (fuel:Nat) (listed:Array Bool) (a:Act) (w:World),
   (∀ j oj,ops[j]? = some oj->j≠i->listed.getD j true=false->(∀ e∈oj.after,Region.binds md e=true->e.on≠i)->oi.apart ops oj=true) ->
   i∈Region.ready md ops listed->Yields P ops oi v a ->
   bZ P md ops Q S ds fuel (listed.setIfInBounds i true) (a.put oi.dst v) w->bZ P md ops Q S ds (fuel+1) listed a w:=by
 intro fuel
 induction fuel with
 | zero =>
  intro listed a w _ hr hy H;refine⟨fun h=>(by rw[h] at hr;cases hr),fun j hj=>?_⟩;by_cases hji:j=i
  .subst hji;exact(hy.yieldsIf (S:=fun _=>True)).wpOp hi trivial ⟨fun _ h=>h,H⟩
  .have:=ready_mono hj hji;rw[H.1] at this;cases this
 | succ fuel ih =>
  intro listed a w hfree hr hy H;refine⟨fun h=>(by rw[h] at hr;cases hr),fun j hj=>?_⟩;by_cases hji:j=i
  .subst hji;exact(hy.yieldsIf (S:=fun _=>True)).wpOp hi trivial ⟨fun _ h=>h,H⟩
  .have h1:=H.2 j (ready_mono hj hji);obtain⟨hjun,oj,hoj,hall⟩:=mem_ready.1 hj;have Hs:=(mem_ready.1 hr).1;have hnot:∀ e∈oj.after,Region.binds md e=true->e.on≠i:=fun e he hb heq=>by
    have h1:=hall e he hb;rw[heq] at h1;rcases Nat.lt_or_ge i listed.size with h'|h'
    .simp[h'] at Hs h1;rw[Hs] at h1;cases h1
    .simp[Array.getElem?_eq_none h'] at h1
   have h2:=wpOp_put hoj (hfree j oj hoj hji hjun hnot) (fun cs b=>hsel i oi cs b hi) (fun cs b=>hsel j oj cs b hoj) hQ hy h1
   have hfree':∀ k ok,ops[k]? = some ok->k≠i->(listed.setIfInBounds j true).getD k true=false ->
     (∀ e∈ok.after,Region.binds md e=true->e.on≠i)->oi.apart ops ok=true:=fun k ok hk hki hun hno=>by
    refine hfree k ok hk hki ?_ hno;by_cases hjk:j=k
    .subst hjk;exact hjun
    .rw[getD_set_ne true hjk] at hun;exact hun
   refine wpOp_mono (fun a' w' h3=>⟨h3.2.1,ih (listed.setIfInBounds j true) a' w' hfree' (ready_mono hr (Ne.symm hji)) h3.1 ?_⟩) h2;rw[Array.setIfInBounds_comm _ _ hji];exact h3.2.2
theorem wm{i:Nat}{oi:Oper}{v:Value}{fuel:Nat}{listed:Array Bool}{a:Act}{w:World}(hi:ops[i]? = some oi)
  (hs:Region.noSelect ops=true) (hf:Region.free md ops listed i=true) (hr:(Region.ready md ops listed).contains i=true)
  (hc:Region.rO md ops listed=true) (hl:Region.Gq md ops listed ds i=true)
  (hQ:∀ c a w,Q (.panic c) (a.put oi.dst v) w->Q (.panic c) a w) (hy:YieldsIf P ops S oi v a) (hS:S w)
  (h:bZ P md ops Q S ds fuel (listed.setIfInBounds i true) (a.put oi.dst v) w):bZ P md ops Q S ds (fuel+1) listed a w :=
 vv hi (Region.noSelect_spec hs) hQ ops.size fuel listed a w (Region.free_spec hi hf) (Region.AU hc)
  (fun d hm hun=>by have:=List.all_eq_true.1 hl d hm;rw[hun] at this;simpa using this) (by simpa using hr) hy hS h
theorem yV{rs:List Nat}{fuel:Nat}{listed:Array Bool}{a:Act}{w:World}(hr:Region.ready md ops listed=rs)(hne:rs≠[])
  (h:∀ i∈rs,wpOp P ops Q i (fun a' w'=>(i ∉ ds->S w->S w')/\bZ P md ops Q S ds fuel (listed.setIfInBounds i true) a' w') a w):bZ P md ops Q S ds (fuel+1) listed a w :=
 ⟨fun h0=>absurd (hr ▸ h0) hne,hr ▸ h⟩
theorem wu{listed:Array Bool}{a:Act}{w:World}(hr:Region.ready md ops listed=[])(h:Q .normal a w) :
  ∀ fuel,bZ P md ops Q S ds fuel listed a w
 | 0=>⟨hr,h⟩
 | _+1=>⟨fun _=>h,by rw[hr];simp⟩
theorem wA{id:Nat}{a:Act}{w:World}(hm:P.follows .mixedOrders=true)
  (h:bZ P .any ops Q S ds ops.size (Array.replicate ops.size false) a { w with drawn:=w.drawn+1 }):(Code.region id ops true).wp P Q a w :=
 wp_region_any hm (qo _ _ _ _ h)
end
section
variable{P:Program}{ops:Array Oper}{Q:Exit->Act->World->Prop}{md:Region.Mode}{S:World->Prop}{ds:List Nat}
def eX(P:Program)(md:Region.Mode)(ops:Array Oper)(Q:Exit->Act->World->Prop)(S:World->Prop)(ds:List Nat)(fuel:Nat)(listed:Array Bool)(a:Act)(w:World)(rs:List Nat):Prop :=
 ∀ i∈rs,wpOp P ops Q i (fun a' w'=>(i ∉ ds->S w->S w')/\bZ P md ops Q S ds fuel (listed.setIfInBounds i true) a' w') a w
theorem eX.nil{fuel:Nat}{listed:Array Bool}{a:Act}{w:World}:eX P md ops Q S ds fuel listed a w []:=fun _ h=>by cases h
theorem eX.cons{fuel:Nat}{listed:Array Bool}{a:Act}{w:World}{i:Nat}{o:Oper}{rs:List Nat}(ho:ops[i]? = some o)(hd:i ∉ ds)
  (h:∀ K':Act->World->Prop,Shut (∀ a w,S w->(S w->bZ P md ops Q S ds fuel (listed.setIfInBounds i true) a w)->K' a w)->if Region.wanted o (yielded ops a.tmps)=true then Oper.wp P o a w K' Q else K' (a.put o.dst undef) w)
  (hs:eX P md ops Q S ds fuel listed a w rs):eX P md ops Q S ds fuel listed a w (i :: rs):=fun j hj=>by
 rcases List.mem_cons.1 hj with rfl|hj
 .exact wpOp_step ho (fun K' hK=>h K' (fun a w hS hW=>hK a w ⟨fun _ _=>hS,hW hS⟩))
 .exact hs j hj
theorem eX.Ht{fuel:Nat}{listed:Array Bool}{a:Act}{w:World}{i:Nat}{o:Oper}{rs:List Nat}(ho:ops[i]? = some o)(hd:i∈ds)
  (h:∀ K':Act->World->Prop,Shut (∀ a w,bZ P md ops Q S ds fuel (listed.setIfInBounds i true) a w->K' a w)->if Region.wanted o (yielded ops a.tmps)=true then Oper.wp P o a w K' Q else K' (a.put o.dst undef) w)
  (hs:eX P md ops Q S ds fuel listed a w rs):eX P md ops Q S ds fuel listed a w (i :: rs):=fun j hj=>by
 rcases List.mem_cons.1 hj with rfl|hj
 .exact wpOp_step ho (fun K' hK=>h K' (fun a w hW=>hK a w ⟨fun hn=>absurd hd hn,hW⟩))
 .exact hs j hj
theorem nP{rs:List Nat}{fuel:Nat}{listed:Array Bool}{a:Act}{w:World}(hr:Region.ready md ops listed=rs)(hne:rs≠[])
  (h:eX P md ops Q S ds fuel listed a w rs):bZ P md ops Q S ds (fuel+1) listed a w:=yV hr hne h
theorem wB{id n:Nat}{a:Act}{w:World}(l:Array Bool)(hm:P.follows .mixedOrders=true)(hn:ops.size=n)(hl:Array.replicate n false=l)(hS:S w.drew)
  (h:S w.drew->bZ P .any ops Q S ds n l a w.drew):(Code.region id ops true).wp P Q a w:=by
 subst hn;subst hl;exact wA hm (h hS)
def Cy(md:Region.Mode)(ops:Array Oper)(ds:List Nat)(l l':Array Bool)(i:Nat):Bool :=
 Region.noSelect ops && Region.free md ops l i && (Region.ready md ops l).contains i && Region.rO md ops l && Region.Gq md ops l ds i && (l.setIfInBounds i true == l')
theorem gY{i:Nat}{N:Option Tmp}{oi:Oper}{v:Value}{fuel:Nat}{l:Array Bool}{a:Act}{w:World}(l':Array Bool)(hi:ops[i]? = some oi)(hN:oi.dst=N)(hc:Cy md ops ds l l' i=true)
  (hQ:∀ c a w,Q (.panic c) (a.put oi.dst v) w->Q (.panic c) a w) (hy:YieldsIf P ops S oi v a) (hS:S w) {a':Act} (ha:a.put N v=a')
  (h:bZ P md ops Q S ds fuel l' a' w):bZ P md ops Q S ds (fuel+1) l a w:=by
 subst ha;subst hN;simp only[Cy,Bool.and_eq_true,beq_iff_eq] at hc;obtain⟨⟨⟨⟨⟨h1,h2⟩,h3⟩,h4⟩,h5⟩,h6⟩:=hc;subst h6;exact wm hi h1 h2 h3 h4 h5 hQ hy hS h
def Ni(md:Region.Mode)(ops:Array Oper)(l l':Array Bool)(i:Nat):Bool :=
 Region.noSelect ops && Region.free md ops l i && (Region.ready md ops l).contains i && (l.setIfInBounds i true == l')
theorem bW{i:Nat}{N:Option Tmp}{oi:Oper}{v:Value}{fuel:Nat}{l:Array Bool}{a:Act}{w:World}(l':Array Bool)(hi:ops[i]? = some oi)(hN:oi.dst=N)(hc:Ni md ops l l' i=true)
  (hQ:∀ c a w,Q (.panic c) (a.put oi.dst v) w->Q (.panic c) a w) (hy:Yields P ops oi v a) {a':Act} (ha:a.put N v=a')
  (h:bZ P md ops Q S ds fuel l' a' w):bZ P md ops Q S ds (fuel+1) l a w:=by
 subst ha;subst hN;simp only[Ni,Bool.and_eq_true,beq_iff_eq] at hc;obtain⟨⟨⟨h1,h2⟩,h3⟩,h6⟩:=hc;subst h6;exact yU hi (Region.noSelect_spec h1) hQ fuel l a w (Region.free_spec hi h2) (by simpa using h3) hy h
def tL(md:Region.Mode)(ops:Array Oper)(l l':Array Bool)(i:Nat):Bool:=(Region.ready md ops l == [i]) && (l.setIfInBounds i true == l')
theorem Cz{i:Nat}{N:Option Tmp}{oi:Oper}{fuel:Nat}{l:Array Bool}{a:Act}{w:World}(l':Array Bool)(hi:ops[i]? = some oi)(hN:oi.dst=N)(hc:tL md ops l l' i=true)(hd:i ∉ ds)
  (h:∀ K:Act->World->Prop,Shut (∀ a' w',S w'->(S w'->bZ P md ops Q S ds fuel l' a' w')->K a' w')->if Region.wanted oi (yielded ops a.tmps)=true then Oper.wp P oi a w K Q else K (a.put N undef) w) :
  bZ P md ops Q S ds (fuel+1) l a w:=by
 subst hN;simp only[tL,Bool.and_eq_true,beq_iff_eq] at hc;obtain⟨h1,h2⟩:=hc;subst h2;exact nP h1 (by simp) (eX.cons hi hd (fun K hK=>h K hK) eX.nil)
theorem CA{i:Nat}{N:Option Tmp}{oi:Oper}{fuel:Nat}{l:Array Bool}{a:Act}{w:World}(l':Array Bool)(hi:ops[i]? = some oi)(hN:oi.dst=N)(hc:tL md ops l l' i=true)(hd:i∈ds)
  (h:∀ K:Act->World->Prop,Shut (∀ a' w',bZ P md ops Q S ds fuel l' a' w'->K a' w')->if Region.wanted oi (yielded ops a.tmps)=true then Oper.wp P oi a w K Q else K (a.put N undef) w) :
  bZ P md ops Q S ds (fuel+1) l a w:=by
 subst hN;simp only[tL,Bool.and_eq_true,beq_iff_eq] at hc;obtain⟨h1,h2⟩:=hc;subst h2;exact nP h1 (by simp) (eX.Ht hi hd (fun K hK=>h K hK) eX.nil)
theorem CB{l:Array Bool}{a:Act}{w:World}{n:Nat}(hr:(Region.ready md ops l == [])=true)(h:Q .normal a w):bZ P md ops Q S ds n l a w:=wu (by simpa using hr) h n
theorem zL{fuel:Nat}{l:Array Bool}{a a':Act}{w:World}(ha:a=a')(h:bZ P md ops Q S ds fuel l a' w):bZ P md ops Q S ds fuel l a w:=by
 subst ha;exact h
theorem call_{oi:Oper}{N:Option Tmp}{a:Act}{w:World}{K:Act->World->Prop}(f:FuncId)(args:Array Value)(hw:Region.wanted oi (yielded ops a.tmps)=true)(hN:oi.dst=N)(hrun:(execOp a.eval oi).run P w=.ok (.enter f args) w)
  (h:Calls P f args w fun e w'=>∃ v,e=.returned v/\K (a.put N v) w'):if Region.wanted oi (yielded ops a.tmps)=true then Oper.wp P oi a w K Q else K (a.put N undef) w:=by
 rw[if_pos hw];subst hN;unfold Oper.wp;rw[hrun,Oper.upon_enter];refine h.mono fun e w'' hh=>?_
 obtain⟨v,rfl,hk⟩:=hh;exact hk
theorem Gt{f:FuncId}{fn:Func}(hf:P.funcs[f]? = some fn)(hname:(fn.name == "runtime.NumGoroutine")=false)(hb:fn.body.isSome=true)(args:Array Value)(w:World):(callFunc f args).run P w=.ok (.enter f args) w:=by
 have h1:fn.name ≠ "runtime.NumGoroutine" := by simpa using hname
 obtain⟨c,hc⟩:=Option.isSome_iff_exists.1 hb;simp[callFunc,hf,h1,hc]
theorem O7{oi:Oper}{N:Option Tmp}{a:Act}{w:World}{K:Act->World->Prop}{f:FuncId}{fn:Func}{az:Array Operand}{ts:Array TypeId}(hf:P.funcs[f]? = some fn)(hname:(fn.name == "runtime.NumGoroutine")=false)(hb:fn.body.isSome=true)(args:Array Value)
  (hw:Region.wanted oi (yielded ops a.tmps)=true) (hN:oi.dst=N) (hop:oi.op=.call { callee:=.value (.func f),args:=az,argTypes:=ts }) (hargs:az.map a.eval=args)
  (h:Calls P f args w fun e w'=>∃ v,e=.returned v/\K (a.put N v) w'):if Region.wanted oi (yielded ops a.tmps)=true then Oper.wp P oi a w K Q else K (a.put N undef) w:=by
 refine call_ f args hw hN ?_ h;have he:=Gt hf hname hb args w;unfold execOp;simp[hop,resolve,Deferred.ofValue,invoke,Act.eval,hargs,he]
theorem dV{rest:List Oper}{oi:Oper}{a:Act}{w:World}(N:Option Tmp)(hd:oi.dst=N)(hg:oi.guard=none){f:FuncId}{fn:Func}{az:Array Operand}{ts:Array TypeId}(hf:P.funcs[f]? = some fn)(hname:(fn.name == "runtime.NumGoroutine")=false)(hb:fn.body.isSome=true)(args:Array Value)
  (hop:oi.op=.call { callee:=.value (.func f),args:=az,argTypes:=ts }) (hargs:az.map a.eval=args)
  (h:Calls P f args w fun e w'=>∃ v,e=.returned v/\wpList P ops Q rest (a.put N v) w'):wpList P ops Q (oi :: rest) a w:=by
 refine wpList_plain hg fun K hK=>?_
 have he:=Gt hf hname hb args w;have hrun:(execOp a.eval oi).run P w=.ok (.enter f args) w:=by
  unfold execOp;simp[hop,resolve,Deferred.ofValue,invoke,Act.eval,hargs,he]
 unfold Oper.wp;rw[hrun,Oper.upon_enter];refine h.mono fun e w'' hh=>?_
 obtain⟨v,rfl,hk⟩:=hh;subst hd;exact hK _ _ hk
theorem J5{oi:Oper}{N:Option Tmp}{a:Act}{w w1:World}{v:Value}{K:Act->World->Prop}(hw:Region.wanted oi (yielded ops a.tmps)=true)(hN:oi.dst=N)(hrun:(execOp a.eval oi).run P w=.ok (.value v) w1)
  (h:K (a.put N v) w1):if Region.wanted oi (yielded ops a.tmps)=true then Oper.wp P oi a w K Q else K (a.put N undef) w:=by
 rw[if_pos hw];subst hN;unfold Oper.wp;rw[hrun];exact h
theorem wC{oi:Oper}{a:Act}{w w1:World}{K:Act->World->Prop}(hw:Region.wanted oi (yielded ops a.tmps)=true)(hN:oi.dst=none)(hrun:(execOp a.eval oi).run P w=.ok .skip w1)
  (h:K a w1):if Region.wanted oi (yielded ops a.tmps)=true then Oper.wp P oi a w K Q else K (a.put none undef) w:=by
 rw[if_pos hw];unfold Oper.wp;rw[hrun];show K (a.put oi.dst undef) w1;rw[hN];exact h
theorem bC(n:Int):IntKind.i64.wrap n=Go.RowKit.wrap64 n:=by unfold Go.RowKit.wrap64;exact IntKind.wrap_i64 n
end
end Go.Proofs.YtcaallkkeighdaaGreatDoor.aQ
namespace Go.Proofs.YtcaallkkeighdaaGreatDoor.aQ
open aD (aC)
def pJ(md:Region.Mode)(o:Oper):List Nat:=(o.after.toList.filter (fun e=>Region.binds md e)).map (fun e=>e.on)
def AV(md:Region.Mode)(ops:Array Oper)(i:Nat)(oi:Oper):List Nat:=(List.range ops.size).filter fun j=>!(j == i) && match ops[j]? with
 | some oj=>!(oj.after.any (fun e=>Region.binds md e && e.on == i) || oi.apart ops oj)
 | none=>false
def jZ(md:Region.Mode)(ops:Array Oper):Bool × List (List Nat × List Nat):=(Region.noSelect ops,(List.range ops.size).map fun i=>match ops[i]? with
 | some o=>(pJ md o,AV md ops i o)
 | none=>([],[]))
def lK(T:List (List Nat × List Nat))(l:List Bool)(i:Nat):Bool:=!l.getD i true && match T[i]? with
 | some r=>r.1.all (fun j=>l.getD j false)
 | none=>false
def wD(T:List (List Nat × List Nat))(l:List Bool):List Nat:=(List.range T.length).filter (lK T l)
def CC(T:List (List Nat × List Nat))(l:List Bool)(i:Nat):Bool:=match T[i]? with
 | some r=>r.2.all (fun j=>l.getD j true)
 | none=>false
def vF(T:List (List Nat × List Nat))(l:List Bool):Bool:=(List.range T.length).all fun j=>!l.getD j false || match T[j]? with
 | some r=>r.1.all (fun k=>l.getD k false)
 | none=>true
def tM(T:List (List Nat × List Nat))(i:Nat):Nat->Nat->Bool
 | 0,_=>false
 | fuel+1,d=>match T[d]? with
  | some r=>r.1.any fun j=>j == i || tM T i fuel j
  | none=>false
def Gu(T:List (List Nat × List Nat))(l:List Bool)(ds:List Nat)(i:Nat):Bool:=ds.all fun d=>l.getD d true || tM T i T.length d
section
variable{md:Region.Mode}{ops:Array Oper}{T:Bool × List (List Nat × List Nat)}{l l' li lj lk:Array Bool}{ds:List Nat}{i j k:Nat}
theorem gd(l:Array Bool)(j:Nat)(b:Bool):l.getD j b=l.toList.getD j b:=by simp[Array.getD_eq_getD_getElem?,List.getD_eq_getElem?_getD]
theorem zM(o:Oper)(p:Nat->Bool):o.after.all (fun e=>!Region.binds md e || p e.on)=(pJ md o).all p:=by
 unfold pJ;rw[<-Array.all_toList]
 induction o.after.toList with
 | nil=>rfl
 | cons e r ih =>
  rw[List.all_cons,ih,List.filter_cons];cases h:Region.binds md e<;>simp
theorem Hu(o:Oper)(p:Nat->Bool):o.after.any (fun e=>Region.binds md e && p e.on)=(pJ md o).any p:=by
 unfold pJ;rw[<-Array.any_toList]
 induction o.after.toList with
 | nil=>rfl
 | cons e r ih =>
  rw[List.any_cons,ih,List.filter_cons];cases h:Region.binds md e<;>simp
theorem lM:(jZ md ops).2.length=ops.size:=by simp[jZ]
theorem pK{o:Oper}(h:ops[i]? = some o):(jZ md ops).2[i]? = some (pJ md o,AV md ops i o):=by
 have hi:=(Array.getElem?_eq_some_iff.1 h).1;unfold jZ;rw[List.getElem?_map,List.getElem?_range hi,Option.map_some,h]
theorem pO(h:ops[i]? = none):(jZ md ops).2[i]? = none:=by
 have hi:ops.size<=i:=Array.getElem?_eq_none_iff.1 h;exact List.getElem?_eq_none (by rw[lM];exact hi)
theorem EG:lK (jZ md ops).2 l.toList i=(!l.getD i true && ((ops[i]?).map (·.after.all fun e=>!Region.binds md e || l.getD e.on false)).getD false):=by
 unfold lK;rw[gd];cases h:ops[i]? with
 | none=>rw[pO h];rfl
 | some o =>
  rw[pK h];simp only[Option.map_some,Option.getD_some];rw[<-zM];simp only[gd]
theorem wE:Region.ready md ops l=wD (jZ md ops).2 l.toList:=by
 unfold Region.ready wD;rw[lM];refine List.filter_congr (fun i _=>?_);rw[EG]
theorem Gv:Region.free md ops l i=CC (jZ md ops).2 l.toList i:=by
 unfold Region.free CC;cases h:ops[i]? with
 | none=>rw[pO h]
 | some oi =>
  rw[pK h];simp only[AV];rw[List.all_filter]
  congr 1
  funext j;rw[gd];cases hj:ops[j]? with
  | none=>cases (j == i)<;>cases (l.toList.getD j true)<;>simp
  | some oj =>
   cases (j == i)<;>cases (l.toList.getD j true)<;>cases (oj.after.any (fun e=>Region.binds md e && e.on == i) || oi.apart ops oj)<;>simp_all
theorem Hv:Region.rO md ops l=vF (jZ md ops).2 l.toList:=by
 unfold Region.rO vF;rw[lM]
 congr 1
 funext j;rw[gd];cases h:ops[j]? with
 | none=>rw[pO h]
 | some o =>
  rw[pK h];simp only;rw[<-zM];simp only[gd]
theorem CD:∀ (fuel d:Nat),Region.jY md ops i fuel d=tM (jZ md ops).2 i fuel d
 | 0,_=>rfl
 | fuel+1,d=>by
  unfold Region.jY tM;cases h:ops[d]? with
  | none=>rw[pO h]
  | some o =>
   rw[pK h];simp only;rw[<-Hu]
   congr 1
   funext e;rw[CD fuel]
theorem Nj:Region.Gq md ops l ds i=Gu (jZ md ops).2 l.toList ds i:=by
 unfold Region.Gq Gu;rw[lM]
 congr 1
 funext d;rw[gd,CD]
theorem uK(h:lK T.2 l.toList i=true)(hT:jZ md ops=T):(Region.ready md ops l).contains i=true:=by
 subst hT;rw[wE];unfold wD;rw[List.contains_iff_mem,List.mem_filter,List.mem_range];refine⟨?_,h⟩;unfold lK at h;rw[Bool.and_eq_true] at h;cases hq:(jZ md ops).2[i]? with
 | none=>rw[hq] at h;simp at h
 | some r=>exact(List.getElem?_eq_some_iff.1 hq).1
theorem EH(h:(l.toList.set i true == l'.toList)=true):(l.setIfInBounds i true == l')=true:=by
 rw[beq_iff_eq] at h ⊢;apply Array.ext';rw[Array.toList_setIfInBounds];exact h
def SK(T:Bool × List (List Nat × List Nat))(l l':List Bool)(i:Nat):Bool:=T.1 && CC T.2 l i && lK T.2 l i && (l.set i true == l')
theorem bF(hT:jZ md ops=T)(h:SK T l.toList l'.toList i=true):Ni md ops l l' i=true:=by
 simp only[SK,Bool.and_eq_true] at h;obtain⟨⟨⟨h1,h2⟩,h3⟩,h4⟩:=h;have h5:=uK h3 hT;have h6:=EH h4;subst hT;simp only[Ni,Bool.and_eq_true];exact⟨⟨⟨h1,by rw[Gv];exact h2⟩,h5⟩,h6⟩
def J6(T:Bool × List (List Nat × List Nat))(ds:List Nat)(l l':List Bool)(i:Nat):Bool:=T.1 && CC T.2 l i && lK T.2 l i && vF T.2 l && Gu T.2 l ds i && (l.set i true == l')
theorem Nk(hT:jZ md ops=T)(h:J6 T ds l.toList l'.toList i=true):Cy md ops ds l l' i=true:=by
 simp only[J6,Bool.and_eq_true] at h;obtain⟨⟨⟨⟨⟨h1,h2⟩,h3⟩,h4⟩,h5⟩,h6⟩:=h;have h7:=uK h3 hT;have h8:=EH h6;subst hT;simp only[Cy,Bool.and_eq_true];exact⟨⟨⟨⟨⟨h1,by rw[Gv];exact h2⟩,h7⟩,by rw[Hv];exact h4⟩,by rw[Nj];exact h5⟩,h8⟩
theorem jy(hT:jZ md ops=T)(h:(wD T.2 l.toList == [i] && l.toList.set i true == l'.toList)=true):tL md ops l l' i=true:=by
 simp only[Bool.and_eq_true] at h;obtain⟨h1,h2⟩:=h;subst hT;simp only[tL,Bool.and_eq_true];exact⟨by rw[wE];exact h1,EH h2⟩
theorem rQ(hT:jZ md ops=T)(h:(wD T.2 l.toList == [])=true):(Region.ready md ops l == [])=true:=by
 subst hT;rw[wE];exact h
def P9(B:List Nat)(d:Nat):List Nat->Nat
 | []=>0
 | n :: r=>(2 ^ n ||| (if n < d then B.getD n 0 else 0)) ||| P9 B d r
def kC(T:List (List Nat × List Nat))(B:List Nat):Bool:=(List.range T.length).all fun d=>match T[d]? with
 | some r=>(B.getD d 0 ||| P9 B d r.1) == P9 B d r.1
 | none=>false
theorem Gw{B:List Nat}{d i:Nat}:∀ {ns:List Nat},(P9 B d ns).testBit i=true->∃ n∈ns,n=i\/(n < d/\(B.getD n 0).testBit i=true)
 | [],h=>by simp[P9] at h
 | n :: r,h=>by
  unfold P9 at h;rw[Nat.testBit_or,Nat.testBit_or,Bool.or_eq_true,Bool.or_eq_true] at h;rcases h with(h|h)|h
  .rw[Nat.testBit_two_pow] at h;exact⟨n,List.mem_cons_self,.inl (by simpa using h)⟩
  .by_cases hn:n < d
   .rw[if_pos hn] at h;exact⟨n,List.mem_cons_self,.inr ⟨hn,h⟩⟩
   .rw[if_neg hn] at h;simp at h
  .obtain⟨m,hm,h2⟩:=Gw h;exact⟨m,List.mem_cons_of_mem _ hm,h2⟩
theorem zN{T:List (List Nat × List Nat)}{B:List Nat}(hB:kC T B=true):∀ (fuel d:Nat),d < fuel->d < T.length->(B.getD d 0).testBit i=true->tM T i fuel d=true
 | 0,d,h,_,_=>by omega
 | fuel+1,d,h,hd,hb=>by
  have h1:=List.all_eq_true.1 hB d (List.mem_range.2 hd);cases hr:T[d]? with
  | none=>rw[hr] at h1;simp at h1
  | some r =>
   rw[hr] at h1;simp only[beq_iff_eq] at h1;have h2:(P9 B d r.1).testBit i=true:=by rw[<-h1,Nat.testBit_or,hb,Bool.true_or]
   obtain⟨n,hn,h3⟩:=Gw h2;unfold tM;rw[hr];simp only;rw[List.any_eq_true];refine⟨n,hn,?_⟩;rcases h3 with rfl|⟨h4,h5⟩
   .simp
   .rw[zN hB fuel n (by omega) (by omega) h5,Bool.or_true]
def O8(T:List (List Nat × List Nat))(B:List Nat)(l:List Bool)(ds:List Nat)(i:Nat):Bool:=ds.all fun d=>l.getD d true || (decide (d < T.length) && (B.getD d 0).testBit i)
def O9(T:Bool × List (List Nat × List Nat))(B:List Nat)(ds:List Nat)(l l':List Bool)(i:Nat):Bool:=T.1 && CC T.2 l i && lK T.2 l i && vF T.2 l && O8 T.2 B l ds i && (l.set i true == l')
theorem dB{B:List Nat}(hT:jZ md ops=T)(hB:kC T.2 B=true)(h:O9 T B ds l.toList l'.toList i=true):Cy md ops ds l l' i=true:=by
 refine Nk hT ?_;simp only[O9,J6,Bool.and_eq_true] at h ⊢;obtain⟨⟨⟨⟨⟨h1,h2⟩,h3⟩,h4⟩,h5⟩,h6⟩:=h;refine⟨⟨⟨⟨⟨h1,h2⟩,h3⟩,h4⟩,?_⟩,h6⟩;unfold O8 at h5;unfold Gu;rw[List.all_eq_true] at h5 ⊢;intro d hd;have h7:=h5 d hd;rw[Bool.or_eq_true,Bool.and_eq_true,decide_eq_true_eq] at h7;rcases h7 with h7|⟨h8,h9⟩
 .rw[h7,Bool.true_or]
 .rw[zN hB _ d h8 h8 h9,Bool.or_true]
theorem mA{P:Program}{Q:Exit->Act->World->Prop}{S:World->Prop}{n:Nat}{a:Act}{w:World}{B:List Nat}(hT:jZ md ops=T)(hB:kC T.2 B=true)(h:aC (jZ md ops=T)->aC (kC T.2 B=true)->bZ P md ops Q S ds n l a w):bZ P md ops Q S ds n l a w:=h ⟨hT⟩ ⟨hB⟩
end
def qp:Code->Nat->Option (Array Oper)
 | .region id ops _,k=>if id == k then some ops else none
 | .seq a b,k=>match qp a k with
  | some o=>some o
  | none=>qp b k
 | .cond _ a b,k=>match qp a k with
  | some o=>some o
  | none=>qp b k
 | .block _ c,k=>qp c k
 | .loop c,k=>qp c k
 | .scope c,k=>qp c k
 | .rangeFunc _ _ a b,k=>match qp a k with
  | some o=>some o
  | none=>qp b k
 | _,_=>none
def opsOf(f:Func)(k:Nat):Array Oper:=((f.body.bind fun c=>qp c k)).getD #[]
end Go.Proofs.YtcaallkkeighdaaGreatDoor.aQ
namespace Go.Proofs.YtcaallkkeighdaaGreatDoor.aQ
section
variable{P:Program}{ops:Array Oper}{Q:Exit->Act->World->Prop}{md:Region.Mode}{S:World->Prop}{ds:List Nat}{T:Bool × List (List Nat × List Nat)}
end
end Go.Proofs.YtcaallkkeighdaaGreatDoor.aQ
namespace Go.Proofs.YtcaallkkeighdaaGreatDoor.aD
open Go.RowKit
namespace Kd
section
variable{α:Type}{d:Kd α}{e base g o n cap:Nat}{ok uJ:Nat->Prop}{w W:World}{v:Value}{xs:List α}
end
section
variable{α:Type}{enc:α->Value}{h1:∀ x,(enc x).oneCell'=true}{e base g o n cap:Nat}{ok:Nat->Prop}{W:World}{xs:List α}
end
end Kd
end Go.Proofs.YtcaallkkeighdaaGreatDoor.aD
namespace Go.Proofs.YtcaallkkeighdaaGreatDoor.aD
open Go.RowKit
namespace Kd
section
variable{α β:Type}{d:Kd α}{d':Kd β}{e e':Nat}{w w1 W:World}{base b:Nat}{ok ok' Y1 Y2:Nat->Prop}{u v:Value}{xs:List α}{ys:List β}
theorem Gx(hE:d.E=[])(h:d.R e w base ok v xs):d.R e w base (fun k=>some k=v.ownBlock) v xs:=by
 obtain⟨h0,inner,ho,hr⟩:=h;refine⟨fun k hk=>hk.symm,inner,ho,hr.p9 (fun p c hp=>d.gV (fun k hk=>?_) (d.iT hp))⟩;obtain⟨_,_,_,q,hq,_⟩:=hk;rw[hE] at hq;cases hq
end
section
variable{α β:Type}{d:Kd α}{d':Kd β}{e e' g:Nat}{w w1 W:World}{base b:Nat}{ok ok' Y1 Y2:Nat->Prop}{u v:Value}{xs:List α}{ys:List β}
end
section
variable{P:Program}{ops:Array Oper}{rest:List Oper}{o:Oper}{a:Act}{Q:Exit->Act->World->Prop}{Kc:Act->World->Prop}{α:Type}
end
section
variable{α β:Type}{d:Kd α}{e e' g n cap:Nat}{w w1 W:World}{base:Nat}{ok ok' Y4 uJ:Nat->Prop}{u v:Value}{xs:List α}{i:Int}{c:List Value}
end
section
variable{P:Program}{ops:Array Oper}{rest:List Oper}{o:Oper}{a:Act}{Q:Exit->Act->World->Prop}{α:Type}
end
end Kd
end Go.Proofs.YtcaallkkeighdaaGreatDoor.aD
namespace Go.Proofs.YtcaallkkeighdaaGreatDoor.aD
open Go.RowKit
namespace Kd
section
variable{α:Type}{n:Nat}{d:Kd α}{hs:0 < d.sz}{w:World}{base:Nat}{ok:Nat->Prop}{xs:List α}{cs:List Value}
end
section
variable{α:Type}{n:Nat}{enc:α->Value}{h1:∀ x,(enc x).oneCell'=true}{hs:0 < (scalar enc h1).sz}{w:World}{base:Nat}{ok:Nat->Prop}{xs:List α}{cs:List Value}
end
end Kd
end Go.Proofs.YtcaallkkeighdaaGreatDoor.aD
namespace Go.Proofs.YtcaallkkeighdaaGreatDoor.aD
open Go.RowKit
section
variable{P:Program}
end
namespace Kd
section
variable{P:Program}{ops:Array Oper}{rest:List Oper}{o:Oper}{a:Act}{Q:Exit->Act->World->Prop}{Kc:Act->World->Prop}{α:Type}
end
section
variable{α:Type}{d:Kd α}{e:Nat}{w:World}{base:Nat}{ok:Nat->Prop}{v:Value}{xs:List α}
end
section
variable{P:Program}{ops:Array Oper}{rest:List Oper}{o:Oper}{a:Act}{Q:Exit->Act->World->Prop}{Kc:Act->World->Prop}{α:Type}
end
end Kd
end Go.Proofs.YtcaallkkeighdaaGreatDoor.aD
namespace Go.Proofs.YtcaallkkeighdaaGreatDoor.aD
open Go.RowKit
namespace Kd
section
variable{α:Type}{d:Kd α}{e base g n c:Nat}{ok:Nat->Prop}{w w0 W:World}{A:Option Addr}{xs:List α}
end
end Kd
end Go.Proofs.YtcaallkkeighdaaGreatDoor.aD
namespace Go.Proofs.YtcaallkkeighdaaGreatDoor.aD
open Go.RowKit
section
variable{w W W2:World}{S S2 S':Nat->Prop}
end
namespace Kd
section
variable{α:Type}{d:Kd α}{e base n c:Nat}{ok Y4 S S2:Nat->Prop}{w w0 W W1 W2:World}{v:Value}{A:Option Addr}{xs:List α}{i:Int}{cs:List Value}
end
end Kd
end Go.Proofs.YtcaallkkeighdaaGreatDoor.aD
namespace Go.Proofs.YtcaallkkeighdaaGreatDoor.aD
open Go.RowKit
namespace WH
variable{P Q:World->Prop}{W W1:World}{ok ok':Nat->Prop}
end WH
namespace Kd
section
variable{α β:Type}{d:Kd α}{e base n n' cc g N:Nat}{ok ok' uJ S:Nat->Prop}{w w0 w1 W W1:World}{A A':Option Addr}{u v v1:Value}{xs:List α}{xs':List β}{d':Kd β}{x:α}{c:List Value}
end
end Kd
end Go.Proofs.YtcaallkkeighdaaGreatDoor.aD
namespace Go.Proofs.YtcaallkkeighdaaGreatDoor.aD
open Go.RowKit
namespace Kd
section
variable{α:Type}{d:Kd α}{e base n cc g:Nat}{ok ok' uJ S:Nat->Prop}{w w1 W W1:World}{A:Option Addr}{u v v1:Value}{xs:List α}{x:α}{c:List Value}
end
end Kd
end Go.Proofs.YtcaallkkeighdaaGreatDoor.aD
namespace Go.Proofs.YtcaallkkeighdaaGreatDoor.aD
open Go.RowKit
namespace Kd
section
variable{α:Type}{d:Kd α}{W:World}{g n:Nat}{S ok:Nat->Prop}{A:Option Addr}{ad:Addr}{xs:List α}
end
end Kd
end Go.Proofs.YtcaallkkeighdaaGreatDoor.aD
namespace Go.Proofs.YtcaallkkeighdaaGreatDoor.aD
open Go.RowKit
section
variable{w w' u:World}{m B g:Nat}{o:Obj}{row:Option Nat}{S:Nat->Prop}{a:Addr}{v:Value}
end
namespace Kd
section
variable{α:Type}{d:Kd α}{e base n m:Nat}{ok:Nat->Prop}{w w':World}{v:Value}{A:Option Addr}{xs:List α}
end
end Kd
end Go.Proofs.YtcaallkkeighdaaGreatDoor.aD
namespace Go.Proofs.YtcaallkkeighdaaGreatDoor.aD
open Go.RowKit
section
variable{P:Program}{d:Nat}{xs ys:Array Value}{f:Field}{fs:List Field}{a b:Value}{r s:Bool}{w:World}
end
end Go.Proofs.YtcaallkkeighdaaGreatDoor.aD
namespace Go.Proofs.YtcaallkkeighdaaGreatDoor.aD
end Go.Proofs.YtcaallkkeighdaaGreatDoor.aD
namespace Go.Proofs.YtcaallkkeighdaaGreatDoor.aQ
section
variable{P:Program}{ops:Array Oper}{Q:Exit->Act->World->Prop}{md:Region.Mode}{T:Bool × List (List Nat × List Nat)}{B:List Nat}{O:List Nat}{b:Nat->Bool}{i j n:Nat}
end
end Go.Proofs.YtcaallkkeighdaaGreatDoor.aQ
namespace Go.Proofs.YtcaallkkeighdaaGreatDoor.aD
open Go.RowKit
end Go.Proofs.YtcaallkkeighdaaGreatDoor.aD
namespace Go.Proofs.YtcaallkkeighdaaGreatDoor.aQ
section
variable{ops:Array Oper}{a:Act}{o og:Oper}{g:Nat}{t:Tmp}{u:Bool}
end
end Go.Proofs.YtcaallkkeighdaaGreatDoor.aQ
namespace Go.Proofs.YtcaallkkeighdaaGreatDoor.aD
open Go.RowKit
section
variable{P:Program}{ops:Array Oper}{rest:List Oper}{o:Oper}{a:Act}{Q:Exit->Act->World->Prop}{W:World}
end
end Go.Proofs.YtcaallkkeighdaaGreatDoor.aD
namespace Go.Proofs.YtcaallkkeighdaaGreatDoor.aD
open Go.RowKit
namespace Kd
section
variable{α:Type}{d:Kd α}{e base n cap g:Nat}{ok ok' uJ:Nat->Prop}{w w1 W:World}{v v1:Value}{xs ys:List α}
end
section
variable{P:Program}{ops:Array Oper}{rest:List Oper}{o:Oper}{a:Act}{Q:Exit->Act->World->Prop}{Kc:Act->World->Prop}{α:Type}
end
end Kd
end Go.Proofs.YtcaallkkeighdaaGreatDoor.aD
namespace Go.Proofs.YtcaallkkeighdaaGreatDoor.aR
open Go.RowKit aD
namespace Kd
open aD.Kd
end Kd
namespace Kd
open aD.Kd
section
variable{α:Type}{d:Kd α}{e base g N:Nat}{ok:Nat->Prop}{W w1:World}{u v:Value}{xs:List α}
end
end Kd
theorem cN(k k':IntKind)(x y:Int):Builtin.max2 (.int k x) (.int k' y)=pure (.int k (if x < y then y else x)):=by simp only[Builtin.max2,gt_iff_lt]
theorem cO(k k':IntKind)(x y:Int):Builtin.min2 (.int k x) (.int k' y)=pure (.int k (if y < x then y else x)):=by simp only[Builtin.min2]
theorem dw(ats:Array TypeId)(ty:TypeId)(a b:Value):Builtin.max_ ats ty #[a,b]=(Builtin.max2 a b >>= fun s=>pure s):=by simp only[Builtin.max_,List.foldlM_cons,List.foldlM_nil]
theorem dA(ats:Array TypeId)(ty:TypeId)(a b:Value):Builtin.min_ ats ty #[a,b]=(Builtin.min2 a b >>= fun s=>pure s):=by simp only[Builtin.min_,List.foldlM_cons,List.foldlM_nil]
theorem mB(ats:Array TypeId)(ty:TypeId)(a b c:Value):Builtin.max_ ats ty #[a,b,c]=(Builtin.max2 a b >>= fun s=>Builtin.max2 s c >>= fun s=>pure s):=by simp only[Builtin.max_,List.foldlM_cons,List.foldlM_nil]
end Go.Proofs.YtcaallkkeighdaaGreatDoor.aR
namespace Go.Proofs.YtcaallkkeighdaaGreatDoor.aD
open Go.RowKit
section
variable{P:Program}{ops:Array Oper}{rest:List Oper}{o:Oper}{a:Act}{Q:Exit->Act->World->Prop}{W:World}
theorem bJ{f:FuncId}{az:Array Operand}{ts:Array TypeId}(_ho:o.op=.call { callee:=.value (.func f),args:=az,argTypes:=ts })(h:wpList P ops Q (o :: rest) a W):wpList P ops Q (o :: rest) a W:=h
theorem ad3{b:Builtin}{xs:Array Operand}{ts:Array TypeId}(_ho:o.op=.call { callee:=.builtin b,args:=xs,argTypes:=ts })(h:wpList P ops Q (o :: rest) a W):wpList P ops Q (o :: rest) a W:=h
end
theorem wF{W w1:World}{row:Option Nat}(hg:W.grownBy w1 row){a:Addr}{v:Value}(h:W.cell? a=some v)(hne:some a.block≠row):w1.cell? a=some v:=by
 have:=hg.block a.block (World.block_lt_of_cell? W a h) hne
 simpa [World.cell?,this] using h
namespace Kd
section
variable{α:Type}{d:Kd α}{e base:Nat}{ok:Nat->Prop}{W w1:World}{v:Value}{xs:List α}
theorem J7(h:d.R e W base ok v xs)(hE:d.E=[]){row:Option Nat}(hg:W.grownBy w1 row)(hne:∀ k,row=some k->some k≠v.ownBlock):d.R e w1 base ok v xs :=
 fK (Nd (Gx hE h) hg (fun k hk e_=>hne k e_.symm hk)) (fun k hk=>h.1 k hk.symm)
end
section
variable{α:Type}{d:Kd α}{e base g n cap:Nat}{ok Y4 uJ:Nat->Prop}{W:World}{xs:List α}{i:Int}{c:List Value}
end
section
variable{α:Type}{d:Kd α}{e base b b' g N:Nat}{ok ok1:Nat->Prop}{W W2 w1:World}{u v:Value}{xs ys:List α}{S:Nat->Prop}
end
end Kd
end Go.Proofs.YtcaallkkeighdaaGreatDoor.aD
namespace Go.Proofs.YtcaallkkeighdaaGreatDoor.aD
open Go.RowKit
namespace Kd
section
variable{α β:Type}{d:Kd α}{e base base' n m c g N' lo hi:Nat}{ok ok' S:Nat->Prop}{w W w1:World}{A:Option Addr}{ad:Addr}{u v v1:Value}{xs:List α}
end
end Kd
end Go.Proofs.YtcaallkkeighdaaGreatDoor.aD
