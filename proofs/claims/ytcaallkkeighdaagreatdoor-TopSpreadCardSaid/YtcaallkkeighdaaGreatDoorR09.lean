/- Tools of these texts: a frame over chosen blocks;regions that draw their order whose callees make memory of their own,walked once in the order of the text. What metric.Check answers: for every paragraph of at most 300 bytes,spans and marks. -/
import Derived.StillTail
import Derived.Test.YtcaallkkeighdaaGreatDoorR08
import Derived.Test.YtcaallkkeighdaaGreatDoorR07
set_option maxRecDepth 100000
set_option maxHeartbeats 16000000
set_option linter.unusedVariables false
set_option linter.unusedSimpArgs false
namespace Go.Proofs.YtcaallkkeighdaaGreatDoor.P
open Go.RowKit aD aQ aR
structure fB(S:Nat->Prop)(w w':World):Prop where
 os:w'.os=w.os
 tape:w'.tape=w.tape
 output:w'.output=w.output
 size:w.heap.size<=w'.heap.size
 block:∀ k,k < w.heap.size->¬ S k->w'.heap[k]? = w.heap[k]?
section
variable{S S':Nat->Prop}{a b c w w':World}
theorem fB.refl(S:Nat->Prop)(w:World):fB S w w:=⟨rfl,rfl,rfl,Nat.le_refl _,fun _ _ _=>rfl⟩
theorem fB.trans(h:fB S a b)(k:fB S b c):fB S a c :=
 ⟨k.os.trans h.os,k.tape.trans h.tape,k.output.trans h.output,Nat.le_trans h.size k.size,fun i hi hs=>(k.block i (by have:=h.size;omega) hs).trans (h.block i hi hs)⟩
theorem fB.then_(h:fB S a b)(k:fB S' b c)(hS:∀ i,i < a.heap.size->S' i->S i):fB S a c :=
 ⟨k.os.trans h.os,k.tape.trans h.tape,k.output.trans h.output,Nat.le_trans h.size k.size,fun i hi hs=>(k.block i (by have:=h.size;omega) (fun q=>hs (hS i hi q))).trans (h.block i hi hs)⟩
theorem fB.alloc(h:fB S a w)(o:Obj):fB S a (w.alloc o):=h.trans ⟨rfl,rfl,rfl,by simp,fun k hk _=>Below.heap_alloc _ _ _ hk⟩
theorem fB.drew(h:fB S a w):fB S a w.drew:=⟨h.os,h.tape,h.output,h.size,h.block⟩
theorem fB.set(h:fB S a w)(g i:Nat)(u:Value)(hg:S g\/a.heap.size<=g):fB S a (w.setCell ⟨g,i,none⟩ u) :=
 ⟨h.os,h.tape,h.output,Nat.le_trans h.size (by simp[World.setCell]),fun k hk hs=>(Below.heap_setCell w ⟨g,i,none⟩ u k (fun e=>by subst e;rcases hg with q|q;exact hs q;exact absurd hk (Nat.not_lt.mpr q))).trans (h.block k hk hs)⟩
theorem fB.ji{B:Nat}(h:Below B a b)(hB:a.heap.size<=B):fB S a b:=⟨h.os,h.tape,h.output,h.size,fun k hk _=>h.block k (by omega)⟩
theorem fB.below(h:fB S a b){B:Nat}(hB:B<=a.heap.size)(hS:∀ k,S k->B<=k):Below B a b:=⟨h.os,h.tape,h.output,h.size,fun k hk=>h.block k (by omega) (fun q=>by have:=hS k q;omega)⟩
theorem fB.NQ{row:Option Nat}(h:a.grownBy b row):fB (fun k=>some k=row) a b:=⟨h.os,h.tape,h.output,h.size,h.block⟩
theorem fB.grown{row:Option Nat}(h:fB S a b)(k:b.grownBy c row)(hS:∀ i,some i=row->S i\/a.heap.size<=i):fB S a c :=
 h.then_ (fB.NQ k) (fun i hi e=>(hS i e).resolve_right (by omega))
theorem fB.blk(h:fB S a b){g:Nat}{o:Obj}(hb:a.heap[g]? = some o)(hS:¬ S g):b.heap[g]? = some o:=(h.block g (aY hb) hS).trans hb
theorem fB.cell(h:fB S a b){p:Addr}{v:Value}(hc:a.cell? p=some v)(hS:¬ S p.block):b.cell? p=some v:=(World.cell?_of_block (w:=a) (h.block p.block (World.block_lt_of_cell? a p hc) hS)).trans hc
theorem fB.C{α:Type}{d:Kd α}{e base:Nat}{ok:Nat->Prop}{v:Value}{xs:List α}(h:fB S a b)(hR:d.R e a base ok v xs)(hS:∀ k,ok k->k < a.heap.size->¬ S k):d.R e b base ok v xs :=
 Kd.qH hR (fun k ho hk=>h.block k hk (hS k ho hk))
end
theorem dh{k:IntKind}{a b:Int}(h:b=a):Ending.returned (.int k a)=.returned (.int k b):=by rw[h]
theorem dQ{a b:Bool}(h:b=a):Ending.returned (.bool a)=.returned (.bool b):=by rw[h]
structure Bx(w:World) where
 W:World
 hb:Below w.heap.size w W
instance (w:World):Nonempty (Bx w):=⟨⟨w,Below.refl _ w⟩⟩
theorem Bx.cell{w:World}{p:Addr}{v:Value}(h:w.cell? p=some v)(i:Bx w):i.W.cell? p=some v:=(i.hb.cell (World.block_lt_of_cell? w p h)).trans h
theorem Bx.blk{w:World}{g:Nat}{o:Obj}(h:w.heap[g]? = some o)(i:Bx w):i.W.heap[g]? = some o:=ay h i.hb
theorem Bx.cu{P:Program}{f:FuncId}{args:Array Value}{w:World}{i:Bx w}{v:Value}(h:Calls P f args i.W fun e w'=>e=.returned v/\Below i.W.heap.size i.W w') :
  Calls P f args i.W fun e w''=>e=.returned v/\∃ j:Bx w,w''=j.W:=h.mono fun _ _ ⟨he,hb⟩=>⟨he,⟨⟨_,i.hb.trans (hb.mono i.hb.size)⟩,rfl⟩⟩
theorem Bx.Kt{P:Program}{f:FuncId}{args:Array Value}{w:World}{i:Bx w}{v:Value}(h:Calls P f args i.W fun e w'=>e=.returned v/\aU i.W w') :
  Calls P f args i.W fun e w''=>e=.returned v/\∃ j:Bx w,w''=j.W:=Bx.cu (h.mono fun _ _ ⟨he,hb⟩=>⟨he,hb.below⟩)
theorem Bx.of_same{P:Program}{f:FuncId}{args:Array Value}{w:World}{i:Bx w}{v:Value}(h:Calls P f args i.W fun e w'=>e=.returned v/\w'=i.W) :
  Calls P f args i.W fun e w''=>e=.returned v/\∃ j:Bx w,w''=j.W:=h.mono fun _ _ ⟨he,hb⟩=>⟨he,i,hb⟩
section
variable{P:Program}{ops:Array Oper}{md:Region.Mode}{C:World->Prop}
theorem aZ{id:Nat}{Q:Exit->Act->World->Prop}{a:Act}{w:World}{l:List Oper}(hm:P.follows .mixedOrders=true)(hB:Region.lexB .any l.toArray=true)
  (h:wpQuiet P l.toArray (fun w'=>∃ i:Bx w,w'=i.W) (fun a'=>∀ w',Below w.heap.size w w'->Q .normal a' w') l a):(Code.region id l.toArray true).wp P Q a w :=
 wp_region_quiet (C:=fun w'=>∃ i:Bx w,w'=i.W) hm hB ⟨⟨_,(Below.refl _ w).drew⟩,rfl⟩
  (by
   suffices hh:∀ (l':List Oper) (a:Act),wpQuiet P l.toArray (fun w'=>∃ i:Bx w,w'=i.W) (fun a'=>∀ w',Below w.heap.size w w'->Q .normal a' w') l' a->wpQuiet P l.toArray (fun w'=>∃ i:Bx w,w'=i.W) (fun a'=>∀ w',(∃ i:Bx w,w'=i.W)->Q .normal a' w') l' a by simpa using hh l a h
   intro l'
   induction l' with
   | nil=>rintro a h w' ⟨i,rfl⟩;exact h _ i.hb
   | cons o rest ih =>
    intro a h;unfold wpQuiet at h ⊢;split
    .rename_i hw;rw[if_pos hw] at h;exact Oper.quiet_mono (fun a' h'=>ih a' h') h
    .rename_i hw;rw[if_neg hw] at h;exact ih _ h)
def rW(P:Program)(md:Region.Mode)(ops:Array Oper)(C:World->Prop)(n:Nat)(L:Array Bool->Act->Prop):Nat->Array Bool->Act->Prop
 | 0,listed,a=>L listed a
 | f+1,listed,a=>Region.ready md ops listed≠[]/\∀ i∈Region.ready md ops listed,i < n/\qOp P ops C i (rW P md ops C n L f (listed.setIfInBounds i true)) a
theorem tP{n g:Nat}{L:Array Bool->Act->Prop}{Q':Exit->Act->World->Prop}(hL:∀ listed a w,C w->L listed a->wpAny P md ops Q' g listed a w) :
  ∀ (f:Nat) (listed:Array Bool) (a:Act) (w:World),C w->rW P md ops C n L f listed a->wpAny P md ops Q' (f+g) listed a w
 | 0,listed,a,w,hw,h=>by rw[Nat.zero_add];exact hL _ _ _ hw h
 | f+1,listed,a,w,hw,h=>by
  rw[Nat.add_right_comm];exact⟨fun h0=>absurd h0 h.1,fun i hi=>wpOp_of_qOp hw (fun a' w' hw' h'=>tP hL f _ a' w' hw' h') (h.2 i hi).2⟩
theorem CO{n i:Nat}{oi:Oper}{v:Value}{L:Array Bool->Act->Prop}(hi:ops[i]? = some oi)(hsel:∀ (j:Nat) (o:Oper) cs b,ops[j]? = some o->o.op≠.select cs b)
  (hs:Region.sinkB md ops n=true) (hc:Region.chainB md ops n=true) (hn:n < ops.size) (hin:i < n) (hdone:∀ listed a,L listed a->∀ j∈Region.ready md ops listed,n<=j)
  (f:Nat):∀ (listed:Array Bool) (a:Act),HeadInv md ops n listed ->
   (∀ j oj,ops[j]? = some oj->j≠i->listed.getD j true=false->(∀ e∈oj.after,Region.binds md e=true->e.on≠i)->oi.apart ops oj=true) ->
   i∈Region.ready md ops listed->YieldsIn P ops C oi v a->rW P md ops C n L f (listed.setIfInBounds i true) (a.put oi.dst v)->rW P md ops C n L (f+1) listed a:=by
 induction f with
 | zero =>
  intro listed a inv _ hr hy H;refine⟨List.ne_nil_of_mem hr,fun j hj=>?_⟩;have hjn:j < n:=Nat.lt_of_not_le fun h=>tail_waits hs hc hn inv _ i rfl hin (mem_ready.1 hr).1 j h hj
  refine⟨hjn,?_⟩;by_cases hji:j=i
  .subst hji;exact hy.qOp hi H
  .exact absurd (hdone _ _ H j (ready_mono hj hji)) (by omega)
 | succ f ih =>
  intro listed a inv hfree hr hy H;refine⟨List.ne_nil_of_mem hr,fun j hj=>?_⟩;have hun:=(mem_ready.1 hr).1;have hjn:j < n:=Nat.lt_of_not_le fun h=>tail_waits hs hc hn inv _ i rfl hin hun j h hj
  refine⟨hjn,?_⟩;by_cases hji:j=i
  .subst hji;exact hy.qOp hi H
  .obtain⟨hjun,oj,hoj,hall⟩:=mem_ready.1 hj;have hnot:∀ e∈oj.after,Region.binds md e=true->e.on≠i:=fun e he hb heq=>by
    have h1:=hall e he hb;rw[heq,getD_both hun] at h1;cases h1
   refine qOp_mono (fun a' h3=>ih _ a' (inv.set hj hjn) (fun k ok hk hki SW hno=>hfree k ok hk hki ?_ hno) (ready_mono hr (Ne.symm hji)) h3.1 (by rw[Array.setIfInBounds_comm _ _ hji];exact h3.2))
    (qOp_put hoj (hfree j oj hoj hji hjun hnot) (fun cs b=>hsel i oi cs b hi) (fun cs b=>hsel j oj cs b hoj) hy (H.2 j (ready_mono hj hji)).2)
   by_cases hjk:j=k
   .subst hjk;exact hjun
   .rw[getD_set_ne true hjk] at SW;exact SW
theorem tQ{n g:Nat}{Lq:Act->Prop}(hsel:Region.noSelect ops=true)(hs:Region.sinkB md ops n=true)(hc:Region.chainB md ops n=true)(hn:n < ops.size) :
  ∀ (l:List Oper) (k:Nat) (listed:Array Bool) (a:Act),(∀ j,j < l.length->l[j]? = ops[k+j]?)->k+l.length=n->HeadInv md ops n listed ->
  Region.lexHead md ops g l.length k listed=true->wpQuiet P ops C Lq l a->rW P md ops C n (fun listed' a'=>Region.seqB md ops g n listed'=true/\Lq a') l.length listed a
 | [],k,listed,a,_,hk,_,hB,h=>by
  obtain rfl:k=n:=by simpa using hk
  exact⟨by simpa [Region.lexHead] using hB,h⟩
 | o :: l,k,listed,a,hl,hk,inv,hB,h=>by
  have h0:ops[k]? = some o:=by simpa using (hl 0 (by simp)).symm
  simp only[List.length_cons,Region.lexHead,Bool.and_eq_true] at hB;simp only[List.length_cons] at hk;have hr':k∈Region.ready md ops listed:=by simpa using hB.1.1
  obtain⟨v,hy,hK⟩:=yieldsIn_of_qOp (P:=P) (C:=C) (K:=wpQuiet P ops C Lq l) h0 (by unfold qOp;simp only[h0];exact h)
  exact CO h0 (Region.noSelect_spec hsel) hs hc hn (by omega) (fun listed' a' hL=>seqB_ready hL.1) l.length listed a inv (Region.free_spec h0 hB.1.2) hr' hy
   (tQ hsel hs hc hn l (k+1) _ _ (fun j hj=>by have:=hl (j+1) (by simp;omega);simpa [Nat.add_assoc,Nat.add_comm 1 j] using this) (by omega) (inv.set hr' (by omega)) hB.2 hK)
theorem cE{id:Nat}{Q:Exit->Act->World->Prop}{a:Act}{w:World}{l:List Oper}(n:Nat)(hm:P.follows .mixedOrders=true)(hB:Region.lexTailB .any l.toArray n=true)
  (h:wpQuiet P l.toArray (fun w'=>∃ i:Bx w,w'=i.W) (fun a'=>∀ w',Below w.heap.size w w'->wpList P l.toArray Q (l.drop n) a' w') (l.take n) a):(Code.region id l.toArray true).wp P Q a w:=by
 simp only[Region.lexTailB,Bool.and_eq_true,decide_eq_true_eq] at hB;obtain⟨⟨⟨⟨hsel,hn⟩,hs⟩,hc⟩,hlex⟩:=hB;have hn':n < l.length:=by simpa using hn
 have htl:(l.take n).length=n:=by simp;omega
 have hdl:(l.drop n).length=l.toArray.size - n:=by simp
 have inv0:HeadInv .any l.toArray n (Array.replicate l.toArray.size false) :=
  ⟨by simp,fun j oj _ hl=>(by rw[getD_replicate_false] at hl;cases hl),fun t _ ht=>getD_in (by simpa using ht) (getD_replicate_false _ _)⟩
 have H:=tQ (md:=.any) (g:=l.toArray.size - n) hsel hs hc hn (l.take n) 0 _ a (fun j hj=>by
  have hj':j < n:=by rw[htl] at hj;exact hj
  simp[hj']) (by simpa using htl) inv0 (by rw[htl];exact hlex) h
 refine wp_region_any hm ?_;have:=tP (Q':=Q) (g:=l.toArray.size - n) (fun listed a' w' hw hL=>by
  obtain⟨i,rfl⟩:=hw;have h1:=wpAny_of_seq (Q':=Q) (l.drop n) n listed a' i.W (fun j=>by simp) (by rw[hdl];exact hL.1) (hL.2 _ i.hb);rw[hdl] at h1;exact h1) _ _ _ _ ⟨⟨_,(Below.refl _ w).drew⟩,rfl⟩ H
 rw[htl,Nat.add_sub_cancel' (Nat.le_of_lt (by simpa using hn))] at this;exact this
theorem jj{w:World}{o:Oper}{a:Act}{K:Act->Prop}(ty:TypeId)(x:Operand)(ho:o.op=.load ty x)(g:Nat)(hx:a.eval x=.pointer (some ⟨g,0,none⟩))(t:TypeId)(cs:Array Value)(fr:Nat × Nat)(d:TypeDesc)
  (hg:∀ i:Bx w,i.W.heap[g]? = some (.cells cs t fr)) (hu:P.underlying ty=some d) (hd:(match d with|.struct _|.array _ _=>true|_=>false)=true) (hi:(P.info? ty).map (·.size)=some cs.size)
  (hk:K (a.put o.dst (.agg cs))):o.quiet P a (fun w'=>∃ i:Bx w,w'=i.W) K :=
 ⟨.agg cs,fun w' ⟨i,e⟩=>by
  subst e;unfold Oper.quietAt execOp;simp only[ho,hx,Instr.loadAt,Instr.sureAddr,Sem.run_bind,Sem.run_pure,Result.andThen_ok,run_loadVar_row i.W g t ty cs fr d (hg i) hu hd hi];exact⟨rfl,rfl⟩,hk⟩
end
end Go.Proofs.YtcaallkkeighdaaGreatDoor.P
namespace Go.Proofs.YtcaallkkeighdaaGreatDoor.P
open Go.RowKit aD aQ aR
structure Pa where
 tx:ByteArray
 sp:List S123
 pr:Pr
 lb:ByteArray
 ma:List ByteArray
structure Pa.small(p:Pa):Prop where
 tx:p.tx.size<=300
 sp:p.sp.length<=300
 ma:p.ma.length<=300
 lb:p.lb.size<=maxLen
 Si:∀ m∈p.ma,m.size<=maxLen
structure dK(w:World)(p:Pa)(As:Option Addr)(cs:Nat)(Am:Option Addr)(cm:Nat):Prop where
 sp:Kd.C k123 w As p.sp.length p.sp
 cs:p.sp.length<=cs
 ma:Kd.string.C w Am p.ma.length p.ma
 cm:p.ma.length<=cm
theorem dK.below{w w':World}{p:Pa}{As Am:Option Addr}{cs cm:Nat}(h:dK w p As cs Am cm)(hb:Below w.heap.size w w'):dK w' p As cs Am cm :=
 ⟨Kd.aM h.sp hb,h.cs,Kd.aM h.ma hb,h.cm⟩
def j7(c:S121):Bool:=decide (0<=c.f0/\c.f0<=64/\0<=c.f1/\c.f1<=15/\(c.f2=0\/c.f2=1))
def iz:List S123->Int->Bool
 | [],n=>n == 0
 | s :: l,n=>if s.f0 < 1\/n < s.f0\/j7 s.f1=false then false else iz l (n - s.f0)
theorem Qp(a b c:Int):gZ.f a b c=some (j7 ⟨a,b,c⟩):=by
 unfold gZ.f j7;by_cases h1:0<=a<;>by_cases h2:a<=64<;>by_cases h3:0<=b<;>by_cases h4:b<=15<;>by_cases h5:c=0<;>simp[h1,h2,h3,h4,h5];rw[Bool.eq_iff_iff];simp
theorem CP(l:List S123)(hl:l.length<=300):∀ d i n,i+d=l.length->0<=n->n<=300->cR.l0 (d+1) n l (l.length:Int) (i:Int)=some (iz (l.drop i) n)
 | 0,i,n,h,_,_=>by
  rw[cR.l0,if_neg (by omega),List.drop_eq_nil_of_le (by omega)];rfl
 | d+1,i,n,h,h0,h1=>by
  have hi:i < l.length:=by omega
  have hr:bI l (i:Int)=l[i]:=by unfold bI;simp[List.getD_eq_getElem?_getD,List.getElem?_eq_getElem hi]
  have e1:wrap64 ((i:Int)+1)=((i+1:Nat):Int):=by rw[dN _ (by omega)];omega
  rw[cR.l0,if_pos (by omega),if_pos (by omega),if_pos (by omega),hr,List.drop_eq_getElem_cons hi,e1];generalize l[i]=s;simp only[iz];by_cases c1:s.f0 < 1
  .rw[if_pos c1,if_pos (.inl c1)]
  .by_cases c2:s.f0 > n
   .rw[if_neg c1,if_pos c2,if_pos (.inr (.inl c2))]
   .rw[if_neg c1,if_neg c2,Qp];simp only[Option.bind_some];by_cases c3:j7 s.f1=true
    .rw[if_pos (show j7 ⟨s.f1.f0,s.f1.f1,s.f1.f2⟩=true from c3),if_neg (by rw[c3];simp;omega),dN (n - s.f0) (by omega)];exact CP l hl d (i+1) (n - s.f0) (by omega) (by omega) (by omega)
    .rw[if_neg (show ¬ j7 ⟨s.f1.f0,s.f1.f1,s.f1.f2⟩=true from c3),if_pos (.inr (.inr (by simpa using c3)))]
theorem NR(l:List S123)(n:Int)(hl:l.length<=300)(h0:0<=n)(h1:n<=300):cR.f (l.length+1) l n=some (iz l n):=CP l hl l.length 0 n (by omega) h0 h1
theorem jN(p:Pa){As:Option Addr}{cs:Nat}{w:World}(hs:Kd.C k123 w As p.sp.length p.sp)(hc:p.sp.length<=cs)(hz:p.small)(r:Bool)(hr:iz p.sp (p.tx.size:Int)=r) :
  Calls Tryz.prog 67 #[.slice As p.sp.length cs,.int .i64 (p.tx.size:Int)] w fun e w'=>e=.returned (.bool r)/\Below w.heap.size w w' :=
 cR.calls _ As cs p.sp (p.tx.size:Int) r w hs hc (by rw[NR p.sp _ hz.sp (by omega) (by have:=hz.tx;omega),hr])
def gB(m:ByteArray):Bool:=decide (m.size≠0) && gN m 8
def mF(s:ByteArray):Bool:=decide (Lib.indexByte s.data.toList 3>=0)
def refs(s:ByteArray):Nat:=Lib.countByte s.data.toList 2
def jO(p:Pa):Bool:=!(iz p.sp (p.tx.size:Int)) || (!p.pr.ok || (!(gN p.lb 16) || decide (p.ma.length≠refs p.tx)))
def bB(p:Pa):Int:=if cB p.tx≠0 then cB p.tx else if mF p.tx=true then 4 else if jO p=true then 2 else if p.ma.all gB=true then 0 else 2
theorem uL(s:ByteArray)(w:World)(r:Bool)(hr:mF s=r):Calls Tryz.prog 66 #[.string s,.int .u8 3] w fun e w'=>(∃ x:Int,e=.returned (.int .i64 x)/\decide (x>=0)=r)/\w'=w :=
 (Tryz.strings_IndexByte s 3 w).mono (fun e w' h=>⟨⟨_,h.1,hr⟩,h.2⟩)
theorem uM(s:ByteArray)(w:World):Calls Tryz.prog 70 #[.string s,.string ⟨#[2]⟩] w fun e w'=>e=.returned (.int .i64 (refs s:Int))/\w'=w:=Tryz.strings_Count_one s 2 w
theorem vK(p:Pr){r:Bool}(w:World)(h:p.ok=r):Calls Tryz.prog 68 #[.agg #[.int .i64 p.f0,.int .i64 p.f1,.int .i64 p.f2,.int .i64 p.f3,.int .i64 p.f4,.int .i64 p.f5,.int .i64 p.f6,.int .i64 p.f7,.int .i64 p.f8,.int .i64 p.f9,.int .i64 p.f10,.int .i64 p.f11,.int .i64 p.f12,.int .i64 p.f13,.int .i64 p.f14,.int .i64 p.f15,.int .i64 p.f16]] w fun e w'=>e=.returned (.bool r)/\Below w.heap.size w w':=h ▸ CH p w
theorem rX(s:ByteArray)(m:Int){r:Bool}(w:World)(hs:s.size<=maxLen)(h:gN s m=r):Calls Tryz.prog 69 #[.string s,.int .i64 m] w fun e w'=>e=.returned (.bool r)/\Below w.heap.size w w':=h ▸ CG s m w hs
theorem Bh(s:ByteArray)(w:World)(r:Int)(hr:cB s=r):Calls Tryz.prog 8 #[.string s] w fun e w'=>∃ v:Value,e=.returned (.tuple #[v,.int .i64 r])/\Below w.heap.size w w' :=
 (iK.calls 0 s (gL s).1 (gL s).2 w rfl).mono (fun e w' h=>by
  obtain⟨v,rfl,_,hb⟩:=h;refine⟨v,?_,hb⟩;have:(gL s).2=r:=by unfold gL;split<;>simp_all
  rw[this])
theorem Bj(p:Pa){As Am:Option Addr}{cs cm:Nat}(w:World)(hA:dK w p As cs Am cm)(hz:p.small)(co:Int)(yM:bB p=co):Calls Tryz.prog 28 #[.agg #[.string p.tx,.slice As p.sp.length cs,.int .i64 p.pr.f0,.int .i64 p.pr.f1,.int .i64 p.pr.f2,.int .i64 p.pr.f3,.int .i64 p.pr.f4,.int .i64 p.pr.f5,.int .i64 p.pr.f6,.int .i64 p.pr.f7,.int .i64 p.pr.f8,.int .i64 p.pr.f9,.int .i64 p.pr.f10,.int .i64 p.pr.f11,.int .i64 p.pr.f12,.int .i64 p.pr.f13,.int .i64 p.pr.f14,.int .i64 p.pr.f15,.int .i64 p.pr.f16,.string p.lb,.slice Am p.ma.length cm]] w fun e w'=>e=.returned (.int .i64 co)/\Below w.heap.size w w':=by
 have HA:=aj hA;have HZ:=aj hz;clear hA hz;by_cases c1:cB p.tx=0
 .have d1:(cB p.tx != 0)=false:=by rw[c1];rfl
  have Pb:=aj c1;by_cases c2:mF p.tx=true
  .have HF:=aj (show co=4 by rw[<-yM];unfold bB;rw[if_neg (by simp[c1]),if_pos c2]);have MP:=aj c2;clear c1 c2 yM;go_enter Tryz.func28,Tryz.ntmps28;go_wp2_with (first|((with_reducible refine aS (N:=1) rfl ?_);go_loud(refine cK ?hg (N:=1) ?hd (cs:=#[.string p.tx,.slice As p.sp.length cs,.int .i64 p.pr.f0,.int .i64 p.pr.f1,.int .i64 p.pr.f2,.int .i64 p.pr.f3,.int .i64 p.pr.f4,.int .i64 p.pr.f5,.int .i64 p.pr.f6,.int .i64 p.pr.f7,.int .i64 p.pr.f8,.int .i64 p.pr.f9,.int .i64 p.pr.f10,.int .i64 p.pr.f11,.int .i64 p.pr.f12,.int .i64 p.pr.f13,.int .i64 p.pr.f14,.int .i64 p.pr.f15,.int .i64 p.pr.f16,.string p.lb,.slice Am p.ma.length cm]) (t:=27) ?hr ?_;(case hd=>rfl);(case hg=>rfl);(case hr=>first|(go_simp;done)|(go_simp;rfl));intro gb0 hg0 w0 hx0 hb0;have HX:=aj hx0;have HB:=aj hb0;have x0:=(ak HX.out 0).trans rfl;have x1:=(ak HX.out 1).trans rfl;have x2:=(ak HX.out 2).trans rfl;have x3:=(ak HX.out 3).trans rfl;have x4:=(ak HX.out 4).trans rfl;have x5:=(ak HX.out 5).trans rfl;have x6:=(ak HX.out 6).trans rfl;have x7:=(ak HX.out 7).trans rfl;have x8:=(ak HX.out 8).trans rfl;have x9:=(ak HX.out 9).trans rfl;have x10:=(ak HX.out 10).trans rfl;have x11:=(ak HX.out 11).trans rfl;have x12:=(ak HX.out 12).trans rfl;have x13:=(ak HX.out 13).trans rfl;have x14:=(ak HX.out 14).trans rfl;have x15:=(ak HX.out 15).trans rfl;have x16:=(ak HX.out 16).trans rfl;have x17:=(ak HX.out 17).trans rfl;have x18:=(ak HX.out 18).trans rfl;have x19:=(ak HX.out 19).trans rfl;have x20:=(ak HX.out 20).trans rfl;clear hx0 hb0 hg0))|(go_at_call 8;go_loud(refine(Bh p.tx _ _ Pb.out).mono ?_;rintro e w7 ⟨v7,rfl,hb7⟩;have HX:=aj (ay (by exact HX.out) hb7);have HB:=aj (Below.trans (a:=w) (by repeat(first|exact HB.out|apply aA|apply aG)) (hb7.mono (by exact HB.out.size)));have x0:=(ak HX.out 0).trans rfl;have x1:=(ak HX.out 1).trans rfl;have x2:=(ak HX.out 2).trans rfl;have x3:=(ak HX.out 3).trans rfl;have x4:=(ak HX.out 4).trans rfl;have x5:=(ak HX.out 5).trans rfl;have x6:=(ak HX.out 6).trans rfl;have x7:=(ak HX.out 7).trans rfl;have x8:=(ak HX.out 8).trans rfl;have x9:=(ak HX.out 9).trans rfl;have x10:=(ak HX.out 10).trans rfl;have x11:=(ak HX.out 11).trans rfl;have x12:=(ak HX.out 12).trans rfl;have x13:=(ak HX.out 13).trans rfl;have x14:=(ak HX.out 14).trans rfl;have x15:=(ak HX.out 15).trans rfl;have x16:=(ak HX.out 16).trans rfl;have x17:=(ak HX.out 17).trans rfl;have x18:=(ak HX.out 18).trans rfl;have x19:=(ak HX.out 19).trans rfl;have x20:=(ak HX.out 20).trans rfl;clear hb7))|(go_at_call 66;go_loud(refine(uL p.tx _ _ MP.out).mono ?_;rintro e w7 ⟨⟨i7,rfl,hi7⟩,q_⟩;have q_:=q_.symm;subst q_;have hi7:=hi7)));go_ret;exact⟨dh HF.out,by repeat(first|exact HB.out|apply aA|apply aG)⟩
  .have H6:mF p.tx=false:=by simpa using c2
   have MP:=aj H6;have MS:=aj (show co=if jO p=true then 2 else if p.ma.all gB=true then 0 else 2 by rw[<-yM];unfold bB;rw[if_neg (by simp[c1]),if_neg c2]);clear c1 c2 H6 yM;go_enter Tryz.func28,Tryz.ntmps28;go_upto_region 6 with(first|((with_reducible refine aS (N:=1) rfl ?_);go_loud(refine cK ?hg (N:=1) ?hd (cs:=#[.string p.tx,.slice As p.sp.length cs,.int .i64 p.pr.f0,.int .i64 p.pr.f1,.int .i64 p.pr.f2,.int .i64 p.pr.f3,.int .i64 p.pr.f4,.int .i64 p.pr.f5,.int .i64 p.pr.f6,.int .i64 p.pr.f7,.int .i64 p.pr.f8,.int .i64 p.pr.f9,.int .i64 p.pr.f10,.int .i64 p.pr.f11,.int .i64 p.pr.f12,.int .i64 p.pr.f13,.int .i64 p.pr.f14,.int .i64 p.pr.f15,.int .i64 p.pr.f16,.string p.lb,.slice Am p.ma.length cm]) (t:=27) ?hr ?_;(case hd=>rfl);(case hg=>rfl);(case hr=>first|(go_simp;done)|(go_simp;rfl));intro gb0 hg0 w0 hx0 hb0;have HX:=aj hx0;have HB:=aj hb0;have x0:=(ak HX.out 0).trans rfl;have x1:=(ak HX.out 1).trans rfl;have x2:=(ak HX.out 2).trans rfl;have x3:=(ak HX.out 3).trans rfl;have x4:=(ak HX.out 4).trans rfl;have x5:=(ak HX.out 5).trans rfl;have x6:=(ak HX.out 6).trans rfl;have x7:=(ak HX.out 7).trans rfl;have x8:=(ak HX.out 8).trans rfl;have x9:=(ak HX.out 9).trans rfl;have x10:=(ak HX.out 10).trans rfl;have x11:=(ak HX.out 11).trans rfl;have x12:=(ak HX.out 12).trans rfl;have x13:=(ak HX.out 13).trans rfl;have x14:=(ak HX.out 14).trans rfl;have x15:=(ak HX.out 15).trans rfl;have x16:=(ak HX.out 16).trans rfl;have x17:=(ak HX.out 17).trans rfl;have x18:=(ak HX.out 18).trans rfl;have x19:=(ak HX.out 19).trans rfl;have x20:=(ak HX.out 20).trans rfl;clear hx0 hb0 hg0))|(go_at_call 8;go_loud(refine(Bh p.tx _ _ Pb.out).mono ?_;rintro e w7 ⟨v7,rfl,hb7⟩;have HX:=aj (ay (by exact HX.out) hb7);have HB:=aj (Below.trans (a:=w) (by repeat(first|exact HB.out|apply aA|apply aG)) (hb7.mono (by exact HB.out.size)));have x0:=(ak HX.out 0).trans rfl;have x1:=(ak HX.out 1).trans rfl;have x2:=(ak HX.out 2).trans rfl;have x3:=(ak HX.out 3).trans rfl;have x4:=(ak HX.out 4).trans rfl;have x5:=(ak HX.out 5).trans rfl;have x6:=(ak HX.out 6).trans rfl;have x7:=(ak HX.out 7).trans rfl;have x8:=(ak HX.out 8).trans rfl;have x9:=(ak HX.out 9).trans rfl;have x10:=(ak HX.out 10).trans rfl;have x11:=(ak HX.out 11).trans rfl;have x12:=(ak HX.out 12).trans rfl;have x13:=(ak HX.out 13).trans rfl;have x14:=(ak HX.out 14).trans rfl;have x15:=(ak HX.out 15).trans rfl;have x16:=(ak HX.out 16).trans rfl;have x17:=(ak HX.out 17).trans rfl;have x18:=(ak HX.out 18).trans rfl;have x19:=(ak HX.out 19).trans rfl;have x20:=(ak HX.out 20).trans rfl;clear hb7))|(go_at_call 66;go_loud(refine(uL p.tx _ _ MP.out).mono ?_;rintro e w7 ⟨⟨i7,rfl,hi7⟩,q_⟩;have q_:=q_.symm;subst q_;have hi7:=hi7)));go_cut [47] (fun v47 wx=>v47=.bool (jO p)/\aC (wx.heap[gb0]? = some (.cells #[.string p.tx,.slice As p.sp.length cs,.int .i64 p.pr.f0,.int .i64 p.pr.f1,.int .i64 p.pr.f2,.int .i64 p.pr.f3,.int .i64 p.pr.f4,.int .i64 p.pr.f5,.int .i64 p.pr.f6,.int .i64 p.pr.f7,.int .i64 p.pr.f8,.int .i64 p.pr.f9,.int .i64 p.pr.f10,.int .i64 p.pr.f11,.int .i64 p.pr.f12,.int .i64 p.pr.f13,.int .i64 p.pr.f14,.int .i64 p.pr.f15,.int .i64 p.pr.f16,.string p.lb,.slice Am p.ma.length cm] 27 (0,0)))/\aC (Below w.heap.size w wx))
   case first=>as_aux_lemma =>
    have HA2:=aj (dK.below HA.out HB.out);by_cases s1:iz p.sp (p.tx.size:Int)=true
    .have HS1:=aj s1;by_cases s2:p.pr.ok=true
     .have HS2:=aj s2;by_cases s3:gN p.lb 16=true
      .have HS3:=aj s3;by_cases s4:(p.ma.length:Int)=(refs p.tx:Int)
       .have g4:((p.ma.length:Int) != (refs p.tx:Int))=false:=(by simp[s4]);have En:=aj (show jO p=false by unfold jO;simp[s1,s2,s3];omega);clear s1 s2 s3 s4
        as_aux_lemma =>
        have y0:=Bx.cell x0;have y1:=Bx.cell x1;have y2:=Bx.cell x2;have y3:=Bx.cell x3;have y4:=Bx.cell x4;have y5:=Bx.cell x5;have y6:=Bx.cell x6;have y7:=Bx.cell x7;have y8:=Bx.cell x8;have y9:=Bx.cell x9;have y10:=Bx.cell x10;have y11:=Bx.cell x11;have y12:=Bx.cell x12;have y13:=Bx.cell x13;have y14:=Bx.cell x14;have y15:=Bx.cell x15;have y16:=Bx.cell x16;have y17:=Bx.cell x17;have y18:=Bx.cell x18;have y19:=Bx.cell x19;have y20:=Bx.cell x20;refine aZ (by kernel_rfl) (by kernel_rfl) ?_
        repeat(go_big_quiet_step (first|(go_at_call 67;exact Bx.cu (jN p (dK.below HA2.out (Bx.hb _)).sp HA2.out.cs HZ.out _ HS1.out))|(go_at_call 68;exact Bx.cu (vK p.pr _ HS2.out))|(go_at_call 69;exact Bx.cu (rX p.lb 16 _ HZ.out.lb HS3.out))|(go_at_call 70;exact Bx.of_same (uM p.tx _))))
        refine wpQuiet_nil ?_;intro w7 hb7;have HX:=aj (ay (by exact HX.out) hb7);have HB:=aj (Below.trans (a:=w) (by exact HB.out) (hb7.mono (by exact HB.out.size)));go_wp2;go_meet;exact⟨by rw[En.out],⟨by exact HX.out⟩,⟨by repeat(first|exact HB.out|apply aA|apply aG)⟩⟩
       .have g4:((p.ma.length:Int) != (refs p.tx:Int))=true:=(by simpa using s4);have En:=aj (show jO p=true by unfold jO;simp[s1,s2,s3];omega);clear s1 s2 s3 s4
        as_aux_lemma =>
        have y0:=Bx.cell x0;have y1:=Bx.cell x1;have y2:=Bx.cell x2;have y3:=Bx.cell x3;have y4:=Bx.cell x4;have y5:=Bx.cell x5;have y6:=Bx.cell x6;have y7:=Bx.cell x7;have y8:=Bx.cell x8;have y9:=Bx.cell x9;have y10:=Bx.cell x10;have y11:=Bx.cell x11;have y12:=Bx.cell x12;have y13:=Bx.cell x13;have y14:=Bx.cell x14;have y15:=Bx.cell x15;have y16:=Bx.cell x16;have y17:=Bx.cell x17;have y18:=Bx.cell x18;have y19:=Bx.cell x19;have y20:=Bx.cell x20;refine aZ (by kernel_rfl) (by kernel_rfl) ?_
        repeat(go_big_quiet_step (first|(go_at_call 67;exact Bx.cu (jN p (dK.below HA2.out (Bx.hb _)).sp HA2.out.cs HZ.out _ HS1.out))|(go_at_call 68;exact Bx.cu (vK p.pr _ HS2.out))|(go_at_call 69;exact Bx.cu (rX p.lb 16 _ HZ.out.lb HS3.out))|(go_at_call 70;exact Bx.of_same (uM p.tx _))))
        refine wpQuiet_nil ?_;intro w7 hb7;have HX:=aj (ay (by exact HX.out) hb7);have HB:=aj (Below.trans (a:=w) (by exact HB.out) (hb7.mono (by exact HB.out.size)));go_wp2;go_meet;exact⟨by rw[En.out],⟨by exact HX.out⟩,⟨by repeat(first|exact HB.out|apply aA|apply aG)⟩⟩
      .have s3':gN p.lb 16=false:=(by simpa using s3);have HS3:=aj s3';have En:=aj (show jO p=true by unfold jO;simp[s1,s2,s3']);clear s1 s2 s3 s3'
       as_aux_lemma =>
       have y0:=Bx.cell x0;have y1:=Bx.cell x1;have y2:=Bx.cell x2;have y3:=Bx.cell x3;have y4:=Bx.cell x4;have y5:=Bx.cell x5;have y6:=Bx.cell x6;have y7:=Bx.cell x7;have y8:=Bx.cell x8;have y9:=Bx.cell x9;have y10:=Bx.cell x10;have y11:=Bx.cell x11;have y12:=Bx.cell x12;have y13:=Bx.cell x13;have y14:=Bx.cell x14;have y15:=Bx.cell x15;have y16:=Bx.cell x16;have y17:=Bx.cell x17;have y18:=Bx.cell x18;have y19:=Bx.cell x19;have y20:=Bx.cell x20;refine aZ (by kernel_rfl) (by kernel_rfl) ?_
       repeat(go_big_quiet_step (first|(go_at_call 67;exact Bx.cu (jN p (dK.below HA2.out (Bx.hb _)).sp HA2.out.cs HZ.out _ HS1.out))|(go_at_call 68;exact Bx.cu (vK p.pr _ HS2.out))|(go_at_call 69;exact Bx.cu (rX p.lb 16 _ HZ.out.lb HS3.out))))
       refine wpQuiet_nil ?_;intro w7 hb7;have HX:=aj (ay (by exact HX.out) hb7);have HB:=aj (Below.trans (a:=w) (by exact HB.out) (hb7.mono (by exact HB.out.size)));go_wp2;go_meet;exact⟨by rw[En.out],⟨by exact HX.out⟩,⟨by repeat(first|exact HB.out|apply aA|apply aG)⟩⟩
     .have s2':p.pr.ok=false:=(by simpa using s2);have HS2:=aj s2';have En:=aj (show jO p=true by unfold jO;simp[s1,s2']);clear s1 s2 s2'
      as_aux_lemma =>
      have y0:=Bx.cell x0;have y1:=Bx.cell x1;have y2:=Bx.cell x2;have y3:=Bx.cell x3;have y4:=Bx.cell x4;have y5:=Bx.cell x5;have y6:=Bx.cell x6;have y7:=Bx.cell x7;have y8:=Bx.cell x8;have y9:=Bx.cell x9;have y10:=Bx.cell x10;have y11:=Bx.cell x11;have y12:=Bx.cell x12;have y13:=Bx.cell x13;have y14:=Bx.cell x14;have y15:=Bx.cell x15;have y16:=Bx.cell x16;have y17:=Bx.cell x17;have y18:=Bx.cell x18;have y19:=Bx.cell x19;have y20:=Bx.cell x20;refine aZ (by kernel_rfl) (by kernel_rfl) ?_
      repeat(go_big_quiet_step (first|(go_at_call 67;exact Bx.cu (jN p (dK.below HA2.out (Bx.hb _)).sp HA2.out.cs HZ.out _ HS1.out))|(go_at_call 68;exact Bx.cu (vK p.pr _ HS2.out))))
      refine wpQuiet_nil ?_;intro w7 hb7;have HX:=aj (ay (by exact HX.out) hb7);have HB:=aj (Below.trans (a:=w) (by exact HB.out) (hb7.mono (by exact HB.out.size)));go_wp2;go_meet;exact⟨by rw[En.out],⟨by exact HX.out⟩,⟨by repeat(first|exact HB.out|apply aA|apply aG)⟩⟩
    .have s1':iz p.sp (p.tx.size:Int)=false:=(by simpa using s1);have HS1:=aj s1';have En:=aj (show jO p=true by unfold jO;simp[s1']);clear s1 s1'
     as_aux_lemma =>
     have y0:=Bx.cell x0;have y1:=Bx.cell x1;have y2:=Bx.cell x2;have y3:=Bx.cell x3;have y4:=Bx.cell x4;have y5:=Bx.cell x5;have y6:=Bx.cell x6;have y7:=Bx.cell x7;have y8:=Bx.cell x8;have y9:=Bx.cell x9;have y10:=Bx.cell x10;have y11:=Bx.cell x11;have y12:=Bx.cell x12;have y13:=Bx.cell x13;have y14:=Bx.cell x14;have y15:=Bx.cell x15;have y16:=Bx.cell x16;have y17:=Bx.cell x17;have y18:=Bx.cell x18;have y19:=Bx.cell x19;have y20:=Bx.cell x20;refine aZ (by kernel_rfl) (by kernel_rfl) ?_
     repeat(go_big_quiet_step (first|(go_at_call 67;exact Bx.cu (jN p (dK.below HA2.out (Bx.hb _)).sp HA2.out.cs HZ.out _ HS1.out))))
     refine wpQuiet_nil ?_;intro w7 hb7;have HX:=aj (ay (by exact HX.out) hb7);have HB:=aj (Below.trans (a:=w) (by exact HB.out) (hb7.mono (by exact HB.out.size)));go_wp2;go_meet;exact⟨by rw[En.out],⟨by exact HX.out⟩,⟨by repeat(first|exact HB.out|apply aA|apply aG)⟩⟩
   case rest=>as_aux_lemma =>
    clear HX HB x0 x1 x2 x3 x4 x5 x6 x7 x8 x9 x10 x11 x12 x13 x14 x15 x16 x17 x18 x19 x20;obtain⟨rfl,HX,HB⟩:=hcut;have x0:=(ak HX.out 0).trans rfl;have x1:=(ak HX.out 1).trans rfl;have x2:=(ak HX.out 2).trans rfl;have x3:=(ak HX.out 3).trans rfl;have x4:=(ak HX.out 4).trans rfl;have x5:=(ak HX.out 5).trans rfl;have x6:=(ak HX.out 6).trans rfl;have x7:=(ak HX.out 7).trans rfl;have x8:=(ak HX.out 8).trans rfl;have x9:=(ak HX.out 9).trans rfl;have x10:=(ak HX.out 10).trans rfl;have x11:=(ak HX.out 11).trans rfl;have x12:=(ak HX.out 12).trans rfl;have x13:=(ak HX.out 13).trans rfl;have x14:=(ak HX.out 14).trans rfl;have x15:=(ak HX.out 15).trans rfl;have x16:=(ak HX.out 16).trans rfl;have x17:=(ak HX.out 17).trans rfl;have x18:=(ak HX.out 18).trans rfl;have x19:=(ak HX.out 19).trans rfl;have x20:=(ak HX.out 20).trans rfl;by_cases e1:jO p=true
    .have HF:=aj (show co=2 by rw[MS.out,if_pos e1]);rw[e1];clear e1;go_wp2;go_ret;exact⟨dh HF.out,by repeat(first|exact HB.out|apply aA|apply aG)⟩
    .have e2:jO p=false:=(by simpa using e1);have HC2:=aj (show co=if p.ma.all gB=true then 0 else 2 by rw[MS.out,if_neg e1]);rw[e2];clear e1 e2 MS;have HA2:=aj (dK.below HA.out HB.out);go_wp2;clear HX x0 x1 x2 x3 x4 x5 x6 x7 x8 x9 x10 x11 x12 x13 x14 x15 x16 x17 x18 x19 x20;go_loopw [51] (fun v51 wr=>∃ (x:Int) (i:Nat),v51=.int .i64 x/\aC (x=(i:Int))/\aC (i<=p.ma.length)/\aC (p.ma.all gB=(p.ma.drop i).all gB)/\aC (Below w.heap.size w wr)) (fun v51 _=>p.ma.length - (intOf v51).toNat)
     case atStart=>exact⟨0,0,rfl,⟨rfl⟩,⟨Nat.zero_le _⟩,⟨rfl⟩,HB⟩
     case round=>as_aux_lemma =>
      clear HB HA2;obtain⟨x,i,rfl,hx,hi,HM,HB⟩:=hrel;have HL:=aj HZ.out.ma;by_cases hlt:i < p.ma.length
      .have d9:decide (x < (p.ma.length:Int))=true:=decide_eq_true (by rw[hx.out];omega);have HA2:=dK.below HA.out HB.out;have q0:0<=x:=(by rw[hx.out];omega);have q1:x < (p.ma.length:Int):=(by rw[hx.out];omega);have q2:x<=300:=(by rw[hx.out];have:=HL.out;omega);obtain⟨ad,e0,hc0⟩:=Kd.zJ HA2.ma x q0 q1;cases e0
       have hrd:vZ ByteArray.empty p.ma x=p.ma[i]:=(by rw[hx.out];unfold vZ;simp[List.getD_eq_getElem?_getD,List.getElem?_eq_getElem hlt]);have hsz:p.ma[i].size<=maxLen:=HZ.out.Si _ (List.getElem_mem hlt);have tD:(p.ma.drop i).all gB=(gB p.ma[i] && (p.ma.drop (i+1)).all gB):=(by rw[List.drop_eq_getElem_cons hlt];rfl);rw[hrd] at hc0;have cg:=aj hlt;rw[tD] at HM;clear tD hrd HA2;generalize p.ma[i]=m at *;clear hlt;have uN:=aj hsz;clear hsz;have p0:=eq_true q0;have p1:=eq_true q1;by_cases m1:m.size=0
       .have g1:(m.toList == ([]:List UInt8))=true:=(by rw[beq_iff_eq,ByteArray.toList_eq];exact List.eq_nil_of_length_eq_zero (by simpa using m1));have HF:=aj (show co=2 by rw[HC2.out,HM.out];unfold gB;simp[m1]);clear m1 HM;go_wp2;go_ret;exact⟨dh HF.out,by repeat(first|exact HB.out|apply aA|apply aG)⟩
       .have g1:(m.toList == ([]:List UInt8))=false:=(by rw[beq_eq_false_iff_ne,ByteArray.toList_eq];intro q;exact m1 (by have:=congrArg List.length q;simpa using this));by_cases m2:gN m 8=true
        .have MU:=aj m2;have HM2:=aj (show p.ma.all gB=(p.ma.drop (i+1)).all gB by rw[HM.out];unfold gB;simp[m1,m2]);clear m1 m2 HM;go_wp2_with (go_at_call 69;go_loud(refine(rX m 8 _ uN.out MU.out).mono ?_;rintro e w7 ⟨rfl,hb7⟩;have HB:=aj (Below.trans (a:=w) (by repeat(first|exact HB.out|apply aA|apply aG)) (hb7.mono (by exact HB.out.size)))));go_roundw
         case rel=>exact⟨x+1,i+1,rfl,⟨by rw[hx.out];omega⟩,⟨cg.out⟩,HM2,⟨by repeat(first|exact HB.out|apply aA|apply aG)⟩⟩
         case measure=>have:=cg.out;have:=hx.out;simp[intOf];omega
        .have m3:gN m 8=false:=(by simpa using m2);have MU:=aj m3;have HF:=aj (show co=2 by rw[HC2.out,HM.out];unfold gB;simp[m3]);clear m1 m2 m3 HM;go_wp2_with (go_at_call 69;go_loud(refine(rX m 8 _ uN.out MU.out).mono ?_;rintro e w7 ⟨rfl,hb7⟩;have HB:=aj (Below.trans (a:=w) (by repeat(first|exact HB.out|apply aA|apply aG)) (hb7.mono (by exact HB.out.size)))));go_ret;exact⟨dh HF.out,by repeat(first|exact HB.out|apply aA|apply aG)⟩
      .have d9:decide (x < (p.ma.length:Int))=false:=decide_eq_false (by rw[hx.out];omega);have HF:=aj (show co=0 by rw[HC2.out,HM.out,List.drop_eq_nil_of_le (by omega)];rfl);clear hlt;go_wp2;go_ret;exact⟨dh HF.out,by repeat(first|exact HB.out|apply aA|apply aG)⟩
 .have d1:(cB p.tx != 0)=true:=by simp[c1]
  have HF:=aj (show co=cB p.tx by rw[<-yM];unfold bB;rw[if_pos c1]);have Pb:=aj (show cB p.tx=cB p.tx from rfl);clear c1 yM;go_enter Tryz.func28,Tryz.ntmps28;go_wp2_with (first|((with_reducible refine aS (N:=1) rfl ?_);go_loud(refine cK ?hg (N:=1) ?hd (cs:=#[.string p.tx,.slice As p.sp.length cs,.int .i64 p.pr.f0,.int .i64 p.pr.f1,.int .i64 p.pr.f2,.int .i64 p.pr.f3,.int .i64 p.pr.f4,.int .i64 p.pr.f5,.int .i64 p.pr.f6,.int .i64 p.pr.f7,.int .i64 p.pr.f8,.int .i64 p.pr.f9,.int .i64 p.pr.f10,.int .i64 p.pr.f11,.int .i64 p.pr.f12,.int .i64 p.pr.f13,.int .i64 p.pr.f14,.int .i64 p.pr.f15,.int .i64 p.pr.f16,.string p.lb,.slice Am p.ma.length cm]) (t:=27) ?hr ?_;(case hd=>rfl);(case hg=>rfl);(case hr=>first|(go_simp;done)|(go_simp;rfl));intro gb0 hg0 w0 hx0 hb0;have HX:=aj hx0;have HB:=aj hb0;have x0:=(ak HX.out 0).trans rfl;have x1:=(ak HX.out 1).trans rfl;have x2:=(ak HX.out 2).trans rfl;have x3:=(ak HX.out 3).trans rfl;have x4:=(ak HX.out 4).trans rfl;have x5:=(ak HX.out 5).trans rfl;have x6:=(ak HX.out 6).trans rfl;have x7:=(ak HX.out 7).trans rfl;have x8:=(ak HX.out 8).trans rfl;have x9:=(ak HX.out 9).trans rfl;have x10:=(ak HX.out 10).trans rfl;have x11:=(ak HX.out 11).trans rfl;have x12:=(ak HX.out 12).trans rfl;have x13:=(ak HX.out 13).trans rfl;have x14:=(ak HX.out 14).trans rfl;have x15:=(ak HX.out 15).trans rfl;have x16:=(ak HX.out 16).trans rfl;have x17:=(ak HX.out 17).trans rfl;have x18:=(ak HX.out 18).trans rfl;have x19:=(ak HX.out 19).trans rfl;have x20:=(ak HX.out 20).trans rfl;clear hx0 hb0 hg0))|(go_at_call 8;go_loud(refine(Bh p.tx _ _ Pb.out).mono ?_;rintro e w7 ⟨v7,rfl,hb7⟩;have HX:=aj (ay (by exact HX.out) hb7);have HB:=aj (Below.trans (a:=w) (by repeat(first|exact HB.out|apply aA|apply aG)) (hb7.mono (by exact HB.out.size)));have x0:=(ak HX.out 0).trans rfl;have x1:=(ak HX.out 1).trans rfl;have x2:=(ak HX.out 2).trans rfl;have x3:=(ak HX.out 3).trans rfl;have x4:=(ak HX.out 4).trans rfl;have x5:=(ak HX.out 5).trans rfl;have x6:=(ak HX.out 6).trans rfl;have x7:=(ak HX.out 7).trans rfl;have x8:=(ak HX.out 8).trans rfl;have x9:=(ak HX.out 9).trans rfl;have x10:=(ak HX.out 10).trans rfl;have x11:=(ak HX.out 11).trans rfl;have x12:=(ak HX.out 12).trans rfl;have x13:=(ak HX.out 13).trans rfl;have x14:=(ak HX.out 14).trans rfl;have x15:=(ak HX.out 15).trans rfl;have x16:=(ak HX.out 16).trans rfl;have x17:=(ak HX.out 17).trans rfl;have x18:=(ak HX.out 18).trans rfl;have x19:=(ak HX.out 19).trans rfl;have x20:=(ak HX.out 20).trans rfl;clear hb7)));go_ret;exact⟨dh HF.out,by repeat(first|exact HB.out|apply aA|apply aG)⟩
theorem CQ(p:Pa){As Am:Option Addr}{cs cm:Nat}(w:World)(hA:dK w p As cs Am cm)(hz:p.small):Calls Tryz.prog 28 #[.agg #[.string p.tx,.slice As p.sp.length cs,.int .i64 p.pr.f0,.int .i64 p.pr.f1,.int .i64 p.pr.f2,.int .i64 p.pr.f3,.int .i64 p.pr.f4,.int .i64 p.pr.f5,.int .i64 p.pr.f6,.int .i64 p.pr.f7,.int .i64 p.pr.f8,.int .i64 p.pr.f9,.int .i64 p.pr.f10,.int .i64 p.pr.f11,.int .i64 p.pr.f12,.int .i64 p.pr.f13,.int .i64 p.pr.f14,.int .i64 p.pr.f15,.int .i64 p.pr.f16,.string p.lb,.slice Am p.ma.length cm]] w fun e w'=>e=.returned (.int .i64 (bB p))/\Below w.heap.size w w':=Bj p w hA hz _ rfl
end Go.Proofs.YtcaallkkeighdaaGreatDoor.P
