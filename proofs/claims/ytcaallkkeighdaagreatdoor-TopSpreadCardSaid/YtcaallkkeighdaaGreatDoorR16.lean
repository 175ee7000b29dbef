/- hyph.add: the letters. hyph.add: the walk. -/
import Derived.Test.YtcaallkkeighdaaGreatDoorR15
set_option maxRecDepth 100000
set_option maxHeartbeats 16000000
set_option linter.unusedVariables false
set_option linter.unusedSimpArgs false
namespace Go.Proofs.YtcaallkkeighdaaGreatDoor.P
open Go.RowKit aD aQ aR
attribute [local go_sem] cN cO dw dA
def uW(w wr:World):Prop:=∀ (b:Nat) (cs:Array Value) (fr:Nat × Nat),w.heap[b]? = some (Obj.cells cs 5 fr)->wr.heap[b]? = some (Obj.cells cs 5 fr)
theorem uW.refl(w:World):uW w w:=fun _ _ _ h=>h
theorem uW.trans{w1 w2 w3:World}(h:uW w1 w2)(h':uW w2 w3):uW w1 w3:=fun b cs fr q=>h' _ _ _ (h _ _ _ q)
def Hi(X0:Nat)(t:Tr)(nb mb db:Nat->Nat):Prop:=∀ k,k < t.n->(nb k=nb 0\/X0<=nb k)/\(t.hm k=true->X0<=mb k)/\(t.dg k≠none->X0<=db k)
structure jE(X0:Nat)(R:Tr × Nat)(iF d:Nat)(db dc:Nat->Nat)(w1 wr:World)(B N:Nat)(b:Nat)(rest:List Int)(i:Nat)(m:Bool)(t:Tr)(nb mb dep:Nat->Nat)(k:Nat):Prop where
 at_:b=nb k
 lt:k < t.n
 go:mJ t k rest=R
 dp:dep k=i
 le:t.n<=N
 root:nb 0=iF
 apart:∀ j,j < t.n->t.dg j≠none->db j≠d
 mem:iC wr B t nb mb db dc
 wf:qd t dep
 kp:uW w1 wr
 je:Below B w1 wr
 hB:B<=wr.heap.size
 has:m=true->t.hm k=true
 hi:Hi X0 t nb mb db
 kx:∀ x,x < X0->x≠iF->wr.heap[x]? = w1.heap[x]?
 hX:X0<=wr.heap.size
section
variable{X0:Nat}{R:Tr × Nat}{iF d:Nat}{db dc:Nat->Nat}{w1 wr:World}{B N b:Nat}{rest l:List Int}{c:Int}{i:Nat}{m:Bool}{t:Tr}{nb mb dep:Nat->Nat}{k:Nat}
theorem jE.yes(h:jE X0 R iF d db dc w1 wr B N b rest i m t nb mb dep k)(hm:t.hm k=true):jE X0 R iF d db dc w1 wr B N b rest i true t nb mb dep k:={ h with has:=fun _=>hm }
theorem jE.cell0(h:jE X0 R iF d db dc w1 wr B N b rest i m t nb mb dep k):wr.cell? ⟨b,0,none⟩=some (zj mb k (t.hm k)):=by
 rw[h.at_];exact(ak (h.mem.node k h.lt) 0).trans rfl
theorem jE.KO(h:jE X0 R iF d db dc w1 wr B N b rest i m t nb mb dep k):wr.cell? ⟨b,1,none⟩=some (vA db dc k (t.dg k)):=by
 rw[h.at_];exact(ak (h.mem.node k h.lt) 1).trans rfl
theorem jE.frozen(h:jE X0 R iF d db dc w1 wr B N b rest i m t nb mb dep k)(j:Nat):wr.frozen? ⟨b,j,none⟩=false:=by
 rw[h.at_];exact aB (h.mem.node k h.lt) j
theorem Iy{t:Tr}{k:Nat}(hm:t.hm k=false)(rest:List Int)(hr:rest≠[]):mJ { t with hm:=upd t.hm k true } k rest=mJ t k rest:=by
 cases rest with
 | nil=>exact absurd rfl hr
 | cons c l =>
  simp only[mJ,bh,if_true,hm,Bool.false_eq_true,if_false]
theorem jE.map(h:jE X0 R iF d db dc w1 wr B N b (c :: l) i m t nb mb dep k)(hm:t.hm k=false) :
  jE X0 R iF d db dc w1 ((wr.alloc (.map #[] 0)).setCell ⟨b,0,none⟩ (.map (some wr.heap.size))) B N b (c :: l) i true { t with hm:=upd t.hm k true } nb (upd mb k wr.heap.size) dep k:=by
 have h1:Below B wr (wr.alloc (.map #[] 0)):=(Below.refl _ _).alloc h.hB _;have Sh:B<=nb k:=(h.mem.base k h.lt).1;refine⟨h.at_,h.lt,(Iy hm _ (by simp)).trans h.go,h.dp,h.le,h.root,h.apart,?_,⟨h.wf.pos,h.wf.root,h.wf.nx,h.wf.dg⟩,?_,?_,?_,fun _=>bh _ _ _,fun j hj=>⟨(h.hi j hj).1,fun hm'=>?_,(h.hi j hj).2.2⟩,fun x hx hr=>?_,?_⟩
 .rw[h.at_];exact h.mem.QA h.hB h.lt hm
 .refine h.kp.trans (fun x cs fr q=>?_);rw[Below.heap_setCell _ ⟨b,0,none⟩ _ x (fun e=>by rw[e,h.at_,h.mem.node k h.lt] at q;cases q)];exact ay q ((Below.refl _ _).alloc (Nat.le_refl _) _)
 .exact h.je.trans (h1.setCell (by rw[h.at_];exact Sh) _)
 .have:=h.hB;simp[World.setCell];omega
 .by_cases hjk:j=k
  .rw[hjk,bh];exact h.hX
  .rw[aL _ _ hjk];exact(h.hi j hj).2.1 (by rw[<-hm'];exact(aL _ _ hjk).symm)
 .rw[<-h.kx x hx hr,Below.heap_setCell _ ⟨b,0,none⟩ _ x (fun e=>by
   have e2:x=b:=e;rcases (h.hi k h.lt).1 with q|q
   .exact hr (by rw[e2,h.at_,q,h.root])
   .rw[e2,h.at_] at hx;omega)]
  exact((Below.refl wr.heap.size wr).alloc (Nat.le_refl _) _).block x (Nat.lt_of_lt_of_le hx h.hX)
 .have:=h.hX;simp[World.setCell];omega
theorem jE.mf(h:jE X0 R iF d db dc w1 wr B N b rest i true t nb mb dep k):MF wr 5 (mb k) t.n (jv nb (t.nx k)):=h.mem.map k h.lt (h.has rfl)
theorem jE.Po(h:jE X0 R iF d db dc w1 wr B N b rest i true t nb mb dep k)(o:Obj):MF (wr.alloc o) 5 (mb k) t.n (jv nb (t.nx k)):=h.mf.block (((Below.refl wr.heap.size wr).alloc (Nat.le_refl _) o).block _ h.mf.lt)
theorem Fo{t:Tr}{k:Nat}{c:Int}{l:List Int}(hk:k < t.n)(hm:t.hm k=true)(hn:t.nx k c=none):mJ (jR t k c) k (c :: l)=mJ t k (c :: l):=by
 have e1:(jR t k c).hm k=true:=(aL _ _ (by omega)).trans hm;have e2:(jR t k c).nx k c=some t.n:=by
  show upd (upd t.nx k _) t.n _ k c=_;rw[aL _ _ (by omega),bh,if_pos rfl]
 simp only[mJ,e1,e2,if_true,hm,hn]
theorem sN{t:Tr}{k:Nat}{c:Int}(hk:k < t.n):(jR t k c).nx k c=some t.n:=by
 show upd (upd t.nx k _) t.n _ k c=_;rw[aL _ _ (by omega),bh,if_pos rfl]
theorem jE.node(h:jE X0 R iF d db dc w1 wr B N b (c :: l) i true t nb mb dep k)(hn:t.nx k c=none){w':World}(hg:(wr.alloc (.cells #[.map none,.slice none 0 0] 228)).grownBy w' (some (mb k)))
  (hM:MF w' 5 (mb k) (t.n+1) (sM (jv nb (t.nx k)) (.int .u8 c) (.pointer (some ⟨wr.heap.size,0,none⟩)))) :
  jE X0 R iF d db dc w1 w' B (N+1) b (c :: l) i true (jR t k c) (upd nb t.n wr.heap.size) mb (upd dep t.n (dep k+1)) k:=by
 have h1:Below B wr (wr.alloc (.cells #[.map none,.slice none 0 0] 228)):=(Below.refl _ _).alloc h.hB _;have hBm:B<=mb k:=(h.mem.base k h.lt).2 (h.has rfl);have hl:=h.lt;obtain⟨es,cl,hes⟩:=h.mf.isMap;refine⟨h.at_.trans (aL _ _ (by omega)).symm,Nat.lt_succ_of_lt hl,(Fo hl (h.has rfl) hn).trans h.go,(aL _ _ (by omega)).trans h.dp,Nat.succ_le_succ h.le,(aL _ _ (by have:=h.wf.pos;omega)).trans h.root,fun j hj hd=>?_,h.mem.addNode h.wf h.hB hl (h.has rfl) hg hM,h.wf.jR hl c,?_,?_,?_,fun _=>(aL _ _ (by omega)).trans (h.has rfl),fun j hj=>?_,fun x hx hr=>?_,?_⟩
 .by_cases hjn:j=t.n
  .rw[hjn] at hd;exact absurd (bh t.dg t.n none) hd
  .have e:(jR t k c).dg j=t.dg j:=aL _ _ hjn;rw[e] at hd;exact h.apart j (by have:j < t.n+1:=hj;omega) hd
 .refine h.kp.trans (fun x cs fr q=>?_);have hx:x < wr.heap.size:=aY q;rw[hg.block x (by simp;omega) (fun e=>by rw[Option.some.inj e,hes] at q;cases q)];exact ay q ((Below.refl _ _).alloc (Nat.le_refl _) _)
 .exact h.je.trans (h1.grown hg (by have:=h.hB;simp;omega) (fun x e=>by rw[<-Option.some.inj e];exact hBm))
 .have:=hg.size;have:=h.hB;simp at *;omega
 .have e0:upd nb t.n wr.heap.size 0=nb 0:=aL _ _ (by have:=h.wf.pos;omega);rw[e0];by_cases hjn:j=t.n
  .refine⟨.inr (by rw[hjn,bh];exact h.hX),fun hm'=>?_,fun hd'=>?_⟩
   .have e:(jR t k c).hm j=false:=(by rw[hjn];exact bh _ _ _);rw[e] at hm';cases hm'
   .exact absurd (by rw[hjn];exact bh t.dg t.n none) hd'
  .have hj2:j < t.n:=by have:j < t.n+1:=hj;omega
   have e1:(jR t k c).hm j=t.hm j:=aL _ _ hjn;have e2:(jR t k c).dg j=t.dg j:=aL _ _ hjn;rw[e1,e2,aL _ _ hjn];exact h.hi j hj2
 .rw[<-h.kx x hx hr,hg.block x (by have:=h.hX;simp;omega) (fun e=>by
   have:=Option.some.inj e;have:=(h.hi k hl).2.1 (h.has rfl);omega)]
  exact((Below.refl wr.heap.size wr).alloc (Nat.le_refl _) _).block x (Nat.lt_of_lt_of_le hx h.hX)
 .have:=hg.size;have:=h.hX;simp at *;omega
theorem jE.step(h:jE X0 R iF d db dc w1 wr B N b (c :: l) i true t nb mb dep k){j:Nat}(hj:t.nx k c=some j):jE X0 R iF d db dc w1 wr B N (nb j) l (i+1) false t nb mb dep j:=by
 have hx:=h.wf.nx k c j h.lt hj;refine⟨rfl,hx.1,?_,by rw[hx.2,h.dp],h.le,h.root,h.apart,h.mem,h.wf,h.kp,h.je,h.hB,fun e=>(by cases e),h.hi,h.kx,h.hX⟩;rw[<-h.go];simp only[mJ,h.has rfl,if_true,hj]
theorem jE.look(h:jE X0 R iF d db dc w1 wr B N b rest i true t nb mb dep k){c:Int}(hc:0<=c/\c<=255){j:Nat}(hj:t.nx k c=some j):(Instr.lookup 226 (.map (some (mb k))) (.int .u8 c) false).run Tryz.prog wr=.ok (.pointer (some ⟨nb j,0,none⟩)) wr:=by
 rw[h.mf.look (Maps.int_keyed Tryz.underlying5) Tryz.underlying226 (Tryz.zeroValue200 wr) (Maps.keyOf_int_mk Tryz.underlying5 (by show(decide _ && decide _)=true;rw[Bool.and_eq_true];exact⟨decide_eq_true hc.1,decide_eq_true hc.2⟩)) false];simp[jv,hj]
theorem jE.GS(h:jE X0 R iF d db dc w1 wr B N b rest i true t nb mb dep k){c:Int}(hc:0<=c/\c<=255)(hj:t.nx k c=none):(Instr.lookup 226 (.map (some (mb k))) (.int .u8 c) false).run Tryz.prog wr=.ok (.pointer none) wr:=by
 rw[h.mf.look (Maps.int_keyed Tryz.underlying5) Tryz.underlying226 (Tryz.zeroValue200 wr) (Maps.keyOf_int_mk Tryz.underlying5 (by show(decide _ && decide _)=true;rw[Bool.and_eq_true];exact⟨decide_eq_true hc.1,decide_eq_true hc.2⟩)) false];simp[jv,hj]
end
def xu(X0:Nat)(R:Tr × Nat)(iF d:Nat)(db dc:Nat->Nat)(w1 wr:World)(B N b:Nat)(rest:List Int)(i:Nat)(m:Bool):Prop:=∃ t nb mb dep k,jE X0 R iF d db dc w1 wr B N b rest i m t nb mb dep k
end Go.Proofs.YtcaallkkeighdaaGreatDoor.P
namespace Go.Proofs.YtcaallkkeighdaaGreatDoor.P
open Go.RowKit aD aQ aR
attribute [local go_sem] cN cO dw dA
def QE(X0:Nat)(R:Tr × Nat)(iF d:Nat)(db dc:Nat->Nat)(w1:World)(B N n:Nat)(v:Value)(wr:World):Prop:=∃ b,v=.pointer (some ⟨b,0,none⟩)/\xu X0 R iF d db dc w1 wr B N b [] n false
theorem zX{w w':World}{d:Nat}(h:w'.heap[d]? = w.heap[d]?)(j:Nat):w'.cell? ⟨d,j,none⟩=w.cell? ⟨d,j,none⟩:=by simp only[World.cell?,h]
theorem Fp{w w':World}{d m:Nat}{ds:List Int}(hd:dZ w .u8 (some ⟨d,0,none⟩) m ds)(h:w'.heap[d]? = w.heap[d]?):dZ w' .u8 (some ⟨d,0,none⟩) m ds :=
 ⟨hd.1,hd.2.1,fun hm=>by
  obtain⟨ad,e,hc⟩:=hd.2.2 hm;cases e
  exact⟨_,rfl,fun j hj=>by have:=hc j hj;rw[add_plain] at this ⊢;rw[zX h,this]⟩⟩
theorem N7{α:Type}(f:Nat->α)(k:Nat)(u v:α):upd (upd f k u) k v=upd f k v:=by
 funext x;by_cases hx:x=k
 .rw[hx,bh,bh]
 .rw[aL _ _ hx,aL _ _ hx,aL _ _ hx]
theorem KQ{α:Type}(f:Nat->α)(k:Nat)(v:α)(h:f k=v):upd f k v=f:=by
 funext x;by_cases hx:x=k
 .rw[hx,bh,h]
 .rw[aL _ _ hx]
structure ku(X0:Nat)(t:Tr)(k:Nat)(old ds:List Int)(B:Nat)(nb mb db dc:Nat->Nat)(d:Nat)(wq wr:World)(i:Nat):Prop where
 mem:iC wr B { t with dg:=upd t.dg k (some (eC old 0 ds i)) } nb mb db dc
 je:Below B wq wr
 kd:wr.heap[d]? = wq.heap[d]?
 kx:∀ x,x < X0->wr.heap[x]? = wq.heap[x]?
section
variable{X0:Nat}{t:Tr}{k:Nat}{old ds:List Int}{B:Nat}{nb mb db dc:Nat->Nat}{d:Nat}{wq wr:World}{i:Nat}
theorem ku.start(h:iC wq B t nb mb db dc)(ho:t.dg k=some old):ku X0 t k old ds B nb mb db dc d wq wq 0:=⟨by
 have:upd t.dg k (some (eC old 0 ds 0))=t.dg:=KQ _ _ _ ho;rw[this];exact h,Below.refl _ _,rfl,fun _ _=>rfl⟩
theorem ku.KO(h:ku X0 t k old ds B nb mb db dc d wq wr i)(hk:k < t.n){m:Nat}(hm:old.length=m):wr.cell? ⟨nb k,1,none⟩=some (.slice (some ⟨db k,0,none⟩) m (dc k)):=by
 rw[ak (h.mem.node k hk) 1];show some (vA db dc k (upd t.dg k _ k))=_;rw[bh];show some (Value.slice _ (eC old 0 ds i).length _)=_;rw[jD,hm]
theorem ku.S9(h:ku X0 t k old ds B nb mb db dc d wq wr i)(hk:k < t.n){j:Nat}(hj:j < old.length):wr.cell? ⟨db k,j,none⟩=some (.int .u8 ((eC old 0 ds i).getD j 0)):=by
 have hl:j < (eC old 0 ds i).length:=by rw[jD];exact hj
 have:=(h.mem.Iu k hk (eC old 0 ds i) (bh _ _ _)).cellAt j (by omega);rw[this];simp[List.getD_eq_getElem?_getD,List.getElem?_eq_getElem hl]
theorem ku.Zi(h:ku X0 t k old ds B nb mb db dc d wq wr i)(hk:k < t.n)(j:Nat):wr.frozen? ⟨db k,j,none⟩=false:=by
 obtain⟨cs,hc⟩:=h.mem.Pm hk (bh _ _ _);exact aB hc j
theorem ku.below(h:ku X0 t k old ds B nb mb db dc d wq wr i){w7:World}(hb:Below wr.heap.size wr w7)(hd:d < wr.heap.size)(Pp:B<=wr.heap.size)(hX:X0<=wr.heap.size):ku X0 t k old ds B nb mb db dc d wq w7 i:=⟨h.mem.below hb,h.je.trans (hb.mono Pp),(hb.block d hd).trans h.kd,fun x hx=>(hb.block x (Nat.lt_of_lt_of_le hx hX)).trans (h.kx x hx)⟩
theorem ku.step(h:ku X0 t k old ds B nb mb db dc d wq wr i)(hk:k < t.n)(hd:db k≠d)(hB:B<=db k)(hX:X0<=db k):ku X0 t k old ds B nb mb db dc d wq (wr.setCell ⟨db k,i,none⟩ (.int .u8 (if (eC old 0 ds i).getD i 0 < ds.getD i 0 then ds.getD i 0 else (eC old 0 ds i).getD i 0))) (i+1):=by
 refine⟨?_,h.je.setCell hB _,(Below.heap_setCell _ ⟨db k,i,none⟩ _ d (fun e=>hd e.symm)).trans h.kd,fun x hx=>(Below.heap_setCell _ ⟨db k,i,none⟩ _ x (fun e=>by have e2:x=db k:=e;omega)).trans (h.kx x hx)⟩;have:=h.mem.QD hk (bh _ _ _) i (if (eC old 0 ds i).getD i 0 < ds.getD i 0 then ds.getD i 0 else (eC old 0 ds i).getD i 0);dsimp only at this;rw[N7] at this;have e:eC old 0 ds (i+1)=(eC old 0 ds i).set i (if (eC old 0 ds i).getD i 0 < ds.getD i 0 then ds.getD i 0 else (eC old 0 ds i).getD i 0):=by
  show(eC old 0 ds i).set (0+i) (if (eC old 0 ds i).getD (0+i) 0 < ds.getD i 0 then ds.getD i 0 else (eC old 0 ds i).getD (0+i) 0)=_;rw[Nat.zero_add]
 rw[e];exact this
end
theorem qd.jT{t:Tr}{dep:Nat->Nat}(h:qd t dep){k:Nat}{ds:List Int}(hl:ds.length=dep k+1)(hk:k < t.n):qd (jT t k ds) dep:=by
 have key:∀ z:List Int,z.length=dep k+1->qd { t with dg:=upd t.dg k (some z) } dep:=fun z hz=>⟨h.pos,h.root,h.nx,fun i d hi hd=>by
  dsimp only at hd hi;by_cases hik:i=k
  .rw[hik,bh] at hd;rw[hik,<-Option.some.inj hd,hz]
  .rw[aL _ _ hik] at hd;exact h.dg i d hi hd⟩
 unfold P.jT;split
 .exact key _ hl
 .rename_i old ho
  exact key _ (by rw[jD];exact h.dg k old hk ho)
theorem Hi.dg1{X0:Nat}{t:Tr}{nb mb db:Nat->Nat}(h:Hi X0 t nb mb db){k:Nat}(hk:k < t.n){ds:List Int}(hn:t.dg k=none){g:Nat}(hg:X0<=g):Hi X0 (jT t k ds) nb mb (upd db k g):=by
 unfold jT;rw[hn];intro j hj;refine⟨(h j hj).1,(h j hj).2.1,fun hd=>?_⟩;by_cases hjk:j=k
 .rw[hjk,bh];exact hg
 .rw[aL _ _ hjk];dsimp only at hd;rw[aL _ _ hjk] at hd;exact(h j hj).2.2 hd
theorem Hi.dg2{X0:Nat}{t:Tr}{nb mb db:Nat->Nat}(h:Hi X0 t nb mb db){k:Nat}{ds old:List Int}(hn:t.dg k=some old):Hi X0 (jT t k ds) nb mb db:=by
 unfold jT;rw[hn];intro j hj;refine⟨(h j hj).1,(h j hj).2.1,fun hd=>?_⟩;by_cases hjk:j=k
 .rw[hjk] at hj ⊢;exact(h k hj).2.2 (by rw[hn];simp)
 .dsimp only at hd;rw[aL _ _ hjk] at hd;exact(h j hj).2.2 hd
theorem GU(t:Tr)(k:Nat)(ds:List Int):(jT t k ds).n=t.n:=by unfold jT;split<;>rfl
theorem oJ{w:World}{base base':Nat}{e:TypeId}{size:Nat}{v:Value}{n:Nat}{xs:List Value}(h:w.ownsRow base e size v n xs)(hb:base'<=base):w.ownsRow base' e size v n xs :=
 ⟨h.1,h.2.imp id (fun⟨g,cap,cur,h1,h2,r⟩=>⟨g,cap,cur,h1,Nat.le_trans hb h2,r⟩)⟩
def N8(X0:Nat)(T:Tr)(nr N B:Nat)(w:World)(e:Ending)(w':World):Prop:=(∃ u,e=.returned u)/\(∃ Pq mb' VW Xe Iz,iC w' B T Pq mb' VW Xe/\qd T Iz/\Pq 0=nr/\Hi X0 T Pq mb' VW)/\T.n<=N/\Below B w w'/\∀ x,x < X0->x≠nr->w'.heap[x]? = w.heap[x]?
theorem IB(s:ByteArray)(t:Tr)(nb mb db dc dep:Nat->Nat)(B X0 nr d m c:Nat)(ds:List Int)(w:World)(hT:iC w B t nb mb db dc)(hW:qd t dep)(hB:B<=w.heap.size)(hn:t.n<=8000)(hs:s.size<=16)(hr:nb 0=nr)
  (hd:dZ w .u8 (some ⟨d,0,none⟩) m ds) (hm:m=s.size+1) (hdb:∃ cs fr,w.heap[d]? = some (.cells cs 5 fr)) (hap:∀ j,j < t.n->t.dg j≠none->db j≠d) (hHi:Hi X0 t nb mb db) (hX0:X0<=w.heap.size) :
  Calls Tryz.prog 161 #[.pointer (some ⟨nr,0,none⟩),.string s,.slice (some ⟨d,0,none⟩) m c] w (N8 X0 (C9 t (bytesOf s) ds) nr (t.n+s.size) B w):=by
 obtain⟨R,hR⟩:∃ R,mJ t 0 (bytesOf s)=R:=⟨_,rfl⟩;have S_:=aj (show C9 t (bytesOf s) ds=jT R.1 R.2 ds by rw[<-hR];rfl);have kb:=fun W=>f_ (P:=Tryz.prog) 9 133 5 Tryz.underlying9 Tryz.underlying133 Tryz.underlying5 s W
 obtain⟨pad,fr,rF⟩:=BB.new w s;have qx:=aj rF;have hb0:=fE (Below.refl w.heap.size w) (Nat.le_refl _) 5 s;have HB0:=aj hb0;obtain⟨n,hn'⟩:∃ n,s.size=n:=⟨_,rfl⟩;have HN:=aj hn';have yQ:=aj (show(bytesOf s).length=n by rw[ef,hn']);have KR:=aj (show n<=16 by omega);have HD:=aj hd;have HM:=aj (show m=n+1 by omega);have Pt:=aj hdb;have hB1:B<=(Lib.bytesWorld w 5 s).heap.size:=Nat.le_trans hB hb0.size;have HA:=aj (show xu X0 R nr d db dc (Lib.bytesWorld w 5 s) (Lib.bytesWorld w 5 s) B t.n nr (bytesOf s) 0 false from ⟨t,nb,mb,dep,0,hr.symm,hW.pos,hR,hW.root,Nat.le_refl _,hr,hap,hT.below hb0,hW,uW.refl _,Below.refl _ _,hB1,fun e=>(by cases e),hHi,fun _ _ _=>rfl,Nat.le_trans hX0 hb0.size⟩);have Zj:=aj (show ∀ x,x < X0->(Lib.bytesWorld w 5 s).heap[x]? = w.heap[x]? from fun x hx=>hb0.block x (Nat.lt_of_lt_of_le hx hX0));obtain⟨N0,hN0⟩:∃ N0,t.n=N0:=⟨_,rfl⟩;rw[hN0] at HA;have HN0:=aj (show N0<=8000 by omega);have HN1:=aj hN0;have Xf:=aj hB;rw[S_.out,hN0,hn'];have Xg:=aj (show ∀ i:Nat,i < n->0<=(bytesOf s).getD i 0/\(bytesOf s).getD i 0<=255 by
  intro i hi;have:=mz s (i:Int);rw[<-gU] at this;exact this)
 clear hHi hX0 hR rF hb0 hd hm hdb hB1 hn hs hr hT hW hB hap hN0 S_ hn';have qm:∀ (w:World) (r:Option Nat),(binOp .eql 226 (.map r) (.map none)).run Tryz.prog w=.ok (.bool r.isNone) w:=fun w r=>run_eql_map_nil w _ _ _ r Tryz.underlying226
 have hmm:=@run_makeMap Tryz.prog;go_enter Tryz.func161,Tryz.ntmps161;go_upto_block 0 with(fail);generalize Lib.bytesWorld w 5 s=W1 at *;rw[HN.out];go_cut [0] from 7 to 46 (fun v0 wc=>QE X0 R nr d db dc W1 B (N0+n) n v0 wc)
 case first =>
  go_wp2;go_loopw [0,13] (fun v0 v13 wr=>∃ (y:Int) (i b:Nat),v0=.pointer (some ⟨b,0,none⟩)/\v13=.int .i64 y/\aC (y=(i:Int))/\aC (i<=n)/\aC (xu X0 R nr d db dc W1 wr B (N0+i) b ((bytesOf s).drop i) i false)) (fun _ v13 _=>n - (intOf v13).toNat)
  case atStart=>exact⟨0,0,nr,rfl,rfl,⟨rfl⟩,⟨Nat.zero_le _⟩,HA⟩
  case round =>
   obtain⟨y,i,b,rfl,rfl,hy,hi,hA⟩:=hrel;by_cases hlt:i < n
   .have d9:decide (y < (n:Int))=true:=decide_eq_true (by rw[hy.out];omega);have q0:0<=y:=(by rw[hy.out];omega);have q1:y < (n:Int):=(by rw[hy.out];omega);have q5:y<=16:=(by have:=KR.out;omega);have p0:=eq_true q0;have p1:=eq_true q1;have cg:=aj hlt;obtain⟨t',Pq,mb',Iz,k,hC⟩:=hA.out;have HY:=aj (show y.toNat=i by rw[hy.out];omega);have hlx:i < (bytesOf s).length:=(by rw[yQ.out];exact hlt);obtain⟨ch,hch⟩:∃ ch,(bytesOf s).getD i 0=ch:=⟨_,rfl⟩;have hcc:0<=ch/\ch<=255:=(by rw[<-hch];exact Xg.out i hlt);rw[List.drop_eq_getElem_cons hlx,show(bytesOf s)[i]=ch by rw[<-hch,List.getD_eq_getElem?_getD,List.getElem?_eq_getElem hlx];rfl] at hC;have hbl:wr.heap[w.heap.size]? = _:=hC.kp _ _ _ qx.out.1;have k0:wr.cell? ⟨w.heap.size,y.toNat,none⟩=some (.int .u8 ch):=by
     rw[HY.out,<-hch];exact BB.cell (pad:=pad) (fr:=fr) ⟨hbl,qx.out.2⟩ hlx
    have x0:=hC.cell0;have f0:=hC.frozen 0;have vP:=aj hcc;have HC:=aj hC;obtain⟨mv,N_⟩:∃ mv,zj mb' k (t'.hm k)=mv:=⟨_,rfl⟩;rw[N_] at x0;have VX:=aj N_;clear hlt hch hcc hC hbl N_;cases hm:t'.hm k with
    | true =>
     have N_:=VX.out;rw[hm,mI] at N_;subst N_;have HA4:=aj (show xu X0 R nr d db dc W1 wr B (N0+i) b (ch :: (bytesOf s).drop (i+1)) i true from ⟨_,_,_,_,_,HC.out.yes hm⟩);clear hm;go_upto_region 5 with(fail);generalize wr=wq at *;clear HC VX x0 f0 k0 hA;generalize mb' k=mk1 at *
     try clear t' Pq mb' Iz k
     obtain⟨t2,nb2,mb2,KS,k2,hC⟩:=HA4.out;have x0:=hC.cell0;rw[hC.has rfl,mI] at x0;have HC:=aj hC;cases hnx:t2.nx k2 ch with
     | some j =>
      have l1:=hC.look vP.out hnx;have HS:=aj (hC.step hnx);clear hC hnx;go_wp2;go_roundw
      case rel=>exact⟨y+1,i+1,nb2 j,rfl,rfl,⟨by rw[hy.out];omega⟩,⟨cg.out⟩,⟨_,_,_,_,_,{ HS.out with le:=Nat.le_succ_of_le HS.out.le }⟩⟩
      case measure=>have:=cg.out;have:=hy.out;simp[intOf];omega
     | none =>
      have l1:=hC.GS vP.out hnx;have hk5:=Maps.keyOf_int_mk (P:=Tryz.prog) (q:=.u8) Tryz.underlying5 (a:=ch) (by show(decide _ && decide _)=true;rw[Bool.and_eq_true];exact⟨decide_eq_true vP.out.1,decide_eq_true vP.out.2⟩);have Fq:=aj (hC.Po (.cells #[.map none,.slice none 0 0] 228));have vM:=aj hnx;have Ft:=aj (show t2.n < maxLen by have:=hC.le;have:=hi.out;have:=KR.out;have:=HN0.out;simp[maxLen];omega);clear hC hnx;go_wp2_with (refine MF.store rfl _ _ _ 226 rfl Fq.out (Maps.int_keyed Tryz.underlying5) Tryz.underlying226 Ft.out rfl rfl rfl hk5 ?_;intro w8 hM8 hg8;have hC8:=HC.out.node vM.out hg8 hM8;have l2:=hC8.look vP.out (sN HC.out.lt);rw[bh] at l2;have x8:=hC8.cell0;rw[hC8.has rfl,mI] at x8;have HC8:=aj hC8;clear hC8 hM8 hg8);go_roundw
      case rel =>
       have:=HC8.out.step (sN HC.out.lt);rw[bh] at this;exact⟨y+1,i+1,wq.heap.size,rfl,rfl,⟨by rw[hy.out];omega⟩,⟨cg.out⟩,⟨_,_,_,_,_,this⟩⟩
      case measure=>have:=cg.out;have:=hy.out;simp[intOf];omega
    | false =>
     have N_:=VX.out;rw[hm,GR] at N_;subst N_;have HA4:=aj (show xu X0 R nr d db dc W1 ((wr.alloc (.map #[] 0)).setCell ⟨b,0,none⟩ (.map (some wr.heap.size))) B (N0+i) b (ch :: (bytesOf s).drop (i+1)) i true from ⟨_,_,_,_,_,HC.out.map hm⟩);have VY:=cM x0 (.map #[] 0);have f0':(wr.alloc (.map #[] 0)).frozen? ⟨b,0,none⟩=false:=(by rw[HC.out.at_];exact aB (ay (HC.out.mem.node _ HC.out.lt) ((Below.refl _ _).alloc (Nat.le_refl _) _)) 0);clear hm;go_upto_region 5 with(fail);clear VY f0';generalize (wr.alloc (.map #[] 0)).setCell ⟨b,0,none⟩ (.map (some wr.heap.size))=wq at *;clear HC VX x0 f0 k0 hA
     try clear t' Pq mb' Iz k
     obtain⟨t2,nb2,mb2,KS,k2,hC⟩:=HA4.out;have x0:=hC.cell0;rw[hC.has rfl,mI] at x0;have HC:=aj hC;cases hnx:t2.nx k2 ch with
     | some j =>
      have l1:=hC.look vP.out hnx;have HS:=aj (hC.step hnx);clear hC hnx;go_wp2;go_roundw
      case rel=>exact⟨y+1,i+1,nb2 j,rfl,rfl,⟨by rw[hy.out];omega⟩,⟨cg.out⟩,⟨_,_,_,_,_,{ HS.out with le:=Nat.le_succ_of_le HS.out.le }⟩⟩
      case measure=>have:=cg.out;have:=hy.out;simp[intOf];omega
     | none =>
      have l1:=hC.GS vP.out hnx;have hk5:=Maps.keyOf_int_mk (P:=Tryz.prog) (q:=.u8) Tryz.underlying5 (a:=ch) (by show(decide _ && decide _)=true;rw[Bool.and_eq_true];exact⟨decide_eq_true vP.out.1,decide_eq_true vP.out.2⟩);have Fq:=aj (hC.Po (.cells #[.map none,.slice none 0 0] 228));have vM:=aj hnx;have Ft:=aj (show t2.n < maxLen by have:=hC.le;have:=hi.out;have:=KR.out;have:=HN0.out;simp[maxLen];omega);clear hC hnx;go_wp2_with (refine MF.store rfl _ _ _ 226 rfl Fq.out (Maps.int_keyed Tryz.underlying5) Tryz.underlying226 Ft.out rfl rfl rfl hk5 ?_;intro w8 hM8 hg8;have hC8:=HC.out.node vM.out hg8 hM8;have l2:=hC8.look vP.out (sN HC.out.lt);rw[bh] at l2;have x8:=hC8.cell0;rw[hC8.has rfl,mI] at x8;have HC8:=aj hC8;clear hC8 hM8 hg8);go_roundw
      case rel =>
       have:=HC8.out.step (sN HC.out.lt);rw[bh] at this;exact⟨y+1,i+1,wq.heap.size,rfl,rfl,⟨by rw[hy.out];omega⟩,⟨cg.out⟩,⟨_,_,_,_,_,this⟩⟩
      case measure=>have:=cg.out;have:=hy.out;simp[intOf];omega
   .have d9:decide (y < (n:Int))=false:=decide_eq_false (by rw[hy.out];omega);have him:i=n:=(by have:=hi.out;omega);subst him;have hA2:=hA.out;rw[List.drop_of_length_le (by rw[yQ.out];exact Nat.le_refl _)] at hA2;have HA2:=aj hA2;clear hlt hA hA2;go_wp2;go_meet
    case rel=>exact⟨_,rfl,HA2.out⟩
 case rest =>
  obtain⟨b,rfl,t2,nb2,mb2,KS,k,hC⟩:=hcut;have x1:=hC.KO;have f1:=hC.frozen 1;have HC:=aj hC;have hgo:(t2,k)=R:=hC.go;obtain rfl:=hgo.symm;obtain⟨cs5,fr5,hblk⟩:=Pt.out;have hb1:W1.heap[d]? = some (.cells cs5 5 fr5):=ay hblk HB0.out;have vJ:wc.heap[d]? = some (.cells cs5 5 fr5):=hC.kp _ _ _ hb1;have Zk:=aj (Fp HD.out (vJ.trans hblk.symm));have Xh:=aj vJ;have tE:=aj ((HB0.out.mono Xf.out).trans hC.je);have NU:=aj (show ds.length=KS k+1 by rw[HD.out.1,hC.dp,HM.out]);clear hblk hb1 vJ hgo;generalize wc=wq at *;cases BD:t2.dg k with
  | none =>
   have e1:vA db dc k (t2.dg k)=.slice none 0 0:=by rw[BD];rfl
   rw[e1] at x1;have hnl:(binOp .eql 133 (.slice none 0 0) (.slice none 0 0)).run Tryz.prog wq=.ok (.bool true) wq:=Lib.run_eql_slice_nil (P:=Tryz.prog) wq 133 5 none 0 0 0 0 Tryz.underlying133;have Ta:=aj BD;clear e1 BD hC;go_wp2_with (go_at_call 174;go_loud(refine(C_ ⟨d,0,none⟩ m c ds _ Zk.out (by have:=HM.out;omega) (by have:=HM.out;have:=KR.out;omega)).mono ?_;rintro e w5 ⟨g,cap,rfl,hg,hown,hb5⟩;have x1':=bH hb5 x1;have f1':w5.frozen? ⟨b,1,none⟩=false:=(by rw[HC.out.at_];exact aB (ay (HC.out.mem.node _ HC.out.lt) hb5) 1);have HG:=aj hg;have HOW:=aj hown;have HB5:=aj hb5;clear hg hown hb5))
   (try simp only[Exit.inBlock,Exit.then])
   refine bodyPost_ret (results_none rfl _ _ _) rfl ?_;have hml:m=ds.length:=HD.out.1.symm;have hset:=(HC.out.mem.below HB5.out).QC HC.out.lt (ds:=ds) (g:=g) (cap:=cap) (by have:=oJ HOW.out HC.out.hB;rw[hml] at this;exact this) (fun i hi hd=>by
    obtain⟨z,hz⟩:=Option.ne_none_iff_exists'.1 hd;obtain⟨cs,hcs⟩:=HC.out.mem.Pm hi hz;have:=aY hcs;have:=HG.out;omega)
   have Xi:jT t2 k ds={ t2 with dg:=upd t2.dg k (some ds) }:=by unfold jT;rw[Ta.out]
   refine⟨⟨_,rfl⟩,⟨nb2,mb2,upd db k g,upd dc k cap,KS,?_,HC.out.wf.jT NU.out HC.out.lt,HC.out.root,HC.out.hi.dg1 HC.out.lt Ta.out (Nat.le_trans HC.out.hX HG.out)⟩,by rw[GU];exact HC.out.le,?_,fun x hx hr=>?_⟩
   .rw[Xi,HC.out.at_,hml];exact hset
   .exact(tE.out.trans (HB5.out.mono HC.out.hB)).setCell (by rw[HC.out.at_];exact(HC.out.mem.base k HC.out.lt).1) _
   .rw[Below.heap_setCell _ ⟨b,1,none⟩ _ x (fun e=>by
     have e2:x=b:=e;rcases (HC.out.hi k HC.out.lt).1 with q|q
     .exact hr (by rw[e2,HC.out.at_,q,HC.out.root])
     .rw[e2,HC.out.at_] at hx;omega),HB5.out.block x (Nat.lt_of_lt_of_le hx HC.out.hX),HC.out.kx x hx hr,Zj.out x hx]
  | some old =>
   have hol:old.length=m:=by rw[HC.out.wf.dg k old HC.out.lt BD,HC.out.dp,HM.out]
   have e1:vA db dc k (t2.dg k)=.slice (some ⟨db k,0,none⟩) m (dc k):=by rw[BD];show Value.slice _ old.length _=_;rw[hol]
   rw[e1] at x1;have hnl:=Lib.run_eql_slice_nil (P:=Tryz.prog) wq 133 5 (some ⟨db k,0,none⟩) m (dc k) 0 0 Tryz.underlying133;have Ta:=aj BD;have HOL:=aj hol;have hne:=HC.out.apart k HC.out.lt (by rw[BD];simp);have KT:=aj hne;have Xj:=aj (show B<=db k from fR (HC.out.mem.Iu k HC.out.lt old BD) _ rfl);have Tc:=aj (show X0<=db k from (HC.out.hi k HC.out.lt).2.2 (by rw[BD];simp));have HST:=aj (ku.start (X0:=X0) (d:=d) (ds:=ds) HC.out.mem BD);have Xk:=aj HC.out.at_;clear e1 BD hC hol hne;go_wp2;go_loopw [59] (fun v59 wr=>∃ (y:Int) (i:Nat),v59=.int .i64 y/\aC (y=(i:Int))/\aC (i<=m)/\aC (ku X0 t2 k old ds B nb2 mb2 db dc d wq wr i)) (fun v59 _=>m - (intOf v59).toNat)
   case atStart=>exact⟨0,0,rfl,⟨rfl⟩,⟨Nat.zero_le _⟩,HST⟩
   case round =>
    obtain⟨y,i,rfl,hy,hi,hR⟩:=hrel;by_cases hlt:i < m
    .have d9:decide (y < (m:Int))=true:=decide_eq_true (by rw[hy.out];omega);have q0:0<=y:=(by rw[hy.out];omega);have q1:y < (m:Int):=(by rw[hy.out];omega);have q5:y<=1000:=(by have:=HM.out;have:=KR.out;omega);have p0:=eq_true q0;have p1:=eq_true q1;have HY:=aj (show y.toNat=i by rw[hy.out];omega);have z1:wr.cell? ⟨b,1,none⟩=some (.slice (some ⟨db k,0,none⟩) m (dc k)):=(by rw[Xk.out];exact hR.out.KO HC.out.lt HOL.out);have z2:wr.cell? ⟨db k,y.toNat,none⟩=some (.int .u8 ((eC old 0 ds i).getD i 0)):=(by rw[HY.out];exact hR.out.S9 HC.out.lt (by rw[HOL.out];exact hlt));have z3:wr.frozen? ⟨db k,y.toNat,none⟩=false:=hR.out.Zi HC.out.lt _;have z4:wr.cell? ⟨d,y.toNat,none⟩=some (.int .u8 (ds.getD i 0)):=by
      rw[zX hR.out.kd];obtain⟨ad,e,hcell⟩:=Zk.out.at_ y q0 q1;cases e
      rw[add_plain] at hcell;rw[hcell]
      congr 2
      rw[hy.out];unfold rd;simp
     have cg:=aj hlt;obtain⟨c1,hc1⟩:∃ c1,(eC old 0 ds i).getD i 0=c1:=⟨_,rfl⟩;obtain⟨c2,hc2⟩:∃ c2,ds.getD i 0=c2:=⟨_,rfl⟩;rw[hc1] at z2;rw[hc2] at z4;have vP:=aj (And.intro hc1 hc2);have VZ:=aj (show d < wr.heap.size from aY (hR.out.kd.trans Xh.out));clear hlt hc1 hc2;go_upto_region 14 with(fail);have y1:=Bx.cell z1;have y2:=Bx.cell z2;clear z1 z2 z3 z4;refine cE 14 (by kernel_rfl) (by kernel_rfl) ?_;simp only[List.take_succ_cons,List.take_zero,List.drop_succ_cons,List.drop_zero]
     repeat(go_big_quiet_step (fail))
     refine wpQuiet_nil ?_;intro w7 hb7;clear y1 y2;have HR7:=aj (hR.out.below hb7 VZ.out (Pp:=Nat.le_trans HC.out.hB hR.out.je.size) (Nat.le_trans HC.out.hX hR.out.je.size));have z3:w7.frozen? ⟨db k,y.toNat,none⟩=false:=HR7.out.Zi HC.out.lt _;have z2:∃ u,w7.cell? ⟨db k,y.toNat,none⟩=some u:=⟨_,by rw[HY.out];exact HR7.out.S9 HC.out.lt (by rw[HOL.out];exact cg.out)⟩;obtain⟨u1,z2⟩:=z2;have QF:=HR7.out.step HC.out.lt KT.out Xj.out Tc.out;rw[vP.out.1,vP.out.2] at QF;have Xl:=aj QF;clear hb7 QF;go_wp2;go_roundw
     case rel=>exact⟨y+1,i+1,rfl,⟨by rw[hy.out];omega⟩,⟨cg.out⟩,⟨by rw[HY.out];exact Xl.out⟩⟩
     case measure=>have:=cg.out;have:=hy.out;simp[intOf];omega
    .have d9:decide (y < (m:Int))=false:=decide_eq_false (by rw[hy.out];omega);have him:i=m:=(by have:=hi.out;omega);subst him;clear hlt;go_wp2;go_end0;have Xi:jT t2 k ds={ t2 with dg:=upd t2.dg k (some (eC old 0 ds ds.length)) }:=(by unfold jT;rw[Ta.out]);refine⟨⟨_,rfl⟩,⟨nb2,mb2,db,dc,KS,?_,HC.out.wf.jT NU.out HC.out.lt,HC.out.root,HC.out.hi.dg2 Ta.out⟩,by rw[GU];exact HC.out.le,tE.out.trans hR.out.je,fun x hx hr=>by rw[hR.out.kx x hx,HC.out.kx x hx hr,Zj.out x hx]⟩;rw[Xi,HD.out.1];exact hR.out.mem
end Go.Proofs.YtcaallkkeighdaaGreatDoor.P
