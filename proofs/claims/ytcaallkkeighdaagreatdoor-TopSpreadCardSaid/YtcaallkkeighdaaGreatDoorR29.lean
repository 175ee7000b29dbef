/- What the iterator of item.walk keeps while it yields: its own boxes,the paragraph,the masses. -/
import Derived.Test.YtcaallkkeighdaaGreatDoorR26
set_option maxRecDepth 100000
set_option maxHeartbeats 16000000
set_option linter.unusedVariables false
set_option linter.unusedSimpArgs false
namespace Go.Proofs.YtcaallkkeighdaaGreatDoor.P
open Go.RowKit aD aQ aR
theorem Dx{w w':World}{A:Option Addr}{n:Nat}{xs:List S99}(h:Kd.C k99 w A n xs)(hb:0 < n->∀ ad,A=some ad->w'.heap[ad.block]? = w.heap[ad.block]?):Kd.C k99 w' A n xs:=by
 refine⟨h.1,h.2.1,fun hn=>?_⟩;obtain⟨ad,e,hc⟩:=h.2.2 hn;refine⟨ad,e,fun j p hj=>?_⟩;obtain⟨c,h1,h2,h3⟩:=hc j p hj;refine⟨c,h1,by rw[wG h2];exact J_ _ _,fun i u hu=>?_⟩;rw[<-h3 i u hu];exact World.cell?_of_block (by rw[tK];exact hb hn ad e)
structure Kw(ρ:World->Option Nat)(n1 Bo:Nat)(W W':World):Prop where
 size:W.heap.size<=W'.heap.size
 old:∀ b,b < n1->b≠Bo->W'.heap[b]? = W.heap[b]?
 same:∀ i o,n1<=i->W.heap[i]? = some o->o.isCells=true->some i≠ρ W->W'.heap[i]? = some o
 row:∀ r,ρ W'=some r->(ρ W=some r\/W.heap.size<=r)/\r < W'.heap.size
def OD(ρ:World->Option Nat)(n1:Nat)(W W':World):Prop:=∀ i o,n1<=i->W.heap[i]? = some o->o.isCells=true->some i≠ρ W->W'.heap[i]? = some o
structure SA(p:Pa)(l:List S99)(A:Option Addr)(c:Nat)(Bp Bl Bo n1 N0:Nat)(ρ:World->Option Nat)(g3 g7 gw:Nat):Prop where
 Yf:Bp < n1/\Bp≠Bo
 SB:Bl < n1/\Bl≠Bo
 hA:0 < l.length->∀ ad,A=some ad->ad.block < n1/\ad.block≠Bo
 hn:n1<=N0
 hg:N0<=g3/\N0<=g7/\N0<=gw
 hne:g7≠g3/\g7≠gw
 hρ:∀ X Y:World,(∀ i,i < n1->Y.heap[i]? = X.heap[i]?)->ρ Y=ρ X
 hc:l.length<=c
 hl:l.length<=4096
 hm:∀ m∈l,cI m
 ht:∀ m∈l,0<=m.f0/\m.f0 < (p.tx.size:Int)
structure FJ(p:Pa)(As:Option Addr)(cs:Nat)(Am:Option Addr)(cm:Nat)(l:List S99)(A:Option Addr)(c:Nat)(ws:Array Value)(Bp Bl N0:Nat)(ρ:World->Option Nat)(lp g3 g7 gw:Nat)(fr:Nat)(W:World):Prop where
 sz:N0<=W.heap.size
 bp:W.heap[Bp]? = some (.cells (cG p As cs Am cm) 27 (0,0))
 bl:W.heap[Bl]? = some (.cells #[.slice A l.length c] 82 (0,0))
 ml:Kd.C k99 W A l.length l
 b3:W.heap[g3]? = some (.cells #[.func (.yield lp) #[] #[]] 154 (0,0))
 b7:W.heap[g7]? = some (.cells #[.int .i64 (fr:Int)] 3 (0,0))
 bw:W.heap[gw]? = some (.cells ws 4 (0,0))
 row:∀ r,ρ W=some r->r < W.heap.size/\r≠g3/\r≠g7/\r≠gw
section
variable{p:Pa}{As Am:Option Addr}{cs cm:Nat}{l:List S99}{A:Option Addr}{c:Nat}{ws:Array Value}{Bp Bl Bo n1 N0:Nat}{ρ:World->Option Nat}{lp g3 g7 gw fr:Nat}{W W':World}
theorem FJ.below(K:SA p l A c Bp Bl Bo n1 N0 ρ g3 g7 gw)(h:FJ p As cs Am cm l A c ws Bp Bl N0 ρ lp g3 g7 gw fr W)(hb:Below W.heap.size W W'):FJ p As cs Am cm l A c ws Bp Bl N0 ρ lp g3 g7 gw fr W':=by
 have e:ρ W'=ρ W:=K.hρ W W' (fun i hi=>hb.block i (by have:=K.hn;have:=h.sz;omega));refine⟨Nat.le_trans h.sz hb.size,ay h.bp hb,ay h.bl hb,Kd.aM h.ml hb,ay h.b3 hb,ay h.b7 hb,ay h.bw hb,fun r hr=>?_⟩;rw[e] at hr;have:=h.row r hr;have:=hb.size;exact⟨by omega,by omega,by omega,by omega⟩
theorem FJ.FK(K:SA p l A c Bp Bl Bo n1 N0 ρ g3 g7 gw)(h:FJ p As cs Am cm l A c ws Bp Bl N0 ρ lp g3 g7 gw fr W)(fr':Nat):FJ p As cs Am cm l A c ws Bp Bl N0 ρ lp g3 g7 gw fr' (W.setCell ⟨g7,0,none⟩ (.int .i64 (fr':Int))):=by
 have hx:∀ k,k≠g7->(W.setCell ⟨g7,0,none⟩ (.int .i64 (fr':Int))).heap[k]? = W.heap[k]?:=fun k hk=>Below.heap_setCell W ⟨g7,0,none⟩ _ k hk
 have hs:(W.setCell ⟨g7,0,none⟩ (.int .i64 (fr':Int))).heap.size=W.heap.size:=by simp[World.setCell]
 have e:ρ (W.setCell ⟨g7,0,none⟩ (.int .i64 (fr':Int)))=ρ W:=K.hρ W _ (fun i hi=>hx i (by have:=K.hn;have:=K.hg;omega));have h1:=K.Yf;have h2:=K.SB;have h3:=K.hn;have h4:=K.hg;refine⟨by rw[hs];exact h.sz,(hx _ (by omega)).trans h.bp,(hx _ (by omega)).trans h.bl,Dx h.ml (fun hn ad e=>hx _ (by have:=K.hA hn ad e;omega)),(hx _ (fun e=>K.hne.1 e.symm)).trans h.b3,aN h.b7 0 _ rfl,(hx _ (fun e=>K.hne.2 e.symm)).trans h.bw,fun r hr=>?_⟩;rw[e] at hr;rw[hs];exact h.row r hr
theorem FJ.keep(K:SA p l A c Bp Bl Bo n1 N0 ρ g3 g7 gw)(h:FJ p As cs Am cm l A c ws Bp Bl N0 ρ lp g3 g7 gw fr W)(hk:Kw ρ n1 Bo W W'):FJ p As cs Am cm l A c ws Bp Bl N0 ρ lp g3 g7 gw fr W':=by
 have h3:=K.hn;have h4:=K.hg;have hne:∀ i,(i=g3\/i=g7\/i=gw)->some i≠ρ W:=fun i hi e=>by have:=h.row i e.symm;omega
 have hlt:g3 < W.heap.size/\g7 < W.heap.size/\gw < W.heap.size:=⟨aY h.b3,aY h.b7,aY h.bw⟩;refine⟨Nat.le_trans h.sz hk.size,(hk.old _ K.Yf.1 K.Yf.2).trans h.bp,(hk.old _ K.SB.1 K.SB.2).trans h.bl,Dx h.ml (fun hn ad e=>hk.old _ (K.hA hn ad e).1 (K.hA hn ad e).2),hk.same _ _ (by omega) h.b3 rfl (hne _ (.inl rfl)),hk.same _ _ (by omega) h.b7 rfl (hne _ (.inr (.inl rfl))),hk.same _ _ (by omega) h.bw rfl (hne _ (.inr (.inr rfl))),fun r hr=>?_⟩;obtain⟨q,hq⟩:=hk.row r hr;refine⟨hq,?_⟩;rcases q with q|q
 .exact(h.row r q).2
 .omega
structure Rf(J:List S75->World->Prop)(ρ:World->Option Nat)(n1 Bo N0 lp N:Nat):Prop where
 own:∀ pre X Y row,J pre X->X.grownBy Y row->(∀ r,row=some r->N0<=r/\(∃ q t f,X.heap[r]? = some (.cells q t f))/\ρ X≠some r)->J pre Y
 Wh:∀ pre x W,J pre W->pre.length < N->YieldAt Fence.wide 5 Tryz.prog lp #[oP x] W fun e W'=>e=.returned (.bool true)/\J (pre ++ [x]) W'/\Kw ρ n1 Bo W W'
theorem Rf.below{J:List S75->World->Prop}{N:Nat}(Y:Rf J ρ n1 Bo N0 lp N){pre:List S75}(h:J pre W)(hb:Below W.heap.size W W'):J pre W' :=
 Y.own pre W W' none h ⟨hb.os,hb.tape,hb.output,hb.size,fun k hk _=>hb.block k hk⟩ (fun r e=>by cases e)
theorem Rf.FK{J:List S75->World->Prop}{N:Nat}(Y:Rf J ρ n1 Bo N0 lp N)(K:SA p l A c Bp Bl Bo n1 N0 ρ g3 g7 gw)(hI:FJ p As cs Am cm l A c ws Bp Bl N0 ρ lp g3 g7 gw fr W){pre:List S75}(h:J pre W)(v:Value):J pre (W.setCell ⟨g7,0,none⟩ v) :=
 Y.own pre W _ (some g7) h (grownBy_setCell' W g7 v) (fun r e=>by
  cases e
  exact⟨K.hg.2.1,⟨_,_,_,hI.b7⟩,fun e=>(hI.row g7 e).2.2.1 rfl⟩)
theorem BU{J:List S75->World->Prop}{N:Nat}(Y:Rf J ρ n1 Bo N0 lp N)(K:SA p l A c Bp Bl Bo n1 N0 ρ g3 g7 gw)(hI:FJ p As cs Am cm l A c ws Bp Bl N0 ρ lp g3 g7 gw fr W){pre:List S75}(h:J pre W){k:Nat}{x:Int}(hx:(k:Int)=x)(hk:k<=l.length)(hN:fr < k->pre.length < N) :
  Calls Tryz.prog 81 #[.int .i64 x,.pointer (some ⟨g7,0,none⟩),.pointer (some ⟨g3,0,none⟩),.pointer (some ⟨Bl,0,none⟩)] W fun e W'=>e=.returned (.bool true)/\J (pre ++ fO l fr k) W'/\FJ p As cs Am cm l A c ws Bp Bl N0 ρ lp g3 g7 gw fr W'/\OD ρ n1 W W':=by
 subst hx;have hρ2:∀ W2,Below W.heap.size W W2->ρ W2=ρ W:=fun W2 hb=>K.hρ W W2 (fun i hi=>hb.block i (by have:=K.hn;have:=hI.sz;omega))
 have c7:W.cell? ⟨g7,0,none⟩=some (.int .i64 (fr:Int)):=(ak hI.b7 0).trans rfl;by_cases hf:k<=fr
 .refine(Ox k fr g7 g3 Bl W c7 hf).mono ?_;rintro e W' ⟨rfl,hb⟩;refine⟨rfl,?_,hI.below K hb,fun i o _ ho _ _=>ay ho hb⟩;unfold fO;rw[if_pos hf,List.append_nil];exact Y.below h hb
 .refine(Oy lp l A c k fr g7 g3 Bl W (fun e W'=>e=.returned (.bool true)/\∃ W2,Below W.heap.size W W2/\J (pre ++ [C5 l fr k]) W'/\Kw ρ n1 Bo W2 W') c7 ((ak hI.b3 0).trans rfl) ((ak hI.bl 0).trans rfl) hI.ml K.hc K.hm K.hl (by omega) hk (fun W2 hb=>YieldAt.mono (Y.Wh pre _ W2 (Y.below h hb) (hN (by omega))) (fun e W' ⟨h1,h2,h3⟩=>⟨h1,W2,hb,h2,h3⟩)) (fun e W' ⟨h1,_⟩=>⟨true,h1⟩)).mono ?_;rintro e W' ⟨rfl,W2,hb,hJ,hk'⟩;refine⟨rfl,?_,(hI.below K hb).keep K hk',fun i o hi ho hc hne=>hk'.same i o hi (ay ho hb) hc (by rw[hρ2 W2 hb];exact hne)⟩;unfold fO;rw[if_neg hf];exact hJ
end
end Go.Proofs.YtcaallkkeighdaaGreatDoor.P
