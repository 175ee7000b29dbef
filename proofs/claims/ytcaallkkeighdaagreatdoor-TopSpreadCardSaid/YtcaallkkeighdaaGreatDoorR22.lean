/- least.setter in memory;its sums are prepared. -/
import Derived.BigRegion
import Derived.Test.YtcaallkkeighdaaGreatDoorR21
set_option maxRecDepth 100000
set_option maxHeartbeats 16000000
set_option linter.unusedVariables false
set_option linter.unusedSimpArgs false
namespace Go.Proofs.YtcaallkkeighdaaGreatDoor.P
open Go.RowKit aD aQ aR
def IQ(w:World)(g:Nat)(xs:List Int):Prop:=w.heap[g]? = some (.cells (xs.map (Value.int .i64)).toArray 3 (0,0))
theorem IQ.put{w:World}{g:Nat}{xs:List Int}(h:IQ w g xs)(i:Nat)(v:Int):IQ (w.setCell ⟨g,i,none⟩ (.int .i64 v)) g (xs.set i v) :=
 aN h i _ (by apply Array.toList_inj.1;simp[List.map_set])
theorem IQ.cell{w:World}{g:Nat}{xs:List Int}(h:IQ w g xs){i:Nat}{v:Int}(hv:xs[i]? = some v):w.cell? ⟨g,i,none⟩=some (.int .i64 v):=(ak h i).trans (by simp[hv])
def gS(f:Nat->Int)(n i:Nat):List Int:=(List.range (n+1)).map (fun k=>if k<=i then f k else 0)
theorem z_(f:Nat->Int)(n i:Nat):(gS f n i).length=n+1:=by unfold gS;simp
theorem kP(f:Nat->Int)(n i k:Nat)(h:k<=i)(hn:k<=n):(gS f n i)[k]? = some (f k):=by
 unfold gS;rw[List.getElem?_map,List.getElem?_range (by omega)];simp[h]
theorem lq(f:Nat->Int)(n i k:Nat)(h:i < k)(hn:k<=n):(gS f n i)[k]? = some 0:=by
 unfold gS;rw[List.getElem?_map,List.getElem?_range (by omega)];simp;omega
theorem mM(f:Nat->Int)(n i:Nat):(gS f n i).set (i+1) (f (i+1))=gS f n (i+1):=by
 refine List.ext_getElem? fun k=>?_
 unfold gS;rw[List.getElem?_set];simp only[List.length_map,List.length_range,List.getElem?_map];by_cases hk:k < n+1
 .rw[List.getElem?_range hk];simp only[Option.map_some];by_cases e:i+1=k
  .subst e;rw[if_pos rfl,if_pos hk,if_pos (Nat.le_refl _)]
  .rw[if_neg e];by_cases h2:k<=i
   .rw[if_pos h2,if_pos (by omega)]
   .rw[if_neg h2,if_neg (by omega)]
 .rw[List.getElem?_eq_none (by simp;omega)];simp;omega
theorem nF(f:Nat->Int)(n:Nat)(h:f 0=0):gS f n 0=List.replicate (n+1) 0:=by
 refine List.ext_getElem? fun k=>?_
 by_cases hk:k < n+1
 .by_cases h0:k=0
  .subst h0;rw[kP f n 0 0 (Nat.le_refl _) (by omega),h];simp
  .rw[lq f n 0 k (by omega) (by omega)];simp[List.getElem?_replicate,hk]
 .rw[List.getElem?_eq_none (by rw[z_];omega),List.getElem?_eq_none (by simp;omega)]
theorem sQ{w:World}{g:Nat}{o:Obj}(h:w.heap.size=g):(w.alloc o).heap[g]? = some o:=by subst h;exact aH w o
theorem dS{w:World}{g i h j:Nat}{v u:Value}(hc:w.cell? ⟨h,j,none⟩=some u)(hne:g≠h\/i≠j):(w.setCell ⟨g,i,none⟩ v).cell? ⟨h,j,none⟩=some u :=
 (World.cell?_setCell_other _ _ _ _ (fun e=>by injection e with e1 e2;rcases hne with q|q;exact q e1;exact q e2)).trans hc
def Pw(A:Option Addr)(n c:Nat)(A2:Option Addr)(m c2:Nat)(x y:Int)(v4 v5 v6 v7:Value):Array Value:=#[.slice A n c,.slice A2 m c2,.int .i64 x,.int .i64 y,v4,v5,v6,v7]
def fZ(g n:Nat):Value:=.slice (some ⟨g,0,none⟩) (n+1) (n+1)
structure Zq(w wc:World)(bs n:Nat)(A:Option Addr)(c:Nat)(A2:Option Addr)(m c2:Nat)(x y:Int)(g4 g5 g6 g7:Nat):Prop where
 box:wc.heap[bs]? = some (.cells (Pw A n c A2 m c2 x y (fZ g4 n) (fZ g5 n) (fZ g6 n) (fZ g7 n)) 109 (0,0))
 r4:IQ wc g4 (List.replicate (n+1) 0)
 r5:IQ wc g5 (List.replicate (n+1) 0)
 r6:IQ wc g6 (List.replicate (n+1) 0)
 r7:IQ wc g7 (List.replicate (n+1) 0)
 far:fB (Eq bs) w wc
 ge:w.heap.size<=g4/\w.heap.size<=g5/\w.heap.size<=g6/\w.heap.size<=g7
 ne:g4≠g5/\g4≠g6/\g4≠g7/\g5≠g6/\g5≠g7/\g6≠g7
def V5(w:World)(bs n:Nat)(A:Option Addr)(c:Nat)(A2:Option Addr)(m c2:Nat)(x y:Int)(wc:World):Prop:=∃ g4 g5 g6 g7,Zq w wc bs n A c A2 m c2 x y g4 g5 g6 g7
def n8(n:Nat):Obj:=.cells (Array.replicate (n+1) (.int .i64 0)) 3
theorem V5.of{w:World}{bs n:Nat}{A:Option Addr}{c:Nat}{A2:Option Addr}{m c2:Nat}{x y:Int}{u4 u5 u6 u7:Value}(hb:w.heap[bs]? = some (.cells (Pw A n c A2 m c2 x y u4 u5 u6 u7) 109 (0,0)))(g4 g5 g6 g7:Nat)
  (ge:(w.heap.size<=g4/\g4 < w.heap.size+4)/\(w.heap.size<=g5/\g5 < w.heap.size+4)/\(w.heap.size<=g6/\g6 < w.heap.size+4)/\(w.heap.size<=g7/\g7 < w.heap.size+4)) (ne:g4≠g5/\g4≠g6/\g4≠g7/\g5≠g6/\g5≠g7/\g6≠g7) :
  V5 w bs n A c A2 m c2 x y ((((((((w.setCell ⟨bs,4,none⟩ (fZ g4 n)).setCell ⟨bs,5,none⟩ (fZ g5 n)).setCell ⟨bs,6,none⟩ (fZ g6 n)).setCell ⟨bs,7,none⟩ (fZ g7 n)).alloc (n8 n)).alloc (n8 n)).alloc (n8 n)).alloc (n8 n)).drew:=by
 have hlt:=aY hb
 have h4:(((w.setCell ⟨bs,4,none⟩ (fZ g4 n)).setCell ⟨bs,5,none⟩ (fZ g5 n)).setCell ⟨bs,6,none⟩ (fZ g6 n)).setCell ⟨bs,7,none⟩ (fZ g7 n) |>.heap[bs]? = some (.cells (Pw A n c A2 m c2 x y (fZ g4 n) (fZ g5 n) (fZ g6 n) (fZ g7 n)) 109 (0,0)) :=
  aN (aN (aN (aN hb 4 _ rfl) 5 _ rfl) 6 _ rfl) 7 _ rfl
 have hf:fB (Eq bs) w ((((w.setCell ⟨bs,4,none⟩ (fZ g4 n)).setCell ⟨bs,5,none⟩ (fZ g5 n)).setCell ⟨bs,6,none⟩ (fZ g6 n)).setCell ⟨bs,7,none⟩ (fZ g7 n)) :=
  ((((fB.refl _ _).set _ _ _ (.inl rfl)).set _ _ _ (.inl rfl)).set _ _ _ (.inl rfl)).set _ _ _ (.inl rfl)
 have hs:((((w.setCell ⟨bs,4,none⟩ (fZ g4 n)).setCell ⟨bs,5,none⟩ (fZ g5 n)).setCell ⟨bs,6,none⟩ (fZ g6 n)).setCell ⟨bs,7,none⟩ (fZ g7 n)).heap.size=w.heap.size:=by simp
 generalize (((w.setCell ⟨bs,4,none⟩ (fZ g4 n)).setCell ⟨bs,5,none⟩ (fZ g5 n)).setCell ⟨bs,6,none⟩ (fZ g6 n)).setCell ⟨bs,7,none⟩ (fZ g7 n)=W at *;have e:∀ g,w.heap.size<=g/\g < w.heap.size+4->IQ ((((W.alloc (n8 n)).alloc (n8 n)).alloc (n8 n)).alloc (n8 n)).drew g (List.replicate (n+1) 0):=fun g hg=>by
  have h1:((((W.alloc (n8 n)).alloc (n8 n)).alloc (n8 n)).alloc (n8 n)).heap[g]? = some (n8 n):=by
   rcases (show g=w.heap.size\/g=w.heap.size+1\/g=w.heap.size+2\/g=w.heap.size+3 by omega) with q|q|q|q
   .exact aP (aP (aP (sQ (by omega)) _) _) _
   .exact aP (aP (sQ (by simp;omega)) _) _
   .exact aP (sQ (by simp;omega)) _
   .exact sQ (by simp;omega)
  unfold IQ;show((((W.alloc (n8 n)).alloc (n8 n)).alloc (n8 n)).alloc (n8 n)).heap[g]? = _;rw[h1];unfold n8
  congr 2
  apply Array.toList_inj.1;simp
 exact⟨g4,g5,g6,g7,aP (aP (aP (aP h4 _) _) _) _,e _ ge.1,e _ ge.2.1,e _ ge.2.2.1,e _ ge.2.2.2,((((hf.alloc _).alloc _).alloc _).alloc _).drew,⟨ge.1.1,ge.2.1.1,ge.2.2.1.1,ge.2.2.2.1⟩,ne⟩
structure Lx(wr:World)(bs n:Nat)(l:List S75)(A:Option Addr)(c:Nat)(A2:Option Addr)(m c2:Nat)(x y:Int)(g4 g5 g6 g7 i:Nat):Prop where
 box:wr.heap[bs]? = some (.cells (Pw A n c A2 m c2 x y (fZ g4 n) (fZ g5 n) (fZ g6 n) (fZ g7 n)) 109 (0,0))
 r4:IQ wr g4 (gS (bY jQ l) n i)
 r5:IQ wr g5 (gS (bY jq l) n i)
 r6:IQ wr g6 (gS (bY iy l) n i)
 r7:IQ wr g7 (gS (fun k=>(gP l k:Int)) n i)
theorem Lx.start{w wc:World}{bs n:Nat}{A:Option Addr}{c:Nat}{A2:Option Addr}{m c2:Nat}{x y:Int}{g4 g5 g6 g7:Nat}(h:Zq w wc bs n A c A2 m c2 x y g4 g5 g6 g7)(l:List S75):Lx wc bs n l A c A2 m c2 x y g4 g5 g6 g7 0 :=
 ⟨h.box,by rw[nF (bY jQ l) n rfl];exact h.r4,by rw[nF (bY jq l) n rfl];exact h.r5,by rw[nF (bY iy l) n rfl];exact h.r6,by rw[nF (fun k=>(gP l k:Int)) n rfl];exact h.r7⟩
theorem Lx.below{wr w':World}{bs n:Nat}{l:List S75}{A:Option Addr}{c:Nat}{A2:Option Addr}{m c2:Nat}{x y:Int}{g4 g5 g6 g7 i:Nat}(h:Lx wr bs n l A c A2 m c2 x y g4 g5 g6 g7 i)(hb:Below wr.heap.size wr w'):Lx w' bs n l A c A2 m c2 x y g4 g5 g6 g7 i :=
 ⟨ay h.box hb,ay h.r4 hb,ay h.r5 hb,ay h.r6 hb,ay h.r7 hb⟩
structure Om(wr:World)(bs n:Nat)(l:List S75)(A:Option Addr)(c:Nat)(A2:Option Addr)(m c2:Nat)(x y:Int)(g4 g5 g6 g7 i:Nat)(xs:List Int):Prop where
 box:wr.heap[bs]? = some (.cells (Pw A n c A2 m c2 x y (fZ g4 n) (fZ g5 n) (fZ g6 n) (fZ g7 n)) 109 (0,0))
 r4:IQ wr g4 (gS (bY jQ l) n (i+1))
 r5:IQ wr g5 (gS (bY jq l) n (i+1))
 r6:IQ wr g6 (gS (bY iy l) n (i+1))
 r7:IQ wr g7 xs
theorem Lx.mid{wr:World}{bs n:Nat}{l:List S75}{A:Option Addr}{c:Nat}{A2:Option Addr}{m c2:Nat}{x y:Int}{g4 g5 g6 g7 i:Nat}(h:Lx wr bs n l A c A2 m c2 x y g4 g5 g6 g7 i)
  (nb:bs≠g4/\bs≠g5/\bs≠g6/\bs≠g7) (ne:g4≠g5/\g4≠g6/\g4≠g7/\g5≠g6/\g5≠g7/\g6≠g7) (j:Nat) (hj:j=i+1) (v4 v5 v6:Int) (h4:v4=bY jQ l (i+1)) (h5:v5=bY jq l (i+1)) (h6:v6=bY iy l (i+1)) :
  Om (((wr.setCell ⟨g4,j,none⟩ (.int .i64 v4)).setCell ⟨g5,j,none⟩ (.int .i64 v5)).setCell ⟨g6,j,none⟩ (.int .i64 v6)) bs n l A c A2 m c2 x y g4 g5 g6 g7 i (gS (fun k=>(gP l k:Int)) n i):=by
 subst hj h4 h5 h6;refine⟨?_,?_,?_,?_,?_⟩
 .exact cw (cw (cw h.box nb.1 _) nb.2.1 _) nb.2.2.1 _
 .have:=h.r4.put (i+1) (bY jQ l (i+1));rw[mM] at this;exact cw (cw this ne.1 _) ne.2.1 _
 .have h5:IQ (wr.setCell ⟨g4,i+1,none⟩ (.int .i64 (bY jQ l (i+1)))) g5 _:=cw h.r5 ne.1.symm _;have:=h5.put (i+1) (bY jq l (i+1));rw[mM] at this;exact cw this ne.2.2.2.1 _
 .have h6:IQ ((wr.setCell ⟨g4,i+1,none⟩ (.int .i64 (bY jQ l (i+1)))).setCell ⟨g5,i+1,none⟩ (.int .i64 (bY jq l (i+1)))) g6 _:=cw (cw h.r6 ne.2.1.symm _) ne.2.2.2.1.symm _;have:=h6.put (i+1) (bY iy l (i+1));rw[mM] at this;exact this
 .exact cw (cw (cw h.r7 ne.2.2.1.symm _) ne.2.2.2.2.1.symm _) ne.2.2.2.2.2.symm _
theorem Om.put{wr:World}{bs n:Nat}{l:List S75}{A:Option Addr}{c:Nat}{A2:Option Addr}{m c2:Nat}{x y:Int}{g4 g5 g6 g7 i:Nat}{xs:List Int}(h:Om wr bs n l A c A2 m c2 x y g4 g5 g6 g7 i xs)(nb:bs≠g7)(ne:g4≠g7/\g5≠g7/\g6≠g7)(j:Nat)(u:Int) :
  Om (wr.setCell ⟨g7,j,none⟩ (.int .i64 u)) bs n l A c A2 m c2 x y g4 g5 g6 g7 i (xs.set j u) :=
 ⟨cw h.box nb _,cw h.r4 ne.1 _,cw h.r5 ne.2.1 _,cw h.r6 ne.2.2 _,h.r7.put j u⟩
theorem Om.below{wr w':World}{bs n:Nat}{l:List S75}{A:Option Addr}{c:Nat}{A2:Option Addr}{m c2:Nat}{x y:Int}{g4 g5 g6 g7 i:Nat}{xs:List Int}(h:Om wr bs n l A c A2 m c2 x y g4 g5 g6 g7 i xs)(hb:Below wr.heap.size wr w'):Om w' bs n l A c A2 m c2 x y g4 g5 g6 g7 i xs :=
 ⟨ay h.box hb,ay h.r4 hb,ay h.r5 hb,ay h.r6 hb,ay h.r7 hb⟩
theorem Om.done{wr:World}{bs n:Nat}{l:List S75}{A:Option Addr}{c:Nat}{A2:Option Addr}{m c2:Nat}{x y:Int}{g4 g5 g6 g7 i:Nat}{xs:List Int}(h:Om wr bs n l A c A2 m c2 x y g4 g5 g6 g7 i xs)(hv:xs=gS (fun k=>(gP l k:Int)) n (i+1)):Lx wr bs n l A c A2 m c2 x y g4 g5 g6 g7 (i+1):=by
 subst hv;exact⟨h.box,h.r4,h.r5,h.r6,h.r7⟩
structure zo(w:World)(bs n:Nat)(l:List S75)(A:Option Addr)(c:Nat)(A2:Option Addr)(m c2:Nat)(r:S30)(g4 g5 g6 g7:Nat):Prop where
 box:w.heap[bs]? = some (.cells (Pw A n c A2 m c2 r.f0 r.f1 (fZ g4 n) (fZ g5 n) (fZ g6 n) (fZ g7 n)) 109 (0,0))
 r4:IQ w g4 (gS (bY jQ l) n n)
 r5:IQ w g5 (gS (bY jq l) n n)
 r6:IQ w g6 (gS (bY iy l) n n)
 r7:IQ w g7 (gS (fun k=>(gP l k:Int)) n n)
 hl:Kd.C k75 w A n l
def Lz(w:World)(B bs n:Nat)(l:List S75)(S:List S30)(r:S30)(A:Option Addr)(c:Nat)(A2:Option Addr)(m c2:Nat)(e:Ending)(w':World):Prop :=
 (∃ u,e=.returned u)/\∃ g4 g5 g6 g7,zo w' bs n l A c A2 m c2 r g4 g5 g6 g7/\fB (Eq bs) w w'/\Below B w w'
def it75(x:S75):Array Value:=#[.int .i64 x.f0,.int .i64 x.f1,.int .i64 x.f2,.int .i64 x.f3,.int .i64 x.f4,.int .i64 x.f5,.int .i64 x.f6,.bool x.f7]
def GZ:Bool × List (List Nat × List Nat):=(true,[([],[]),([0],[0]),([1],[1]),([2],[2]),([],[]),([4],[4]),([],[]),([6],[6]),([7],[7]),([8],[8]),([],[]),([10],[10]),([],[]),([12],[12]),([13],[13]),([14],[14]),([],[]),([16],[16]),([],[]),([18],[18]),([19],[19]),([20],[20]),([],[]),([21,22],[21,22]),([23],[23]),([],[]),([24,25],[24,25]),([],[]),([27],[27]),([28],[28]),([29],[29]),([],[]),([30,31],[30,31]),([32],[32]),([],[]),([34],[34]),([33,35],[33,35]),([],[]),([37],[37]),([38],[38]),([39],[39]),([],[]),([40,41],[40,41]),([42],[42]),([],[]),([44],[44]),([43,45],[43,45]),([3,5,0,1,2,3,4,5,9,15,18,19,20,21,22,23,24,25,26,30,33,40,43],[3,5]),([47,26,0,1,2,3,4,5,9,15,18,19,20,21,22,23,24,25,26,30,33,40,43],[26,47]),([9,11,0,1,2,3,4,5,6,7,8,9,10,11,15,18,19,20,21,22,23,24,25,26,27,28,29,30,31,32,33,34,35,36,40,43,47,48],[9,11]),([49,36,48,0,1,2,3,4,5,6,7,8,9,10,11,15,18,19,20,21,22,23,24,25,26,27,28,29,30,31,32,33,34,35,36,40,43,47,48],[36,49]),([15,17,0,1,2,3,4,5,6,7,8,9,10,11,12,13,14,15,16,17,18,19,20,21,22,23,24,25,26,27,28,29,30,31,32,33,34,35,36,37,38,39,40,41,42,43,44,45,46,47,48,49,50],[15,17]),([51,46,50,0,1,2,3,4,5,6,7,8,9,10,11,12,13,14,15,16,17,18,19,20,21,22,23,24,25,26,27,28,29,30,31,32,33,34,35,36,37,38,39,40,41,42,43,44,45,46,47,48,49,50],[46,51])])
def Oo:List Nat:=[0,1,3,7,0,16,0,64,192,448,0,1024,0,4096,12288,28672,0,65536,0,262144,786432,1835008,0,8126464,16515072,0,66846720,0,134217728,402653184,939524096,0,4160749568,8455716864,0,17179869184,68585259008,0,137438953472,412316860416,962072674304,0,4260607557632,8658654068736,0,17592186044416,70231305224192,17471926760447,158209415115775,439804650913791,1002754604335103,2251799813685247,4503599627370495]
theorem IV:jZ .any (opsOf Tryz.f44 8)=GZ:=by kernel_rfl
theorem Fy:kC GZ.2 Oo=true:=by kernel_rfl
theorem IW(l:List S75)(S:List S30)(r:S30)(A A2:Option Addr)(n c m c2:Nat)(bs:Nat)(w:World)(hb:w.heap[bs]? = some (.cells (Pw A n c A2 m c2 r.f0 r.f1 (.slice none 0 0) (.slice none 0 0) (.slice none 0 0) (.slice none 0 0)) 109 (0,0)))(hnn:l.length=n)(hn:n<=8192)(B:Nat)(hB:B<=bs)(hl:∀ w',Below B w w'->Kd.C k75 w' A n l)(hi:∀ x∈l,cY x) :
  Calls Tryz.prog 44 #[.pointer (some ⟨bs,0,none⟩)] w (Lz w B bs n l S r A c A2 m c2):=by
 have dI:=aj hb;have qx:=aj hB;have Oq:=aj (show B<=w.heap.size by have:=aY hb;omega);have HL:=aj hl;have HI:=aj hi;have HN:=aj hn;have hmk:∀ w:World,(Instr.makeSlice 107 (.int .i64 ((n:Int)+1)) (.int .i64 ((n:Int)+1))).run Tryz.prog w=.ok (.slice (some ⟨w.heap.size,0,none⟩) (n+1) (n+1)) (w.alloc (.cells (Array.replicate (n+1) (.int .i64 0)) 3)):=fun w=>by
  obtain⟨i0,hi,hz0,hz1,hz2⟩:=info_parts info3;have h:=run_makeSlice (P:=Tryz.prog) (w:=w) 107 3 i0 (.int .i64 0) Tryz.underlying107 hi hz0 .i64 .i64 ((n:Int)+1) ((n:Int)+1) (by omega) (Int.le_refl _) (by rw[hz1];omega) (by rw[hz2];omega) (by omega);have e:((n:Int)+1).toNat=n+1:=by omega
  rw[h,hz1,e,Nat.mul_one,xD _ rfl,List.toArray_replicate]
 have x0:w.cell? ⟨bs,0,none⟩=some (.slice A n c):=(ak hb 0).trans rfl;have x4:w.cell? ⟨bs,4,none⟩=some (.slice none 0 0):=(ak hb 4).trans rfl;have x5:w.cell? ⟨bs,5,none⟩=some (.slice none 0 0):=(ak hb 5).trans rfl;have x6:w.cell? ⟨bs,6,none⟩=some (.slice none 0 0):=(ak hb 6).trans rfl;have x7:w.cell? ⟨bs,7,none⟩=some (.slice none 0 0):=(ak hb 7).trans rfl;have z4:=aB hb 4;have z5:=aB hb 5;have z6:=aB hb 6;have z7:=aB hb 7;have hlt:=aY hb;have cg:=aj hlt;have XA:=aj hlt;have rl:∀ (W:World) (o:Obj) (j:Nat),bs < W.heap.size->(W.alloc o).cell? ⟨bs,j,none⟩=W.cell? ⟨bs,j,none⟩:=fun W o j h=>World.cell?_alloc_lt _ _ _ h
 have rf:∀ (W:World) (o:Obj) (j:Nat),bs < W.heap.size->(W.alloc o).frozen? ⟨bs,j,none⟩=W.frozen? ⟨bs,j,none⟩:=fun W o j h=>World.frozen?_alloc_old _ _ _ (Nat.ne_of_lt h)
 have l1:bs < w.heap.size+1:=by omega
 have l2:bs < w.heap.size+1+1:=by omega
 have l3:bs < w.heap.size+1+1+1:=by omega
 have l4:bs < w.heap.size+1+1+1+1:=by omega
 have k0:w.heap.size≠bs:=by omega
 have k1:w.heap.size+1≠bs:=by omega
 have k2:w.heap.size+1+1≠bs:=by omega
 have k3:w.heap.size+1+1+1≠bs:=by omega
 have V6:bs≠w.heap.size  := by omega
 have V7:bs≠w.heap.size+1  := by omega
 have XB:bs≠w.heap.size+1+1:=by omega
 have k3':bs≠w.heap.size+1+1+1:=by omega
 have dF:=aj hnn;clear hb hB hl hi hnn;go_enter Tryz.func44,Tryz.ntmps44;go_upto_region 1 with(fail);go_cut [2] from 11 to 34 (fun v2 wc=>v2=.int .i64 (n:Int)/\V5 w bs n A c A2 m c2 r.f0 r.f1 wc)
 case first =>
  go_region
  all_goals
   go_wp2;go_meet
   case rel =>
    exact⟨rfl,V5.of dI.out _ _ _ _ (by omega) (by omega)⟩
 case rest =>
  obtain⟨rfl,g4,g5,g6,g7,Ot⟩:=hcut;have Bs:=aj Ot;have IX:=aj (Lx.start Ot l);have tE:=aj (Ot.far.below (B:=B) (by have:=cg.out;have:=qx.out;omega) (fun k e=>by rw[<-e];exact qx.out));clear Ot x0 x4 x5 x6 x7 z4 z5 z6 z7 hlt rl rf l1 l2 l3 l4 k0 k1 k2 k3 V6 V7 XB k3' hmk;have x0:wc.cell? ⟨bs,0,none⟩=some (.slice A n c):=(ak IX.out.box 0).trans rfl;go_wp2;go_loopw [40] (fun v40 wr=>∃ (y:Int) (i:Nat),v40=.int .i64 y/\aC (y=(i:Int))/\aC (i<=n)/\aC (Lx wr bs n l A c A2 m c2 r.f0 r.f1 g4 g5 g6 g7 i)/\aC (Below B w wr/\fB (fun k=>k=g4\/k=g5\/k=g6\/k=g7) wc wr)) (fun v40 _=>n - (intOf v40).toNat)
  case atStart=>exact⟨0,0,rfl,⟨rfl⟩,⟨Nat.zero_le _⟩,IX,⟨tE.out,fB.refl _ _⟩⟩
  case round =>
   obtain⟨y,i,rfl,hy,hi,hP,hB⟩:=hrel;by_cases hlt:i < n
   .have d1:decide (y < (n:Int))=true:=decide_eq_true (by rw[hy.out];omega);have q0:0<=y:=(by rw[hy.out];omega);have q1:y < (n:Int):=(by rw[hy.out];omega);have q3:y<=8192:=(by rw[hy.out];omega);have p0:=eq_true q0;have p1:=eq_true q1;obtain⟨ad,e0,k0,k1,k2,k3,k4,k5,k6,k7⟩:=eD (HL.out wr hB.out.1) y q0 q1;cases e0
    rw[dn hy.out] at k0 k1 k2 k3 k4 k5 k6 k7;have cg:=aj hlt;have MP:=aj (HI.out _ (jI (l:=l) (i:=i) (by rw[dF.out];exact hlt)));go_upto_if 49 with(fail);obtain⟨W5,hW5⟩:∃ W5,wr.alloc (.cells (it75 (aX l i)) 75)=W5:=⟨_,rfl⟩;have Tv:wr.alloc (.cells #[.int .i64 (aX l i).f0,.int .i64 (aX l i).f1,.int .i64 (aX l i).f2,.int .i64 (aX l i).f3,.int .i64 (aX l i).f4,.int .i64 (aX l i).f5,.int .i64 (aX l i).f6,.bool (aX l i).f7] 75)=W5:=hW5;have HB5:=aj (show Below wr.heap.size wr W5 by rw[<-hW5];exact(Below.refl _ _).alloc (Nat.le_refl _) _);have HK5:=aj (show W5.heap[wr.heap.size]? = some (.cells (it75 (aX l i)) 75 (0,0)) by rw[<-hW5];exact aH _ _);rw[Tv];have j0:W5.cell? ⟨wr.heap.size,0,none⟩=some (.int .i64 (aX l i).f0):=(ak HK5.out 0).trans rfl;have j3:W5.cell? ⟨wr.heap.size,3,none⟩=some (.int .i64 (aX l i).f3):=(ak HK5.out 3).trans rfl;have j4:W5.cell? ⟨wr.heap.size,4,none⟩=some (.int .i64 (aX l i).f4):=(ak HK5.out 4).trans rfl;have j5:W5.cell? ⟨wr.heap.size,5,none⟩=some (.int .i64 (aX l i).f5):=(ak HK5.out 5).trans rfl;have HP5:=aj (hP.out.below HB5.out);have HG:=aj (show bs < wr.heap.size/\g4 < wr.heap.size/\g5 < wr.heap.size/\g6 < wr.heap.size/\g7 < wr.heap.size from ⟨aY hP.out.box,aY hP.out.r4,aY hP.out.r5,aY hP.out.r6,aY hP.out.r7⟩);have IY:=aj (show bY jQ l (i+1)=bY jQ l i+jQ (aX l i)/\bY jq l (i+1)=bY jq l i+(aX l i).f4/\bY iy l (i+1)=bY iy l i+(aX l i).f5 from ⟨rfl,rfl,rfl⟩);have KH:=aj (show gP l (i+1)=if (aX l i).f0=2 then gP l i else i+1 from rfl);obtain⟨gx,QW⟩:∃ gx,wr.heap.size=gx:=⟨_,rfl⟩;have HGX:=aj QW;rw[QW] at j0 j3 j4 j5 HB5 HK5 HG ⊢;clear QW;generalize aX l i=x at *;clear hW5 Tv k0 k1 k2 k3 k4 k5 k6 k7 hlt;go_cut [5] (fun v5 wd=>v5=.int .i64 (jQ x)/\W5=wd)
    case first =>
     by_cases h3:x.f0=3
     .have hg:(x.f0 == 3)=true:=(by simp[h3]);have HQ:=aj (show(0:Int)=jQ x by unfold jQ;rw[if_pos h3]);generalize x.f0=x0 at *;clear h3;go_wp2;go_meet
      case rel=>exact⟨by rw[<-HQ.out],(by first|rfl|trivial)⟩
     .have hg:(x.f0 == 3)=false:=(by simpa using h3);have HQ:=aj (show x.f3=jQ x by unfold jQ;rw[if_neg h3]);generalize x.f0=x0 at *;clear h3;go_wp2;go_meet
      case rel=>exact⟨by rw[HQ.out],(by first|rfl|trivial)⟩
    case rest =>
     obtain⟨rfl,rfl⟩:=hcut;have hl8:l.length<=8192:=(by rw[dF.out];exact hn);have hi8:i<=l.length:=(by rw[dF.out];have:=cg.out;omega);have c4:=dD jQ l 2097152 (by decide) (by decide) (qV HI.out) hl8 i hi8;have c5:=dD jq l 4095 (by decide) (by decide) (sH HI.out) hl8 i hi8;have c6:=dD iy l 4095 (by decide) (by decide) (nB HI.out) hl8 i hi8;have c7:=wV l i;have cx:0<=jQ x/\jQ x<=2097152:=(by have:=MP.out.w;unfold jQ;split<;>omega);have cs:=MP.out.s;have ct:=MP.out.t;have b4:W5.cell? ⟨bs,4,none⟩=some (.slice (some ⟨g4,0,none⟩) (n+1) (n+1)):=(ak HP5.out.box 4).trans rfl;have b5:W5.cell? ⟨bs,5,none⟩=some (.slice (some ⟨g5,0,none⟩) (n+1) (n+1)):=(ak HP5.out.box 5).trans rfl;have b6:W5.cell? ⟨bs,6,none⟩=some (.slice (some ⟨g6,0,none⟩) (n+1) (n+1)):=(ak HP5.out.box 6).trans rfl;have ey:y.toNat=i:=(by rw[hy.out];rfl);have ey1:(y+1).toNat=i+1:=(by rw[hy.out];omega);have hin:i+1<=n:=cg.out;have l4:W5.cell? ⟨g4,y.toNat,none⟩=some (.int .i64 (bY jQ l i)):=HP5.out.r4.cell (by rw[ey];exact kP _ _ _ _ (Nat.le_refl _) (by omega));have l5:W5.cell? ⟨g5,y.toNat,none⟩=some (.int .i64 (bY jq l i)):=HP5.out.r5.cell (by rw[ey];exact kP _ _ _ _ (Nat.le_refl _) (by omega));have l6:W5.cell? ⟨g6,y.toNat,none⟩=some (.int .i64 (bY iy l i)):=HP5.out.r6.cell (by rw[ey];exact kP _ _ _ _ (Nat.le_refl _) (by omega));have Lr:=aj (And.intro ey ey1);have n4:¬ (y+1).toNat=y.toNat:=(by omega);have n4':¬ y.toNat=(y+1).toNat:=(by omega);have ne1:=Bs.out.ne;obtain⟨e45,e46,e47,e56,e57,e67⟩:=ne1;have e54:=e45.symm;have e64:=e46.symm;have e65:=e56.symm;have e74:=e47.symm;have e75:=e57.symm;have e76:=e67.symm;have nb:bs≠g4/\bs≠g5/\bs≠g6/\bs≠g7:=(by have:=Bs.out.ge;have:=XA.out;omega);obtain⟨bn4,bn5,bn6,bn7⟩:=nb;have aa6:=bn4.symm;have aa7:=bn5.symm;have aa8:=bn6.symm;have aa9:=bn7.symm;have hgx:=HG.out;have gx4:¬ gx=g4:=(by omega);have gx5:¬ gx=g5:=(by omega);have gx6:¬ gx=g6:=(by omega);have XC:¬ g4=gx:=(by omega);have XD:¬ g5=gx:=(by omega);have XE:¬ g6=gx:=(by omega);have gx7:¬ gx=g7:=(by omega);have XF:¬ g7=gx:=(by omega);have HS4:=aj (show bY jQ l i+jQ x=bY jQ l (i+1) from IY.out.1.symm);have HS5:=aj (show bY jq l i+x.f4=bY jq l (i+1) from IY.out.2.1.symm);have HS6:=aj (show bY iy l i+x.f5=bY iy l (i+1) from IY.out.2.2.symm);generalize bY jQ l i=s4 at *;generalize bY jq l i=s5 at *;generalize bY iy l i=s6 at *;generalize jQ x=xw at *;generalize x.f4=x4 at *;generalize x.f5=x5 at *;obtain⟨s7,hs7⟩:∃ s:Int,(gP l i:Int)=s:=⟨_,rfl⟩;have HS7:=aj hs7;have c7':0<=s7/\s7<=8192:=(by omega);have w4:IntKind.i64.wrap (s4+xw)=s4+xw:=IntWalk.i64_in _ (by omega);have w5:IntKind.i64.wrap (s5+x4)=s5+x4:=IntWalk.i64_in _ (by omega);have w6:IntKind.i64.wrap (s6+x5)=s6+x5:=IntWalk.i64_in _ (by omega);have wy:IntKind.i64.wrap (y+1)=y+1:=IntWalk.i64_in _ (by omega);have y0:0<=y+1:=(by omega);have y1:y+1 < (n:Int)+1:=(by omega);have y2:y < (n:Int)+1:=(by omega);clear hs7 c7 hl8 hi8 c4 c5 c6 cx cs ct hgx j3 ey ey1;go_upto_region 8 with(fail);refine wB (n:=53) (S:=fun w'=>w'.cell? ⟨bs,4,none⟩=some (.slice (some ⟨g4,0,none⟩) (n+1) (n+1))/\w'.cell? ⟨bs,5,none⟩=some (.slice (some ⟨g5,0,none⟩) (n+1) (n+1))/\w'.cell? ⟨bs,6,none⟩=some (.slice (some ⟨g6,0,none⟩) (n+1) (n+1))/\w'.cell? ⟨g4,y.toNat,none⟩=some (.int .i64 s4)/\w'.cell? ⟨g5,y.toNat,none⟩=some (.int .i64 s5)/\w'.cell? ⟨g6,y.toNat,none⟩=some (.int .i64 s6)/\w'.cell? ⟨gx,4,none⟩=some (.int .i64 x4)/\w'.cell? ⟨gx,5,none⟩=some (.int .i64 x5)) (ds:=[52]) #[aq,aq,aq,aq,aq,aq,aq,aq,aq,aq,aq,aq,aq,aq,aq,aq,aq,aq,aq,aq,aq,aq,aq,aq,aq,aq,aq,aq,aq,aq,aq,aq,aq,aq,aq,aq,aq,aq,aq,aq,aq,aq,aq,aq,aq,aq,aq,aq,aq,aq,aq,aq,aq] (by kernel_rfl) rfl rfl ⟨b4,b5,b6,l4,l5,l6,j4,j5⟩ (fun hHeld=>?_);refine mA IV Fy (fun dX ud=>?_);generalize hw8:W5.drew=w8 at hHeld ⊢;have HP8:=aj (show Lx w8 bs n l (some ad) c A2 m c2 r.f0 r.f1 g4 g5 g6 g7 i by rw[<-hw8];exact⟨HP5.out.box,HP5.out.r4,HP5.out.r5,HP5.out.r6,HP5.out.r7⟩);have HB8:=aj (show Below wr.heap.size wr w8 by rw[<-hw8,HGX.out];exact aG HB5.out);have m4:w8.cell? ⟨g4,(y+1).toNat,none⟩=some (.int .i64 0):=HP8.out.r4.cell (by rw[Lr.out.2];exact lq _ _ _ _ (by omega) (by omega));have m5:w8.cell? ⟨g5,(y+1).toNat,none⟩=some (.int .i64 0):=HP8.out.r5.cell (by rw[Lr.out.2];exact lq _ _ _ _ (by omega) (by omega));have m6:w8.cell? ⟨g6,(y+1).toNat,none⟩=some (.int .i64 0):=HP8.out.r6.cell (by rw[Lr.out.2];exact lq _ _ _ _ (by omega) (by omega));have f4:=aB HP8.out.r4 (y+1).toNat;have f5:=aB HP8.out.r5 (y+1).toNat;have f6:=aB HP8.out.r6 (y+1).toNat;have HJ8:=aj (show w8.cell? ⟨gx,0,none⟩=some (.int .i64 x.f0) by rw[<-hw8];exact j0);clear hw8 b4 b5 b6 l4 l5 l6 j4 j5 j0;refine bW (i:=0) (N:=(some 50)) (v:=?_) (a':=?_) #[au,aq,aq,aq,aq,aq,aq,aq,aq,aq,aq,aq,aq,aq,aq,aq,aq,aq,aq,aq,aq,aq,aq,aq,aq,aq,aq,aq,aq,aq,aq,aq,aq,aq,aq,aq,aq,aq,aq,aq,aq,aq,aq,aq,aq,aq,aq,aq,aq,aq,aq,aq,aq] rfl rfl (bF dX.out (by kernel_rfl)) (fun _ _ _ h=>h) (Or.inl ⟨by rfl,?_⟩) ?_ ?_;rotate_left
     .intro w';go_simp
      with_reducible rfl
     rotate_left
     .simp only[Act.put,aE,aI,aJ,bC];rfl
     refine bW (i:=1) (N:=(some 51)) (v:=?_) (a':=?_) #[au,au,aq,aq,aq,aq,aq,aq,aq,aq,aq,aq,aq,aq,aq,aq,aq,aq,aq,aq,aq,aq,aq,aq,aq,aq,aq,aq,aq,aq,aq,aq,aq,aq,aq,aq,aq,aq,aq,aq,aq,aq,aq,aq,aq,aq,aq,aq,aq,aq,aq,aq,aq] rfl rfl (bF dX.out (by kernel_rfl)) (fun _ _ _ h=>h) (Or.inl ⟨by rfl,?_⟩) ?_ ?_;rotate_left
     .intro w';go_simp
      with_reducible rfl
     rotate_left
     .simp only[Act.put,aE,aI,aJ,bC];rfl
     refine bW (i:=2) (N:=(some 52)) (v:=?_) (a':=?_) #[au,au,au,aq,aq,aq,aq,aq,aq,aq,aq,aq,aq,aq,aq,aq,aq,aq,aq,aq,aq,aq,aq,aq,aq,aq,aq,aq,aq,aq,aq,aq,aq,aq,aq,aq,aq,aq,aq,aq,aq,aq,aq,aq,aq,aq,aq,aq,aq,aq,aq,aq,aq] rfl rfl (bF dX.out (by kernel_rfl)) (fun _ _ _ h=>h) (Or.inl ⟨by rfl,?_⟩) ?_ ?_;rotate_left
     .intro w';go_simp
      with_reducible rfl
     rotate_left
     .simp only[Act.put,aE,aI,aJ,bC];rfl
     refine gY (i:=3) (N:=(some 53)) (v:=?_) (a':=?_) #[au,au,au,au,aq,aq,aq,aq,aq,aq,aq,aq,aq,aq,aq,aq,aq,aq,aq,aq,aq,aq,aq,aq,aq,aq,aq,aq,aq,aq,aq,aq,aq,aq,aq,aq,aq,aq,aq,aq,aq,aq,aq,aq,aq,aq,aq,aq,aq,aq,aq,aq,aq] rfl rfl (dB dX.out ud.out (by kernel_rfl)) (fun _ _ _ h=>h) (Or.inl ⟨by rfl,?_⟩) hHeld ?_ ?_;rotate_left
     .rintro w' ⟨s0,s1,s2,s3,s4,s5,s6,s7⟩;go_simp
      with_reducible rfl
     rotate_left
     .simp only[Act.put,aE,aI,aJ,bC];rfl
     refine bW (i:=4) (N:=(some 54)) (v:=?_) (a':=?_) #[au,au,au,au,au,aq,aq,aq,aq,aq,aq,aq,aq,aq,aq,aq,aq,aq,aq,aq,aq,aq,aq,aq,aq,aq,aq,aq,aq,aq,aq,aq,aq,aq,aq,aq,aq,aq,aq,aq,aq,aq,aq,aq,aq,aq,aq,aq,aq,aq,aq,aq,aq] rfl rfl (bF dX.out (by kernel_rfl)) (fun _ _ _ h=>h) (Or.inl ⟨by rfl,?_⟩) ?_ ?_;rotate_left
     .intro w';go_simp
      with_reducible rfl
     rotate_left
     .simp only[Act.put,aE,aI,aJ,bC];rfl
     refine bW (i:=5) (N:=(some 55)) (v:=?_) (a':=?_) #[au,au,au,au,au,au,aq,aq,aq,aq,aq,aq,aq,aq,aq,aq,aq,aq,aq,aq,aq,aq,aq,aq,aq,aq,aq,aq,aq,aq,aq,aq,aq,aq,aq,aq,aq,aq,aq,aq,aq,aq,aq,aq,aq,aq,aq,aq,aq,aq,aq,aq,aq] rfl rfl (bF dX.out (by kernel_rfl)) (fun _ _ _ h=>h) (Or.inl ⟨by rfl,?_⟩) ?_ ?_;rotate_left
     .intro w';go_simp
      with_reducible rfl
     rotate_left
     .simp only[Act.put,aE,aI,aJ,bC];rfl
     refine bW (i:=6) (N:=(some 56)) (v:=?_) (a':=?_) #[au,au,au,au,au,au,au,aq,aq,aq,aq,aq,aq,aq,aq,aq,aq,aq,aq,aq,aq,aq,aq,aq,aq,aq,aq,aq,aq,aq,aq,aq,aq,aq,aq,aq,aq,aq,aq,aq,aq,aq,aq,aq,aq,aq,aq,aq,aq,aq,aq,aq,aq] rfl rfl (bF dX.out (by kernel_rfl)) (fun _ _ _ h=>h) (Or.inl ⟨by rfl,?_⟩) ?_ ?_;rotate_left
     .intro w';go_simp
      with_reducible rfl
     rotate_left
     .simp only[Act.put,aE,aI,aJ,bC];rfl
     refine bW (i:=7) (N:=(some 57)) (v:=?_) (a':=?_) #[au,au,au,au,au,au,au,au,aq,aq,aq,aq,aq,aq,aq,aq,aq,aq,aq,aq,aq,aq,aq,aq,aq,aq,aq,aq,aq,aq,aq,aq,aq,aq,aq,aq,aq,aq,aq,aq,aq,aq,aq,aq,aq,aq,aq,aq,aq,aq,aq,aq,aq] rfl rfl (bF dX.out (by kernel_rfl)) (fun _ _ _ h=>h) (Or.inl ⟨by rfl,?_⟩) ?_ ?_;rotate_left
     .intro w';go_simp
      with_reducible rfl
     rotate_left
     .simp only[Act.put,aE,aI,aJ,bC];rfl
     refine bW (i:=8) (N:=(some 58)) (v:=?_) (a':=?_) #[au,au,au,au,au,au,au,au,au,aq,aq,aq,aq,aq,aq,aq,aq,aq,aq,aq,aq,aq,aq,aq,aq,aq,aq,aq,aq,aq,aq,aq,aq,aq,aq,aq,aq,aq,aq,aq,aq,aq,aq,aq,aq,aq,aq,aq,aq,aq,aq,aq,aq] rfl rfl (bF dX.out (by kernel_rfl)) (fun _ _ _ h=>h) (Or.inl ⟨by rfl,?_⟩) ?_ ?_;rotate_left
     .intro w';go_simp
      with_reducible rfl
     rotate_left
     .simp only[Act.put,aE,aI,aJ,bC];rfl
     refine gY (i:=9) (N:=(some 59)) (v:=?_) (a':=?_) #[au,au,au,au,au,au,au,au,au,au,aq,aq,aq,aq,aq,aq,aq,aq,aq,aq,aq,aq,aq,aq,aq,aq,aq,aq,aq,aq,aq,aq,aq,aq,aq,aq,aq,aq,aq,aq,aq,aq,aq,aq,aq,aq,aq,aq,aq,aq,aq,aq,aq] rfl rfl (dB dX.out ud.out (by kernel_rfl)) (fun _ _ _ h=>h) (Or.inl ⟨by rfl,?_⟩) hHeld ?_ ?_;rotate_left
     .rintro w' ⟨s0,s1,s2,s3,s4,s5,s6,s7⟩;go_simp
      with_reducible rfl
     rotate_left
     .simp only[Act.put,aE,aI,aJ,bC];rfl
     refine bW (i:=10) (N:=(some 60)) (v:=?_) (a':=?_) #[au,au,au,au,au,au,au,au,au,au,au,aq,aq,aq,aq,aq,aq,aq,aq,aq,aq,aq,aq,aq,aq,aq,aq,aq,aq,aq,aq,aq,aq,aq,aq,aq,aq,aq,aq,aq,aq,aq,aq,aq,aq,aq,aq,aq,aq,aq,aq,aq,aq] rfl rfl (bF dX.out (by kernel_rfl)) (fun _ _ _ h=>h) (Or.inl ⟨by rfl,?_⟩) ?_ ?_;rotate_left
     .intro w';go_simp
      with_reducible rfl
     rotate_left
     .simp only[Act.put,aE,aI,aJ,bC];rfl
     refine bW (i:=11) (N:=(some 61)) (v:=?_) (a':=?_) #[au,au,au,au,au,au,au,au,au,au,au,au,aq,aq,aq,aq,aq,aq,aq,aq,aq,aq,aq,aq,aq,aq,aq,aq,aq,aq,aq,aq,aq,aq,aq,aq,aq,aq,aq,aq,aq,aq,aq,aq,aq,aq,aq,aq,aq,aq,aq,aq,aq] rfl rfl (bF dX.out (by kernel_rfl)) (fun _ _ _ h=>h) (Or.inl ⟨by rfl,?_⟩) ?_ ?_;rotate_left
     .intro w';go_simp
      with_reducible rfl
     rotate_left
     .simp only[Act.put,aE,aI,aJ,bC];rfl
     refine bW (i:=12) (N:=(some 62)) (v:=?_) (a':=?_) #[au,au,au,au,au,au,au,au,au,au,au,au,au,aq,aq,aq,aq,aq,aq,aq,aq,aq,aq,aq,aq,aq,aq,aq,aq,aq,aq,aq,aq,aq,aq,aq,aq,aq,aq,aq,aq,aq,aq,aq,aq,aq,aq,aq,aq,aq,aq,aq,aq] rfl rfl (bF dX.out (by kernel_rfl)) (fun _ _ _ h=>h) (Or.inl ⟨by rfl,?_⟩) ?_ ?_;rotate_left
     .intro w';go_simp
      with_reducible rfl
     rotate_left
     .simp only[Act.put,aE,aI,aJ,bC];rfl
     refine bW (i:=13) (N:=(some 63)) (v:=?_) (a':=?_) #[au,au,au,au,au,au,au,au,au,au,au,au,au,au,aq,aq,aq,aq,aq,aq,aq,aq,aq,aq,aq,aq,aq,aq,aq,aq,aq,aq,aq,aq,aq,aq,aq,aq,aq,aq,aq,aq,aq,aq,aq,aq,aq,aq,aq,aq,aq,aq,aq] rfl rfl (bF dX.out (by kernel_rfl)) (fun _ _ _ h=>h) (Or.inl ⟨by rfl,?_⟩) ?_ ?_;rotate_left
     .intro w';go_simp
      with_reducible rfl
     rotate_left
     .simp only[Act.put,aE,aI,aJ,bC];rfl
     refine bW (i:=14) (N:=(some 64)) (v:=?_) (a':=?_) #[au,au,au,au,au,au,au,au,au,au,au,au,au,au,au,aq,aq,aq,aq,aq,aq,aq,aq,aq,aq,aq,aq,aq,aq,aq,aq,aq,aq,aq,aq,aq,aq,aq,aq,aq,aq,aq,aq,aq,aq,aq,aq,aq,aq,aq,aq,aq,aq] rfl rfl (bF dX.out (by kernel_rfl)) (fun _ _ _ h=>h) (Or.inl ⟨by rfl,?_⟩) ?_ ?_;rotate_left
     .intro w';go_simp
      with_reducible rfl
     rotate_left
     .simp only[Act.put,aE,aI,aJ,bC];rfl
     refine gY (i:=15) (N:=(some 65)) (v:=?_) (a':=?_) #[au,au,au,au,au,au,au,au,au,au,au,au,au,au,au,au,aq,aq,aq,aq,aq,aq,aq,aq,aq,aq,aq,aq,aq,aq,aq,aq,aq,aq,aq,aq,aq,aq,aq,aq,aq,aq,aq,aq,aq,aq,aq,aq,aq,aq,aq,aq,aq] rfl rfl (dB dX.out ud.out (by kernel_rfl)) (fun _ _ _ h=>h) (Or.inl ⟨by rfl,?_⟩) hHeld ?_ ?_;rotate_left
     .rintro w' ⟨s0,s1,s2,s3,s4,s5,s6,s7⟩;go_simp
      with_reducible rfl
     rotate_left
     .simp only[Act.put,aE,aI,aJ,bC];rfl
     refine bW (i:=16) (N:=(some 66)) (v:=?_) (a':=?_) #[au,au,au,au,au,au,au,au,au,au,au,au,au,au,au,au,au,aq,aq,aq,aq,aq,aq,aq,aq,aq,aq,aq,aq,aq,aq,aq,aq,aq,aq,aq,aq,aq,aq,aq,aq,aq,aq,aq,aq,aq,aq,aq,aq,aq,aq,aq,aq] rfl rfl (bF dX.out (by kernel_rfl)) (fun _ _ _ h=>h) (Or.inl ⟨by rfl,?_⟩) ?_ ?_;rotate_left
     .intro w';go_simp
      with_reducible rfl
     rotate_left
     .simp only[Act.put,aE,aI,aJ,bC];rfl
     refine bW (i:=17) (N:=(some 67)) (v:=?_) (a':=?_) #[au,au,au,au,au,au,au,au,au,au,au,au,au,au,au,au,au,au,aq,aq,aq,aq,aq,aq,aq,aq,aq,aq,aq,aq,aq,aq,aq,aq,aq,aq,aq,aq,aq,aq,aq,aq,aq,aq,aq,aq,aq,aq,aq,aq,aq,aq,aq] rfl rfl (bF dX.out (by kernel_rfl)) (fun _ _ _ h=>h) (Or.inl ⟨by rfl,?_⟩) ?_ ?_;rotate_left
     .intro w';go_simp
      with_reducible rfl
     rotate_left
     .simp only[Act.put,aE,aI,aJ,bC];rfl
     refine bW (i:=18) (N:=(some 68)) (v:=?_) (a':=?_) #[au,au,au,au,au,au,au,au,au,au,au,au,au,au,au,au,au,au,au,aq,aq,aq,aq,aq,aq,aq,aq,aq,aq,aq,aq,aq,aq,aq,aq,aq,aq,aq,aq,aq,aq,aq,aq,aq,aq,aq,aq,aq,aq,aq,aq,aq,aq] rfl rfl (bF dX.out (by kernel_rfl)) (fun _ _ _ h=>h) (Or.inl ⟨by rfl,?_⟩) ?_ ?_;rotate_left
     .intro w';go_simp
      with_reducible rfl
     rotate_left
     .simp only[Act.put,aE,aI,aJ,bC];rfl
     refine bW (i:=19) (N:=(some 69)) (v:=?_) (a':=?_) #[au,au,au,au,au,au,au,au,au,au,au,au,au,au,au,au,au,au,au,au,aq,aq,aq,aq,aq,aq,aq,aq,aq,aq,aq,aq,aq,aq,aq,aq,aq,aq,aq,aq,aq,aq,aq,aq,aq,aq,aq,aq,aq,aq,aq,aq,aq] rfl rfl (bF dX.out (by kernel_rfl)) (fun _ _ _ h=>h) (Or.inl ⟨by rfl,?_⟩) ?_ ?_;rotate_left
     .intro w';go_simp
      with_reducible rfl
     rotate_left
     .simp only[Act.put,aE,aI,aJ,bC];rfl
     refine bW (i:=20) (N:=(some 70)) (v:=?_) (a':=?_) #[au,au,au,au,au,au,au,au,au,au,au,au,au,au,au,au,au,au,au,au,au,aq,aq,aq,aq,aq,aq,aq,aq,aq,aq,aq,aq,aq,aq,aq,aq,aq,aq,aq,aq,aq,aq,aq,aq,aq,aq,aq,aq,aq,aq,aq,aq] rfl rfl (bF dX.out (by kernel_rfl)) (fun _ _ _ h=>h) (Or.inl ⟨by rfl,?_⟩) ?_ ?_;rotate_left
     .intro w';go_simp
      with_reducible rfl
     rotate_left
     .simp only[Act.put,aE,aI,aJ,bC];rfl
     refine gY (i:=21) (N:=(some 71)) (v:=?_) (a':=?_) #[au,au,au,au,au,au,au,au,au,au,au,au,au,au,au,au,au,au,au,au,au,au,aq,aq,aq,aq,aq,aq,aq,aq,aq,aq,aq,aq,aq,aq,aq,aq,aq,aq,aq,aq,aq,aq,aq,aq,aq,aq,aq,aq,aq,aq,aq] rfl rfl (dB dX.out ud.out (by kernel_rfl)) (fun _ _ _ h=>h) (Or.inl ⟨by rfl,?_⟩) hHeld ?_ ?_;rotate_left
     .rintro w' ⟨s0,s1,s2,s3,s4,s5,s6,s7⟩;go_simp
      with_reducible rfl
     rotate_left
     .simp only[Act.put,aE,aI,aJ,bC];rfl
     refine bW (i:=22) (N:=(some 72)) (v:=?_) (a':=?_) #[au,au,au,au,au,au,au,au,au,au,au,au,au,au,au,au,au,au,au,au,au,au,au,aq,aq,aq,aq,aq,aq,aq,aq,aq,aq,aq,aq,aq,aq,aq,aq,aq,aq,aq,aq,aq,aq,aq,aq,aq,aq,aq,aq,aq,aq] rfl rfl (bF dX.out (by kernel_rfl)) (fun _ _ _ h=>h) (Or.inl ⟨by rfl,?_⟩) ?_ ?_;rotate_left
     .intro w';go_simp
      with_reducible rfl
     rotate_left
     .simp only[Act.put,aE,aI,aJ,bC];rfl
     refine bW (i:=23) (N:=(some 73)) (v:=?_) (a':=?_) #[au,au,au,au,au,au,au,au,au,au,au,au,au,au,au,au,au,au,au,au,au,au,au,au,aq,aq,aq,aq,aq,aq,aq,aq,aq,aq,aq,aq,aq,aq,aq,aq,aq,aq,aq,aq,aq,aq,aq,aq,aq,aq,aq,aq,aq] rfl rfl (bF dX.out (by kernel_rfl)) (fun _ _ _ h=>h) (Or.inl ⟨by rfl,?_⟩) ?_ ?_;rotate_left
     .intro w';go_simp
      with_reducible rfl
     rotate_left
     .simp only[Act.put,aE,aI,aJ,bC];rfl
     refine gY (i:=24) (N:=(some 74)) (v:=?_) (a':=?_) #[au,au,au,au,au,au,au,au,au,au,au,au,au,au,au,au,au,au,au,au,au,au,au,au,au,aq,aq,aq,aq,aq,aq,aq,aq,aq,aq,aq,aq,aq,aq,aq,aq,aq,aq,aq,aq,aq,aq,aq,aq,aq,aq,aq,aq] rfl rfl (dB dX.out ud.out (by kernel_rfl)) (fun _ _ _ h=>h) (Or.inl ⟨by rfl,?_⟩) hHeld ?_ ?_;rotate_left
     .rintro w' ⟨s0,s1,s2,s3,s4,s5,s6,s7⟩;go_simp
      with_reducible rfl
     rotate_left
     .simp only[Act.put,aE,aI,aJ,bC];rfl
     refine bW (i:=25) (N:=(some 75)) (v:=?_) (a':=?_) #[au,au,au,au,au,au,au,au,au,au,au,au,au,au,au,au,au,au,au,au,au,au,au,au,au,au,aq,aq,aq,aq,aq,aq,aq,aq,aq,aq,aq,aq,aq,aq,aq,aq,aq,aq,aq,aq,aq,aq,aq,aq,aq,aq,aq] rfl rfl (bF dX.out (by kernel_rfl)) (fun _ _ _ h=>h) (Or.inl ⟨by rfl,?_⟩) ?_ ?_;rotate_left
     .intro w';go_simp
      with_reducible rfl
     rotate_left
     .simp only[Act.put,aE,aI,aJ,bC];rfl
     refine bW (i:=26) (N:=(some 76)) (v:=?_) (a':=?_) #[au,au,au,au,au,au,au,au,au,au,au,au,au,au,au,au,au,au,au,au,au,au,au,au,au,au,au,aq,aq,aq,aq,aq,aq,aq,aq,aq,aq,aq,aq,aq,aq,aq,aq,aq,aq,aq,aq,aq,aq,aq,aq,aq,aq] rfl rfl (bF dX.out (by kernel_rfl)) (fun _ _ _ h=>h) (Or.inl ⟨by rfl,?_⟩) ?_ ?_;rotate_left
     .intro w';go_simp
      with_reducible rfl
     rotate_left
     .simp only[Act.put,aE,aI,aJ,bC];rfl
     refine bW (i:=27) (N:=(some 77)) (v:=?_) (a':=?_) #[au,au,au,au,au,au,au,au,au,au,au,au,au,au,au,au,au,au,au,au,au,au,au,au,au,au,au,au,aq,aq,aq,aq,aq,aq,aq,aq,aq,aq,aq,aq,aq,aq,aq,aq,aq,aq,aq,aq,aq,aq,aq,aq,aq] rfl rfl (bF dX.out (by kernel_rfl)) (fun _ _ _ h=>h) (Or.inl ⟨by rfl,?_⟩) ?_ ?_;rotate_left
     .intro w';go_simp
      with_reducible rfl
     rotate_left
     .simp only[Act.put,aE,aI,aJ,bC];rfl
     refine bW (i:=28) (N:=(some 78)) (v:=?_) (a':=?_) #[au,au,au,au,au,au,au,au,au,au,au,au,au,au,au,au,au,au,au,au,au,au,au,au,au,au,au,au,au,aq,aq,aq,aq,aq,aq,aq,aq,aq,aq,aq,aq,aq,aq,aq,aq,aq,aq,aq,aq,aq,aq,aq,aq] rfl rfl (bF dX.out (by kernel_rfl)) (fun _ _ _ h=>h) (Or.inl ⟨by rfl,?_⟩) ?_ ?_;rotate_left
     .intro w';go_simp
      with_reducible rfl
     rotate_left
     .simp only[Act.put,aE,aI,aJ,bC];rfl
     refine bW (i:=29) (N:=(some 79)) (v:=?_) (a':=?_) #[au,au,au,au,au,au,au,au,au,au,au,au,au,au,au,au,au,au,au,au,au,au,au,au,au,au,au,au,au,au,aq,aq,aq,aq,aq,aq,aq,aq,aq,aq,aq,aq,aq,aq,aq,aq,aq,aq,aq,aq,aq,aq,aq] rfl rfl (bF dX.out (by kernel_rfl)) (fun _ _ _ h=>h) (Or.inl ⟨by rfl,?_⟩) ?_ ?_;rotate_left
     .intro w';go_simp
      with_reducible rfl
     rotate_left
     .simp only[Act.put,aE,aI,aJ,bC];rfl
     refine gY (i:=30) (N:=(some 80)) (v:=?_) (a':=?_) #[au,au,au,au,au,au,au,au,au,au,au,au,au,au,au,au,au,au,au,au,au,au,au,au,au,au,au,au,au,au,au,aq,aq,aq,aq,aq,aq,aq,aq,aq,aq,aq,aq,aq,aq,aq,aq,aq,aq,aq,aq,aq,aq] rfl rfl (dB dX.out ud.out (by kernel_rfl)) (fun _ _ _ h=>h) (Or.inl ⟨by rfl,?_⟩) hHeld ?_ ?_;rotate_left
     .rintro w' ⟨s0,s1,s2,s3,s4,s5,s6,s7⟩;go_simp
      with_reducible rfl
     rotate_left
     .simp only[Act.put,aE,aI,aJ,bC];rfl
     refine bW (i:=31) (N:=(some 81)) (v:=?_) (a':=?_) #[au,au,au,au,au,au,au,au,au,au,au,au,au,au,au,au,au,au,au,au,au,au,au,au,au,au,au,au,au,au,au,au,aq,aq,aq,aq,aq,aq,aq,aq,aq,aq,aq,aq,aq,aq,aq,aq,aq,aq,aq,aq,aq] rfl rfl (bF dX.out (by kernel_rfl)) (fun _ _ _ h=>h) (Or.inl ⟨by rfl,?_⟩) ?_ ?_;rotate_left
     .intro w';go_simp
      with_reducible rfl
     rotate_left
     .simp only[Act.put,aE,aI,aJ,bC];rfl
     refine bW (i:=32) (N:=(some 82)) (v:=?_) (a':=?_) #[au,au,au,au,au,au,au,au,au,au,au,au,au,au,au,au,au,au,au,au,au,au,au,au,au,au,au,au,au,au,au,au,au,aq,aq,aq,aq,aq,aq,aq,aq,aq,aq,aq,aq,aq,aq,aq,aq,aq,aq,aq,aq] rfl rfl (bF dX.out (by kernel_rfl)) (fun _ _ _ h=>h) (Or.inl ⟨by rfl,?_⟩) ?_ ?_;rotate_left
     .intro w';go_simp
      with_reducible rfl
     rotate_left
     .simp only[Act.put,aE,aI,aJ,bC];rfl
     refine gY (i:=33) (N:=(some 83)) (v:=?_) (a':=?_) #[au,au,au,au,au,au,au,au,au,au,au,au,au,au,au,au,au,au,au,au,au,au,au,au,au,au,au,au,au,au,au,au,au,au,aq,aq,aq,aq,aq,aq,aq,aq,aq,aq,aq,aq,aq,aq,aq,aq,aq,aq,aq] rfl rfl (dB dX.out ud.out (by kernel_rfl)) (fun _ _ _ h=>h) (Or.inl ⟨by rfl,?_⟩) hHeld ?_ ?_;rotate_left
     .rintro w' ⟨s0,s1,s2,s3,s4,s5,s6,s7⟩;go_simp
      with_reducible rfl
     rotate_left
     .simp only[Act.put,aE,aI,aJ,bC];rfl
     refine bW (i:=34) (N:=(some 84)) (v:=?_) (a':=?_) #[au,au,au,au,au,au,au,au,au,au,au,au,au,au,au,au,au,au,au,au,au,au,au,au,au,au,au,au,au,au,au,au,au,au,au,aq,aq,aq,aq,aq,aq,aq,aq,aq,aq,aq,aq,aq,aq,aq,aq,aq,aq] rfl rfl (bF dX.out (by kernel_rfl)) (fun _ _ _ h=>h) (Or.inl ⟨by rfl,?_⟩) ?_ ?_;rotate_left
     .intro w';go_simp
      with_reducible rfl
     rotate_left
     .simp only[Act.put,aE,aI,aJ,bC];rfl
     refine gY (i:=35) (N:=(some 85)) (v:=?_) (a':=?_) #[au,au,au,au,au,au,au,au,au,au,au,au,au,au,au,au,au,au,au,au,au,au,au,au,au,au,au,au,au,au,au,au,au,au,au,au,aq,aq,aq,aq,aq,aq,aq,aq,aq,aq,aq,aq,aq,aq,aq,aq,aq] rfl rfl (dB dX.out ud.out (by kernel_rfl)) (fun _ _ _ h=>h) (Or.inl ⟨by rfl,?_⟩) hHeld ?_ ?_;rotate_left
     .rintro w' ⟨s0,s1,s2,s3,s4,s5,s6,s7⟩;go_simp
      with_reducible rfl
     rotate_left
     .simp only[Act.put,aE,aI,aJ,bC];rfl
     refine bW (i:=36) (N:=(some 86)) (v:=?_) (a':=?_) #[au,au,au,au,au,au,au,au,au,au,au,au,au,au,au,au,au,au,au,au,au,au,au,au,au,au,au,au,au,au,au,au,au,au,au,au,au,aq,aq,aq,aq,aq,aq,aq,aq,aq,aq,aq,aq,aq,aq,aq,aq] rfl rfl (bF dX.out (by kernel_rfl)) (fun _ _ _ h=>h) (Or.inl ⟨by rfl,?_⟩) ?_ ?_;rotate_left
     .intro w';go_simp
      with_reducible rfl
     rotate_left
     .simp only[Act.put,aE,aI,aJ,bC];rfl
     refine bW (i:=37) (N:=(some 87)) (v:=?_) (a':=?_) #[au,au,au,au,au,au,au,au,au,au,au,au,au,au,au,au,au,au,au,au,au,au,au,au,au,au,au,au,au,au,au,au,au,au,au,au,au,au,aq,aq,aq,aq,aq,aq,aq,aq,aq,aq,aq,aq,aq,aq,aq] rfl rfl (bF dX.out (by kernel_rfl)) (fun _ _ _ h=>h) (Or.inl ⟨by rfl,?_⟩) ?_ ?_;rotate_left
     .intro w';go_simp
      with_reducible rfl
     rotate_left
     .simp only[Act.put,aE,aI,aJ,bC];rfl
     refine bW (i:=38) (N:=(some 88)) (v:=?_) (a':=?_) #[au,au,au,au,au,au,au,au,au,au,au,au,au,au,au,au,au,au,au,au,au,au,au,au,au,au,au,au,au,au,au,au,au,au,au,au,au,au,au,aq,aq,aq,aq,aq,aq,aq,aq,aq,aq,aq,aq,aq,aq] rfl rfl (bF dX.out (by kernel_rfl)) (fun _ _ _ h=>h) (Or.inl ⟨by rfl,?_⟩) ?_ ?_;rotate_left
     .intro w';go_simp
      with_reducible rfl
     rotate_left
     .simp only[Act.put,aE,aI,aJ,bC];rfl
     refine bW (i:=39) (N:=(some 89)) (v:=?_) (a':=?_) #[au,au,au,au,au,au,au,au,au,au,au,au,au,au,au,au,au,au,au,au,au,au,au,au,au,au,au,au,au,au,au,au,au,au,au,au,au,au,au,au,aq,aq,aq,aq,aq,aq,aq,aq,aq,aq,aq,aq,aq] rfl rfl (bF dX.out (by kernel_rfl)) (fun _ _ _ h=>h) (Or.inl ⟨by rfl,?_⟩) ?_ ?_;rotate_left
     .intro w';go_simp
      with_reducible rfl
     rotate_left
     .simp only[Act.put,aE,aI,aJ,bC];rfl
     refine gY (i:=40) (N:=(some 90)) (v:=?_) (a':=?_) #[au,au,au,au,au,au,au,au,au,au,au,au,au,au,au,au,au,au,au,au,au,au,au,au,au,au,au,au,au,au,au,au,au,au,au,au,au,au,au,au,au,aq,aq,aq,aq,aq,aq,aq,aq,aq,aq,aq,aq] rfl rfl (dB dX.out ud.out (by kernel_rfl)) (fun _ _ _ h=>h) (Or.inl ⟨by rfl,?_⟩) hHeld ?_ ?_;rotate_left
     .rintro w' ⟨s0,s1,s2,s3,s4,s5,s6,s7⟩;go_simp
      with_reducible rfl
     rotate_left
     .simp only[Act.put,aE,aI,aJ,bC];rfl
     refine bW (i:=41) (N:=(some 91)) (v:=?_) (a':=?_) #[au,au,au,au,au,au,au,au,au,au,au,au,au,au,au,au,au,au,au,au,au,au,au,au,au,au,au,au,au,au,au,au,au,au,au,au,au,au,au,au,au,au,aq,aq,aq,aq,aq,aq,aq,aq,aq,aq,aq] rfl rfl (bF dX.out (by kernel_rfl)) (fun _ _ _ h=>h) (Or.inl ⟨by rfl,?_⟩) ?_ ?_;rotate_left
     .intro w';go_simp
      with_reducible rfl
     rotate_left
     .simp only[Act.put,aE,aI,aJ,bC];rfl
     refine bW (i:=42) (N:=(some 92)) (v:=?_) (a':=?_) #[au,au,au,au,au,au,au,au,au,au,au,au,au,au,au,au,au,au,au,au,au,au,au,au,au,au,au,au,au,au,au,au,au,au,au,au,au,au,au,au,au,au,au,aq,aq,aq,aq,aq,aq,aq,aq,aq,aq] rfl rfl (bF dX.out (by kernel_rfl)) (fun _ _ _ h=>h) (Or.inl ⟨by rfl,?_⟩) ?_ ?_;rotate_left
     .intro w';go_simp
      with_reducible rfl
     rotate_left
     .simp only[Act.put,aE,aI,aJ,bC];rfl
     refine gY (i:=43) (N:=(some 93)) (v:=?_) (a':=?_) #[au,au,au,au,au,au,au,au,au,au,au,au,au,au,au,au,au,au,au,au,au,au,au,au,au,au,au,au,au,au,au,au,au,au,au,au,au,au,au,au,au,au,au,au,aq,aq,aq,aq,aq,aq,aq,aq,aq] rfl rfl (dB dX.out ud.out (by kernel_rfl)) (fun _ _ _ h=>h) (Or.inl ⟨by rfl,?_⟩) hHeld ?_ ?_;rotate_left
     .rintro w' ⟨s0,s1,s2,s3,s4,s5,s6,s7⟩;go_simp
      with_reducible rfl
     rotate_left
     .simp only[Act.put,aE,aI,aJ,bC];rfl
     refine bW (i:=44) (N:=(some 94)) (v:=?_) (a':=?_) #[au,au,au,au,au,au,au,au,au,au,au,au,au,au,au,au,au,au,au,au,au,au,au,au,au,au,au,au,au,au,au,au,au,au,au,au,au,au,au,au,au,au,au,au,au,aq,aq,aq,aq,aq,aq,aq,aq] rfl rfl (bF dX.out (by kernel_rfl)) (fun _ _ _ h=>h) (Or.inl ⟨by rfl,?_⟩) ?_ ?_;rotate_left
     .intro w';go_simp
      with_reducible rfl
     rotate_left
     .simp only[Act.put,aE,aI,aJ,bC];rfl
     refine gY (i:=45) (N:=(some 95)) (v:=?_) (a':=?_) #[au,au,au,au,au,au,au,au,au,au,au,au,au,au,au,au,au,au,au,au,au,au,au,au,au,au,au,au,au,au,au,au,au,au,au,au,au,au,au,au,au,au,au,au,au,au,aq,aq,aq,aq,aq,aq,aq] rfl rfl (dB dX.out ud.out (by kernel_rfl)) (fun _ _ _ h=>h) (Or.inl ⟨by rfl,?_⟩) hHeld ?_ ?_;rotate_left
     .rintro w' ⟨s0,s1,s2,s3,s4,s5,s6,s7⟩;go_simp
      with_reducible rfl
     rotate_left
     .simp only[Act.put,aE,aI,aJ,bC];rfl
     refine bW (i:=46) (N:=(some 96)) (v:=?_) (a':=?_) #[au,au,au,au,au,au,au,au,au,au,au,au,au,au,au,au,au,au,au,au,au,au,au,au,au,au,au,au,au,au,au,au,au,au,au,au,au,au,au,au,au,au,au,au,au,au,au,aq,aq,aq,aq,aq,aq] rfl rfl (bF dX.out (by kernel_rfl)) (fun _ _ _ h=>h) (Or.inl ⟨by rfl,?_⟩) ?_ ?_;rotate_left
     .intro w';go_simp
      with_reducible rfl
     rotate_left
     .simp only[Act.put,aE,aI,aJ,bC];rfl
     refine bW (i:=47) (N:=(some 97)) (v:=?_) (a':=?_) #[au,au,au,au,au,au,au,au,au,au,au,au,au,au,au,au,au,au,au,au,au,au,au,au,au,au,au,au,au,au,au,au,au,au,au,au,au,au,au,au,au,au,au,au,au,au,au,au,aq,aq,aq,aq,aq] rfl rfl (bF dX.out (by kernel_rfl)) (fun _ _ _ h=>h) (Or.inl ⟨by rfl,?_⟩) ?_ ?_;rotate_left
     .intro w';go_simp
      with_reducible rfl
     rotate_left
     .simp only[Act.put,aE,aI,aJ,bC];rfl
     refine Cz (i:=48) (N:=none) #[au,au,au,au,au,au,au,au,au,au,au,au,au,au,au,au,au,au,au,au,au,au,au,au,au,au,au,au,au,au,au,au,au,au,au,au,au,au,au,au,au,au,au,au,au,au,au,au,au,aq,aq,aq,aq] rfl rfl (jy dX.out (by kernel_rfl)) (by decide) (fun K hK=>?_);refine wC (w1:=?_) (by rfl) rfl ?_ ?_;rotate_left
     .go_simp;rfl
     refine hK.out _ _ ?_ (fun hHeld=>?_)
     .exact⟨dS hHeld.1 (by omega),dS hHeld.2.1 (by omega),dS hHeld.2.2.1 (by omega),dS hHeld.2.2.2.1 (by omega),dS hHeld.2.2.2.2.1 (by omega),dS hHeld.2.2.2.2.2.1 (by omega),dS hHeld.2.2.2.2.2.2.1 (by omega),dS hHeld.2.2.2.2.2.2.2 (by omega)⟩
     clear hK K;refine bW (i:=49) (N:=(some 98)) (v:=?_) (a':=?_) #[au,au,au,au,au,au,au,au,au,au,au,au,au,au,au,au,au,au,au,au,au,au,au,au,au,au,au,au,au,au,au,au,au,au,au,au,au,au,au,au,au,au,au,au,au,au,au,au,au,au,aq,aq,aq] rfl rfl (bF dX.out (by kernel_rfl)) (fun _ _ _ h=>h) (Or.inl ⟨by rfl,?_⟩) ?_ ?_;rotate_left
     .intro w';go_simp
      with_reducible rfl
     rotate_left
     .simp only[Act.put,aE,aI,aJ,bC];rfl
     refine Cz (i:=50) (N:=none) #[au,au,au,au,au,au,au,au,au,au,au,au,au,au,au,au,au,au,au,au,au,au,au,au,au,au,au,au,au,au,au,au,au,au,au,au,au,au,au,au,au,au,au,au,au,au,au,au,au,au,au,aq,aq] rfl rfl (jy dX.out (by kernel_rfl)) (by decide) (fun K hK=>?_);refine wC (w1:=?_) (by rfl) rfl ?_ ?_;rotate_left
     .go_simp;rfl
     refine hK.out _ _ ?_ (fun hHeld=>?_)
     .exact⟨dS hHeld.1 (by omega),dS hHeld.2.1 (by omega),dS hHeld.2.2.1 (by omega),dS hHeld.2.2.2.1 (by omega),dS hHeld.2.2.2.2.1 (by omega),dS hHeld.2.2.2.2.2.1 (by omega),dS hHeld.2.2.2.2.2.2.1 (by omega),dS hHeld.2.2.2.2.2.2.2 (by omega)⟩
     clear hK K;refine bW (i:=51) (N:=(some 99)) (v:=?_) (a':=?_) #[au,au,au,au,au,au,au,au,au,au,au,au,au,au,au,au,au,au,au,au,au,au,au,au,au,au,au,au,au,au,au,au,au,au,au,au,au,au,au,au,au,au,au,au,au,au,au,au,au,au,au,au,aq] rfl rfl (bF dX.out (by kernel_rfl)) (fun _ _ _ h=>h) (Or.inl ⟨by rfl,?_⟩) ?_ ?_;rotate_left
     .intro w';go_simp
      with_reducible rfl
     rotate_left
     .simp only[Act.put,aE,aI,aJ,bC];rfl
     refine CA (i:=52) (N:=none) #[au,au,au,au,au,au,au,au,au,au,au,au,au,au,au,au,au,au,au,au,au,au,au,au,au,au,au,au,au,au,au,au,au,au,au,au,au,au,au,au,au,au,au,au,au,au,au,au,au,au,au,au,au] rfl rfl (jy dX.out (by kernel_rfl)) (by decide) (fun K hK=>?_);refine wC (w1:=?_) (by rfl) rfl ?_ ?_;rotate_left
     .go_simp;rfl
     refine hK.out _ _ ?_;clear hK K;refine CB (rQ dX.out (by kernel_rfl)) ?_;have HK9:=aj (HP8.out.mid ⟨bn4,bn5,bn6,bn7⟩ ⟨e45,e46,e47,e56,e57,e67⟩ (y+1).toNat Lr.out.2 _ _ _ HS4.out HS5.out HS6.out)
     have HF9:=aj (show fB (fun k=>k=g4\/k=g5\/k=g6\/k=g7) wr (((w8.setCell ⟨g4,(y+1).toNat,none⟩ (.int .i64 (s4+xw))).setCell ⟨g5,(y+1).toNat,none⟩ (.int .i64 (s5+x4))).setCell ⟨g6,(y+1).toNat,none⟩ (.int .i64 (s6+x5))) from
      (((fB.ji HB8.out (Nat.le_refl _)).set _ _ _ (.inl (.inl rfl))).set _ _ _ (.inl (.inr (.inl rfl)))).set _ _ _ (.inl (.inr (.inr (.inl rfl)))))
     obtain⟨w9,hw9⟩:∃ w9,(((w8.setCell ⟨g4,(y+1).toNat,none⟩ (.int .i64 (s4+xw))).setCell ⟨g5,(y+1).toNat,none⟩ (.int .i64 (s5+x4))).setCell ⟨g6,(y+1).toNat,none⟩ (.int .i64 (s6+x5)))=w9:=⟨_,rfl⟩;have x9:w9.cell? ⟨gx,0,none⟩=some (.int .i64 x.f0):=by
      rw[<-hw9];exact dS (dS (dS HJ8.out (.inl XC)) (.inl XD)) (.inl XE)
     rw[hw9] at HK9 HF9 ⊢;clear hw9;have b7:w9.cell? ⟨bs,7,none⟩=some (.slice (some ⟨g7,0,none⟩) (n+1) (n+1)):=(ak HK9.out.box 7).trans rfl;have m7:w9.cell? ⟨g7,(y+1).toNat,none⟩=some (.int .i64 0):=HK9.out.r7.cell (by rw[Lr.out.2];exact lq _ _ _ _ (by omega) cg.out);have f7:=aB HK9.out.r7 (y+1).toNat;go_upto_region 10 with(fail);have HK10:=aj (HK9.out.put bn7 ⟨e47,e57,e67⟩ (y+1).toNat (y+1));have HF10:=aj (HF9.out.set g7 (y+1).toNat (.int .i64 (y+1)) (.inl (.inr (.inr (.inr rfl)))));have x10:(w9.setCell ⟨g7,(y+1).toNat,none⟩ (.int .i64 (y+1))).cell? ⟨gx,0,none⟩=some (.int .i64 x.f0):=dS x9 (.inl XF);obtain⟨wt,Zr⟩:∃ wt,w9.setCell ⟨g7,(y+1).toNat,none⟩ (.int .i64 (y+1))=wt:=⟨_,rfl⟩;rw[Zr] at HK10 HF10 x10 ⊢;clear Zr b7 m7 f7 x9 HK9 HF9;by_cases h2:x.f0=2
     .have hg:(x.f0 == 2)=true:=(by simp[h2]);have HQ:=aj (show gP l (i+1)=gP l i by rw[KH.out,if_pos h2]);have b7:wt.cell? ⟨bs,7,none⟩=some (.slice (some ⟨g7,0,none⟩) (n+1) (n+1)):=(ak HK10.out.box 7).trans rfl;have l7:wt.cell? ⟨g7,y.toNat,none⟩=some (.int .i64 s7):=HK10.out.r7.cell (by rw[List.getElem?_set_ne n4,Lr.out.1,kP _ _ _ _ (Nat.le_refl _) (by have:=cg.out;omega),HS7.out]);generalize x.f0=VY at *;clear h2;go_upto_region 11 with(fail);have y7:=Bx.cell b7;have yl:=Bx.cell l7;refine cE 14 (by kernel_rfl) (by kernel_rfl) ?_;simp only[List.take_succ_cons,List.take_zero,List.drop_succ_cons,List.drop_zero]
      repeat(go_big_quiet_step (fail))
      refine wpQuiet_nil ?_;intro w7 hb7;have HK11:=aj (HK10.out.below hb7);have HF11:=aj (HF10.out.trans (fB.ji hb7 (Nat.le_refl _)));have m7:w7.cell? ⟨g7,(y+1).toNat,none⟩=some (.int .i64 (y+1)):=HK11.out.r7.cell (by rw[List.getElem?_set_self (by rw[z_,Lr.out.2];have:=cg.out;omega)]);have f7:=aB HK11.out.r7 (y+1).toNat;clear y7 yl b7 l7 x10;go_wp2;go_roundw
      case rel =>
       refine⟨y+1,i+1,rfl,⟨by rw[hy.out];omega⟩,⟨cg.out⟩,⟨(HK11.out.put bn7 ⟨e47,e57,e67⟩ (y+1).toNat s7).done ?_⟩,⟨?_,?_⟩⟩
       .rw[List.set_set,Lr.out.2,<-HS7.out,<-HQ.out];exact mM (fun k=>(gP l k:Int)) n i
       .exact hB.out.1.trans ((HF11.out.set g7 (y+1).toNat (.int .i64 s7) (.inl (.inr (.inr (.inr rfl))))).below (by have:=hB.out.1.size;have:=Oq.out;omega) (fun k hk=>by have:=Bs.out.ge;have:=Oq.out;omega))
       .exact hB.out.2.trans (HF11.out.set g7 (y+1).toNat (.int .i64 s7) (.inl (.inr (.inr (.inr rfl)))))
      case measure=>have:=cg.out;have:=hy.out;simp[intOf];omega
     .have hg:(x.f0 == 2)=false:=(by simpa using h2);have HQ:=aj (show((gP l (i+1):Nat):Int)=y+1 by rw[KH.out,if_neg h2,hy.out];omega);generalize x.f0=VY at *;clear h2;go_wp2;go_roundw
      case rel =>
       refine⟨y+1,i+1,rfl,⟨by rw[hy.out];omega⟩,⟨cg.out⟩,⟨HK10.out.done ?_⟩,⟨?_,?_⟩⟩
       .rw[Lr.out.2,<-HQ.out];exact mM (fun k=>(gP l k:Int)) n i
       .exact hB.out.1.trans (HF10.out.below (by have:=hB.out.1.size;have:=Oq.out;omega) (fun k hk=>by have:=Bs.out.ge;have:=Oq.out;omega))
       .exact hB.out.2.trans HF10.out
      case measure=>have:=cg.out;have:=hy.out;simp[intOf];omega
   .have hin:i=n:=(by have:=hi.out;omega);subst hin;have d1:decide (y < (i:Int))=false:=decide_eq_false (by rw[hy.out];omega);clear hlt;go_wp2;refine bodyPost_ret (results_none rfl _ _ _) rfl ?_;exact⟨⟨_,rfl⟩,g4,g5,g6,g7,⟨hP.out.box,hP.out.r4,hP.out.r5,hP.out.r6,hP.out.r7,HL.out wr hB.out.1⟩,Bs.out.far.then_ hB.out.2 (fun k hk e=>by have:=Bs.out.ge;omega),hB.out.1⟩
end Go.Proofs.YtcaallkkeighdaaGreatDoor.P
