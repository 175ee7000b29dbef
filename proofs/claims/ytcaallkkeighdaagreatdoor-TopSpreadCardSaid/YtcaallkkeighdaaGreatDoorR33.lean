/- para.best,para.pieces;what holds of pieces. item.Give: how far a line's Glues stretch and shrink. -/
import Derived.Test.YtcaallkkeighdaaGreatDoorR32
import Derived.Test.YtcaallkkeighdaaGreatDoorR28
set_option maxRecDepth 100000
set_option maxHeartbeats 16000000
set_option linter.unusedVariables false
set_option linter.unusedSimpArgs false
namespace Go.Proofs.YtcaallkkeighdaaGreatDoor.P
open Go.RowKit aD aQ aR
def ur(P:List S72)(i:Nat):S72:=P.getD i z72
def xU(n:Nat)(p:S72):Prop:=0<=p.f0/\p.f0<=p.f1/\p.f1<=(n:Int)
def yR(n:Nat):List S72->Prop
 | []=>False
 | [p]=>xU n p
 | p :: q :: Q=>xU n p/\p.f0 < q.f0/\q.f0 < (n:Int)/\yR n (q :: Q)
theorem yR.one{n:Nat}:∀ {P:List S72},yR n P->∀ i,i < P.length->xU n (ur P i)
 | [],h,_,_=>h.elim
 | [p],h,i,hi=>by
  have:i=0:=by simp at hi;omega
  subst this;exact h
 | p :: q :: Q,h,0,_=>h.1
 | p :: q :: Q,h,i+1,hi=>yR.one (P:=q :: Q) h.2.2.2 i (by simpa using hi)
theorem yR.next{n:Nat}:∀ {P:List S72},yR n P->∀ i,i+1 < P.length->(ur P i).f0 < (ur P (i+1)).f0/\(ur P (i+1)).f0 < (n:Int)
 | [],h,_,_=>h.elim
 | [p],h,i,hi=>by simp at hi
 | p :: q :: Q,h,0,_=>⟨h.2.1,h.2.2.1⟩
 | p :: q :: Q,h,i+1,hi=>yR.next (P:=q :: Q) h.2.2.2 i (by simpa using hi)
theorem Ak(l:List S75)(S:List S30)(r:S30):∀ d k a,a < l.length->l.length - a < d->yR l.length (fW l S r d k a)/\∃ p Q,fW l S r d k a=p :: Q/\p.f0=(a:Int)
 | 0,_,_,_,h=>by omega
 | d+1,k,a,ha,hd=>by
  have hb:=iw l (bG S r k) a ha;have hs:=iP l _ hb.2.2.1;rw[fW,if_pos ha];refine⟨?_,_,_,rfl,rfl⟩;have h1:xU l.length (pU l (bG S r k) a):=⟨by show(0:Int)<=(a:Int);omega,by show(a:Int)<=((dR l (bG S r k) a:Nat):Int);omega,by show((dR l (bG S r k) a:Nat):Int)<=_;omega⟩;by_cases hn:gD l (dR l (bG S r k) a) < l.length
  .obtain⟨ih,p,Q,e,hp⟩:=Ak l S r d (k+1) _ hn (by omega);rw[e] at ih ⊢;exact⟨h1,by rw[hp];show(a:Int) < _;omega,by rw[hp];omega,ih⟩
  .have e:fW l S r d (k+1) (gD l (dR l (bG S r k) a))=[]:=by
    cases d with
    | zero=>rfl
    | succ d=>rw[fW,if_neg hn]
   rw[e];exact h1
theorem sZ(l:List S75)(S:List S30)(r:S30):yR l.length (iA l S r):=by
 unfold iA;split
 .exact⟨by show(0:Int)<=(l.length:Int);omega,Int.le_refl _,Int.le_refl _⟩
 .rename_i h
  have hr:=fV l l.length 0;unfold jo at h ⊢;exact(Ak l S r (l.length+1) 0 _ (by omega) (by omega)).1
theorem ru{l:List S75}{bf:Int}{b:Nat}(h:gJ l bf b=true)(he:kf l=false):lstart l bf < b:=by
 unfold gJ at h;split at h
 .rw[he] at h
  simpa using h
 .rw[Bool.and_eq_true,Bool.and_eq_true] at h;exact of_decide_eq_true h.2.1
theorem DI{l:List S75}{S:List S30}{r:S30}(he:kf l=false):∀ (P:List S72) (k:Nat) (bf:Int),P≠[]->Chain l S r k bf P->yR l.length P/\∃ p Q,P=p :: Q/\p.f0=(lstart l bf:Int)
 | [],_,_,h,_=>absurd rfl h
 | [p],k,bf,_,h=>by
  obtain⟨b,h1,h2,h3,rfl,h5⟩:=h;have:=ru h1 he;exact⟨⟨by show(0:Int)<=((lstart l bf:Nat):Int);omega,by show((lstart l bf:Nat):Int)<=(b:Int);omega,by show(b:Int)<=_;omega⟩,_,_,rfl,rfl⟩
 | p :: q :: Q,k,bf,_,h=>by
  obtain⟨b,h1,h2,h3,rfl,h5⟩:=h;have hlt:=ru h1 he;obtain⟨ih,p',Q',e,hp⟩:=DI he (q :: Q) (k+1) b (by simp) h5;injection e with e1 e2;subst e1;obtain⟨b',h1',h2',h3',hq,h5'⟩:=h5;have hlt':=ru h1' he;have hl:=(mH l (b:Int) (by omega)).2;refine⟨⟨⟨by show(0:Int)<=((lstart l bf:Nat):Int);omega,by show((lstart l bf:Nat):Int)<=(b:Int);omega,by show(b:Int)<=_;omega⟩,by rw[hp];show((lstart l bf:Nat):Int) < _;omega,by rw[hp];omega,ih⟩,_,_,rfl,rfl⟩
theorem Ma{l:List S75}{S:List S30}{r:S30}{P:List S72}(h:Chain l S r 0 (-1) P):P≠[]:=by
 intro e;rw[e] at h;have:(-1:Int)=(l.length:Int):=h;omega
theorem DJ{l:List S75}{S:List S30}{r:S30}(h:LY l S r)(h0:(leastOf l S r).2.2=0):yR l.length (leastOf l S r).1:=by
 rcases (h h0).2 with⟨_,e⟩|⟨he,hc⟩
 .rw[e];exact⟨by show(0:Int)<=(l.length:Int);omega,Int.le_refl _,Int.le_refl _⟩
 .exact(DI he _ 0 (-1) (Ma hc) hc).1
def eU(l:List S75)(S:List S30)(r:S30)(le:Int):List S72 × Bool × Bool :=
 if le=1/\iH l=false then (if (leastOf l S r).2.2=0 then ((leastOf l S r).1,false,false) else (iA l S r,true,true)) else (iA l S r,true,false)
def Rp(l:List S75)(S:List S30)(r:S30)(le:Int)(w:World)(e:Ending)(w':World):Prop:=∃ v,e=.returned (.agg #[v,.bool (eU l S r le).2.1,.bool (eU l S r le).2.2])/\k72.R 72 w' w.heap.size (fun _=>True) v (eU l S r le).1/\Below w.heap.size w w'/\(le=1/\iH l=false->LY l S r)
theorem B_{l:List S75}{A:Option Addr}{n c:Nat}{S:List S30}{A2:Option Addr}{m c2:Nat}{r:S30}(hn:l.length=n)(hm:S.length=m)(w:World)(hl:Kd.C k75 w A n l)(hc:n<=c)(h:∀ x∈l,cY x)(hn8:n<=8192)(hs:Kd.C k30 w A2 m S)(hc2:m<=c2)(h0:bV S r=0) :
  Calls Tryz.prog 54 #[.slice A n c,.slice A2 m c2,.agg #[.int .i64 r.f0,.int .i64 r.f1]] w (Ls l S r w):=by
 subst hn hm;exact Dq l A c S A2 c2 r w hl hc h hn8 hs hc2 h0
theorem G6{l:List S75}{A:Option Addr}{n c:Nat}(hn:l.length=n)(w:World)(hl:Kd.C k75 w A n l)(hc:n<=c)(hn8:n<=8192)(b:Bool)(hb:iH l=b):Calls Tryz.prog 13 #[.slice A n c] w fun e w'=>e=.returned (.bool b)/\Below w.heap.size w w':=by
 subst hn hb;exact oH l A c w hl hc hn8
def Rq(l:List S75)(S:List S30)(r:S30)(w:World)(e:Ending)(w':World):Prop:=∃ v,e=.returned (.tuple #[v,.int .i64 (leastOf l S r).2.2])/\k72.R 72 w' w.heap.size (fun _=>True) v (leastOf l S r).1/\Below w.heap.size w w'/\LY l S r
theorem xV(l:List S75)(A:Option Addr)(n c:Nat)(S:List S30)(A2:Option Addr)(m c2:Nat)(r:S30)(w:World)(hn:l.length=n)(hm:S.length=m)(hl:Kd.C k75 w A n l)(hc:n<=c)(hi:∀ x∈l,cY x)(hn8:n<=8192)(hs:Kd.C k30 w A2 m S)(hc2:m<=c2)(h0:bV S r=0)(Pz:sD l S r=0) :
  Calls Tryz.prog 55 #[.slice A n c,.slice A2 m c2,.agg #[.int .i64 r.f0,.int .i64 r.f1]] w (Rq l S r w):=by
 have HL:=aj hl;have HC:=aj hc;have HI:=aj hi;have HN:=aj hn;have HM:=aj hm;have HN8:=aj hn8;have HS:=aj hs;have HC2:=aj hc2;have H0:=aj h0;have zh:=aj Pz;have HB0:=aj ((Below.refl w.heap.size w).alloc (Nat.le_refl _) (.cells #[.int .i64 r.f0,.int .i64 r.f1] 30));clear hl hc hi hn hm hs hc2 h0 Pz hn8;go_enter Tryz.func55,Tryz.ntmps55;go_wp2_with (go_at_call 15;go_loud(refine(BR l A n c S A2 m c2 r _ HN.out HM.out (Kd.aM HL.out HB0.out) HC.out HI.out HN8.out (Kd.aM HS.out HB0.out) HC2.out H0.out zh.out).mono ?_;rintro e w1 ⟨v1,rfl,hR,hb1,hok⟩));go_ret2;exact⟨v1,rfl,Kd.fF hR (by simp),HB0.out.trans (hb1.mono HB0.out.size),hok⟩
theorem iX{w:World}{base bo:Nat}{v:Value}{xs:List S72}(h:k72.R 72 w base (fun _=>True) v xs)(PE:bo < base)(j:Nat)(u:Value):k72.R 72 (w.setCell ⟨bo,j,none⟩ u) base (fun _=>True) v xs :=
 Kd.fK (Kd.ou (p:=⟨bo,j,none⟩) (Kd.eS h) (fun k hk=>by have:=hk.2.1;show k≠bo;omega) u) (fun _ _=>trivial)
theorem Ca(p:Pa){As Am:Option Addr}{cs cm:Nat}(l:List S75)(A:Option Addr)(n c:Nat)(S:List S30)(A2:Option Addr)(m c2:Nat)(r:S30)(w:World)(hn:l.length=n)(hm:S.length=m)(hl:Kd.C k75 w A n l)(hc:n<=c)(hi:∀ x∈l,cY x)(hn8:n<=8192)(hs:Kd.C k30 w A2 m S)(hc2:m<=c2)(h0:bV S r=0) :
  Calls Tryz.prog 21 #[.agg (cG p As cs Am cm),.slice A n c,.slice A2 m c2,.agg #[.int .i64 r.f0,.int .i64 r.f1]] w (Rp l S r p.pr.f13 w):=by
 have HL:=aj hl;have HC:=aj hc;have HI:=aj hi;have HN:=aj hn;have HM:=aj hm;have HN8:=aj hn8;have HS:=aj hs;have HC2:=aj hc2;have H0:=aj h0;have HB0:=aj ((((Below.refl w.heap.size w).alloc (Nat.le_refl _) (.cells (cG p As cs Am cm) 27)).alloc (by simp) (.cells #[.int .i64 r.f0,.int .i64 r.f1] 30)).alloc (by simp;omega) (.cells #[.slice none 0 0,.bool false,.bool false] 69));have dI:=aj (aP (aP (aH w (.cells (cG p As cs Am cm) 27)) (.cells #[.int .i64 r.f0,.int .i64 r.f1] 30)) (.cells #[.slice none 0 0,.bool false,.bool false] 69));have nj:=aP (aH (w.alloc (.cells (cG p As cs Am cm) 27)) (.cells #[.int .i64 r.f0,.int .i64 r.f1] 30)) (.cells #[.slice none 0 0,.bool false,.bool false] 69);have KG:=aH ((w.alloc (.cells (cG p As cs Am cm) 27)).alloc (.cells #[.int .i64 r.f0,.int .i64 r.f1] 30)) (.cells #[.slice none 0 0,.bool false,.bool false] 69);simp only[World.size_alloc] at nj KG;have kH:=aj nj;have JN:=aj KG;clear hl hc hi hn hm hs hc2 h0 hn8 nj KG;go_enter Tryz.func21,Tryz.ntmps21;go_upto_region 2 with(fail);generalize ((w.alloc (.cells (cG p As cs Am cm) 27)).alloc (.cells #[.int .i64 r.f0,.int .i64 r.f1] 30)).alloc (.cells #[.slice none 0 0,.bool false,.bool false] 69)=w3 at *;have x15:w3.cell? ⟨w.heap.size,15,none⟩=some (.int .i64 p.pr.f13):=(ak dI.out 15).trans rfl;by_cases hle:p.pr.f13=1
 .have d1:(p.pr.f13 == 1)=true:=by simp[hle]
  cases hlp:iH l with
  | true =>
   have HF:=aj (show eU l S r p.pr.f13=(iA l S r,true,false) by unfold eU;rw[if_neg (by rintro⟨_,q⟩;rw[hlp] at q;cases q)]);have Yq:=aj (show ¬ (p.pr.f13=1/\iH l=false) by rintro⟨_,q⟩;rw[hlp] at q;cases q);have M7:=aj hlp;clear hle hlp;go_upto_region 4 with(go_at_call 13;go_loud(refine(G6 HN.out _ (Kd.aM HL.out HB0.out) HC.out HN8.out true M7.out).mono ?_;rintro e w4 ⟨rfl,hb4⟩;have HB4:=aj (HB0.out.trans (hb4.mono HB0.out.size));have uw:=aj (ay kH.out hb4);have Jg:=aj (ay JN.out hb4)));have r0:w4.cell? ⟨w.heap.size+1,0,none⟩=some (.int .i64 r.f0):=(ak uw.out 0).trans rfl;have r1:w4.cell? ⟨w.heap.size+1,1,none⟩=some (.int .i64 r.f1):=(ak uw.out 1).trans rfl;go_upto_region 6 with(go_at_call 54;go_loud(refine(B_ HN.out HM.out _ (Kd.aM HL.out HB4.out) HC.out HI.out HN8.out (Kd.aM HS.out HB4.out) HC2.out H0.out).mono ?_;rintro e w5 ⟨v5,rfl,hR5,hb5⟩;obtain⟨A5,c5,e5,_,_⟩:=Kd.fG hR5;subst e5;have HR5:=aj hR5;have HB5:=aj (HB4.out.trans (hb5.mono HB4.out.size));have i_:=aj (ay Jg.out hb5);have uN:=aj (show w.heap.size+1+1 < w4.heap.size from aY Jg.out);clear hb5 hR5));have z0:w5.cell? ⟨w.heap.size+1+1,0,none⟩=some (.slice none 0 0):=(ak i_.out 0).trans rfl;have z1:w5.cell? ⟨w.heap.size+1+1,1,none⟩=some (.bool false):=(ak i_.out 1).trans rfl;have z2:w5.cell? ⟨w.heap.size+1+1,2,none⟩=some (.bool false):=(ak i_.out 2).trans rfl;have f0:=aB i_.out 0;have f1:=aB i_.out 1;have f2:=aB i_.out 2;go_wp2;refine bodyPost_ret (results_cell_row Tryz.results21 _ _ (w.heap.size+1+1) 69 #[_,.bool true,.bool false] (0,0) _ rfl (aN (aN (aN i_.out 0 _ rfl) 1 _ rfl) 2 _ rfl) Tryz.underlying69 rfl (by kernel_rfl)) rfl ?_;refine⟨_,by rw[HF.out],by rw[HF.out];exact Kd.fF (iX (iX (iX HR5.out uN.out _ _) uN.out _ _) uN.out _ _) (by have:=uN.out;omega),((HB5.out.setCell (by simp;omega) _).setCell (by simp;omega) _).setCell (by simp;omega) _,fun q=>absurd q Yq.out⟩
  | false =>
   have Pz:sD l S r=0:=by unfold sD;rw[if_pos H0.out,if_neg (by rw[hlp];decide)]
   have zh:=aj Pz;have M7:=aj hlp;have HF0:=aj (show eU l S r p.pr.f13=(if (leastOf l S r).2.2=0 then ((leastOf l S r).1,false,false) else (iA l S r,true,true)) by unfold eU;rw[if_pos ⟨hle,hlp⟩]);clear hle hlp Pz;go_upto_region 4 with(go_at_call 13;go_loud(refine(G6 HN.out _ (Kd.aM HL.out HB0.out) HC.out HN8.out false M7.out).mono ?_;rintro e w4 ⟨rfl,hb4⟩;have HB4:=aj (HB0.out.trans (hb4.mono HB0.out.size));have uw:=aj (ay kH.out hb4);have Jg:=aj (ay JN.out hb4)));have r0:w4.cell? ⟨w.heap.size+1,0,none⟩=some (.int .i64 r.f0):=(ak uw.out 0).trans rfl;have r1:w4.cell? ⟨w.heap.size+1,1,none⟩=some (.int .i64 r.f1):=(ak uw.out 1).trans rfl;obtain⟨er,her⟩:∃ er,(leastOf l S r).2.2=er:=⟨_,rfl⟩;have ZN:=aj her;by_cases h00:er=0
   .have d4:(er == 0)=true:=(by simp[h00]);have HF:=aj (show eU l S r p.pr.f13=((leastOf l S r).1,false,false) by rw[HF0.out,if_pos (by rw[her];exact h00)]);clear h00 her;go_upto_region 6 with(go_at_call 55;go_loud(refine(xV l A n c S A2 m c2 r _ HN.out HM.out (Kd.aM HL.out HB4.out) HC.out HI.out HN8.out (Kd.aM HS.out HB4.out) HC2.out H0.out zh.out).mono ?_;rintro e w5 ⟨v5,rfl,hR5,hb5,hok⟩;obtain⟨A5,c5,e5,_,_⟩:=Kd.fG hR5;subst e5;rw[ZN.out];have HR5:=aj hR5;have CU:=aj hok;have HB5:=aj (HB4.out.trans (hb5.mono HB4.out.size));have i_:=aj (ay Jg.out hb5);have uN:=aj (show w.heap.size+1+1 < w4.heap.size from aY Jg.out);clear hb5 hR5 hok));have z0:w5.cell? ⟨w.heap.size+1+1,0,none⟩=some (.slice none 0 0):=(ak i_.out 0).trans rfl;have z1:w5.cell? ⟨w.heap.size+1+1,1,none⟩=some (.bool false):=(ak i_.out 1).trans rfl;have z2:w5.cell? ⟨w.heap.size+1+1,2,none⟩=some (.bool false):=(ak i_.out 2).trans rfl;have f0:=aB i_.out 0;have f1:=aB i_.out 1;have f2:=aB i_.out 2;go_wp2;refine bodyPost_ret (results_cell_row Tryz.results21 _ _ (w.heap.size+1+1) 69 #[_,.bool false,.bool false] (0,0) _ rfl (aN (aN (aN i_.out 0 _ rfl) 1 _ rfl) 2 _ rfl) Tryz.underlying69 rfl (by kernel_rfl)) rfl ?_;refine⟨_,by rw[HF.out],by rw[HF.out];exact Kd.fF (iX (iX (iX HR5.out uN.out _ _) uN.out _ _) uN.out _ _) (by have:=uN.out;omega),((HB5.out.setCell (by simp;omega) _).setCell (by simp;omega) _).setCell (by simp;omega) _,fun _=>CU.out⟩
   .have d4:(er == 0)=false:=(by simpa using h00);have HF:=aj (show eU l S r p.pr.f13=(iA l S r,true,true) by rw[HF0.out,if_neg (by rw[her];exact h00)]);clear h00 her;go_upto_region 7 with(go_at_call 55;go_loud(refine(xV l A n c S A2 m c2 r _ HN.out HM.out (Kd.aM HL.out HB4.out) HC.out HI.out HN8.out (Kd.aM HS.out HB4.out) HC2.out H0.out zh.out).mono ?_;rintro e w6 ⟨v6,rfl,_,hb6,hok⟩;rw[ZN.out];have CU:=aj hok;have HB6:=aj (HB4.out.trans (hb6.mono HB4.out.size));have Ug:=aj (ay uw.out hb6);have Uh:=aj (ay Jg.out hb6);clear hb6 hok));clear r0 r1;have r0:w6.cell? ⟨w.heap.size+1,0,none⟩=some (.int .i64 r.f0):=(ak Ug.out 0).trans rfl;have r1:w6.cell? ⟨w.heap.size+1,1,none⟩=some (.int .i64 r.f1):=(ak Ug.out 1).trans rfl;go_upto_region 8 with(go_at_call 54;go_loud(refine(B_ HN.out HM.out _ (Kd.aM HL.out HB6.out) HC.out HI.out HN8.out (Kd.aM HS.out HB6.out) HC2.out H0.out).mono ?_;rintro e w5 ⟨v5,rfl,hR5,hb5⟩;obtain⟨A5,c5,e5,_,_⟩:=Kd.fG hR5;subst e5;have HR5:=aj hR5;have HB5:=aj (HB6.out.trans (hb5.mono HB6.out.size));have i_:=aj (ay Uh.out hb5);have uN:=aj (show w.heap.size+1+1 < w6.heap.size from aY Uh.out);clear hb5 hR5));have z0:w5.cell? ⟨w.heap.size+1+1,0,none⟩=some (.slice none 0 0):=(ak i_.out 0).trans rfl;have z1:w5.cell? ⟨w.heap.size+1+1,1,none⟩=some (.bool false):=(ak i_.out 1).trans rfl;have z2:w5.cell? ⟨w.heap.size+1+1,2,none⟩=some (.bool false):=(ak i_.out 2).trans rfl;have f0:=aB i_.out 0;have f1:=aB i_.out 1;have f2:=aB i_.out 2;go_wp2;refine bodyPost_ret (results_cell_row Tryz.results21 _ _ (w.heap.size+1+1) 69 #[_,.bool true,.bool true] (0,0) _ rfl (aN (aN (aN i_.out 0 _ rfl) 1 _ rfl) 2 _ rfl) Tryz.underlying69 rfl (by kernel_rfl)) rfl ?_;refine⟨_,by rw[HF.out],by rw[HF.out];exact Kd.fF (iX (iX (iX HR5.out uN.out _ _) uN.out _ _) uN.out _ _) (by have:=uN.out;omega),((HB5.out.setCell (by simp;omega) _).setCell (by simp;omega) _).setCell (by simp;omega) _,fun _=>CU.out⟩
 .have d1:(p.pr.f13 == 1)=false:=by simpa using hle
  have HF:=aj (show eU l S r p.pr.f13=(iA l S r,true,false) by unfold eU;rw[if_neg (fun q=>hle q.1)]);have Yq:=aj (show ¬ (p.pr.f13=1/\iH l=false) from fun q=>hle q.1);clear hle;go_upto_region 4 with(fail);have r0:w3.cell? ⟨w.heap.size+1,0,none⟩=some (.int .i64 r.f0):=(ak kH.out 0).trans rfl;have r1:w3.cell? ⟨w.heap.size+1,1,none⟩=some (.int .i64 r.f1):=(ak kH.out 1).trans rfl;go_upto_region 6 with(go_at_call 54;go_loud(refine(B_ HN.out HM.out _ (Kd.aM HL.out HB0.out) HC.out HI.out HN8.out (Kd.aM HS.out HB0.out) HC2.out H0.out).mono ?_;rintro e w5 ⟨v5,rfl,hR5,hb5⟩;obtain⟨A5,c5,e5,_,_⟩:=Kd.fG hR5;subst e5;have HR5:=aj hR5;have HB5:=aj (HB0.out.trans (hb5.mono HB0.out.size));have i_:=aj (ay JN.out hb5);have uN:=aj (show w.heap.size+1+1 < w3.heap.size from aY JN.out);clear hb5 hR5));have z0:w5.cell? ⟨w.heap.size+1+1,0,none⟩=some (.slice none 0 0):=(ak i_.out 0).trans rfl;have z1:w5.cell? ⟨w.heap.size+1+1,1,none⟩=some (.bool false):=(ak i_.out 1).trans rfl;have z2:w5.cell? ⟨w.heap.size+1+1,2,none⟩=some (.bool false):=(ak i_.out 2).trans rfl;have f0:=aB i_.out 0;have f1:=aB i_.out 1;have f2:=aB i_.out 2;go_wp2;refine bodyPost_ret (results_cell_row Tryz.results21 _ _ (w.heap.size+1+1) 69 #[_,.bool true,.bool false] (0,0) _ rfl (aN (aN (aN i_.out 0 _ rfl) 1 _ rfl) 2 _ rfl) Tryz.underlying69 rfl (by kernel_rfl)) rfl ?_;refine⟨_,by rw[HF.out],by rw[HF.out];exact Kd.fF (iX (iX (iX HR5.out uN.out _ _) uN.out _ _) uN.out _ _) (by have:=uN.out;omega),((HB5.out.setCell (by simp;omega) _).setCell (by simp;omega) _).setCell (by simp;omega) _,fun q=>absurd q Yq.out⟩
def fM(l:List S75):Nat->Int × Int
 | 0=>(0,0)
 | n+1=>((fM l n).1+(aX l n).f4,(fM l n).2+(aX l n).f5)
def ko(l:List S75)(a b:Nat):Int × Int:=fM ((l.drop a).take (gE l a b - a)) (gE l a b - a)
theorem nL(l:List S75)(h:∀ x∈l,cY x):∀ n,n<=l.length->0<=(fM l n).1/\(fM l n).1<=4095 * (n:Int)/\0<=(fM l n).2/\(fM l n).2<=4095 * (n:Int)
 | 0,_=>by simp[fM]
 | n+1,hn=>by
  have ih:=nL l h n (by omega);have hx:=h _ (jI (l:=l) (i:=n) (by omega));have:=hx.s;have:=hx.t;simp only[fM];omega
theorem Rs{a b c d k:Int}(h:c=a)(h2:d=b):Ending.returned (.tuple #[.int .i64 a,.int .i64 b,.int .i64 k])=.returned (.tuple #[.int .i64 c,.int .i64 d,.int .i64 k]):=by rw[h,h2]
theorem FX(l:List S75)(a b:Nat)(A:Option Addr)(c:Nat)(w:World)(hA:A=none->c=0)(hl:Kd.C k75 w A l.length l)(hc:l.length<=c)(h:∀ x∈l,cY x)(hn:l.length<=8192)(h1:a<=b)(h2:b<=l.length) :
  Calls Tryz.prog 23 #[.slice A l.length c,.int .i64 (a:Int),.int .i64 (b:Int)] w fun e w'=>e=.returned (.tuple #[.int .i64 (ko l a b).1,.int .i64 (ko l a b).2,.int .i64 0])/\Below w.heap.size w w':=by
 have HA:=aj hA;have HL:=aj hl;have HC:=aj hc;have HI:=aj h;have HN:=aj hn;have tT:=aj (And.intro h1 h2);obtain⟨R,hR⟩:∃ R,gE l a b=R:=⟨_,rfl⟩;have HR:=aj hR;have GX:=aj (show a<=R/\R<=b by rw[<-hR];exact kI l a b h1);obtain⟨K,hK⟩:∃ K,R - a=K:=⟨_,rfl⟩;obtain⟨sl,hsl⟩:∃ sl,(l.drop a).take K=sl:=⟨_,rfl⟩;have rE:=aj (show sl.length=K by rw[<-hsl,List.length_take,List.length_drop];have:=GX.out;omega);have ZO:=aj (show ∀ x∈sl,cY x by rw[<-hsl];intro x hx;exact h x (List.mem_of_mem_drop (List.mem_of_mem_take hx)));have HF:=aj (show ko l a b=fM sl K by unfold ko;rw[hR,hK,hsl]);have Er:=aj (show K<=8192 by have:=GX.out;omega);have ZP:=aj (And.intro hK hsl);clear hA hl hc h hn h1 h2 hR hK hsl;go_enter Tryz.func23,Tryz.ntmps23;go_wp2_with (first|(go_at_call 56;go_loud(refine(sO l a b A c _ HL.out HC.out HI.out HN.out tT.out.1 tT.out.2).mono ?_;rintro e w1 ⟨rfl,hb1⟩))|(go_at_call 57;go_loud(refine(qB l a b R A c _ HA.out (Kd.aM HL.out hb1) HC.out HN.out tT.out.1 tT.out.2 HR.out).mono ?_;rintro e w3 ⟨⟨A',rfl,HL3⟩,q_⟩;subst q_;rw[ZP.out.1] at *)));have Ft:=aj (show Kd.C k75 w3 A' sl.length sl by rw[rE.out,<-ZP.out.2];exact HL3);have HB3:=aj hb1;clear HL3 hb1;go_loopw [10,11,26] (fun v10 v11 v26 wr=>∃ (q:Int) (j:Nat),v26=.int .i64 q/\v10=.int .i64 (fM sl j).1/\v11=.int .i64 (fM sl j).2/\aC (q=(j:Int))/\aC (j<=K)/\aC (Below w.heap.size w wr)/\aC (Below w3.heap.size w3 wr)) (fun _ _ v26 _=>K - (intOf v26).toNat)
 case atStart=>exact⟨0,0,rfl,rfl,rfl,⟨rfl⟩,⟨by omega⟩,HB3,⟨Below.refl _ _⟩⟩
 case round =>
  clear HB3;obtain⟨q,j,rfl,rfl,rfl,hq,hj,HB,E9⟩:=hrel;by_cases hlt:j < K
  .have d9:decide (q < (K:Int))=true:=decide_eq_true (by rw[hq.out];omega);have s0:0<=q:=by rw[hq.out];omega
   have s1:q < (K:Int):=by rw[hq.out];omega
   have s2:q<=8192:=by rw[hq.out];have:=Er.out;omega
   have p0:=eq_true s0;have p1:=eq_true s1;obtain⟨ad,e0,k0,k1,k2,k3,k4,k5,k6,k7⟩:=eD (Kd.aM Ft.out E9.out) q s0 (by rw[rE.out];exact s1);cases e0
   rw[dn hq.out] at k0 k1 k2 k3 k4 k5 k6 k7;have hx:=ZO.out _ (jI (l:=sl) (i:=j) (by rw[rE.out];exact hlt));have hr:=nL sl ZO.out j (by rw[rE.out];omega);have h4:=hx.s;have h5:=hx.t;have hk8:=Er.out;have HST:=aj (show fM sl (j+1)=((fM sl j).1+(aX sl j).f4,(fM sl j).2+(aX sl j).f5) from rfl);have e1:wrap64 ((fM sl j).1+(aX sl j).f4)=(fM sl j).1+(aX sl j).f4:=dN _ (by omega);have e2:wrap64 ((fM sl j).2+(aX sl j).f5)=(fM sl j).2+(aX sl j).f5:=dN _ (by omega);have cg:=aj hlt;generalize aX sl j=x at *;generalize (fM sl j).1=S1 at *;generalize (fM sl j).2=S2 at *;have HE:=aj (And.intro e1 e2);clear hlt hx hr h4 h5 hk8;go_wp2;go_roundw
   case rel=>exact⟨q+1,j+1,rfl,by rw[HST.out,HE.out.1],by rw[HST.out,HE.out.2],⟨by rw[hq.out];omega⟩,⟨cg.out⟩,⟨HB.out.alloc HB.out.size _⟩,⟨E9.out.alloc E9.out.size _⟩⟩
   case measure=>have:=cg.out;have:=hq.out;simp[intOf];omega
  .have d9:decide (q < (K:Int))=false:=decide_eq_false (by rw[hq.out];omega);have hjk:j=K:=by have:=hj.out;omega
   subst hjk;clear hlt;go_wp2;go_ret3;exact⟨Rs (by rw[HF.out]) (by rw[HF.out]),HB.out⟩
end Go.Proofs.YtcaallkkeighdaaGreatDoor.P
