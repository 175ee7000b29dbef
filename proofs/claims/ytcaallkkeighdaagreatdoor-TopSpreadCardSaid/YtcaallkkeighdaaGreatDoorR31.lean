/- item.words: pure part,memory. item.words: the walk. -/
import Derived.Test.YtcaallkkeighdaaGreatDoorR30
set_option maxRecDepth 100000
set_option maxHeartbeats 16000000
set_option linter.unusedVariables false
set_option linter.unusedSimpArgs false
namespace Go.Proofs.YtcaallkkeighdaaGreatDoor.P
open Go.RowKit aD aQ aR
attribute [local go_sem] cN cO dw dA
def kB(l:List S99)(a:Nat):Nat->Nat->Nat
 | 0,b=>b
 | n+1,b=>if b < l.length/\(dY l b).f2=1/\(dY l b).f3=(dY l a).f3 then kB l a n (b+1) else b
theorem xP(l:List S99)(a:Nat):∀ n b,b<=l.length->b<=kB l a n b/\kB l a n b<=l.length
 | 0,b,h=>⟨Nat.le_refl _,h⟩
 | n+1,b,h=>by
  unfold kB;split
  .rename_i q
   have:=xP l a n (b+1) q.1;omega
  .exact⟨Nat.le_refl _,h⟩
theorem xQ(l:List S99)(a:Nat):∀ n b k,b<=k->k < kB l a n b->(dY l k).f2=1
 | 0,b,k,h,h'=>by unfold kB at h';omega
 | n+1,b,k,h,h'=>by
  unfold kB at h';split at h'
  .rename_i q
   by_cases hk:k=b
   .rw[hk];exact q.2.1
   .exact xQ l a n (b+1) k (by omega) h'
  .omega
def lD(tx:ByteArray)(l:List S99)(a m:Nat):List Int:=(List.range m).map (fun k=>bt tx (dY l (a+k)).f0)
theorem Dz(tx:ByteArray)(l:List S99)(a m:Nat):lD tx l a (m+1)=lD tx l a m ++ [bt tx (dY l (a+m)).f0]:=by
 unfold lD;rw[List.range_succ,List.map_append];rfl
theorem FP(tx:ByteArray)(l:List S99)(a m:Nat):(lD tx l a m).length=m:=by unfold lD;simp
def oW(out:List Bool)(a:Nat):List Int->List Bool
 | []=>out
 | k :: ps=>oW (out.set (a+k.toNat) true) a ps
def Je(tx:ByteArray)(l:List S99)(T:Tr)(ee:List (List Int × List Int)):Nat->Nat->List Bool->List Bool
 | 0,_,out=>out
 | n+1,a,out =>
  if a < l.length then
   if (dY l a).f2=1 then Je tx l T ee n (kB l a (l.length - a) a) (oW out a (mL T ee (strOfNums (lD tx l a (kB l a (l.length - a) a - a)))))
   else Je tx l T ee n (a+1) out
  else out
noncomputable def nH(tx:ByteArray)(hy:Int)(l:List S99):List Bool:=if hy=0 then List.replicate (l.length+1) false else Je tx l oL fD (l.length+1) 0 (List.replicate (l.length+1) false)
theorem vm(vs:List Int):∀ j k,k∈jw vs j->0<=k/\k<=(j:Int)+1
 | 0,k,h=>by cases h
 | j+1,k,h=>by
  unfold jw at h;rcases List.mem_append.1 h with h|h
  .have:=vm vs j k h;omega
  .split at h
   .have:=List.mem_singleton.1 h;omega
   .cases h
def Ud(ee:List (List Int × List Int)):Prop:=∀ e∈ee,∀ k∈e.2,0<=k/\k<=(e.1.length:Int)
theorem DA{T:Tr}{ee:List (List Int × List Int)}(he:Ud ee)(s:ByteArray)(k:Int)(h:k∈mL T ee s):0<=k/\k<=(s.size:Int):=by
 unfold mL at h;split at h
 .cases h
 .split at h
  .rename_i e hx
   unfold qX at hx;have hm:=List.mem_of_find?_eq_some hx;have hd:=List.find?_some hx;have hk:(strOfNums e.1).data.toList=(strOfNums (sK s)).data.toList:=of_decide_eq_true hd;have hl:=congrArg List.length hk;rw[strOfNums_data,strOfNums_data,List.length_map,List.length_map] at hl;have:=he e hm k h;have h3:(sK s).length=s.size:=by unfold sK;rw[List.length_map,ef]
   omega
  .have:=vm _ _ _ h;by_cases hz:s.size - 4=0
   .rw[hz] at h;cases h
   .omega
def eeB(ee:List (List Int × List Int)):Bool:=ee.all (fun e=>e.2.all (fun k=>decide (0<=k) && decide (k<=(e.1.length:Int))) && decide (e.2.length<=1000))
theorem Ag:eeB fD=true:=by kernel_rfl
theorem FQ:Ud fD:=by
 intro e he k hk;have h1:=List.all_eq_true.1 Ag e he;rw[Bool.and_eq_true] at h1;have h2:=List.all_eq_true.1 h1.1 k hk
 simpa using h2
theorem DB:∀ e∈fD,e.2.length<=100000:=by
 intro e he;have h1:=List.all_eq_true.1 Ag e he;rw[Bool.and_eq_true] at h1;have:=of_decide_eq_true h1.2;omega
theorem oK.grown{w w':World}{B h g:Nat}{T:Tr}{ee:List (List Int × List Int)}{cs:Array Value}{fr:Nat × Nat}(q:oK w B h T ee)(hg:w.grownBy w' (some g))(ht:w.heap[g]? = some (.cells cs 4 fr)):oK w' B h T ee:=by
 obtain⟨nb,mb,db,dc,dep,b,X0,h1,h2,h3,h4,h5,h6,h7,h8,h9,h10⟩:=q.out;obtain⟨F,n,hM,hn,k1,k2⟩:=h9.out;have hne:∀ {x:Nat} {o:Obj},w.heap[x]? = some o->(∀ cs fr,o≠.cells cs 4 fr)->some x≠some g:=fun{x o} hx ho e=>by
  rw[Option.some.inj e,ht] at hx;exact ho _ _ (Option.some.inj hx).symm
 have hrow:∀ {e:TypeId} {u:Value} {k:Nat} {xs:List Value},e≠4->w.ownsRow B e 1 u k xs->w'.ownsRow B e 1 u k xs:=fun{e u k xs} he4 hu=>by
  refine hu.kept hg ?_;cases hq:u.ownBlock with
  | none=>exact .inl rfl
  | some r =>
   refine .inr (fun q=>?_);obtain⟨cs',hc⟩:=eW hu r hq;rw[show r=g from Option.some.inj q,ht] at hc;exact he4 (by injection Option.some.inj hc with _ h2 _;exact h2.symm)
 have hkeep:∀ {x:Nat} {o:Obj},w.heap[x]? = some o->(∀ cs fr,o≠.cells cs 4 fr)->w'.heap[x]? = some o:=fun{x o} hx ho=>by
  rw[hg.block x (aY hx) (hne hx ho)];exact hx
 refine⟨nb,mb,db,dc,dep,b,X0,hkeep h1 (fun _ _ e=>by cases e),⟨fun k hk=>hkeep (h2.node k hk) (fun _ _ e=>by cases e),fun k hk hm=>?_,h2.qz,fun k hk ds hd=>hrow (by decide) (h2.Iu k hk ds hd),h2.base,h2.ni,h2.mi,h2.di⟩,h3,h4,h5,h6,h7,Nat.le_trans h8 hg.size,⟨F,n,?_,hn,k1,fun e he=>?_⟩,h10⟩
 .obtain⟨es,cl,hm'⟩:=(h2.map k hk hm).isMap;exact(h2.map k hk hm).kept hg (hne hm' (fun _ _ e=>by cases e))
 .obtain⟨es,cl,hm'⟩:=hM.isMap;exact hM.kept hg (hne hm' (fun _ _ e=>by cases e))
 .obtain⟨v,q1,q2⟩:=k2 e he;exact⟨v,q1,hrow (by decide) q2⟩
theorem LZ(w:World)(m:Nat)(hm:m<=100000):(Instr.makeSlice 88 (.int .i64 (m:Int)) (.int .i64 (m:Int))).run Tryz.prog w=.ok (.slice (some ⟨w.heap.size,0,none⟩) m m) (w.alloc (.cells ((List.replicate m false).map Value.bool).toArray 4)):=by
 obtain⟨i0,hi,hz0,hz1,hz2⟩:=info_parts Kg;have h:=run_makeSlice (P:=Tryz.prog) (w:=w) 88 4 i0 (.bool false) Tryz.underlying88 hi hz0 .i64 .i64 (m:Int) (m:Int) (by omega) (Int.le_refl _) (by rw[hz1];omega) (by rw[hz2];omega) (by omega);rw[h,hz1,xD _ rfl];simp
theorem eG{w w':World}{zs:List Int}(h:Lib.TabIs Tryz.prog w "strings.asciiSpace" .u8 zs)(hb:Below w.heap.size w w'):Lib.TabIs Tryz.prog w' "strings.asciiSpace" .u8 zs:=by
 unfold Lib.TabIs World.var? at h ⊢;cases hg:Tryz.prog.globalNamed "strings.asciiSpace" with
 | none=>rw[hg] at h;simp at h
 | some g =>
  rw[hg] at h;simp only[Option.bind_some] at h ⊢;cases ho:w.heap[g]? with
  | none=>rw[ho] at h;cases h
  | some o=>rw[ay ho hb];rw[ho] at h;exact h
theorem BZ(l:List Int)(i:Nat)(hi:i < l.length)(hr:0<=l.getD i 0/\l.getD i 0<=255):bt (strOfNums l) (i:Int)=l.getD i 0:=by
 have e1:l.getD i 0=l[i]:=by simp[List.getD_eq_getElem?_getD,List.getElem?_eq_getElem hi]
 rw[e1] at hr ⊢;have hs:((i:Int)).toNat < (strOfNums l).size:=by rw[strOfNums_size];exact hi
 rw[<-nN _ _ hs];have:(strOfNums l)[((i:Int)).toNat]'hs=UInt8.ofNat (l[i]).toNat:=by
  show(strOfNums l).data[((i:Int)).toNat]'_=_;simp[strOfNums]
 rw[this];simp[UInt8.toNat_ofNat'];omega
end Go.Proofs.YtcaallkkeighdaaGreatDoor.P
namespace Go.Proofs.YtcaallkkeighdaaGreatDoor.P
open Go.RowKit aD aQ aR
attribute [local go_sem] cN cO dw dA
theorem vn(out:List Bool)(a:Nat):∀ (ps:List Int) (q:Nat) (h:q < ps.length),oW out a (ps.take (q+1))=(oW out a (ps.take q)).set (a+ps[q].toNat) true
 | [],q,h=>by cases h
 | k :: ps,0,h=>by simp[oW]
 | k :: ps,q+1,h=>by
  have:=vn (out.set (a+k.toNat) true) a ps q (by simpa using h)
  simpa [oW] using this
theorem FR(h B:Nat)(T:Tr)(ee:List (List Int × List Int))(s:ByteArray)(w:World)(hH:oK w B h T ee)(h1:1<=s.size)(hl:∀ i:Nat,i < s.size->fP (bt s (i:Int))=true)(hps:∀ e∈ee,e.2.length<=100000) :
  Calls Tryz.prog 118 #[.pointer (some ⟨h,0,none⟩),.string s] w (BI (mL T ee s) w):=by
 by_cases h2:s.size<=64
 .exact BJ h B T ee s w hH h1 h2 hl hps
 .exact Dl h B T ee s w hH (by omega)
theorem L5{w:World}{base:Nat}{e:TypeId}{size n:Nat}{v:Value}{xs:List Value}(h:w.ownsRow base e size v n xs):∃ A cap,v=.slice A n cap:=by
 rcases h.2 with⟨e,hz⟩|⟨g,cap,cur,e,_⟩
 .exact⟨none,0,by rw[hz];exact e⟩
 .exact⟨_,_,e⟩
def VQ(w:World)(g:Nat)(xs:List Bool):Prop:=w.heap[g]? = some (.cells (xs.map Value.bool).toArray 4 (0,0))
theorem VQ.put{w:World}{g:Nat}{xs:List Bool}(h:VQ w g xs)(i:Nat)(v:Bool):VQ (w.setCell ⟨g,i,none⟩ (.bool v)) g (xs.set i v) :=
 aN h i _ (by apply Array.toList_inj.1;simp[List.map_set])
theorem VQ.new(w:World)(m:Nat):VQ (w.alloc (.cells (Array.replicate m (.bool false)) 4)) w.heap.size (List.replicate m false):=by
 have:=aH w (.cells (Array.replicate m (.bool false)) 4);unfold VQ;rw[this]
 congr 2
 apply Array.toList_inj.1;simp
structure L6(W2 wr:World)(g n h B:Nat)(xs:List Bool):Prop where
 vq:VQ wr g xs
 len:xs.length=n+1
 far:fB (Eq g) W2 wr
 hy:oK wr B h oL fD
theorem L6.below{W2 wr w':World}{g n h B:Nat}{xs:List Bool}(q:L6 W2 wr g n h B xs)(hb:Below wr.heap.size wr w'):L6 W2 w' g n h B xs :=
 ⟨ay q.vq hb,q.len,q.far.trans (fB.ji hb (Nat.le_refl _)),q.hy.below hb⟩
theorem L6.put{W2 wr:World}{g n h B:Nat}{xs:List Bool}(q:L6 W2 wr g n h B xs)(i:Nat)(v:Bool):L6 W2 (wr.setCell ⟨g,i,none⟩ (.bool v)) g n h B (xs.set i v) :=
 ⟨q.vq.put i v,by rw[List.length_set];exact q.len,q.far.set _ _ _ (.inl rfl),q.hy.grown (jS _ _ _ _) q.vq⟩
theorem L6.post{W2 wr W:World}{g n h B c2:Nat}{xs:List Bool}(q:L6 W2 wr g n h B xs)(hW:Below W.heap.size W W2)(hg:W.heap.size<=g)(e:Ending)(he:e=.returned (.slice (some ⟨g,0,none⟩) (n+1) c2))(hc:n+1<=c2):BW n xs W e wr:=by
 refine⟨g,c2,_,he,hc,hg,q.vq,fun k hk=>?_,hW.trans (q.far.below hW.size (fun k e=>by rw[<-e];exact hg))⟩;have hl:=q.len;simp[List.getElem?_eq_getElem (show k < xs.length by omega),List.getD_eq_getElem?_getD]
theorem DC(p:Pa){As Am A:Option Addr}{cs cm c:Nat}(l:List S99)(W:World)(hC:Kd.C k99 W A l.length l)(htab:Lib.TabIs Tryz.prog W "strings.asciiSpace" .u8 Lib.asciiSpaceTab)(L7:l.length<=4096)
  (BA:∀ m∈l,m.f2=1->0<=m.f0/\m.f0 < (p.tx.size:Int)/\fP (bt p.tx m.f0)=true) :
  Calls Tryz.prog 79 #[.agg (cG p As cs Am cm),.slice A l.length c] W (BW l.length (nH p.tx p.pr.f12 l) W):=by
 obtain⟨n,hn⟩:∃ n,l.length=n:=⟨_,rfl⟩;have HN:=aj hn;rw[hn] at hC L7 ⊢;have HC:=aj hC;have HT:=aj htab;have yO:=aj L7;have cg:=aj BA;have n0:(n:Int)<=4096:=by omega
 have dI:=aj (aH W (.cells (cG p As cs Am cm) 27));have HB1:=aj ((Below.refl W.heap.size W).alloc (Nat.le_refl _) (.cells (cG p As cs Am cm) 27));have hmk:=LZ (W.alloc (.cells (cG p As cs Am cm) 27)) (n+1) (by omega);rw[show((n+1:Nat):Int)=(n:Int)+1 by omega] at hmk;clear hC htab L7 BA hn;obtain⟨PL,Rj⟩:∃ PL,nH p.tx p.pr.f12 l=PL:=⟨_,rfl⟩;rw[Rj];have IX:=aj Rj;clear Rj;go_enter Tryz.func79,Tryz.ntmps79;go_upto_region 2 with(fail);have HS1:=aj (show(W.alloc (.cells (cG p As cs Am cm) 27)).heap.size=W.heap.size+1 by simp);have Yh:=VQ.new (W.alloc (.cells (cG p As cs Am cm) 27)) (n+1);rw[HS1.out] at Yh;have hb2:=((Below.refl W.heap.size W).alloc (Nat.le_refl _) (.cells (cG p As cs Am cm) 27)).alloc (by simp) (.cells (Array.replicate (n+1) (.bool false)) 4);have PA:=ay dI.out ((Below.refl _ _).alloc (Nat.le_refl _) (.cells (Array.replicate (n+1) (.bool false)) 4));have HG:=aj (show W.heap.size<=W.heap.size+1 from Nat.le_succ _);have HPG:=aj (show ¬ W.heap.size+1=W.heap.size by omega);have ZH:=aj Yh;have HB2:=aj hb2;have En:=aj PA;generalize (W.alloc (.cells (cG p As cs Am cm) 27)).alloc (.cells (Array.replicate (n+1) (.bool false)) 4)=W2 at *;clear Yh hb2 PA hmk HS1 HB1 dI;generalize W.heap.size+1=g at *;have x0:W2.cell? ⟨W.heap.size,14,none⟩=some (.int .i64 p.pr.f12):=(ak En.out 14).trans rfl;by_cases hz:p.pr.f12=0
 .have hx:=IX.out;unfold nH at hx;rw[if_pos hz,HN.out] at hx;rw[hz] at x0;subst hx;clear hz;go_wp2;go_ret;refine⟨g,n+1,_,rfl,Nat.le_refl _,HG.out,ZH.out,fun k hk=>?_,HB2.out⟩;simp[List.getElem?_replicate,List.getD_eq_getElem?_getD,show k < n+1 by omega]
 .have hx:=IX.out;unfold nH at hx;rw[if_neg hz,HN.out] at hx;have KW:=aj hx;clear hx IX;generalize p.pr.f12=f12 at *;go_upto_region 5 with(go_at_call 117;go_loud(refine(Dh W2 (eG HT.out HB2.out)).mono ?_;rintro e w5 ⟨h,rfl,hH,hB5⟩;have SC:=aj (show L6 W2 w5 g n h W2.heap.size (List.replicate (n+1) false) from ⟨ay ZH.out hB5,by simp,fB.ji hB5 (Nat.le_refl _),hH⟩);clear hH hB5));clear x0 hz;generalize W2.heap.size=B at *;go_wp2;go_loopw [7] (fun v7 wr=>∃ (y:Int) (a fu:Nat) (xs:List Bool),v7=.int .i64 y/\aC (y=(a:Int))/\aC (a<=n/\n+1<=fu+a)/\aC (Je p.tx l oL fD fu a xs=PL)/\aC (L6 W2 wr g n h B xs)) (fun v7 _=>n - (intOf v7).toNat)
  case atStart=>exact⟨0,0,n+1,_,rfl,⟨rfl⟩,⟨by omega⟩,KW,SC⟩
  case round =>
   obtain⟨y,a,fu,xs,rfl,hy,ha,hgo,hR⟩:=hrel;by_cases hlt:a < n
   .have d9:decide (y < (n:Int))=true:=decide_eq_true (by rw[hy.out];omega);have q0:0<=y:=(by rw[hy.out];omega);have q1:y < (n:Int):=(by rw[hy.out];omega);have q5:y<=4096:=(by omega);have p0:=eq_true q0;have p1:=eq_true q1;have OA:=aj hlt;have tE:=aj (show Below W.heap.size W wr from HB2.out.trans (hR.out.far.below HB2.out.size (fun k e=>by rw[<-e];exact HG.out)));obtain⟨ad,e0,_,_,k2,k3,_⟩:=eV (Kd.aM HC.out tE.out) y q0 q1;cases e0
    rw[vS hy.out] at k2 k3;obtain⟨Wj,Wk⟩:∃ Wj,fu=Wj+1:=⟨fu - 1,by have:=ha.out;omega⟩;have hg2:=hgo.out;rw[Wk,Je,if_pos (by rw[HN.out];exact hlt)] at hg2;have ZI:=aj Wk;by_cases hk:(dY l a).f2=1
    .generalize wr=wq at *;rw[if_pos hk,HN.out] at hg2;obtain⟨E,hE⟩:∃ E,kB l a (n - a) a=E:=⟨_,rfl⟩;rw[hE] at hg2;have K9:=aj hg2;have HE1:=aj (show a+1<=E/\E<=n by
      have h1:=xP l a (n - a) a (by rw[HN.out];omega);rw[hE,HN.out] at h1;refine⟨?_,h1.2⟩;have h2:kB l a ((n - a - 1)+1) a=E:=(by rw[show n - a - 1+1=n - a by omega];exact hE);rw[kB,if_pos ⟨by rw[HN.out];exact hlt,hk,rfl⟩] at h2;have h3:=xP l a (n - a - 1) (a+1) (by rw[HN.out];omega);omega)
     have HE:=aj hE;have Yi:=aj (show wq.heap[W.heap.size]? = some (.cells (cG p As cs Am cm) 27 (0,0)) from hR.out.far.blk En.out (fun e=>HPG.out e));have HK2:=aj k2;have HK3:=aj k3;have Er:=aj hk;rw[hk] at k2;clear hlt hg2 Wk hE hk;go_upto_block 2 with(fail);clear k2 k3;go_cut [8,9] from 37 to 74 (fun v8 v9 wc=>v8=.int .i64 (E:Int)/\aC (wc.ownsRow wq.heap.size 5 1 v9 (E - a) ((lD p.tx l a (E - a)).map (Value.int .u8)))/\aC (Below wq.heap.size wq wc))
     case first =>
      go_wp2;go_loopw [8,9] (fun v8 v9 wr=>∃ (z:Int) (b:Nat),v8=.int .i64 z/\aC (z=(b:Int))/\aC (a<=b/\b<=n)/\aC (kB l a (n - b) b=E)/\aC (wr.ownsRow wq.heap.size 5 1 v9 (b - a) ((lD p.tx l a (b - a)).map (Value.int .u8)))/\aC (Below wq.heap.size wq wr)) (fun v8 _ _=>n - (intOf v8).toNat)
      case atStart=>exact⟨y,a,rfl,hy,⟨by have:=OA.out;omega⟩,HE,⟨by rw[Nat.sub_self];exact⟨rfl,.inl ⟨rfl,rfl⟩⟩⟩,⟨Below.refl _ _⟩⟩
      case round =>
       obtain⟨z,b,rfl,hz,hb,ZJ,hO,hB3⟩:=hrel;have Yj:=aj (tE.out.trans (hB3.out.mono tE.out.size));by_cases xH:b < n
       .have e9:decide (z < (n:Int))=true:=decide_eq_true (by rw[hz.out];omega);have z0:0<=z:=(by rw[hz.out];omega);have z1:z < (n:Int):=(by rw[hz.out];omega);have z5:z<=4096:=(by omega);have r0:=eq_true z0;have r1:=eq_true z1;have Eu:=aj xH;have m3:=bH hB3.out HK3.out;obtain⟨ad2,e0,j0,_,j2,j3,_⟩:=eV (Kd.aM HC.out Yj.out) z z0 z1;cases e0
        rw[vS hz.out] at j0 j2 j3;have JV:=ZJ.out;rw[show n - b=(n - b - 1)+1 by omega,kB] at JV;by_cases hkb:(dY l b).f2=1/\(dY l b).f3=(dY l a).f3
        .rw[if_pos ⟨by rw[HN.out];exact xH,hkb.1,hkb.2⟩] at JV;have vk:=aj (show kB l a (n - (b+1)) (b+1)=E by rw[show n - (b+1)=n - b - 1 by omega];exact JV);have hlt:=cg.out (dY l b) (lV (by rw[HN.out];exact xH)) hkb.1;obtain⟨f0,f1,_⟩:=hlt;rw[hkb.1] at j2;rw[hkb.2] at j3;have SC:=aj (Dz p.tx l a (b - a));rw[show a+(b - a)=b by have:=hb.out;omega] at SC;have t0:wr.cell? ⟨W.heap.size,0,none⟩=some (.string p.tx):=(ak (ay Yi.out hB3.out) 0).trans rfl;generalize (dY l b).f0=fb at *;generalize (dY l a).f3=sz at *;clear xH JV hkb;go_upto_region 11 with(fail);have b2:=Bx.cell j2;have b3:=Bx.cell j3;have b4:=Bx.cell m3;refine aZ (by kernel_rfl) (by kernel_rfl) ?_
         repeat(go_big_quiet_step (fail))
         refine wpQuiet_nil ?_;intro w7 hb7;have HO7:=aj (jd hO.out hb7);have HB7:=aj (hB3.out.trans (hb7.mono hB3.out.size));have i0:=bH hb7 j0;have t7:=bH hb7 t0;clear b2 b3 b4 j0 j2 j3 m3 t0 hb7;go_upto_region 12 with(fail);have b2:=Bx.cell i0;have b3:=Bx.cell t7;have bta:=nN p.tx fb;refine nR 9 (.tmp 9) rfl rfl (by kernel_rfl) (by kernel_rfl) ?_;simp only[Nat.reduceSub,List.take_succ_cons,List.take_zero,List.drop_succ_cons,List.drop_zero];go_simp
         repeat(go_big_quiet_step (fail))
         refine wpQuiet_nil ?_;intro w8 hb8;have HO8:=aj (jd HO7.out hb8);have HB8:=aj (HB7.out.trans (hb8.mono HB7.out.size));clear b2 b3 hb8 i0 t7;have zh:=aj (show((b - a)+1) * 1<=140737488355328 by have:=hb.out;have:=yO.out;omega);go_wp2_with (at_builtin;go_loud(refine cC (w0:=wq) wq.heap.size rfl (.tmp 62) (.tmp 71) 133 5 (.int .u8 0) 1 1 rfl Tryz.underlying133 qq rfl (by decide) (by decide) u9 (b - a) ((lD p.tx l a (b - a)).map (Value.int .u8)) [.int .u8 (bt p.tx fb)] rfl rfl rfl (by intro u hu;rw[List.mem_singleton.1 hu];rfl) HO8.out HB8.out HB8.out.size zh.out ?_;intro v1 w1 ho1 hb1 hg1 ha1;have HO1:=aj ho1;have HB1:=aj hb1;clear ho1 hb1 hg1 ha1))
         try refine oF ?_
         go_wp2;go_roundw
         case rel=>exact⟨z+1,b+1,rfl,⟨by rw[hz.out];omega⟩,⟨by have:=hb.out;have:=Eu.out;omega⟩,vk,⟨by rw[show b+1 - a=(b - a)+1 by have:=hb.out;omega,SC.out,List.map_append];exact HO1.out⟩,HB1⟩
         case measure=>have:=Eu.out;have:=hz.out;simp[intOf];omega
        .rw[if_neg (fun q=>hkb ⟨q.2.1,q.2.2⟩)] at JV;have mK:=aj JV;by_cases hk1:(dY l b).f2=1
         .have hk2:¬ (dY l b).f3=(dY l a).f3:=fun q=>hkb ⟨hk1,q⟩
          rw[hk1] at j2;generalize (dY l b).f3=sb at *;generalize (dY l a).f3=sz at *;clear xH JV hkb hk1;go_upto_region 11 with(fail);have b2:=Bx.cell j2;have b3:=Bx.cell j3;have b4:=Bx.cell m3;refine aZ (by kernel_rfl) (by kernel_rfl) ?_
          repeat(go_big_quiet_step (fail))
          refine wpQuiet_nil ?_;intro w7 hb7;have HO7:=aj (jd hO.out hb7);have HB7:=aj (hB3.out.trans (hb7.mono hB3.out.size));clear hb7;go_wp2;go_meet
          case rel=>exact⟨by rw[hz.out,mK.out],by rw[<-mK.out];exact HO7,HB7⟩
         .generalize (dY l b).f2=kb2 at *;have SD:(kb2 == 1)=false:=(by simp[hk1]);have hkd:decide (kb2=1)=false:=decide_eq_false hk1;clear xH JV hkb;go_upto_region 11 with(fail);have b2:=Bx.cell j2;refine aZ (by kernel_rfl) (by kernel_rfl) ?_
          repeat(go_big_quiet_step (fail))
          refine wpQuiet_nil ?_;intro w7 hb7;have HO7:=aj (jd hO.out hb7);have HB7:=aj (hB3.out.trans (hb7.mono hB3.out.size));clear hb7;go_wp2;go_meet
          case rel=>exact⟨by rw[hz.out,mK.out],by rw[<-mK.out];exact HO7,HB7⟩
       .have e9:decide (z < (n:Int))=false:=decide_eq_false (by rw[hz.out];omega);have Rk:b=n:=(by have:=hb.out;omega);have JV:=ZJ.out;rw[Rk,Nat.sub_self,kB] at JV;have mK:=aj (Rk.trans JV);clear xH JV Rk;go_upto_region 11 with(fail);refine aZ (by kernel_rfl) (by kernel_rfl) ?_
        repeat(go_big_quiet_step (fail))
        refine wpQuiet_nil ?_;intro w7 hb7;have HO7:=aj (jd hO.out hb7);have HB7:=aj (hB3.out.trans (hb7.mono hB3.out.size));clear hb7;go_wp2;go_meet
        case rel=>exact⟨by rw[hz.out,mK.out],by rw[<-mK.out];exact HO7,HB7⟩
     case rest =>
      obtain⟨rfl,hO,hB3⟩:=hcut;have hR6:=hR.out.below hB3.out;have HR6:=aj hR6;generalize wc=wx at *;obtain⟨m,hm⟩:∃ m,E - a=m+1:=⟨E - a - 1,by have:=HE1.out;omega⟩;have Wl:=aj (show a+(m+1)=E by have:=HE1.out;omega);have hrw:=hO.out;rw[hm] at hrw;obtain⟨gw,cap,rfl⟩:=ownsRow_succ hrw;obtain⟨WD,Ue⟩:∃ WD,lD p.tx l a (m+1)=WD:=⟨_,rfl⟩;have Lb:=aj (show WD.length=m+1 by rw[<-Ue,FP]);have hat:∀ i:Nat,i < m+1->WD.getD i 0=bt p.tx (dY l (a+i)).f0:=fun i hi=>by
       rw[<-Ue];unfold lD;simp[List.getD_eq_getElem?_getD,List.getElem?_map,List.getElem?_range hi]
      have Yk:=aj (show ∀ i:Nat,i < (strOfNums WD).size->fP (bt (strOfNums WD) (i:Int))=true from fun i hi=>by
       rw[strOfNums_size,Lb.out] at hi;have hk:=xQ l a (n - a) a (a+i) (by omega) (by rw[HE.out,<-Wl.out];omega);have hq:=cg.out (dY l (a+i)) (lV (by rw[HN.out];have:=HE1.out;have:=Wl.out;omega)) hk;rw[BZ WD i (by rw[Lb.out];exact hi) (by rw[hat i hi];exact mz _ _),hat i hi];exact hq.2.2)
      rw[Ue] at hrw;have Pk:=aj (show dZ wx .u8 (some ⟨gw,0,none⟩) (m+1) WD from ⟨Lb.out,by have:=HE1.out;have:=Wl.out;have:=yO.out;omega,fun _=>⟨_,rfl,fun j hj=>by
       rw[add_plain,hrw.cellAt j (by omega)];simp[List.getElem?_eq_getElem (show j < WD.length by rw[Lb.out];omega),List.getD_eq_getElem?_getD]⟩⟩)
      have kc:=fun cc=>iU (P:=Tryz.prog) (src:=133) (dst:=9) (c:=cc) Tryz.underlying133 Tryz.underlying5 Tryz.underlying9 Pk.out
      have OE:=K9.out;rw[hm,Ue] at OE;obtain⟨pts,OG⟩:∃ pts,mL oL fD (strOfNums WD)=pts:=⟨_,rfl⟩;rw[OG] at OE;have Yl:=aj OE;have Sw:=aj (show ∀ k∈pts,0<=k/\k<=(m:Int)+1 from fun k hk=>by
       have:=DA (T:=oL) FQ (strOfNums WD) k (by rw[OG];exact hk);rw[strOfNums_size,Lb.out] at this;omega)
      have yN:=aj OG;clear hm Ue hat hrw OE OG hO hB3 hR6;go_upto_block 4 with(go_at_call 118;go_loud(refine(FR h B oL fD (strOfNums WD) wx HR6.out.hy (by rw[strOfNums_size,Lb.out];omega) Yk.out DB).mono ?_;rintro e w7 ⟨v,err,rfl,hrow,hb7⟩;rw[yN.out] at hrow;obtain⟨A7,c7,rfl⟩:=L5 hrow;have KX:=aj hrow;have HR7:=aj (HR6.out.below hb7);clear hrow hb7));generalize w7=W7 at *;obtain⟨np,hnp⟩:∃ np,pts.length=np:=⟨_,rfl⟩;rw[hnp];have ZK:=aj hnp;have Bs:=aj (show np<=9223372036854775807 by
       rcases KX.out.2 with⟨_,h0⟩|⟨_,_,_,_,_,_,h1,h2,_⟩
       .omega
       .have:maxLen=9223372036854775807:=rfl;omega)
      clear kc hnp;go_wp2;go_loopw [84] (fun v84 wr=>∃ (z:Int) (q:Nat),v84=.int .i64 z/\aC (z=(q:Int))/\aC (q<=np)/\aC (L6 W2 wr g n h B (oW xs a (pts.take q)))/\aC (fB (Eq g) W7 wr)) (fun v84 _=>np - (intOf v84).toNat)
      case atStart=>exact⟨0,0,rfl,⟨rfl⟩,⟨Nat.zero_le _⟩,HR7,⟨fB.refl _ _⟩⟩
      case round =>
       obtain⟨z,q,rfl,hz,hq,hQ,hF⟩:=hrel;by_cases hlt:q < np
       .have e9:decide (z < (np:Int))=true:=decide_eq_true (by rw[hz.out];omega);have z0:0<=z:=(by rw[hz.out];omega);have z1:z < (np:Int):=(by rw[hz.out];omega);have z5:z+1<=9223372036854775807:=(by have:=Bs.out;omega);have r0:=eq_true z0;have r1:=eq_true z1;have ZL:=aj hlt;have HZ:=aj (show z.toNat=q by rw[hz.out];omega);have Wm:q < pts.length:=(by rw[ZK.out];exact hlt);have hrow:=KX.out;have hcell:∃ gv,A7=some ⟨gv,0,none⟩/\gv≠g/\W7.cell? ⟨gv,q,none⟩=some (.int .i64 pts[q]):=by
         rcases hrow.2 with⟨e0,h0⟩|⟨gv,cv,cur,e0,hgb,hcur,_⟩
         .omega
         .cases e0
          refine⟨gv,rfl,fun e=>?_,?_⟩
          .have h4:=HR7.out.vq;unfold VQ at h4;rw[e,h4] at hcur;cases hcur
          .rw[hrow.cellAt q (by omega)];simp[List.getElem?_eq_getElem Wm]
        obtain⟨gv,rfl,hne,hcl⟩:=hcell;have k0:=hF.out.cell hcl (fun e=>hne e.symm);have hkr:=Sw.out pts[q] (List.getElem_mem Wm);have HST:=aj (vn xs a pts q Wm);have hkk:wq=wq:=rfl;generalize hpk:pts[q]=k at *;rw[<-HZ.out] at k0;obtain⟨k1,k2⟩:=hkr;have ab3:0<=y+k:=(by omega);have ab4:y+k < ((n+1:Nat):Int):=(by have:=hy.out;have:=HE1.out;have:=Wl.out;omega);have ab5:y+k < (n:Int)+1:=(by omega);have ab6:y+k<=4097:=(by omega);have HYK:=aj (show(y+k).toNat=a+k.toNat by have:=hy.out;omega);have f1:=aB hQ.out.vq (y+k).toNat;have yZ:=aj (hQ.out.put (y+k).toNat true);have c1:∃ u,wr.cell? ⟨g,(y+k).toNat,none⟩=some u:=by
         rw[ak hQ.out.vq];have hl:(y+k).toNat < ((oW xs a (pts.take q)).map Value.bool).toArray.size:=by
          have:=hQ.out.len;simp;omega
         exact⟨_,Array.getElem?_eq_getElem hl⟩
        obtain⟨u1,c1⟩:=c1;have HF2:=aj (hF.out.set g (y+k).toNat (.bool true) (.inl rfl));clear hlt hcl hne hrow Wm hpk hkk;go_wp2;go_roundw
        case rel=>exact⟨z+1,q+1,rfl,⟨by rw[hz.out];omega⟩,⟨ZL.out⟩,⟨by rw[HST.out,<-HYK.out];exact yZ.out⟩,HF2⟩
        case measure=>have:=ZL.out;have:=hz.out;simp[intOf];omega
       .have e9:decide (z < (np:Int))=false:=decide_eq_false (by rw[hz.out];omega);have ZM:q=np:=(by have:=hq.out;omega);have hQ2:=hQ.out;rw[List.take_of_length_le (by rw[ZK.out,ZM];exact Nat.le_refl _)] at hQ2;have HQ2:=aj hQ2;clear hlt ZM hQ2;go_wp2;go_roundw
        case rel=>exact⟨(E:Int),E,Wj,_,rfl,⟨rfl⟩,⟨by have:=ha.out;have:=HE1.out;have:=ZI.out;omega⟩,Yl,HQ2⟩
        case measure=>have:=HE1.out;have:=hy.out;simp[intOf];omega
    .rw[if_neg hk] at hg2;have K9:=aj hg2;clear hlt hg2 Wk;generalize (dY l a).f2=kd at *;go_wp2;go_roundw
     case rel=>exact⟨y+1,a+1,Wj,xs,rfl,⟨by rw[hy.out];omega⟩,⟨by have:=ha.out;have:=OA.out;have:=ZI.out;omega⟩,K9,hR⟩
     case measure=>have:=OA.out;have:=hy.out;simp[intOf];omega
   .have d9:decide (y < (n:Int))=false:=decide_eq_false (by rw[hy.out];omega);have han:a=n:=(by have:=ha.out;omega);have hxs:xs=PL:=by
     have:=hgo.out;cases fu with
     | zero=>exact this
     | succ m=>rw[Je,if_neg (by rw[HN.out];exact hlt)] at this;exact this
    subst hxs;clear hlt han;go_wp2;go_ret;exact hR.out.post HB2.out HG.out _ rfl (Nat.le_refl _)
end Go.Proofs.YtcaallkkeighdaaGreatDoor.P
