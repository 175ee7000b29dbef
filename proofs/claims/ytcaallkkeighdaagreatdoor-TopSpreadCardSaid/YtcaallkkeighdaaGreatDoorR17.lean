/- hyph.pattern. hyph.exception. hyph.New: pure part. -/
import Derived.Test.YtcaallkkeighdaaGreatDoorR16
set_option maxRecDepth 100000
set_option maxHeartbeats 16000000
set_option linter.unusedVariables false
set_option linter.unusedSimpArgs false
namespace Go.Proofs.YtcaallkkeighdaaGreatDoor.P
open Go.RowKit aD aQ aR
attribute [local go_sem] cN cO dw dA
def xB(c:Int):Bool:=decide (48<=c/\c<=57)
theorem Da(c:Int)(w:World):Calls Tryz.prog 173 #[.int .u8 c] w fun e w'=>e=.returned (.bool (xB c))/\w'=w:=by
 unfold xB;go_enter Tryz.func173,Tryz.ntmps173;by_cases h1:48<=c
 .by_cases h2:c<=57
  .go_wp2;go_ret;simp[h1,h2]
  .go_wp2;go_ret;simp[h1,h2]
 .have h3:decide (48<=c/\c<=57)=false:=decide_eq_false (by omega);rw[h3];go_wp2;go_ret
  first|exact⟨rfl,rfl⟩|rfl|trivial
def qA(n:Nat):List Int->Nat->List Int->List Int->Bool->Bool->Option (List Int × List Int × Bool)
 | [],_,ls,ds,so,_=>some (ls,ds,so)
 | c :: l,i,ls,ds,so,re =>
  if c=46 then (if i≠0/\i+1≠n then none else qA n l (i+1) (ls ++ [c]) (ds ++ [0]) so true)
  else if jC c=true then qA n l (i+1) (ls ++ [c]) (ds ++ [0]) true true
  else if xB c=true/\re=true then qA n l (i+1) ls (ds.set (ds.length - 1) (c - 48)) so false
  else none
structure lS(w wr:World)(C:Nat)(xs:List Int)(pad:List Value)(fr:Nat × Nat)(ls ds:List Int)(vl vd:Value):Prop where
 lr:wr.ownsRow w.heap.size 5 1 vl ls.length (ls.map (Value.int .u8))
 dr:wr.ownsRow w.heap.size 5 1 vd ds.length (ds.map (Value.int .u8))
 ne:∀ k,vl.ownBlock=some k->vd.ownBlock≠some k
 cl:vl.ownBlock≠some C
 cd:vd.ownBlock≠some C
 cv:BB wr C xs pad fr
 je:Below w.heap.size w wr
 len:ds.length=ls.length+1
section
variable{w wr:World}{C:Nat}{xs:List Int}{pad:List Value}{fr:Nat × Nat}{ls ds:List Int}{vl vd:Value}
theorem lS.hlt(h:lS w wr C xs pad fr ls ds vl vd):C < wr.heap.size:=aY h.cv.1
theorem ac3{w:World}{base:Nat}{e:TypeId}{size n:Nat}{v:Value}{xs:List Value}(h:w.ownsRow base e size v n xs){k:Nat}(hk:v.ownBlock=some k):k < w.heap.size:=by
 obtain⟨cs,hc⟩:=eW h k hk;exact aY hc
theorem jd{w w':World}{base:Nat}{e:TypeId}{size n:Nat}{v:Value}{xs:List Value}(h:w.ownsRow base e size v n xs)(hb:Below w.heap.size w w'):w'.ownsRow base e size v n xs :=
 h.kept (row:=none) ⟨hb.os,hb.tape,hb.output,hb.size,fun i hi _=>hb.block i hi⟩ (by cases hv:v.ownBlock with
  | none=>exact .inl rfl
  | some r=>exact .inr (by simp))
theorem lS.dr1(h:lS w wr C xs pad fr ls ds vl vd){w1:World}(hg1:wr.grownBy w1 vl.ownBlock):w1.ownsRow w.heap.size 5 1 vd ds.length (ds.map (Value.int .u8)):=by
 refine h.dr.kept hg1 ?_;cases hv:vd.ownBlock with
 | none=>exact .inl rfl
 | some k=>exact .inr (fun e=>h.ne k e.symm hv)
theorem lS.add(h:lS w wr C xs pad fr ls ds vl vd){c:Int}{v1 v2:Value}{w1 w2:World}
  (ho1:w1.ownsRow w.heap.size 5 1 v1 (ls.length+1) (ls.map (Value.int .u8) ++ [.int .u8 c])) (hg1:wr.grownBy w1 vl.ownBlock) (ha1:v1.ownBlock=vl.ownBlock\/∃ b,v1.ownBlock=some b/\wr.heap.size<=b)
  (ho2:w2.ownsRow w.heap.size 5 1 v2 (ds.length+1) (ds.map (Value.int .u8) ++ [.int .u8 0])) (hg2:w1.grownBy w2 vd.ownBlock) (ha2:v2.ownBlock=vd.ownBlock\/∃ b,v2.ownBlock=some b/\w1.heap.size<=b) (hb:Below w.heap.size w w2) :
  lS w w2 C xs pad fr (ls ++ [c]) (ds ++ [0]) v1 v2:=by
 have hC:=h.hlt;have hC1:C < w1.heap.size:=Nat.lt_of_lt_of_le hC hg1.size;have hv1:∀ k,v1.ownBlock=some k->vd.ownBlock≠some k:=fun k hk e=>by
  rcases ha1 with q|⟨b,q,hb⟩
  .rw[q] at hk;exact h.ne k hk e
  .rw[q] at hk;obtain rfl:=Option.some.inj hk;have:=ac3 h.dr e;omega
 refine⟨?_,?_,fun k hk e=>?_,fun e=>?_,fun e=>?_,⟨?_,h.cv.2⟩,hb,by rw[List.length_append,List.length_append];have:=h.len;simp;omega⟩
 .have:=ho1.kept hg2 (by
   cases hv:v1.ownBlock with
   | none=>exact .inl rfl
   | some k=>exact .inr (fun e=>hv1 k hv e.symm))
  rw[List.length_append,List.map_append];exact this
 .rw[List.length_append,List.map_append];exact ho2
 .rcases ha2 with q|⟨b,q,hb2⟩
  .rw[q] at e;exact hv1 k hk e
  .rw[q] at e;obtain rfl:=Option.some.inj e;have:=ac3 ho1 hk;omega
 .rcases ha1 with q|⟨b,q,hb2⟩
  .exact h.cl (q ▸ e)
  .rw[q] at e;have:=Option.some.inj e;omega
 .rcases ha2 with q|⟨b,q,hb2⟩
  .exact h.cd (q ▸ e)
  .rw[q] at e;have:=Option.some.inj e;omega
 .exact(hg2.block C hC1 (fun e=>h.cd e.symm)).trans ((hg1.block C hC (fun e=>h.cl e.symm)).trans h.cv.1)
theorem lS.Td(h:lS w wr C xs pad fr ls ds vl vd):∃ g cap,vd=.slice (some ⟨g,0,none⟩) (ls.length+1) cap:=by
 have:=h.dr;rw[h.len] at this;exact ownsRow_succ this
theorem lS.Xm{g cap m:Nat}(h:lS w wr C xs pad fr ls ds vl (.slice (some ⟨g,0,none⟩) m cap))(j:Nat)(v:Int):lS w (wr.setCell ⟨g,j,none⟩ (.int .u8 v)) C xs pad fr ls (ds.set j v) vl (.slice (some ⟨g,0,none⟩) m cap):=by
 have hg:w.heap.size<=g:=fR h.dr g rfl;refine⟨?_,?_,h.ne,h.cl,h.cd,⟨(Below.heap_setCell _ ⟨g,j,none⟩ _ C (fun e=>h.cd (by rw[e];rfl))).trans h.cv.1,h.cv.2⟩,h.je.setCell hg _,by rw[List.length_set];exact h.len⟩
 .refine h.lr.kept (jS _ _ _ _) ?_;cases hv:vl.ownBlock with
  | none=>exact .inl rfl
  | some k=>exact .inr (fun e=>h.ne k hv e.symm)
 .rw[List.length_set,List.map_set];have hm:m=ds.length:=by
   rcases h.dr.2 with⟨e,_⟩|⟨g',cap',cur,e,_⟩
   .cases e
   .cases e;rfl
  have hd:=h.dr;subst hm;exact(hd.stored j (.int .u8 v)).1
end
def Oa(LS DS:List Int)(w:World)(e:Ending)(w':World):Prop:=∃ vd,e=.returned (.tuple #[.string (strOfNums LS),vd,.bool true])/\w'.ownsRow w.heap.size 5 1 vd DS.length (DS.map (Value.int .u8))/\DS.length=LS.length+1/\Below w.heap.size w w'
theorem zk(s:ByteArray)(LS DS:List Int)(w:World)(h1:1<=s.size)(h2:s.size<=16)(hp:qA s.size (bytesOf s) 0 [] [0] false true=some (LS,DS,true))(hL:LS≠[]):Calls Tryz.prog 160 #[.string s] w (Oa LS DS w):=by
 have d1:decide ((s.size:Int) < 1)=false:=decide_eq_false (by omega);have d2:decide (16 < (s.size:Int))=false:=decide_eq_false (by omega);have kb:=fun W=>f_ (P:=Tryz.prog) 9 133 5 Tryz.underlying9 Tryz.underlying133 Tryz.underlying5 s W
 obtain⟨pad,fr,rF⟩:=BB.new (w.alloc (.cells #[.int .u8 0] 5)) s;have hb0:=fE ((Below.refl w.heap.size w).alloc (Nat.le_refl _) (.cells #[.int .u8 0] 5)) (by simp) 5 s;have hlit:(w.alloc (.cells #[.int .u8 0] 5)).ownsRow w.heap.size 5 1 (.slice (some ⟨w.heap.size,0,none⟩) 1 1) 1 [.int .u8 0]:=by
  have:=World.ownsRow_lit (base:=w.heap.size) (e:=5) (size:=1) w #[.int .u8 0] 1 (Nat.le_refl _) (by decide) rfl
  simpa using this
 obtain⟨C,hC⟩:∃ C,(w.alloc (.cells #[.int .u8 0] 5)).heap.size=C:=⟨_,rfl⟩;have Zl:C=w.heap.size+1:=by rw[<-hC];simp
 rw[hC] at rF
 have Zm:lS w (Lib.bytesWorld (w.alloc (.cells #[.int .u8 0] 5)) 5 s) C (bytesOf s) pad fr [] [0] (.slice none 0 0) (.slice (some ⟨w.heap.size,0,none⟩) 1 1) :=
  ⟨⟨rfl,.inl ⟨rfl,rfl⟩⟩,jd hlit (fE (Below.refl _ _) (Nat.le_refl _) 5 s),fun k hk=>by simp[Value.ownBlock] at hk,by simp[Value.ownBlock],by simp[Value.ownBlock];omega,rF,hb0,rfl⟩
 have yN:=aj Zm;have HP:=aj hp;have HL:=aj hL;obtain⟨n,hn⟩:∃ n,s.size=n:=⟨_,rfl⟩;have HN:=aj hn;have JO:=aj (show 1<=n/\n<=16 by omega);have yQ:=aj (show(bytesOf s).length=n by rw[ef,hn]);have HHC:=aj Zl.symm;clear rF hb0 hlit Zl Zm hp hL h1 h2 hn;go_enter Tryz.func160,Tryz.ntmps160;go_upto_block 0 with(fail);generalize Lib.bytesWorld (w.alloc (.cells #[.int .u8 0] 5)) 5 s=W1 at *;have HP2:=HP.out;rw[HN.out] at HP2 ⊢;have HP:=aj HP2;clear HP2;clear hC;go_wp2;go_loopw [5,6,7,8,23] (fun v5 v6 v7 v8 v23 wr=>∃ (y:Int) (i:Nat) (so re:Bool) (ls ds:List Int),v7=.bool so/\v8=.bool re/\v23=.int .i64 y/\aC (y=(i:Int))/\aC (i<=n)/\aC (ls.length<=i)/\aC (qA n ((bytesOf s).drop i) i ls ds so re=some (LS,DS,true))/\aC (lS w wr C (bytesOf s) pad fr ls ds v5 v6)) (fun _ _ _ _ v23 _=>n - (intOf v23).toNat)
 case atStart=>exact⟨0,0,false,true,[],[0],rfl,rfl,rfl,⟨rfl⟩,⟨Nat.zero_le _⟩,⟨Nat.le_refl _⟩,HP,yN⟩
 case round =>
  obtain⟨y,i,so,re,ls,ds,rfl,rfl,rfl,hy,hi,hls,hgo,hR⟩:=hrel;by_cases hlt:i < n
  .have d9:decide (y < (n:Int))=true:=decide_eq_true (by rw[hy.out];omega);have q0:0<=y:=by rw[hy.out];omega
   have q1:y < (n:Int):=by rw[hy.out];omega
   have q5:y<=16:=by have:=JO.out;omega
   have q6:(n:Int)<=16:=by have:=JO.out;omega
   have p0:=eq_true q0;have p1:=eq_true q1;have cg:=aj hlt;have HY:=aj (show y.toNat=i by rw[hy.out];omega);have hlx:i < (bytesOf s).length:=by rw[yQ.out];exact hlt
   obtain⟨c,hc⟩:∃ c,(bytesOf s).getD i 0=c:=⟨_,rfl⟩;have hcc:0<=c/\c<=255:=by
    have:=mz s (i:Int);rw[<-gU] at this;rw[<-hc];exact this
   have hg:=hgo.out;rw[List.drop_eq_getElem_cons hlx,show(bytesOf s)[i]=c by rw[<-hc,List.getD_eq_getElem?_getD,List.getElem?_eq_getElem hlx];rfl,qA] at hg;have k0:wr.cell? ⟨C,y.toNat,none⟩=some (.int .u8 c):=by
    rw[HY.out,<-hc];exact hR.out.cv.cell hlx
   have hlo:(ls.length+1) * 1<=140737488355328/\(ds.length+1) * 1<=140737488355328:=by have:=hls.out;have:=hi.out;have:=JO.out;have:=hR.out.len;omega
   have uX:=aj hlo;clear hlt hlx hc hgo;by_cases h46:c=46
   .subst h46;rw[if_pos rfl] at hg;by_cases hz:i=0
    .rw[if_neg (fun q=>q.1 hz)] at hg;have hy0:y=0:=(by rw[hy.out,hz];rfl);have HG:=aj hg;subst hy0;have k1:wr.cell? ⟨C,0,none⟩=some (.int .u8 46):=k0;have hn0:0 < n:=Nat.lt_of_le_of_lt (Nat.zero_le _) cg.out;clear hg hz k0;go_wp2_with (at_builtin;go_loud(first|(refine cC (w0:=w) w.heap.size rfl (.tmp 40) (.tmp 42) 133 5 (.int .u8 0) 1 1 rfl Tryz.underlying133 qq rfl (by decide) (by decide) u5 ls.length (ls.map (Value.int .u8)) [.int .u8 46] rfl rfl rfl (by intro u hu;rw[List.mem_singleton.1 hu];rfl) hR.out.lr hR.out.je hR.out.je.size uX.out.1 ?_;intro v1 w1 ho1 hb1 hg1 ha1;have hd1:=hR.out.dr1 hg1)|(refine cC (w0:=w) w.heap.size rfl (.tmp 44) (.tmp 45) 133 5 (.int .u8 0) 1 1 rfl Tryz.underlying133 qq rfl (by decide) (by decide) u6 ds.length (ds.map (Value.int .u8)) [.int .u8 0] rfl rfl rfl (by intro u hu;rw[List.mem_singleton.1 hu];rfl) hd1 hb1 hb1.size uX.out.2 ?_;intro v2 w2 ho2 hb2 hg2 ha2;have HR2:=aj (hR.out.add ho1 hg1 ha1 ho2 hg2 ha2 hb2);clear ho1 hb1 hg1 ha1 hd1 ho2 hb2 hg2 ha2)));go_roundw
     case rel=>exact⟨1,i+1,so,true,ls ++ [46],ds ++ [0],rfl,rfl,rfl,⟨by have:=hy.out;omega⟩,⟨cg.out⟩,⟨by rw[List.length_append];exact Nat.succ_le_succ hls.out⟩,HG,HR2⟩
     case measure=>have:=cg.out;have:=hy.out;simp[intOf];omega
    .have hin:i+1=n:=by
      by_cases q:i+1=n
      .exact q
      .rw[if_pos ⟨hz,q⟩] at hg;cases hg
     rw[if_neg (fun q=>q.2 hin)] at hg;have HG:=aj hg;have e1:wrap64 ((s.size:Int) - 1)=y:=(by rw[HN.out,dN _ (by omega)];have:=hy.out;omega);have hyz:¬ y=0:=(by rw[hy.out];omega);have hyb:(y != 0)=true:=(by simp[hyz]);have hyc:(y != wrap64 ((s.size:Int) - 1))=false:=(by rw[e1];simp);clear hg hz hin;go_wp2_with (at_builtin;go_loud(first|(refine cC (w0:=w) w.heap.size rfl (.tmp 40) (.tmp 42) 133 5 (.int .u8 0) 1 1 rfl Tryz.underlying133 qq rfl (by decide) (by decide) u5 ls.length (ls.map (Value.int .u8)) [.int .u8 46] rfl rfl rfl (by intro u hu;rw[List.mem_singleton.1 hu];rfl) hR.out.lr hR.out.je hR.out.je.size uX.out.1 ?_;intro v1 w1 ho1 hb1 hg1 ha1;have hd1:=hR.out.dr1 hg1)|(refine cC (w0:=w) w.heap.size rfl (.tmp 44) (.tmp 45) 133 5 (.int .u8 0) 1 1 rfl Tryz.underlying133 qq rfl (by decide) (by decide) u6 ds.length (ds.map (Value.int .u8)) [.int .u8 0] rfl rfl rfl (by intro u hu;rw[List.mem_singleton.1 hu];rfl) hd1 hb1 hb1.size uX.out.2 ?_;intro v2 w2 ho2 hb2 hg2 ha2;have HR2:=aj (hR.out.add ho1 hg1 ha1 ho2 hg2 ha2 hb2);clear ho1 hb1 hg1 ha1 hd1 ho2 hb2 hg2 ha2)));go_roundw
     case rel=>exact⟨y+1,i+1,so,true,ls ++ [46],ds ++ [0],rfl,rfl,rfl,⟨by rw[hy.out];omega⟩,⟨cg.out⟩,⟨by rw[List.length_append];exact Nat.succ_le_succ hls.out⟩,HG,HR2⟩
     case measure=>have:=cg.out;have:=hy.out;simp[intOf];omega
   .rw[if_neg h46] at hg;cases qP:jC c with
    | true =>
     rw[if_pos qP] at hg;have HG:=aj hg;have wN:=aj qP;clear hg qP;go_wp2_with (first|(go_at_call 165;go_loud(refine(jc c _).mono ?_;rintro e w7 ⟨rfl,q_⟩;have q_:=q_.symm;subst q_;rw[wN.out]))|(at_builtin;go_loud(first|(refine cC (w0:=w) w.heap.size rfl (.tmp 50) (.tmp 52) 133 5 (.int .u8 0) 1 1 rfl Tryz.underlying133 qq rfl (by decide) (by decide) u5 ls.length (ls.map (Value.int .u8)) [.int .u8 c] rfl rfl rfl (by intro u hu;rw[List.mem_singleton.1 hu];rfl) hR.out.lr hR.out.je hR.out.je.size uX.out.1 ?_;intro v1 w1 ho1 hb1 hg1 ha1;have hd1:=hR.out.dr1 hg1)|(refine cC (w0:=w) w.heap.size rfl (.tmp 54) (.tmp 55) 133 5 (.int .u8 0) 1 1 rfl Tryz.underlying133 qq rfl (by decide) (by decide) u6 ds.length (ds.map (Value.int .u8)) [.int .u8 0] rfl rfl rfl (by intro u hu;rw[List.mem_singleton.1 hu];rfl) hd1 hb1 hb1.size uX.out.2 ?_;intro v2 w2 ho2 hb2 hg2 ha2;have HR2:=aj (hR.out.add ho1 hg1 ha1 ho2 hg2 ha2 hb2);clear ho1 hb1 hg1 ha1 hd1 ho2 hb2 hg2 ha2))));go_roundw
     case rel=>exact⟨y+1,i+1,true,true,ls ++ [c],ds ++ [0],rfl,rfl,rfl,⟨by rw[hy.out];omega⟩,⟨cg.out⟩,⟨by rw[List.length_append];exact Nat.succ_le_succ hls.out⟩,HG,HR2⟩
     case measure=>have:=cg.out;have:=hy.out;simp[intOf];omega
    | false =>
     rw[if_neg (by rw[qP];decide)] at hg;by_cases hd:xB c=true/\re=true
     .rw[if_pos hd] at hg;obtain⟨Fm,hre⟩:=hd;subst hre;have HG:=aj hg;have wN:=aj qP;have HDI:=aj Fm;have VT:48<=c/\c<=57:=(by unfold xB at Fm;exact of_decide_eq_true Fm);obtain⟨hc1,hc2⟩:=VT;obtain⟨g,cap,rfl⟩:=hR.out.Td;obtain⟨m,hm⟩:∃ m,ls.length+1=m:=⟨_,rfl⟩;have HM:=aj hm;have Xn:=aj (hR.out.len.trans hm);rw[hm] at hR;rw[hm];obtain⟨z,hz⟩:∃ z,(m:Int) - 1=z:=⟨_,rfl⟩;have z0:0<=z:=(by omega);have z1:z < (m:Int):=(by omega);have z2:z<=16:=(by have:=hls.out;have:=hi.out;have:=JO.out;omega);have HZ:=aj (show z.toNat=ds.length - 1 by rw[Xn.out];omega);have f0:wr.frozen? ⟨g,z.toNat,none⟩=false:=by
       obtain⟨cs,hcs⟩:=eW hR.out.dr g rfl;exact aB hcs _
      have k1:∃ u,wr.cell? ⟨g,z.toNat,none⟩=some u:=by
       have h8:=hR.out.dr;rw[Xn.out] at h8;have h9:=h8.cellAt z.toNat (by omega);rw[h9];exact⟨_,List.getElem?_eq_getElem (by rw[List.length_map,Xn.out];omega)⟩
      obtain⟨u1,k1⟩:=k1;have HR2:=aj (hR.out.Xm z.toNat (c - 48));clear hg qP Fm hm;go_wp2_with (first|(go_at_call 165;go_loud(refine(jc c _).mono ?_;rintro e w7 ⟨rfl,q_⟩;have q_:=q_.symm;subst q_;rw[wN.out]))|(go_at_call 173;go_loud(refine(Da c _).mono ?_;rintro e w7 ⟨rfl,q_⟩;have q_:=q_.symm;subst q_;rw[HDI.out])));go_roundw
      case rel=>exact⟨y+1,i+1,so,false,ls,ds.set (ds.length - 1) (c - 48),rfl,rfl,rfl,⟨by rw[hy.out];omega⟩,⟨cg.out⟩,⟨Nat.le_succ_of_le hls.out⟩,HG,⟨by rw[<-HZ.out];exact HR2.out⟩⟩
      case measure=>have:=cg.out;have:=hy.out;simp[intOf];omega
     .rw[if_neg hd] at hg;cases hg
  .have d9:decide (y < (n:Int))=false:=decide_eq_false (by rw[hy.out];omega);have hin:i=n:=by have:=hi.out;omega
   have hg:=hgo.out;rw[List.drop_of_length_le (by rw[yQ.out,hin];exact Nat.le_refl _),qA] at hg;cases hg
   have hLl:0 < LS.length:=List.length_pos_iff.2 HL.out;obtain⟨m,hm⟩:∃ m,LS.length=m+1:=⟨LS.length - 1,by omega⟩;have hlr:=hR.out.lr;rw[hm] at hlr;obtain⟨g,cap,rfl⟩:=ownsRow_succ hlr;have Pk:=aj (show dZ wr .u8 (some ⟨g,0,none⟩) (m+1) LS from ⟨hm,by have:=hls.out;have:=hi.out;have:=JO.out;omega,fun _=>⟨_,rfl,fun j hj=>by
    rw[add_plain,hlr.cellAt j (by omega)];simp[List.getElem?_eq_getElem (show j < LS.length by omega),List.getD_eq_getElem?_getD]⟩⟩)
   have kc:=fun cc=>iU (P:=Tryz.prog) (src:=133) (dst:=9) (c:=cc) Tryz.underlying133 Tryz.underlying5 Tryz.underlying9 Pk.out
   clear hlt hin hLl hlr hm hgo;go_wp2;go_ret3;exact⟨u6,rfl,hR.out.dr,hR.out.len,hR.out.je⟩
end Go.Proofs.YtcaallkkeighdaaGreatDoor.P
namespace Go.Proofs.YtcaallkkeighdaaGreatDoor.P
open Go.RowKit aD aQ aR
attribute [local go_sem] cN cO dw dA
def BG(n:Nat):List Int->Nat->Int->List Int->List Int->Option (List Int × List Int)
 | [],_,_,wd,pl=>some (wd,pl)
 | c :: l,i,pv,wd,pl =>
  if jC c=true then BG n l (i+1) c (wd ++ [c]) pl
  else if c=45/\0 < i/\i+1 < n/\pv≠45 then BG n l (i+1) c wd (pl ++ [(wd.length:Int)])
  else none
structure kA(w wr:World)(C:Nat)(xs:List Int)(pad:List Value)(fr:Nat × Nat)(wd pl:List Int)(vl vp:Value):Prop where
 lr:wr.ownsRow w.heap.size 5 1 vl wd.length (wd.map (Value.int .u8))
 pr:wr.ownsRow w.heap.size 3 1 vp pl.length (pl.map (Value.int .i64))
 cl:vl.ownBlock≠some C
 cv:BB wr C xs pad fr
 je:Below w.heap.size w wr
section
variable{w wr:World}{C:Nat}{xs:List Int}{pad:List Value}{fr:Nat × Nat}{wd pl:List Int}{vl vp:Value}
theorem kA.hlt(h:kA w wr C xs pad fr wd pl vl vp):C < wr.heap.size:=aY h.cv.1
theorem kA.apart(h:kA w wr C xs pad fr wd pl vl vp)(k:Nat)(h1:vl.ownBlock=some k):vp.ownBlock≠some k:=fun h2=>by
 obtain⟨c1,q1⟩:=eW h.lr k h1;obtain⟨c2,q2⟩:=eW h.pr k h2;rw[q1] at q2;cases q2
theorem kA.Xo(h:kA w wr C xs pad fr wd pl vl vp){c:Int}{v1:Value}{w1:World}(ho1:w1.ownsRow w.heap.size 5 1 v1 (wd.length+1) (wd.map (Value.int .u8) ++ [.int .u8 c]))(hb:Below w.heap.size w w1)(hg1:wr.grownBy w1 vl.ownBlock)(ha1:v1.ownBlock=vl.ownBlock\/∃ b,v1.ownBlock=some b/\wr.heap.size<=b) :
  kA w w1 C xs pad fr (wd ++ [c]) pl v1 vp:=by
 refine⟨by rw[List.length_append,List.map_append];exact ho1,h.pr.kept hg1 ?_,fun e=>?_,⟨(hg1.block C h.hlt (fun e=>h.cl e.symm)).trans h.cv.1,h.cv.2⟩,hb⟩
 .cases hv:vp.ownBlock with
  | none=>exact .inl rfl
  | some k=>exact .inr (fun e=>h.apart k e.symm hv)
 .have:=h.hlt;rcases ha1 with q|⟨b,q,hb2⟩
  .exact h.cl (q ▸ e)
  .rw[q] at e;have:=Option.some.inj e;omega
theorem kA.cp(h:kA w wr C xs pad fr wd pl vl vp):vp.ownBlock≠some C:=fun e=>by
 obtain⟨c2,q2⟩:=eW h.pr C e;rw[h.cv.1] at q2;cases q2
theorem kA.Xp(h:kA w wr C xs pad fr wd pl vl vp){c:Int}{v1:Value}{w1:World}(ho1:w1.ownsRow w.heap.size 3 1 v1 (pl.length+1) (pl.map (Value.int .i64) ++ [.int .i64 c]))(hb:Below w.heap.size w w1)(hg1:wr.grownBy w1 vp.ownBlock) :
  kA w w1 C xs pad fr wd (pl ++ [c]) vl v1:=by
 refine⟨h.lr.kept hg1 ?_,by rw[List.length_append,List.map_append];exact ho1,h.cl,⟨(hg1.block C h.hlt (fun e=>h.cp e.symm)).trans h.cv.1,h.cv.2⟩,hb⟩;cases hv:vl.ownBlock with
 | none=>exact .inl rfl
 | some k=>exact .inr (fun e=>h.apart k hv e.symm)
theorem kA.Te(h:kA w wr C xs pad fr wd pl vl vp):∃ A cap,vl=.slice A wd.length cap:=by
 rcases h.lr.2 with⟨e,hz⟩|⟨g,cap,cur,e,_⟩
 .exact⟨none,0,by rw[hz];exact e⟩
 .exact⟨_,_,e⟩
end
def QG(WD PL:List Int)(w:World)(e:Ending)(w':World):Prop:=∃ vp,e=.returned (.tuple #[.string (strOfNums WD),vp,.bool true])/\w'.ownsRow w.heap.size 3 1 vp PL.length (PL.map (Value.int .i64))/\Below w.heap.size w w'
theorem vB(s:ByteArray)(WD PL:List Int)(w:World)(h2:s.size<=64)(hp:BG s.size (bytesOf s) 0 0 [] []=some (WD,PL))(hL:2<=WD.length):Calls Tryz.prog 162 #[.string s] w (QG WD PL w):=by
 have kb:=fun W=>f_ (P:=Tryz.prog) 9 133 5 Tryz.underlying9 Tryz.underlying133 Tryz.underlying5 s W
 obtain⟨pad,fr,rF⟩:=BB.new w s;have hb0:=fE (Below.refl w.heap.size w) (Nat.le_refl _) 5 s
 have yN:=aj (show kA w (Lib.bytesWorld w 5 s) w.heap.size (bytesOf s) pad fr [] [] (.slice none 0 0) (.slice none 0 0) from
  ⟨⟨rfl,.inl ⟨rfl,rfl⟩⟩,⟨rfl,.inl ⟨rfl,rfl⟩⟩,by simp[Value.ownBlock],rF,hb0⟩)
 have HP:=aj hp;have HL:=aj hL;obtain⟨n,hn⟩:∃ n,s.size=n:=⟨_,rfl⟩;have HN:=aj hn;have JO:=aj (show n<=64 by omega);have yQ:=aj (show(bytesOf s).length=n by rw[ef,hn]);clear rF hb0 hp hL h2 hn;go_enter Tryz.func162,Tryz.ntmps162;go_upto_block 0 with(fail);generalize Lib.bytesWorld w 5 s=W1 at *;have HP2:=HP.out;rw[HN.out] at HP2 ⊢;have HP:=aj HP2;clear HP2;go_wp2;go_loopw [5,6,12] (fun v5 v6 v12 wr=>∃ (y:Int) (i:Nat) (wd pl:List Int) (pv:Int),v12=.int .i64 y/\aC (y=(i:Int))/\aC (i<=n)/\aC (wd.length<=i/\pl.length<=i)/\aC (0 < i->pv=bt s ((i:Int) - 1))/\aC (BG n ((bytesOf s).drop i) i pv wd pl=some (WD,PL))/\aC (kA w wr w.heap.size (bytesOf s) pad fr wd pl v5 v6)) (fun _ _ v12 _=>n - (intOf v12).toNat)
 case atStart=>exact⟨0,0,[],[],0,rfl,⟨rfl⟩,⟨Nat.zero_le _⟩,⟨Nat.le_refl _,Nat.le_refl _⟩,⟨fun h=>absurd h (Nat.lt_irrefl _)⟩,HP,yN⟩
 case round =>
  obtain⟨y,i,wd,pl,pv,rfl,hy,hi,hls,hpv,hgo,hR⟩:=hrel;by_cases hlt:i < n
  .have d9:decide (y < (n:Int))=true:=decide_eq_true (by rw[hy.out];omega);have q0:0<=y:=by rw[hy.out];omega
   have q1:y < (n:Int):=by rw[hy.out];omega
   have q5:y<=64:=by have:=JO.out;omega
   have q6:(n:Int)<=64:=by have:=JO.out;omega
   have p0:=eq_true q0;have p1:=eq_true q1;have cg:=aj hlt;have HY:=aj (show y.toNat=i by rw[hy.out];omega);have hlx:i < (bytesOf s).length:=by rw[yQ.out];exact hlt
   obtain⟨c,hc⟩:∃ c,(bytesOf s).getD i 0=c:=⟨_,rfl⟩;have hcb:c=bt s (i:Int):=by rw[<-hc,<-gU];unfold rd;simp
   have IC:=aj (show c=bt s (((i+1:Nat):Int) - 1) by rw[hcb];congr 1;omega);have hcc:0<=c/\c<=255:=by rw[hcb];exact mz s _
   have hg:=hgo.out;rw[List.drop_eq_getElem_cons hlx,show(bytesOf s)[i]=c by rw[<-hc,List.getD_eq_getElem?_getD,List.getElem?_eq_getElem hlx];rfl,BG] at hg;have k0:wr.cell? ⟨w.heap.size,y.toNat,none⟩=some (.int .u8 c):=by
    rw[HY.out,<-hc];exact hR.out.cv.cell hlx
   have hlo:(wd.length+1) * 1<=140737488355328/\(pl.length+1) * 8<=140737488355328:=by have:=hls.out;have:=hi.out;have:=JO.out;omega
   have uX:=aj hlo;clear hlt hlx hc hgo hcb hlo;cases qP:jC c with
   | true =>
    rw[if_pos qP] at hg;have HG:=aj hg;have wN:=aj qP;clear hg qP;go_wp2_with (first|(go_at_call 165;go_loud(refine(jc c _).mono ?_;rintro e w7 ⟨rfl,q_⟩;have q_:=q_.symm;subst q_;rw[wN.out]))|(at_builtin;go_loud(refine cC (w0:=w) w.heap.size rfl (.tmp 20) (.tmp 22) 133 5 (.int .u8 0) 1 1 rfl Tryz.underlying133 qq rfl (by decide) (by decide) u5 wd.length (wd.map (Value.int .u8)) [.int .u8 c] rfl rfl rfl (by intro u hu;rw[List.mem_singleton.1 hu];rfl) hR.out.lr hR.out.je hR.out.je.size uX.out.1 ?_;intro v1 w1 ho1 hb1 hg1 ha1;have HR2:=aj (hR.out.Xo ho1 hb1 hg1 ha1);clear ho1 hb1 hg1 ha1)));go_roundw
    case rel=>exact⟨y+1,i+1,wd ++ [c],pl,c,rfl,⟨by rw[hy.out];omega⟩,⟨cg.out⟩,⟨by rw[List.length_append];exact⟨Nat.succ_le_succ hls.out.1,Nat.le_succ_of_le hls.out.2⟩⟩,⟨fun _=>IC.out⟩,HG,HR2⟩
    case measure=>have:=cg.out;have:=hy.out;simp[intOf];omega
   | false =>
    rw[if_neg (by rw[qP];decide)] at hg;by_cases hd:c=45/\0 < i/\i+1 < n/\pv≠45
    .rw[if_pos hd] at hg;have HG:=aj hg;have wN:=aj qP;obtain⟨rfl,hd1,hd2,hd3⟩:=hd;have e0:decide (0 < y)=true:=decide_eq_true (by rw[hy.out];omega);have q7:0<=y - 1:=(by rw[hy.out];omega);have q8:y - 1 < (n:Int):=(by omega);have q9:y - 1 < (s.size:Int):=(by rw[HN.out];omega);have e1:decide (y < wrap64 ((s.size:Int) - 1))=true:=decide_eq_true (by rw[HN.out,dN _ (by omega),hy.out];omega);have MX:decide (y < (s.size:Int) - 1)=true:=decide_eq_true (by rw[HN.out,hy.out];omega);have e1n:decide (y < (n:Int) - 1)=true:=decide_eq_true (by rw[hy.out];omega);have Ob:=hpv.out hd1;rw[<-hy.out] at Ob;have e2:(bt s (y - 1) != 45)=true:=(by rw[<-Ob];simp[hd3]);have e3:¬ bt s (y - 1)=45:=(by rw[<-Ob];exact hd3);have e5:∀ h:y.toNat - 1 < s.size,((s[y.toNat - 1]'h).toNat:Int)=bt s (y - 1):=fun h=>by
      have hh:(y - 1).toNat=y.toNat - 1:=(by omega);have:=nN s (y - 1) (by rw[hh];exact h);rw[<-this]
      congr 3
      exact hh.symm
     obtain⟨A,cap,rfl⟩:=hR.out.Te;clear hg qP hd1 hd2 hd3 Ob;go_wp2_with (first|(go_at_call 165;go_loud(refine(jc 45 _).mono ?_;rintro e w7 ⟨rfl,q_⟩;have q_:=q_.symm;subst q_;rw[wN.out]))|(at_builtin;go_loud(refine cC (w0:=w) w.heap.size rfl (.tmp 45) (.tmp 48) 107 3 (.int .i64 0) 1 8 rfl Tryz.underlying107 info3 rfl (by decide) (by decide) u6 pl.length (pl.map (Value.int .i64)) [.int .i64 (wd.length:Int)] rfl rfl rfl (by intro u hu;rw[List.mem_singleton.1 hu];rfl) hR.out.pr hR.out.je hR.out.je.size uX.out.2 ?_;intro v1 w1 ho1 hb1 hg1 ha1;have HR2:=aj (hR.out.Xp ho1 hb1 hg1);clear ho1 hb1 hg1 ha1)));go_roundw
     case rel=>exact⟨y+1,i+1,wd,pl ++ [(wd.length:Int)],45,rfl,⟨by rw[hy.out];omega⟩,⟨cg.out⟩,⟨by rw[List.length_append];exact⟨Nat.le_succ_of_le hls.out.1,Nat.succ_le_succ hls.out.2⟩⟩,⟨fun _=>IC.out⟩,HG,HR2⟩
     case measure=>have:=cg.out;have:=hy.out;simp[intOf];omega
    .rw[if_neg hd] at hg;cases hg
  .have d9:decide (y < (n:Int))=false:=decide_eq_false (by rw[hy.out];omega);have hin:i=n:=by have:=hi.out;omega
   have hg:=hgo.out;rw[List.drop_of_length_le (by rw[yQ.out,hin];exact Nat.le_refl _),BG] at hg;cases hg
   obtain⟨m,hm⟩:∃ m,WD.length=m+1:=⟨WD.length - 1,by have:=HL.out;omega⟩;have hlr:=hR.out.lr;rw[hm] at hlr;obtain⟨g,cap,rfl⟩:=ownsRow_succ hlr;have Pk:=aj (show dZ wr .u8 (some ⟨g,0,none⟩) (m+1) WD from ⟨hm,by have:=hls.out;have:=hi.out;have:=JO.out;omega,fun _=>⟨_,rfl,fun j hj=>by
    rw[add_plain,hlr.cellAt j (by omega)];simp[List.getElem?_eq_getElem (show j < WD.length by omega),List.getD_eq_getElem?_getD]⟩⟩)
   have kc:=fun cc=>iU (P:=Tryz.prog) (src:=133) (dst:=9) (c:=cc) Tryz.underlying133 Tryz.underlying5 Tryz.underlying9 Pk.out
   obtain⟨z,hz⟩:∃ z:Int,((m+1:Nat):Int)=z:=⟨_,rfl⟩;have z1:decide (2<=((m+1:Nat):Int))=true:=decide_eq_true (by have:=HL.out;omega);have z2:decide (((m+1:Nat):Int)<=64)=true:=decide_eq_true (by have:=hls.out;have:=hi.out;have:=JO.out;omega);have z3:(2:Int)<=(m:Int)+1:=by have:=HL.out;omega
   have z4:(m:Int)+1<=64:=by have:=hls.out;have:=hi.out;have:=JO.out;omega
   clear hlt hin hlr hm hgo hz z;go_wp2;go_ret3;exact⟨u6,rfl,hR.out.pr,hR.out.je⟩
end Go.Proofs.YtcaallkkeighdaaGreatDoor.P
namespace Go.Proofs.YtcaallkkeighdaaGreatDoor.P
open Go.RowKit aD aQ aR
attribute [local go_sem] cN cO dw dA
structure SR(w:World)(A:Option Addr)(m:Nat)(ss:List ByteArray):Prop where
 len:ss.length=m
 cell:∀ j,j < m->∃ ad,A=some ad/\w.cell? (ad.add j)=some (.string (ss.getD j ByteArray.empty))
theorem SR.below{w w':World}{A:Option Addr}{m:Nat}{ss:List ByteArray}(h:SR w A m ss)(hb:Below w.heap.size w w'):SR w' A m ss :=
 ⟨h.len,fun j hj=>by
  obtain⟨ad,e,hc⟩:=h.cell j hj;exact⟨ad,e,bH hb hc⟩⟩
def ld(e:List Int × List Int):Lit:=.string (strOfNums e.1).data.toList
structure tX(w:World)(B b:Nat)(ee:List (List Int × List Int)):Prop where
 out:∃ (F:Lit->Option Value) (n:Nat),MF w 9 b n F/\n<=ee.length/\(∀ kl,F kl≠none->∃ e∈ee,kl=ld e)/\(∀ e∈ee,∃ v,F (ld e)=some v/\w.ownsRow B 3 1 v e.2.length (e.2.map (Value.int .i64)))
theorem tX.below{w w':World}{B b:Nat}{ee:List (List Int × List Int)}(h:tX w B b ee)(hb:Below w.heap.size w w'):tX w' B b ee:=by
 obtain⟨F,n,hM,hn,h1,h2⟩:=h.out;exact⟨F,n,hM.block (hb.block _ hM.lt),hn,h1,fun e he=>by
  obtain⟨v,q1,q2⟩:=h2 e he;exact⟨v,q1,jd q2 hb⟩⟩
theorem tX.start{w:World}{B b:Nat}(h:MF w 9 b 0 (fun _=>none)):tX w B b []:=⟨_,0,h,Nat.le_refl _,fun kl q=>absurd rfl q,fun e he=>by cases he⟩
theorem tX.put{w w':World}{B b:Nat}{ee:List (List Int × List Int)}{e:List Int × List Int}{v:Value}{F:Lit->Option Value}{n:Nat}(hn:n<=ee.length)(h1:∀ kl,F kl≠none->∃ e∈ee,kl=ld e)(h2:∀ e∈ee,∃ v,F (ld e)=some v/\w.ownsRow B 3 1 v e.2.length (e.2.map (Value.int .i64)))
  (hM:MF w 9 b n F) (hM':MF w' 9 b (n+1) (sM F (ld e) v)) (hg:w.grownBy w' (some b)) (hv:w.ownsRow B 3 1 v e.2.length (e.2.map (Value.int .i64))) (hne:∀ x∈ee,ld x≠ld e):tX w' B b (ee ++ [e]):=by
 have hrow:∀ {u:Value} {k:Nat} {xs:List Value},w.ownsRow B 3 1 u k xs->w'.ownsRow B 3 1 u k xs:=fun{u k xs} hu=>by
  refine hu.kept hg ?_;cases hq:u.ownBlock with
  | none=>exact .inl rfl
  | some r =>
   refine .inr (fun q=>?_);obtain⟨cs,hc⟩:=eW hu r hq;obtain⟨es,cl,hm⟩:=hM.isMap;rw[Option.some.inj q,hm] at hc;cases hc
 refine⟨_,n+1,hM',by rw[List.length_append];exact Nat.succ_le_succ hn,fun kl q=>?_,fun x hx=>?_⟩
 .by_cases hk:kl=ld e
  .exact⟨e,by simp,hk⟩
  .rw[k_ hk] at q;obtain⟨x,hx,Xq⟩:=h1 kl q;exact⟨x,by simp[hx],Xq⟩
 .rcases List.mem_append.1 hx with hx|hx
  .obtain⟨u,q1,q2⟩:=h2 x hx;exact⟨u,by rw[k_ (hne x hx)];exact q1,hrow q2⟩
  .obtain rfl:=List.mem_singleton.1 hx;exact⟨v,pV trivial,hrow hv⟩
theorem iC.but{w w':World}{B:Nat}{t:Tr}{nb mb db dc:Nat->Nat}(h:iC w B t nb mb db dc){b X0:Nat}(hHi:Hi X0 t nb mb db)(hg:w.grownBy w' (some b))(hb:b < X0)(hb0:b≠nb 0):iC w' B t nb mb db dc:=by
 refine⟨fun k hk=>?_,fun k hk hm=>?_,h.qz,fun k hk ds hd=>?_,h.base,h.ni,h.mi,h.di⟩
 .rw[hg.block _ (aY (h.node k hk)) (fun e=>by
   have e2:=Option.some.inj e;rcases (hHi k hk).1 with q|q
   .exact hb0 (by rw[<-q,<-e2])
   .omega)]
  exact h.node k hk
 .exact(h.map k hk hm).kept hg (fun e=>by have e2:=Option.some.inj e;have:=(hHi k hk).2.1 hm;omega)
 .exact(h.Iu k hk ds hd).kept hg (.inr (fun e=>by
   have e2:db k=b:=by simpa [vA,Value.ownBlock] using e
   have:=(hHi k hk).2.2 (by rw[hd];simp);omega))
def tr0:Tr:={ n:=1,hm:=fun _=>false,nx:=fun _ _=>none,dg:=fun _=>none }
theorem iC.start{w:World}{A B:Nat}(h:w.heap[A]? = some (.cells #[.map none,.slice none 0 0] 228 (0,0)))(hA:B<=A):iC w B tr0 (fun _=>A) (fun _=>A) (fun _=>A) (fun _=>0) :=
 ⟨fun k hk=>h,fun k hk hm=>(by cases hm),fun k hk _ c=>rfl,fun k hk ds hd=>(by cases hd),fun k hk=>⟨hA,fun q=>(by cases q)⟩,fun i j hi hj _=>(by
  have h1:i < 1:=hi;have h2:j < 1:=hj;omega),fun i j hi hj q=>(by cases q),fun i j hi hj q=>absurd rfl q⟩
theorem qd.start:qd tr0 (fun _=>0):=⟨Nat.one_pos,rfl,fun k c j hk h=>(by cases h),fun k ds hk h=>(by cases h)⟩
theorem Hi.start(X0 A:Nat):Hi X0 tr0 (fun _=>A) (fun _=>A) (fun _=>A):=fun k hk=>⟨.inl rfl,fun q=>(by cases q),fun q=>absurd rfl q⟩
def BH(t:Tr)(pp:List (List Int × List Int)):Tr:=pp.foldl (fun t p=>C9 t (bytesOf (strOfNums p.1)) p.2) t
theorem IE{pp:List (List Int × List Int)}{i:Nat}(h:i < pp.length)(t:Tr):BH t (pp.take (i+1))=C9 (BH t (pp.take i)) (bytesOf (strOfNums pp[i].1)) pp[i].2:=by
 unfold BH;rw[List.take_succ_eq_append_getElem h,List.foldl_append];rfl
structure oK(w:World)(B h:Nat)(T:Tr)(ee:List (List Int × List Int)):Prop where
 out:∃ nb mb db dc dep b X0,w.heap[h]? = some (.cells #[.pointer (some ⟨nb 0,0,none⟩),.map (some b)] 203 (0,0))/\iC w B T nb mb db dc/\qd T dep/\Hi X0 T nb mb db/\b < X0/\b≠nb 0/\h < X0/\X0<=w.heap.size/\tX w B b ee/\T.n<=8000
theorem oK.below{w w':World}{B h:Nat}{T:Tr}{ee:List (List Int × List Int)}(q:oK w B h T ee)(hb:Below w.heap.size w w'):oK w' B h T ee:=by
 obtain⟨nb,mb,db,dc,dep,b,X0,h1,h2,h3,h4,h5,h6,h7,h8,h9,h10⟩:=q.out;exact⟨nb,mb,db,dc,dep,b,X0,ay h1 hb,h2.below hb,h3,h4,h5,h6,h7,Nat.le_trans h8 hb.size,h9.below hb,h10⟩
def GV(s:ByteArray)(p:List Int × List Int):Prop:=1<=s.size/\s.size<=16/\qA s.size (bytesOf s) 0 [] [0] false true=some (p.1,p.2,true)/\p.1≠[]/\p.1.length<=16
def Oc(s:ByteArray)(p:List Int × List Int):Prop:=s.size<=64/\BG s.size (bytesOf s) 0 0 [] []=some (p.1,p.2)/\2<=p.1.length/\p.1.length<=64
theorem strOfNums_size(l:List Int):(strOfNums l).size=l.length:=by
 simp[strOfNums,ByteArray.size]
end Go.Proofs.YtcaallkkeighdaaGreatDoor.P
