/- hyph.New: the walk. Contracts of Go's library at this program: strings.Fields,slices.Clone;the conditions stand in each statement. hyph.Plain. hyph.found. -/
import Derived.Shelf.Strings.Split
import Derived.Shelf.Strings.Fields
import Derived.Shelf.Strings.SplitShaped
import Derived.Shelf.Unicode.Latin
import Derived.Shelf.Unicode.Is16White
import Derived.Shelf.Unicode.IsSpaceAny
import Derived.Shelf.Unicode.Is16Any
import Derived.Shelf.Unicode.Is32Any
import Derived.Shelf.Unicode.ExclAny
import Derived.Shelf.Slices.Clone
import Derived.Shelf.Slices.SearchI
import Derived.Shelf.SlicesE.Clone
import Derived.Ground.SlgnProg
import Derived.Test.YtcaallkkeighdaaGreatDoorR17
set_option maxRecDepth 100000
set_option maxHeartbeats 16000000
set_option linter.unusedVariables false
set_option linter.unusedSimpArgs false
namespace Go.Proofs.YtcaallkkeighdaaGreatDoor.P
open Go.RowKit aD aQ aR
attribute [local go_sem] cN cO dw dA
structure nW(w wr:World)(T:Tr)(N:Nat):Prop where
 out:∃ nb mb db dc dep,nb 0=w.heap.size/\iC wr w.heap.size T nb mb db dc/\qd T dep/\Hi (w.heap.size+3) T nb mb db
 hy:wr.heap[w.heap.size+2]? = some (.cells #[.pointer (some ⟨w.heap.size,0,none⟩),.map (some (w.heap.size+1))] 203 (0,0))
 le:T.n<=N
 je:Below w.heap.size w wr
 hX:w.heap.size+3<=wr.heap.size
def Ss(w:World):World:=((w.alloc (.cells #[.map none,.slice none 0 0] 228)).alloc (.map #[] 0)).alloc (.cells #[.pointer (some ⟨w.heap.size,0,none⟩),.map (some (w.heap.size+1))] 203)
theorem KU(w:World):(Ss w).heap.size=w.heap.size+3:=by simp[Ss]
theorem KV(w:World):nW w (Ss w) tr0 1/\MF (Ss w) 9 (w.heap.size+1) 0 (fun _=>none):=by
 have s1:(w.alloc (.cells #[.map none,.slice none 0 0] 228)).heap.size=w.heap.size+1:=by simp
 have s2:((w.alloc (.cells #[.map none,.slice none 0 0] 228)).alloc (.map #[] 0)).heap.size=w.heap.size+2:=by simp
 have b0:=aH w (.cells #[.map none,.slice none 0 0] 228);have b1:=ay b0 ((Below.refl _ _).alloc (Nat.le_refl _) (.map #[] 0));have b2:=ay b1 ((Below.refl _ _).alloc (Nat.le_refl _) (.cells #[.pointer (some ⟨w.heap.size,0,none⟩),.map (some (w.heap.size+1))] 203));have c2:=aH ((w.alloc (.cells #[.map none,.slice none 0 0] 228)).alloc (.map #[] 0)) (.cells #[.pointer (some ⟨w.heap.size,0,none⟩),.map (some (w.heap.size+1))] 203);rw[s2] at c2;have m1:=MF.made (w.alloc (.cells #[.map none,.slice none 0 0] 228)) 9;rw[s1] at m1;refine⟨⟨⟨fun _=>w.heap.size,fun _=>w.heap.size,fun _=>w.heap.size,fun _=>0,fun _=>0,rfl,iC.start b2 (Nat.le_refl _),qd.start,Hi.start _ _⟩,c2,Nat.le_refl _,?_,Nat.le_of_eq (KU w).symm⟩,?_⟩
 .exact(((Below.refl w.heap.size w).alloc (Nat.le_refl _) _).alloc (by simp) _).alloc (by simp;omega) _
 .exact m1.block (((Below.refl _ _).alloc (Nat.le_refl _) _).block _ m1.lt)
theorem nW.add{w wr w5:World}{T:Tr}{N:Nat}(h:nW w wr T N)(hN:N<=7900){p:List Int × List Int}(h16:p.1.length<=16)(hlen:p.2.length=p.1.length+1)(hb5:Below wr.heap.size wr w5){d cap:Nat}(hrow:w5.ownsRow wr.heap.size 5 1 (.slice (some ⟨d,0,none⟩) (p.1.length+1) cap) (p.1.length+1) (p.2.map (Value.int .u8))) :
  Calls Tryz.prog 161 #[.pointer (some ⟨w.heap.size,0,none⟩),.string (strOfNums p.1),.slice (some ⟨d,0,none⟩) (p.1.length+1) cap] w5 fun e w6=>(∃ u,e=.returned u)/\nW w w6 (C9 T (bytesOf (strOfNums p.1)) p.2) (N+16)/\w6.heap[w.heap.size+1]? = wr.heap[w.heap.size+1]?:=by
 obtain⟨nb,mb,db,dc,dep,h0,hT,hW,hH⟩:=h.out;have hle:=h.le;have hX:=h.hX;have hs:=hb5.size;have hds:wr.heap.size<=d:=fR hrow d rfl;refine(IB (strOfNums p.1) T nb mb db dc dep w.heap.size (w.heap.size+3) w.heap.size d (p.1.length+1) cap p.2 w5 (hT.below hb5) hW (by omega) (by omega) (by rw[strOfNums_size];exact h16) h0 ⟨hlen,by omega,fun _=>⟨_,rfl,fun j hj=>?_⟩⟩ (by rw[strOfNums_size]) ?_ (fun j hj hd=>?_) hH (by omega)).mono ?_
 .rw[add_plain];rw[hrow.cellAt j (by omega)];simp[List.getElem?_eq_getElem (show j < p.2.length by omega),List.getD_eq_getElem?_getD]
 .obtain⟨cs,hc⟩:=eW hrow d rfl;exact⟨_,_,hc⟩
 .obtain⟨z,hz⟩:=Option.ne_none_iff_exists'.1 hd;obtain⟨cs,hc⟩:=hT.Pm hj hz;have:=aY hc;omega
 .rintro e w6 ⟨hu,⟨Pq,mb',VW,Xe,Iz,q1,q2,q3,q4⟩,q5,q6,q7⟩;refine⟨hu,⟨⟨Pq,mb',VW,Xe,Iz,q3,q1,q2,q4⟩,?_,?_,(h.je.trans (hb5.mono h.je.size)).trans q6,by have:=q6.size;omega⟩,?_⟩
  .rw[q7 _ (by omega) (by omega)];exact ay h.hy hb5
  .rw[strOfNums_size] at q5;omega
  .rw[q7 _ (by omega) (by omega)];exact hb5.block _ (by omega)
structure Db(w wr:World)(T:Tr)(ee:List (List Int × List Int)):Prop where
 nw:nW w wr T 8000
 ex:tX wr w.heap.size (w.heap.size+1) ee
theorem nW.below{w wr w5:World}{T:Tr}{N:Nat}(h:nW w wr T N)(hb:Below wr.heap.size wr w5):nW w w5 T N:=by
 obtain⟨nb,mb,db,dc,dep,h0,hT,hW,hH⟩:=h.out;exact⟨⟨nb,mb,db,dc,dep,h0,hT.below hb,hW,hH⟩,ay h.hy hb,h.le,h.je.trans (hb.mono h.je.size),Nat.le_trans h.hX hb.size⟩
theorem nW.but{w wr w5:World}{T:Tr}{N:Nat}(h:nW w wr T N)(hg:wr.grownBy w5 (some (w.heap.size+1))):nW w w5 T N:=by
 obtain⟨nb,mb,db,dc,dep,h0,hT,hW,hH⟩:=h.out;refine⟨⟨nb,mb,db,dc,dep,h0,hT.but hH hg (by omega) (by omega),hW,hH⟩,?_,h.le,h.je.grown hg h.je.size (fun k e=>by have:=Option.some.inj e;omega),Nat.le_trans h.hX hg.size⟩;rw[hg.block _ (by have:=h.hX;omega) (fun e=>by have:=Option.some.inj e;omega)];exact h.hy
theorem Db.Xr{w wr:World}{T:Tr}{ee:List (List Int × List Int)}(h:Db w wr T ee):oK wr w.heap.size (w.heap.size+2) T ee:=by
 obtain⟨nb,mb,db,dc,dep,h0,hT,hW,hH⟩:=h.nw.out;refine⟨nb,mb,db,dc,dep,w.heap.size+1,w.heap.size+3,?_,hT,hW,hH,by omega,by omega,by omega,h.nw.hX,h.ex,h.nw.le⟩;rw[h0];exact h.nw.hy
def GW(T:Tr)(ee:List (List Int × List Int))(w:World)(e:Ending)(w':World):Prop:=∃ h,e=.returned (.tuple #[.pointer (some ⟨h,0,none⟩),.int .i64 0])/\oK w' w.heap.size h T ee/\Below w.heap.size w w'
theorem IG(A1 A2:Option Addr)(m1 c1 m2 c2:Nat)(ss es:List ByteArray)(pp ee:List (List Int × List Int))(w:World)(hs:SR w A1 m1 ss)(he:SR w A2 m2 es)(hm1:m1<=256)(hm2:m2<=64)(hpl:pp.length=m1)(hel:ee.length=m2)
  (hp:∀ i (hi:i < pp.length),GV (ss.getD i ByteArray.empty) pp[i]) (hq:∀ i (hi:i < ee.length),Oc (es.getD i ByteArray.empty) ee[i]) (hnd:∀ i j (hi:i < ee.length) (hj:j < ee.length),i < j->ld ee[i]≠ld ee[j]) :
  Calls Tryz.prog 135 #[.slice A1 m1 c1,.slice A2 m2 c2] w (GW (BH tr0 pp) ee w):=by
 have hst:=KV w;have HNW:=aj hst.1;have Fq:=aj hst.2;have HS:=aj hs;have HE:=aj he;have HP:=aj hp;have HQ:=aj hq;have HND:=aj hnd;have HM:=aj (And.intro hm1 hm2);have KW:=aj hpl;have V0:=aj hel;have d1:decide (256 < (m1:Int))=false:=decide_eq_false (by omega);have d2:decide (64 < (m2:Int))=false:=decide_eq_false (by omega);have d3:decide (256 < m1)=false:=decide_eq_false (by omega);have d4:decide (64 < m2)=false:=decide_eq_false (by omega);have hmm:=@run_makeMap Tryz.prog;have q6:(m1:Int)<=256:=by omega
 have q7:(m2:Int)<=64:=by omega
 clear hst hs he hp hq hnd hm1 hm2 hpl hel;go_enter Tryz.func135,Tryz.ntmps135;go_upto_block 0 with(fail);rw[show((w.alloc (.cells #[.map none,.slice none 0 0] 228)).alloc (.map #[] 0)).alloc (.cells #[.pointer (some ⟨w.heap.size,0,none⟩),.map (some (w.heap.size+1))] 203)=Ss w from rfl];obtain⟨h,Xt⟩:∃ h,w.heap.size+1+1=h:=⟨_,rfl⟩;have hh:w.heap.size+2=h:=Xt;rw[Xt];clear Xt;generalize Ss w=W0 at *;go_wp2;go_loopw [35] (fun v35 wr=>∃ (y:Int) (i:Nat),v35=.int .i64 y/\aC (y=(i:Int))/\aC (i<=m1)/\aC (nW w wr (BH tr0 (pp.take i)) (1+16 * i))/\aC (wr.heap[w.heap.size+1]? = W0.heap[w.heap.size+1]?)) (fun v35 _=>m1 - (intOf v35).toNat)
 case atStart=>exact⟨0,0,rfl,⟨rfl⟩,⟨Nat.zero_le _⟩,HNW,⟨rfl⟩⟩
 case round =>
  obtain⟨y,i,rfl,hy,hi,hR,hK⟩:=hrel;by_cases hlt:i < m1
  .have d9:decide (y < (m1:Int))=true:=decide_eq_true (by rw[hy.out];omega);have q0:0<=y:=by rw[hy.out];omega
   have q1:y < (m1:Int):=by rw[hy.out];omega
   have q5:y<=256:=by omega
   have p0:=eq_true q0;have p1:=eq_true q1;have cg:=aj hlt;have HY:=aj (show y.toNat=i by rw[hy.out];omega);obtain⟨ad,e0,k0⟩:=(HS.out.below hR.out.je).cell i hlt;cases e0
   rw[<-HY.out] at k0;have hil:i < pp.length:=by rw[KW.out];exact hlt
   have Od:=HP.out i hil;have Kz:=aj (IE hil tr0);generalize pp[i]=p at Od Kz;obtain⟨s,hse⟩:∃ s,ss.getD y.toNat ByteArray.empty=s:=⟨_,rfl⟩;rw[<-HY.out,hse] at Od;rw[hse] at k0;have Fu:=aj Od;have x0:wr.cell? ⟨h,0,none⟩=some (.pointer (some ⟨w.heap.size,0,none⟩)):=by rw[<-hh];exact(ak hR.out.hy 0).trans rfl
   clear hlt Od hse hil;go_wp2_with (first|(go_at_call 160;go_loud(refine(zk s p.1 p.2 wr Fu.out.1 Fu.out.2.1 Fu.out.2.2.1 Fu.out.2.2.2.1).mono ?_;rintro e w5 ⟨vd,rfl,hrow,hlen,hb5⟩;rw[hlen] at hrow;obtain⟨d,cap,rfl⟩:=ownsRow_succ hrow;have x5:=bH hb5 x0;have HB5:=aj hb5;have KX:=aj hrow;have Ft:=aj hlen;clear hb5 hrow hlen))|(go_at_call 161;go_loud(refine(hR.out.add (p:=p) (by have:=HM.out.1;have:=cg.out;omega) Fu.out.2.2.2.2 Ft.out HB5.out KX.out).mono ?_;rintro e w6 ⟨⟨u,rfl⟩,hnw,hk6⟩;have HN6:=aj hnw;have HK6:=aj hk6;clear hnw hk6)));go_roundw
   case rel=>exact⟨y+1,i+1,rfl,⟨by rw[hy.out];omega⟩,⟨cg.out⟩,⟨by rw[Kz.out];exact HN6.out⟩,⟨HK6.out.trans hK.out⟩⟩
   case measure=>have:=cg.out;have:=hy.out;simp[intOf];omega
  .have d9:decide (y < (m1:Int))=false:=decide_eq_false (by rw[hy.out];omega);have him:i=m1:=by have:=hi.out;omega
   subst him;have hR2:=hR.out;rw[List.take_of_length_le (Nat.le_of_eq KW.out)] at hR2;have HR2:=aj hR2;clear hlt hR2;have HR0:=HR2;have HK0:=hK;have hx0:tX wr w.heap.size (w.heap.size+1) []:=tX.start (Fq.out.block HK0.out);have II:=HR0.out;have vM:=aj (show Db w wr (BH tr0 pp) [] from ⟨⟨II.out,II.hy,by have:=II.le;have:=HM.out.1;omega,II.je,II.hX⟩,hx0⟩);clear hx0 II HK0 HR0 HR2 hK hR;generalize wr=wq at *;go_wp2;go_loopw [12,57] (fun v12 v57 wr=>∃ (y:Int) (i:Nat),v12=.bool false/\v57=.int .i64 y/\aC (y=(i:Int))/\aC (i<=m2)/\aC (Db w wr (BH tr0 pp) (ee.take i))) (fun _ v57 _=>m2 - (intOf v57).toNat)
   case atStart=>exact⟨0,0,rfl,rfl,⟨rfl⟩,⟨Nat.zero_le _⟩,vM⟩
   case round =>
    obtain⟨y,i,rfl,rfl,hy,hi,hR⟩:=hrel;by_cases hlt:i < m2
    .have d9:decide (y < (m2:Int))=true:=decide_eq_true (by rw[hy.out];omega);have q0:0<=y:=(by rw[hy.out];omega);have q1:y < (m2:Int):=(by rw[hy.out];omega);have q5:y<=64:=(by omega);have p0:=eq_true q0;have p1:=eq_true q1;have cg:=aj hlt;have HY:=aj (show y.toNat=i by rw[hy.out];omega);obtain⟨ad,e0,k0⟩:=(HE.out.below hR.out.nw.je).cell i hlt;cases e0
     rw[<-HY.out] at k0;have hil:i < ee.length:=(by rw[V0.out];exact hlt);have Od:=HQ.out i hil;have Kz:=aj (show ee.take (i+1)=ee.take i ++ [ee[i]] from List.take_succ_eq_append_getElem hil);have KT:=aj (show ∀ x∈ee.take i,ld x≠ld ee[i] from fun x hx=>by
      obtain⟨j,hj,rfl⟩:=List.getElem_of_mem hx;rw[List.length_take] at hj;rw[List.getElem_take];exact HND.out j i (by omega) hil (by omega))
     generalize ee[i]=p at Od Kz KT;obtain⟨s,hse⟩:∃ s,es.getD y.toNat ByteArray.empty=s:=⟨_,rfl⟩;rw[<-HY.out,hse] at Od;rw[hse] at k0;have Fu:=aj Od;obtain⟨l,hl⟩:∃ l,ee.take i=l:=⟨_,rfl⟩;have Et:=aj (show l.length<=64 by rw[<-hl,List.length_take];have:=HM.out.2;omega);rw[hl] at hR Kz KT;have x0:wr.cell? ⟨h,1,none⟩=some (.map (some (w.heap.size+1))):=(by rw[<-hh];exact(ak hR.out.nw.hy 1).trans rfl);have hkey:keyOf Tryz.prog 9 (.string (strOfNums p.1))=some (ld p):=WideMaps.keyOf_string_mk Tryz.underlying9 (by rw[strOfNums_size];have:=Fu.out.2.2.2;simp[maxLen];omega);clear hlt Od hse hil hl
     go_wp2_with (first|(go_at_call 162;go_loud(refine(vB s p.1 p.2 wr Fu.out.1 Fu.out.2.1 Fu.out.2.2.1).mono ?_;rintro e w5 ⟨vp,rfl,hrow,hb5⟩;have x5:=bH hb5 x0;obtain⟨F,nn,hM,hnn,h1,h2⟩:=(hR.out.ex.below hb5).out;have Zn:F (ld p)=none:=(by cases hq:F (ld p) with
      | none=>rfl
      | some v=>obtain⟨x,hx,Xq⟩:=h1 (ld p) (by rw[hq];simp);exact absurd Xq.symm (KT.out x hx));have hlk:=hM.look (Maps.string_keyed Tryz.underlying9) Tryz.underlying201 (Tryz.zeroValue107 w5) hkey true;rw[Zn] at hlk;have HB5:=aj hb5;have KX:=aj hrow;have HM5:=aj hM;have dF:=aj hnn;have H1:=aj h1;have H2:=aj h2;clear hb5 hrow hM hnn h1 h2 Zn))|(refine MF.store rfl _ _ _ 201 rfl HM5.out (Maps.string_keyed Tryz.underlying9) Tryz.underlying201 (by have:=dF.out;have:=Et.out;simp[maxLen];omega) rfl rfl rfl hkey ?_;intro w8 hM8 hg8;have hx8:tX w8 w.heap.size (w.heap.size+1) (l ++ [p]):=tX.put dF.out H1.out H2.out HM5.out hM8 hg8 (oJ KX.out hR.out.nw.je.size) KT.out;have HN8:=aj (show Db w w8 (BH tr0 pp) (l ++ [p]) from ⟨(hR.out.nw.below HB5.out).but hg8,hx8⟩);clear hM8 hg8 hx8))
     go_roundw
     case rel=>exact⟨y+1,i+1,rfl,rfl,⟨by rw[hy.out];omega⟩,⟨cg.out⟩,⟨by rw[Kz.out];exact HN8.out⟩⟩
     case measure=>have:=cg.out;have:=hy.out;simp[intOf];omega
    .have d9:decide (y < (m2:Int))=false:=decide_eq_false (by rw[hy.out];omega);have him:i=m2:=(by have:=hi.out;omega);subst him;have hR2:=hR.out;rw[List.take_of_length_le (Nat.le_of_eq V0.out)] at hR2;have HR2:=aj hR2;clear hlt hR2;go_wp2;go_ret2;refine⟨h,rfl,?_,HR2.out.nw.je⟩;rw[<-hh];exact HR2.out.Xr
end Go.Proofs.YtcaallkkeighdaaGreatDoor.P
namespace Go.Proofs
open Go.Shelf
def Tryz.lays157_ren:Go.Shelf.Ren:=⟨fun|157=>136|229=>163|199=>164|261=>175|311=>177|312=>178|n=>n,fun|9=>9|31=>25|3=>3|5=>5|4=>4|119=>234|0=>0|40=>236|152=>246|21=>21|154=>248|51=>220|141=>250|196=>256|193=>253|198=>259|49=>257|194=>254|201=>262|226=>264|46=>193|227=>265|n=>n,fun|0=>1|6=>2|n=>n⟩
def Tryz.laysM157_ren:Go.Shelf.Ren:=⟨fun|157=>136|229=>163|199=>164|261=>175|311=>177|312=>178|n=>n,fun|9=>9|31=>25|3=>3|5=>5|4=>4|119=>234|0=>0|40=>236|152=>246|21=>21|154=>248|51=>220|141=>250|196=>256|193=>253|198=>259|49=>257|194=>254|201=>262|226=>264|46=>193|227=>265|n=>n,fun|0=>1|6=>2|n=>n⟩
theorem Tryz.laysM157:Go.Proofs.LaysM.n157 Tryz.prog Tryz.laysM157_ren:={
 mixed:=by kernel_rfl
 f157:=Tryz.func136.trans (congrArg some (by kernel_rfl))
 f199:=Tryz.func164.trans (congrArg some (by kernel_rfl))
 f229:=Tryz.func163.trans (congrArg some (by kernel_rfl))
 f261:=Tryz.func175.trans (congrArg some (by kernel_rfl))
 f311:=Tryz.func177.trans (congrArg some (by kernel_rfl))
 f312:=Tryz.func178.trans (congrArg some (by kernel_rfl))
 t0:=Tryz.underlying0
 a0:=Tryz.isAgg0
 z0:=Tryz.sizeOf0
 v0:=Tryz.zeroValue0
 t3:=Tryz.underlying3
 a3:=Tryz.isAgg3
 z3:=Tryz.sizeOf3
 v3:=Tryz.zeroValue3
 t4:=Tryz.underlying4
 a4:=Tryz.isAgg4
 z4:=Tryz.sizeOf4
 v4:=Tryz.zeroValue4
 t5:=Tryz.underlying5
 a5:=Tryz.isAgg5
 z5:=Tryz.sizeOf5
 v5:=Tryz.zeroValue5
 t9:=Tryz.underlying9
 a9:=Tryz.isAgg9
 z9:=Tryz.sizeOf9
 v9:=Tryz.zeroValue9
 t21:=Tryz.underlying21
 a21:=Tryz.isAgg21
 z21:=Tryz.sizeOf21
 v21:=Tryz.zeroValue21
 t31:=Tryz.underlying25
 a31:=Tryz.isAgg25
 z31:=Tryz.sizeOf25
 v31:=Tryz.zeroValue25
 t40:=Tryz.underlying236
 a40:=Tryz.isAgg236
 z40:=Tryz.sizeOf236
 v40:=Tryz.zeroValue236
 t46:=Tryz.underlying193
 a46:=Tryz.isAgg193
 z46:=Tryz.sizeOf193
 v46:=Tryz.zeroValue193
 t49:=Tryz.underlying257
 a49:=Tryz.isAgg257
 z49:=Tryz.sizeOf257
 v49:=Tryz.zeroValue257
 t51:=Tryz.underlying220
 a51:=Tryz.isAgg220
 z51:=Tryz.sizeOf220
 v51:=Tryz.zeroValue220
 t119:=Tryz.underlying234
 a119:=Tryz.isAgg234
 z119:=Tryz.sizeOf234
 t141:=Tryz.underlying250
 a141:=Tryz.isAgg250
 z141:=Tryz.sizeOf250
 v141:=Tryz.zeroValue250
 t152:=Tryz.underlying246
 a152:=Tryz.isAgg246
 z152:=Tryz.sizeOf246
 v152:=Tryz.zeroValue246
 t154:=Tryz.underlying248
 a154:=Tryz.isAgg248
 z154:=Tryz.sizeOf248
 v154:=Tryz.zeroValue248
 t193:=Tryz.underlying253
 a193:=Tryz.isAgg253
 z193:=Tryz.sizeOf253
 v193:=Tryz.zeroValue253
 t194:=Tryz.underlying254
 a194:=Tryz.isAgg254
 z194:=Tryz.sizeOf254
 v194:=Tryz.zeroValue254
 t196:=Tryz.underlying256
 a196:=Tryz.isAgg256
 z196:=Tryz.sizeOf256
 v196:=Tryz.zeroValue256
 t198:=Tryz.underlying259
 a198:=Tryz.isAgg259
 z198:=Tryz.sizeOf259
 v198:=Tryz.zeroValue259
 t201:=Tryz.underlying262
 a201:=Tryz.isAgg262
 z201:=Tryz.sizeOf262
 v201:=Tryz.zeroValue262
 t226:=Tryz.underlying264
 a226:=Tryz.isAgg264
 z226:=Tryz.sizeOf264
 v226:=Tryz.zeroValue264
 t227:=Tryz.underlying265
 a227:=Tryz.isAgg265
 z227:=Tryz.sizeOf265
 v227:=Tryz.zeroValue265
 g0:=by kernel_rfl
 g6:=by kernel_rfl
 i0:=by kernel_rfl
 i3:=by kernel_rfl
 i4:=by kernel_rfl
 i5:=by kernel_rfl
 i9:=by kernel_rfl
 i21:=by kernel_rfl
 i31:=by kernel_rfl
 i40:=by kernel_rfl
 i46:=by kernel_rfl
 i49:=by kernel_rfl
 i51:=by kernel_rfl
 i141:=by kernel_rfl
 i152:=by kernel_rfl
 i154:=by kernel_rfl
 i193:=by kernel_rfl
 i194:=by kernel_rfl
 i196:=by kernel_rfl
 i198:=by kernel_rfl
 i201:=by kernel_rfl
 i226:=by kernel_rfl
 i227:=by kernel_rfl
 m0:=by kernel_rfl
 m6:=by kernel_rfl }
open Go.RowKit Go.Lib in
theorem Tryz.strings_Fields_laid(s:ByteArray)(w:World)(hs:s.size < 4294967281)(hascii:∀ (j:Nat) b,s.data.toList[j]? = some b->b.toNat < 128)(htab:Lib.TabIs Tryz.prog w "strings.asciiSpace" .u8 Lib.asciiSpaceTab) :
  Calls Tryz.prog 136 #[.string s] w fun e w' =>
   e=.returned (.slice (some ⟨w.heap.size,0,none⟩) (Lib.fields s.data.toList).length (Lib.fields s.data.toList).length)/\w'=w.alloc (.cells ((Lib.fields s.data.toList).map fun l=>Value.string ⟨l.toArray⟩).toArray 9):=Any.strings_Fields_laid Tryz.laysM157 s w hs hascii htab
def Tryz.laysNm215_ren:Go.Shelf.Ren:=⟨fun|15=>138|n=>n,fun|22=>107|3=>3|4=>4|n=>n,fun|n=>n⟩
theorem Tryz.laysNm215:Go.Proofs.Lays2.n15 Tryz.prog Tryz.laysNm215_ren:={
 mixed:=by kernel_rfl
 f15:=Tryz.func138.trans (congrArg some (by kernel_rfl))
 t3:=Tryz.underlying3
 a3:=Tryz.isAgg3
 z3:=Tryz.sizeOf3
 v3:=Tryz.zeroValue3
 t4:=Tryz.underlying4
 a4:=Tryz.isAgg4
 z4:=Tryz.sizeOf4
 v4:=Tryz.zeroValue4
 t22:=Tryz.underlying107
 a22:=Tryz.isAgg107
 z22:=Tryz.sizeOf107
 v22:=Tryz.zeroValue107
 i3:=by kernel_rfl }
open Go.RowKit Go.Lib in
theorem Tryz.slices_Clone_int(b off n c:Nat)(zs:List Int)(w:World)(hz:n<=zs.length)(hbig:n * 8<=140737488355328)(hc:∀ j,j < zs.length->w.cell? ⟨b,off+j,none⟩=some (.int .i64 (zs.getD j 0))) :
  Calls Tryz.prog 138 #[.slice (some ⟨b,off,none⟩) n c] w fun e w'=>∃ v',e=.returned v'/\w'.ownsRow w.heap.size 3 1 v' n ((zs.take n).map (Value.int .i64))/\v'≠.slice none 0 0/\Below w.heap.size w w':=Any.slices_Clone_int Tryz.laysNm215 b off n c zs w hz hbig hc
open Go.RowKit Go.Lib in
theorem Tryz.slices_Clone_int_nil(n c:Nat)(w:World) :
  Calls Tryz.prog 138 #[.slice none n c] w fun e w'=>e=.returned (.slice none 0 0)/\w'=w:=Any.slices_Clone_int_nil Tryz.laysNm215 n c w
end Go.Proofs
namespace Go.Proofs.YtcaallkkeighdaaGreatDoor.P
open Go.RowKit aD aQ aR
def QH(o:Oper):List ByteArray:=match o.op with
 | .call c=>c.args.toList.filterMap (fun x=>match x with
  | .const (.string s)=>some s
  | _=>none)
 | .buildSlice _ _ xs=>xs.toList.filterMap (fun p=>match p.2 with
  | .const (.string s)=>some s
  | _=>none)
 | _=>[]
def xC:Code->List ByteArray
 | .region _ ops _=>ops.toList.flatMap QH
 | .seq a b=>xC a ++ xC b
 | _=>[]
noncomputable def zY:List ByteArray:=match Tryz.f117.body with
 | some c=>xC c
 | none=>[]
noncomputable def kO:ByteArray:=zY.getD 0 ByteArray.empty
noncomputable def dU:List ByteArray:=(Lib.fields kO.data.toList).map fun l=>⟨l.toArray⟩
noncomputable def gQ:List ByteArray:=zY.drop 1
def KY(s:ByteArray):List Int × List Int:=match qA s.size (bytesOf s) 0 [] [0] false true with
 | some (a,b,true)=>(a,b)
 | _=>([],[])
def QI(s:ByteArray):Bool:=decide (1<=s.size) && decide (s.size<=16) && (match qA s.size (bytesOf s) 0 [] [0] false true with
 | some (a,_,true)=>decide (a≠[]) && decide (a.length<=16)
 | _=>false)
theorem Oe{s:ByteArray}(h:QI s=true):GV s (KY s):=by
 unfold QI at h;unfold GV KY;split at h
 .rename_i a b hq
  simp only[Bool.and_eq_true,decide_eq_true_eq] at h;rw[hq];exact⟨h.1.1,h.1.2,rfl,h.2.1,h.2.2⟩
 .simp at h
def QJ(s:ByteArray):List Int × List Int:=(BG s.size (bytesOf s) 0 0 [] []).getD ([],[])
def Xu(s:ByteArray):Bool:=decide (s.size<=64) && (match BG s.size (bytesOf s) 0 0 [] [] with
 | some (a,_)=>decide (2<=a.length) && decide (a.length<=64)
 | _=>false)
theorem QK{s:ByteArray}(h:Xu s=true):Oc s (QJ s):=by
 unfold Xu at h;unfold Oc QJ;split at h
 .rename_i a b hq
  simp only[Bool.and_eq_true,decide_eq_true_eq] at h;rw[hq];exact⟨h.1,rfl,h.2.1,h.2.2⟩
 .simp at h
noncomputable def qW:List (List Int × List Int):=dU.map KY
noncomputable def fD:List (List Int × List Int):=gQ.map QJ
noncomputable def oL:Tr:=BH tr0 qW
theorem KZ:dU.all QI=true:=by kernel_rfl
theorem K0:gQ.all Xu=true:=by kernel_rfl
theorem K3:dU.length<=256:=by
 have:decide (dU.length<=256)=true:=by kernel_rfl
 exact of_decide_eq_true this
theorem Dc:gQ.length=3:=by kernel_rfl
theorem Dd:kO.data.toList.all (fun b=>decide (b.toNat < 128))=true:=by kernel_rfl
theorem Df:kO.size < 4294967281:=by
 have:decide (kO.size < 4294967281)=true:=by kernel_rfl
 exact of_decide_eq_true this
theorem Fv:(fD.map fun e=>(strOfNums e.1).data.toList).Nodup:=by
 have:decide ((fD.map fun e=>(strOfNums e.1).data.toList).Nodup)=true:=by kernel_rfl
 exact of_decide_eq_true this
theorem K4:∀ i j (hi:i < fD.length) (hj:j < fD.length),i < j->ld fD[i]≠ld fD[j]:=by
 intro i j hi hj hij e;have:=List.pairwise_iff_getElem.1 Fv i j (by simpa using hi) (by simpa using hj) hij;rw[List.getElem_map,List.getElem_map] at this;exact this (Lit.string.inj e)
theorem K5:∀ i (hi:i < qW.length),GV (dU.getD i ByteArray.empty) qW[i]:=by
 intro i hi;have hi2:i < dU.length:=by simpa [qW] using hi
 have h:=List.all_eq_true.1 KZ dU[i] (List.getElem_mem hi2);have e1:dU.getD i ByteArray.empty=dU[i]:=by simp[List.getD_eq_getElem?_getD,List.getElem?_eq_getElem hi2]
 have e2:=Oe h;rw[e1]
 simpa [qW] using e2
theorem K6:∀ i (hi:i < fD.length),Oc (gQ.getD i ByteArray.empty) fD[i]:=by
 intro i hi;have hi2:i < gQ.length:=by simpa [fD] using hi
 have h:=List.all_eq_true.1 K0 gQ[i] (List.getElem_mem hi2);have e1:gQ.getD i ByteArray.empty=gQ[i]:=by simp[List.getD_eq_getElem?_getD,List.getElem?_eq_getElem hi2]
 have e2:=QK h;rw[e1]
 simpa [fD] using e2
theorem Dg(w:World)(g:Nat)(l:List ByteArray)(h:w.heap[g]? = some (.cells (l.map Value.string).toArray 9 (0,0))):SR w (some ⟨g,0,none⟩) l.length l:=⟨rfl,fun j hj=>⟨_,rfl,by
 rw[add_plain,ak h j];simp[List.getD_eq_getElem?_getD,List.getElem?_eq_getElem hj]⟩⟩
theorem K7(s:ByteArray)(h:s=kO)(w:World)(htab:Lib.TabIs Tryz.prog w "strings.asciiSpace" .u8 Lib.asciiSpaceTab):Calls Tryz.prog 136 #[.string s] w fun e w' =>
  e=.returned (.slice (some ⟨w.heap.size,0,none⟩) dU.length dU.length)/\w'=w.alloc (.cells (dU.map Value.string).toArray 9):=by
 subst h;refine(Tryz.strings_Fields_laid kO w Df (fun j b hb=>?_) htab).mono ?_
 .have:=List.all_eq_true.1 Dd b (List.mem_of_getElem? hb);exact of_decide_eq_true this
 .rintro e w' ⟨rfl,rfl⟩;refine⟨?_,?_⟩
  .unfold dU;rw[List.length_map]
  .unfold dU;rw[List.map_map];rfl
theorem Tf(xs:Array Value)(hx:xs=(gQ.map Value.string).toArray)(w:World):Calls Tryz.prog 135 #[.slice (some ⟨w.heap.size,0,none⟩) dU.length dU.length,.slice (some ⟨w.heap.size+1,0,none⟩) 3 3] ((w.alloc (.cells (dU.map Value.string).toArray 9)).alloc (.cells xs 9)) (GW oL fD ((w.alloc (.cells (dU.map Value.string).toArray 9)).alloc (.cells (gQ.map Value.string).toArray 9))):=by
 subst hx;have s1:(w.alloc (.cells (dU.map Value.string).toArray 9)).heap.size=w.heap.size+1:=by simp
 have b1:=ay (aH w (.cells (dU.map Value.string).toArray 9)) ((Below.refl _ _).alloc (Nat.le_refl _) (.cells (gQ.map Value.string).toArray 9));have b2:=aH (w.alloc (.cells (dU.map Value.string).toArray 9)) (.cells (gQ.map Value.string).toArray 9);rw[s1] at b2;have h2:=Dg _ _ _ b2;rw[Dc] at h2;exact IG _ _ dU.length _ 3 _ dU gQ qW fD _ (Dg _ _ _ b1) h2 K3 (by decide) (by unfold qW;rw[List.length_map]) (by unfold fD;rw[List.length_map,Dc]) K5 K6 K4
def IJ(w:World)(e:Ending)(w':World):Prop:=∃ h,e=.returned (.pointer (some ⟨h,0,none⟩))/\oK w' w.heap.size h oL fD/\Below w.heap.size w w'
theorem oK.low{w:World}{B B' h:Nat}{T:Tr}{ee:List (List Int × List Int)}(q:oK w B h T ee)(hB:B'<=B):oK w B' h T ee:=by
 obtain⟨nb,mb,db,dc,dep,b,X0,h1,h2,h3,h4,h5,h6,h7,h8,h9,h10⟩:=q.out;obtain⟨F,n,hM,hn,k1,k2⟩:=h9.out;exact⟨nb,mb,db,dc,dep,b,X0,h1,⟨h2.node,h2.map,h2.qz,fun k hk ds hd=>oJ (h2.Iu k hk ds hd) hB,fun k hk=>⟨Nat.le_trans hB (h2.base k hk).1,fun hm=>Nat.le_trans hB ((h2.base k hk).2 hm)⟩,h2.ni,h2.mi,h2.di⟩,h3,h4,h5,h6,h7,h8,⟨F,n,hM,hn,k1,fun e he=>by
  obtain⟨v,q1,q2⟩:=k2 e he;exact⟨v,q1,oJ q2 hB⟩⟩,h10⟩
theorem Dh(w:World)(htab:Lib.TabIs Tryz.prog w "strings.asciiSpace" .u8 Lib.asciiSpaceTab):Calls Tryz.prog 117 #[] w (IJ w):=by
 have HT:=aj htab;clear htab;have hbe:=(((Below.refl w.heap.size w).alloc (Nat.le_refl _) (.cells (dU.map Value.string).toArray 9)).alloc (by simp) (.cells (gQ.map Value.string).toArray 9));have mK:=aj hbe;clear hbe;go_enter Tryz.func117,Tryz.ntmps117;go_wp2_with (first|(go_at_call 136;go_loud(refine(K7 _ ?_ w HT.out).mono ?_;(focus (kernel_rfl));rintro e w5 ⟨rfl,q_⟩;subst q_))|(go_at_call 135;go_loud(refine(Tf _ ?_ w).mono ?_;(focus (kernel_rfl));rintro e w7 ⟨h,rfl,hH,hB7⟩;have HH:=aj hH;have HB7:=aj hB7;clear hH hB7)));go_ret;exact⟨h,rfl,HH.out.low mK.out.size,mK.out.trans (HB7.out.mono mK.out.size)⟩
end Go.Proofs.YtcaallkkeighdaaGreatDoor.P
namespace Go.Proofs.YtcaallkkeighdaaGreatDoor.P
open Go.RowKit aD aQ aR
attribute [local go_sem] cN cO dw dA
def foundAt(T:Tr)(a:Nat):List Int->Nat->List Int->List Int
 | [],_,vs=>vs
 | c :: l,k,vs=>match T.nx k c with
  | none=>vs
  | some j=>foundAt T a l j (match T.dg j with
   | none=>vs
   | some ds=>eC vs a ds ds.length)
def jJ(T:Tr)(xs vs:List Int):Nat->List Int
 | 0=>vs
 | i+1=>foundAt T i (xs.drop i) 0 (jJ T xs vs i)
theorem uY(T:Tr)(a:Nat):∀ (l:List Int) (k:Nat) (vs:List Int),(foundAt T a l k vs).length=vs.length
 | [],_,_=>rfl
 | c :: l,k,vs=>by
  unfold foundAt;split
  .rfl
  .rename_i j hj
   rw[uY T a l j];split
   .rfl
   .rw[jD]
theorem oM(T:Tr)(xs vs:List Int):∀ i,(jJ T xs vs i).length=vs.length
 | 0=>rfl
 | i+1=>by unfold jJ;rw[uY];exact oM T xs vs i
def Pu(nb:Nat->Nat)(o:Option Nat):Value:=.pointer (o.map fun j=>⟨nb j,0,none⟩)
theorem iC.Og{w:World}{B:Nat}{t:Tr}{nb mb db dc:Nat->Nat}(h:iC w B t nb mb db dc){k:Nat}(hk:k < t.n){c:Int}(hc:0<=c/\c<=255):(Instr.lookup 226 (zj mb k (t.hm k)) (.int .u8 c) false).run Tryz.prog w=.ok (Pu nb (t.nx k c)) w:=by
 have hk5:=Maps.keyOf_int_mk (P:=Tryz.prog) (q:=.u8) Tryz.underlying5 (a:=c) (by show(decide _ && decide _)=true;rw[Bool.and_eq_true];exact⟨decide_eq_true hc.1,decide_eq_true hc.2⟩);cases hm:t.hm k with
 | true =>
  rw[mI,(h.map k hk hm).look (Maps.int_keyed Tryz.underlying5) Tryz.underlying226 (Tryz.zeroValue200 w) hk5 false];cases hj:t.nx k c<;>simp[jv,hj,Pu]
 | false =>
  rw[GR,Maps.look_nil false (Maps.int_keyed Tryz.underlying5) Tryz.underlying226 (Tryz.zeroValue200 w) hk5,h.qz k hk hm];rfl
theorem Tg{x:Int}(g m c a n:Nat)(hx:(a:Int)=x)(vs ds:List Int)(A:Option Addr)(w:World)(hv:VB w g vs)(hn:vs.length=n)(hd:dZ w .u8 A m ds)(hA:∀ ad,A=some ad->ad.block≠g)(ha:a+m<=n)(hm:n<=1000) :
  Calls Tryz.prog 140 #[.slice (some ⟨g,0,none⟩) n n,.int .i64 x,.slice A m c] w fun e w'=>(∃ u,e=.returned u)/\VB w' g (eC vs a ds m)/\fB (Eq g) w w':=by
 subst hx;exact Ir g m c a n vs ds A w hv hn hd hA ha hm
theorem VB.al{w:World}{g:Nat}{xs:List Int}(h:VB w g xs){w':World}(hb:Below w.heap.size w w'):VB w' g xs:=ay h hb
theorem iC.K8{w:World}{B:Nat}{t:Tr}{nb mb db dc:Nat->Nat}(h:iC w B t nb mb db dc){k:Nat}(hk:k < t.n){ds:List Int}(hd:t.dg k=some ds)(hl:ds.length<=1000):dZ w .u8 (some ⟨db k,0,none⟩) ds.length ds :=
 ⟨rfl,by omega,fun _=>⟨_,rfl,fun j hj=>by
  rw[add_plain,(h.Iu k hk ds hd).cellAt j (by omega)];simp[List.getElem?_eq_getElem hj,List.getD_eq_getElem?_getD]⟩⟩
theorem vC(s:ByteArray)(a:Nat):bytesOf (s.extract a s.size)=(bytesOf s).drop a:=by
 unfold bytesOf;rw[ByteArray.data_extract,Array.toList_extract];show List.map _ ((s.data.toList.drop a).take (s.size - a))=_;rw[List.take_of_length_le (by rw[List.length_drop];exact Nat.le_refl _),List.map_drop]
theorem Zo{w:World}{g:Nat}{xs:List Int}(h:VB w g xs):g < w.heap.size:=aY h
structure Ti(w0:World)(T:Tr)(g:Nat)(wr:World)(nb mb db dc:Nat->Nat)(B i r k N:Nat)(rest vs R:List Int)(dep:Nat->Nat):Prop where
 je:Below w0.heap.size w0 wr
 lt:k < T.n
 dp:dep k=r
 go:foundAt T i rest k vs=R
 vb:VB wr g vs
 len:vs.length=N
theorem Di(h g B:Nat)(T:Tr)(ee:List (List Int × List Int))(s:ByteArray)(vs:List Int)(N:Nat)(w0 w:World)(hH:oK w0 B h T ee)(hb:Below w0.heap.size w0 w)(hg:w0.heap.size<=g)(hv:VB w g vs)(hN:vs.length=N)(hs:N=s.size+1)(hs2:s.size<=70) :
  Calls Tryz.prog 139 #[.pointer (some ⟨h,0,none⟩),.string s,.func (.func 140) #[.slice (some ⟨g,0,none⟩) N N] #[]] w fun e w'=>(∃ u,e=.returned u)/\VB w' g (jJ T (bytesOf s) vs s.size)/\fB (Eq g) w w':=by
 obtain⟨nb,mb,db,dc,dep,b,X0,hblk,hT,hW,hHi,_,_,hhX,hX0,_,_⟩:=hH.out;have HT:=aj hT;have HW:=aj hW;have JQ:=aj hblk;have HB:=aj hb;have HG:=aj hg;have HV:=aj hv;have dF:=aj hN;have kb:=fun W s=>f_ (P:=Tryz.prog) 9 133 5 Tryz.underlying9 Tryz.underlying133 Tryz.underlying5 s W
 obtain⟨n,hn⟩:∃ n,s.size=n:=⟨_,rfl⟩;have HN:=aj hn;have HN1:=aj (show N=n+1 by omega);have HN7:=aj (show n<=70 by omega);have yQ:=aj (show(bytesOf s).length=n by rw[ef,hn]);clear hH hblk hT hW hHi hhX hX0 hb hg hv hN hs hs2;rw[hn];clear hn;go_enter Tryz.func139,Tryz.ntmps139;go_wp2;go_loopw [12] (fun v12 wr=>∃ (y:Int) (i:Nat),v12=.int .i64 y/\aC (y=(i:Int))/\aC (i<=n)/\aC (VB wr g (jJ T (bytesOf s) vs i))/\aC (fB (Eq g) w wr)) (fun v12 _=>n - (intOf v12).toNat)
 case atStart=>exact⟨0,0,rfl,⟨rfl⟩,⟨Nat.zero_le _⟩,HV,⟨fB.refl _ _⟩⟩
 case round =>
  obtain⟨y,i,rfl,hy,hi,hV,hF⟩:=hrel;by_cases hlt:i < n
  .have d9:decide (y < (n:Int))=true:=decide_eq_true (by rw[hy.out];omega);have d8:decide (y < (s.size:Int))=true:=decide_eq_true (by rw[hy.out,HN.out];omega);have q0:0<=y:=by rw[hy.out];omega
   have q1:y < (n:Int):=by rw[hy.out];omega
   have q2:y<=(s.size:Int):=by rw[HN.out];omega
   have q3:(s.size:Int)<=70:=by rw[HN.out];have:=HN7.out;omega
   have q5:y<=70:=by omega
   have cg:=aj hlt;have HB2:=aj (show Below w0.heap.size w0 wr from HB.out.trans (hF.out.below HB.out.size (fun k e=>by rw[<-e];exact HG.out)));have x0:wr.cell? ⟨h,0,none⟩=some (.pointer (some ⟨nb 0,0,none⟩)):=(ak (ay JQ.out HB2.out) 0).trans rfl;clear hlt;go_upto_block 2 with(fail);obtain⟨sub,hsub⟩:∃ sub,s.extract y.toNat s.size=sub:=⟨_,rfl⟩;obtain⟨m,hm⟩:∃ m,s.size - y.toNat=m:=⟨_,rfl⟩;have HM:=aj (show i+m=n by have:=hy.out;have:=HN.out;have:=cg.out;omega);have Zp:y.toNat=i:=by rw[hy.out];omega
   have Ep:=aj (show bytesOf sub=(bytesOf s).drop i by rw[<-hsub,vC,Zp]);obtain⟨pad,fr,rF⟩:=BB.new wr sub;have hb1:=fE (Below.refl wr.heap.size wr) (Nat.le_refl _) 5 sub;rw[hsub,hm];clear hsub hm;rw[Ep.out] at rF;obtain⟨R,hR⟩:∃ R,jJ T (bytesOf s) vs (i+1)=R:=⟨_,rfl⟩;have GX:=aj hR;have hgo:foundAt T i ((bytesOf s).drop (i+0)) 0 (jJ T (bytesOf s) vs i)=R:=hR;have HV1:=aj (hV.out.al hb1);have HF1:=aj (hF.out.trans (fB.ji (S:=Eq g) hb1 (Nat.le_refl _)));have HB1:=aj (HB2.out.trans (hb1.mono HB2.out.size));have HCG:=aj (show ¬ g=wr.heap.size by have:=Zo hV.out;omega);have qx:=aj rF;have HFD:=aj (show Ti w0 T g (Lib.bytesWorld wr 5 sub) nb mb db dc B i 0 0 N ((bytesOf s).drop (i+0)) (jJ T (bytesOf s) vs i) R dep from ⟨HB1.out,HW.out.pos,HW.out.root,hgo,HV1.out,by rw[oM];exact dF.out⟩);generalize Lib.bytesWorld wr 5 sub=W1 at *;generalize wr.heap.size=C at *;clear hR rF hb1 hgo x0 kb HB2 Zp;go_wp2;go_loopw [7,24] (fun v7 v24 wr=>∃ (z:Int) (r k:Nat) (vs2:List Int),v7=.pointer (some ⟨nb k,0,none⟩)/\v24=.int .i64 z/\aC (z=(r:Int))/\aC (r<=m)/\aC (Ti w0 T g wr nb mb db dc B i r k N ((bytesOf s).drop (i+r)) vs2 R dep)/\aC (fB (Eq g) W1 wr)) (fun _ v24 _=>m - (intOf v24).toNat)
   case atStart=>exact⟨0,0,0,_,rfl,rfl,⟨rfl⟩,⟨Nat.zero_le _⟩,HFD,⟨fB.refl _ _⟩⟩
   case round =>
    obtain⟨z,r,k,vs2,rfl,rfl,hz,hr,hD,hF2⟩:=hrel;by_cases hlt:r < m
    .have e9:decide (z < (m:Int))=true:=decide_eq_true (by rw[hz.out];omega);have z0:0<=z:=(by rw[hz.out];omega);have z1:z < (m:Int):=(by rw[hz.out];omega);have z5:z<=70:=(by have:=HM.out;have:=HN7.out;omega);have p0:=eq_true z0;have p1:=eq_true z1;have St:=aj hlt;have HZ:=aj (show z.toNat=r by rw[hz.out];omega);have hlx:i+r < (bytesOf s).length:=(by rw[yQ.out];have:=HM.out;omega);obtain⟨c,hc⟩:∃ c,(bytesOf s).getD (i+r) 0=c:=⟨_,rfl⟩;have hcc:0<=c/\c<=255:=by
      have:=mz s ((i+r:Nat):Int);rw[<-gU] at this;rw[<-hc];exact this
     have hgo:=hD.out.go;rw[List.drop_eq_getElem_cons hlx,show(bytesOf s)[i+r]=c by rw[<-hc,List.getD_eq_getElem?_getD,List.getElem?_eq_getElem hlx];rfl,foundAt] at hgo;have Tj:BB wr C ((bytesOf s).drop i) pad fr:=⟨hF2.out.blk qx.out.1 HCG.out,qx.out.2⟩;have k0:wr.cell? ⟨C,z.toNat,none⟩=some (.int .u8 c):=by
      rw[HZ.out,Tj.cell (by rw[List.length_drop,yQ.out];have:=HM.out;omega),<-hc];simp[List.getD_eq_getElem?_getD]
     have V1:=HT.out.below hD.out.je;have x0:wr.cell? ⟨nb k,0,none⟩=some (zj mb k (T.hm k)):=(ak (V1.node k hD.out.lt) 0).trans rfl;have l0:=V1.Og hD.out.lt hcc;have S_:=aj V1;generalize zj mb k (T.hm k)=mv at x0 l0;clear hlt hlx hc hcc Tj V1;cases hnx:T.nx k c with
     | none =>
      rw[hnx] at hgo l0;have l1:(Instr.lookup 226 mv (.int .u8 c) false).run Tryz.prog wr=.ok (.pointer none) wr:=l0;have K9:=aj (show vs2=R from hgo);clear l0 hgo hnx;go_wp2;go_roundw
      case rel=>exact⟨y+1,i+1,rfl,⟨by rw[hy.out];omega⟩,⟨cg.out⟩,⟨by rw[GX.out,<-K9.out];exact hD.out.vb⟩,⟨HF1.out.trans hF2.out⟩⟩
      case measure=>have:=cg.out;have:=hy.out;simp[intOf];omega
     | some j =>
      rw[hnx] at hgo l0;have l1:(Instr.lookup 226 mv (.int .u8 c) false).run Tryz.prog wr=.ok (.pointer (some ⟨nb j,0,none⟩)) wr:=l0;have Xv:=HW.out.nx k c j hD.out.lt hnx;have x1:wr.cell? ⟨nb j,1,none⟩=some (vA db dc j (T.dg j)):=(ak (S_.out.node j Xv.1) 1).trans rfl;have Pv:=aj Xv;clear l0 hnx Xv;cases BD:T.dg j with
      | none =>
       dsimp only at hgo;rw[BD] at hgo x1;have x2:wr.cell? ⟨nb j,1,none⟩=some (.slice none 0 0):=x1;have hnl:(binOp .neq 133 (.slice none 0 0) (.slice none 0 0)).run Tryz.prog wr=.ok (.bool false) wr:=run_neq_slice_nil_any (P:=Tryz.prog) wr 133 5 none 0 0 0 0 Tryz.underlying133;have K9:=aj (show foundAt T i ((bytesOf s).drop (i+r+1)) j vs2=R from hgo);clear x1 hgo BD;go_wp2;go_roundw
       case rel=>exact⟨z+1,r+1,j,vs2,rfl,rfl,⟨by rw[hz.out];omega⟩,⟨St.out⟩,⟨⟨hD.out.je,Pv.out.1,by rw[Pv.out.2,hD.out.dp],K9.out,hD.out.vb,hD.out.len⟩⟩,hF2⟩
       case measure=>have:=St.out;have:=hz.out;simp[intOf];omega
      | some ds =>
       dsimp only at hgo;rw[BD] at hgo x1;have x2:wr.cell? ⟨nb j,1,none⟩=some (.slice (some ⟨db j,0,none⟩) ds.length (dc j)):=x1;have hnl:(binOp .neq 133 (.slice (some ⟨db j,0,none⟩) ds.length (dc j)) (.slice none 0 0)).run Tryz.prog wr=.ok (.bool true) wr:=run_neq_slice_nil_any (P:=Tryz.prog) wr 133 5 (some ⟨db j,0,none⟩) ds.length (dc j) 0 0 Tryz.underlying133;have K9:=aj (show foundAt T i ((bytesOf s).drop (i+r+1)) j (eC vs2 i ds ds.length)=R from hgo);have hdl:=HW.out.dg j ds Pv.out.1 BD;have VZ:=aj (show ds.length=r+2 by rw[hdl,Pv.out.2,hD.out.dp]);have JJ:=aj (S_.out.K8 Pv.out.1 BD (by have:=VZ.out;have:=HM.out;have:=HN7.out;have:=St.out;omega));have Pt:=aj (show ¬ db j=g by
        obtain⟨cs,hcs⟩:=HT.out.Pm Pv.out.1 BD;have:=aY hcs;have:=HG.out;omega)
       have K_:=aj hy.out.symm;clear x1 hgo BD hdl;go_wp2_with (go_at_call 140;go_loud(refine(Tg g ds.length (dc j) i N K_.out vs2 ds (some ⟨db j,0,none⟩) wr hD.out.vb hD.out.len JJ.out (fun ad e=>by cases e;exact Pt.out) (by have:=VZ.out;have:=HM.out;have:=HN1.out;have:=St.out;omega) (by have:=HN1.out;have:=HN7.out;omega)).mono ?_;rintro e w5 ⟨⟨u,rfl⟩,hv5,hf5⟩;have HV5:=aj hv5;have HF5:=aj hf5;clear hv5 hf5));go_roundw
       case rel=>exact⟨z+1,r+1,j,_,rfl,rfl,⟨by rw[hz.out];omega⟩,⟨St.out⟩,⟨⟨hD.out.je.trans (HF5.out.below hD.out.je.size (fun k e=>by rw[<-e];exact HG.out)),Pv.out.1,by rw[Pv.out.2,hD.out.dp],K9.out,HV5.out,by rw[jD];exact hD.out.len⟩⟩,⟨hF2.out.trans HF5.out⟩⟩
       case measure=>have:=St.out;have:=hz.out;simp[intOf];omega
    .have e9:decide (z < (m:Int))=false:=decide_eq_false (by rw[hz.out];omega);have hrm:r=m:=(by have:=hr.out;omega);have hgo:=hD.out.go;rw[List.drop_of_length_le (by rw[yQ.out,hrm];have:=HM.out;omega),foundAt] at hgo;have K9:=aj hgo;clear hlt hrm hgo;go_wp2;go_roundw
     case rel=>exact⟨y+1,i+1,rfl,⟨by rw[hy.out];omega⟩,⟨cg.out⟩,⟨by rw[GX.out,<-K9.out];exact hD.out.vb⟩,⟨HF1.out.trans hF2.out⟩⟩
     case measure=>have:=cg.out;have:=hy.out;simp[intOf];omega
  .have d9:decide (y < (n:Int))=false:=decide_eq_false (by rw[hy.out];omega);have d8:decide (y < (s.size:Int))=false:=decide_eq_false (by rw[hy.out,HN.out];omega);have him:i=n:=by have:=hi.out;omega
   subst him;clear hlt;go_wp2;go_end0;exact⟨⟨_,rfl⟩,hV.out,hF.out⟩
end Go.Proofs.YtcaallkkeighdaaGreatDoor.P
