/- hyph.Points. The breaker's small functions: where a line may end,where the next one begins,where it has come to behind an item;the width of one leap. Where a line has come to behind an item. -/
import Derived.Test.YtcaallkkeighdaaGreatDoorR18
import Derived.Test.YtcaallkkeighdaaGreatDoorR14
set_option maxRecDepth 100000
set_option maxHeartbeats 16000000
set_option linter.unusedVariables false
set_option linter.unusedSimpArgs false
namespace Go.Proofs.YtcaallkkeighdaaGreatDoor.P
open Go.RowKit aD aQ aR
attribute [local go_sem] cN cO dw dA
def dot:ByteArray:=⟨#[46]⟩
def qX(ee:List (List Int × List Int))(wl:List Int):Option (List Int × List Int):=ee.find? (fun e=>decide ((strOfNums e.1).data.toList=(strOfNums wl).data.toList))
def jw(vs:List Int):Nat->List Int
 | 0=>[]
 | j+1=>jw vs j ++ (if (vs.getD (j+3) 0).tmod 2=1 then [((j:Int)+2)] else [])
def qY(T:Tr)(wl:List Int):List Int:=jJ T (bytesOf (dot ++ strOfNums wl ++ dot)) (List.replicate (wl.length+3) 0) (wl.length+2)
def mL(T:Tr)(ee:List (List Int × List Int))(s:ByteArray):List Int :=
 if 64 < s.size then [] else match qX ee (sK s) with
 | some e=>e.2
 | none=>jw (qY T (sK s)) (s.size - 4)
theorem Dj{w:World}{b n:Nat}{F:Lit->Option Value}{B:Nat}{ee:List (List Int × List Int)}{wl:List Int}(h2:∀ e∈ee,∃ v,F (ld e)=some v/\w.ownsRow B 3 1 v e.2.length (e.2.map (Value.int .i64)))(hF:F (.string (strOfNums wl).data.toList)=none):qX ee wl=none:=by
 unfold qX;rw[List.find?_eq_none];intro e he hd;have hk:(strOfNums e.1).data.toList=(strOfNums wl).data.toList:=of_decide_eq_true hd;obtain⟨v,hv,_⟩:=h2 e he;unfold ld at hv;rw[hk,hF] at hv;cases hv
theorem Dk{w:World}{F:Lit->Option Value}{B:Nat}{ee:List (List Int × List Int)}{wl:List Int}(h1:∀ kl,F kl≠none->∃ e∈ee,kl=ld e)(h2:∀ e∈ee,∃ v,F (ld e)=some v/\w.ownsRow B 3 1 v e.2.length (e.2.map (Value.int .i64))){v:Value}(hF:F (.string (strOfNums wl).data.toList)=some v) :
  ∃ e,qX ee wl=some e/\e∈ee/\(strOfNums e.1).data.toList=(strOfNums wl).data.toList/\w.ownsRow B 3 1 v e.2.length (e.2.map (Value.int .i64)):=by
 obtain⟨e0,he0,hk0⟩:=h1 _ (by rw[hF];simp);cases hx:qX ee wl with
 | none =>
  unfold qX at hx;rw[List.find?_eq_none] at hx;exact absurd (decide_eq_true (Lit.string.inj hk0).symm) (hx e0 he0)
 | some e =>
  have hm:=List.mem_of_find?_eq_some hx;have hd:=List.find?_some hx;have hk:(strOfNums e.1).data.toList=(strOfNums wl).data.toList:=of_decide_eq_true hd;obtain⟨u,hu,hr⟩:=h2 e hm;unfold ld at hu;rw[hk,hF] at hu;obtain rfl:=Option.some.inj hu;exact⟨e,rfl,hm,hk,hr⟩
theorem xD(z:Value)(hz:z.cells=#[z])(m:Nat):madeCells z.cells m=(List.replicate m z).toArray:=by
 rw[hz];apply Array.ext
 .simp[size_madeCells]
 .intro i h1 h2;simp only[madeCells,Array.getElem_map,List.getElem_toArray,List.getElem_replicate];simp[Nat.mod_one]
theorem zZ(vs:List Int):∀ j,(jw vs j).length<=j
 | 0=>Nat.le_refl _
 | j+1=>by
  unfold jw;have:=zZ vs j;rw[List.length_append];split<;>simp<;>omega
theorem VB.new(w:World)(m:Nat):VB (w.alloc (.cells (Array.replicate m (.int .u8 0)) 5)) w.heap.size (List.replicate m 0):=by
 have:=aH w (.cells (Array.replicate m (.int .u8 0)) 5);unfold VB;rw[this]
 congr 2
 apply Array.toList_inj.1;simp
theorem La(w:World)(m:Nat)(hm:m<=100000):(Instr.makeSlice 208 (.int .i64 (m:Int)) (.int .i64 (m:Int))).run Tryz.prog w=.ok (.slice (some ⟨w.heap.size,0,none⟩) m m) (w.alloc (.cells ((List.replicate m (0:Int)).map (Value.int .u8)).toArray 5)):=by
 obtain⟨i0,hi,hz0,hz1,hz2⟩:=info_parts qq;have h:=run_makeSlice (P:=Tryz.prog) (w:=w) 208 5 i0 (.int .u8 0) Tryz.underlying208 hi hz0 .i64 .i64 (m:Int) (m:Int) (by omega) (Int.le_refl _) (by rw[hz1];omega) (by rw[hz2];omega) (by omega);rw[h,hz1,xD _ rfl];simp
def BI(pt:List Int)(w:World)(e:Ending)(w':World):Prop:=∃ v err,e=.returned (.tuple #[v,.int .i64 err])/\w'.ownsRow w.heap.size 3 1 v pt.length (pt.map (Value.int .i64))/\Below w.heap.size w w'
theorem Fw(v:Value)(ps:List Int)(B:Nat)(w:World)(h:w.ownsRow B 3 1 v ps.length (ps.map (Value.int .i64)))(hl:ps.length<=100000):Calls Tryz.prog 138 #[v] w fun e w'=>∃ v',e=.returned v'/\w'.ownsRow w.heap.size 3 1 v' ps.length (ps.map (Value.int .i64))/\Below w.heap.size w w':=by
 rcases h.2 with⟨rfl,hz⟩|⟨g,cap,cur,rfl,hg,hh,hc,r⟩
 .have hp:ps=[]:=List.length_eq_zero_iff.1 hz;subst hp;refine(Tryz.slices_Clone_int_nil 0 0 w).mono ?_;rintro e w' ⟨rfl,rfl⟩;exact⟨_,rfl,⟨rfl,.inl ⟨rfl,rfl⟩⟩,Below.refl _ _⟩
 .refine(Tryz.slices_Clone_int g 0 ps.length cap ps w (Nat.le_refl _) (by omega) (fun j hj=>?_)).mono ?_
  .rw[Nat.zero_add,h.cellAt j (by omega)];simp[List.getElem?_eq_getElem hj,List.getD_eq_getElem?_getD]
  .rintro e w' ⟨v',rfl,hr,_,hb⟩;rw[List.take_length] at hr;exact⟨v',rfl,hr,hb⟩
theorem Dl(h B:Nat)(T:Tr)(ee:List (List Int × List Int))(s:ByteArray)(w:World)(hH:oK w B h T ee)(hs:64 < s.size) :
  Calls Tryz.prog 118 #[.pointer (some ⟨h,0,none⟩),.string s] w (BI (mL T ee s) w):=by
 obtain⟨nb,mb,db,dc,dep,b,X0,hblk,_⟩:=hH.out;have HP:=aj (show mL T ee s=[] by unfold mL;rw[if_pos hs]);have HS:=aj hs;have x0:w.cell? ⟨h,0,none⟩=some (.pointer (some ⟨nb 0,0,none⟩)):=(ak hblk 0).trans rfl;rw[HP.out];clear hH hblk hs;go_enter Tryz.func118,Tryz.ntmps118;go_wp2_with (go_at_call 137;go_loud(refine(Iq s w HS.out).mono ?_;rintro e w5 ⟨rfl,q_⟩;have q_:=q_.symm;subst q_));go_ret2;exact⟨_,_,rfl,⟨rfl,.inl ⟨rfl,rfl⟩⟩,Below.refl _ _⟩
theorem BJ(h B:Nat)(T:Tr)(ee:List (List Int × List Int))(s:ByteArray)(w:World)(hH:oK w B h T ee)(h1:1<=s.size)(h2:s.size<=64)(hl:∀ i:Nat,i < s.size->fP (bt s (i:Int))=true)(hps:∀ e∈ee,e.2.length<=100000) :
  Calls Tryz.prog 118 #[.pointer (some ⟨h,0,none⟩),.string s] w (BI (mL T ee s) w):=by
 have HH:=aj hH;obtain⟨nb,mb,db,dc,dep,b,X0,hblk,_,_,_,_,_,_,_,hex,_⟩:=hH.out;obtain⟨F,nn,hM,hnn,k1,k2⟩:=hex.out;have x0:w.cell? ⟨h,0,none⟩=some (.pointer (some ⟨nb 0,0,none⟩)):=(ak hblk 0).trans rfl;have JQ:=aj hblk;have Fq:=aj hM;have K1:=aj k1;have K2:=aj k2;have H1:=aj (And.intro h1 h2);have HL:=aj hl;have QL:=aj hps;obtain⟨wl,Tk⟩:∃ wl,sK s=wl:=⟨_,rfl⟩;have Lb:=aj Tk;have V2:=aj (show wl.length=s.size by rw[<-Tk];unfold sK;rw[List.length_map,ef]);have hkey:keyOf Tryz.prog 9 (.string (strOfNums wl))=some (.string (strOfNums wl).data.toList):=WideMaps.keyOf_string_mk Tryz.underlying9 (by rw[strOfNums_size,V2.out];simp[maxLen];omega);have Er:=aj hkey;have hsz:=strOfNums_size wl;clear hH hblk hex hM hnn k1 k2 h1 h2 hl hps Tk hkey;go_enter Tryz.func118,Tryz.ntmps118;cases hF:F (.string (strOfNums wl).data.toList) with
 | some v =>
  obtain⟨e0,hf,hem,hek,hrow⟩:=Dk K1.out K2.out hF;have yN:=aj (show mL T ee s=e0.2 by unfold mL;rw[if_neg (by have:=H1.out;omega),Lb.out,hf]);rw[yN.out];have KX:=aj hrow;have Xw:=aj hF;have V0:=aj (QL.out e0 hem);clear hf hem hek hrow hF;go_wp2_with (first|(go_at_call 137;go_loud(refine(xq s w H1.out.1 H1.out.2 HL.out).mono ?_;rintro e w5 ⟨rfl,hb5⟩;rw[Lb.out];have x1:w5.cell? ⟨h,1,none⟩=some (.map (some b)):=((ak (ay JQ.out hb5) 1).trans rfl);have hlk:=(Fq.out.block (hb5.block _ Fq.out.lt)).look (Maps.string_keyed Tryz.underlying9) Tryz.underlying201 (Tryz.zeroValue107 w5) Er.out true;rw[Xw.out] at hlk;have HB5:=aj hb5;clear hb5))|(go_at_call 138;go_loud(refine(Fw v e0.2 B _ (jd KX.out HB5.out) V0.out).mono ?_;rintro e w6 ⟨v6,rfl,hr6,hb6⟩;have HR6:=aj hr6;have HB6:=aj hb6;clear hr6 hb6)));go_ret2;exact⟨_,_,rfl,oJ HR6.out HB5.out.size,HB5.out.trans (HB6.out.mono HB5.out.size)⟩
 | none =>
  have yN:=aj (show mL T ee s=jw (qY T wl) (s.size - 4) by unfold mL;rw[if_neg (by have:=H1.out;omega),Lb.out,Dj (w:=w) (b:=b) (n:=nn) K2.out hF]);rw[yN.out];have Xw:=aj hF;clear hF;go_upto_region 9 with(go_at_call 137;go_loud(refine(xq s w H1.out.1 H1.out.2 HL.out).mono ?_;rintro e w5 ⟨rfl,hb5⟩;rw[Lb.out];have x1:w5.cell? ⟨h,1,none⟩=some (.map (some b)):=((ak (ay JQ.out hb5) 1).trans rfl);have hlk:=(Fq.out.block (hb5.block _ Fq.out.lt)).look (Maps.string_keyed Tryz.underlying9) Tryz.underlying201 (Tryz.zeroValue107 w5) Er.out true;rw[Xw.out] at hlk;have HB5:=aj hb5;clear hb5));obtain⟨n,hn⟩:∃ n,wl.length=n:=⟨_,rfl⟩;have HN:=aj hn;have zf:=aj (show 1<=n/\n<=64 by rw[<-hn,V2.out];exact H1.out);have n0:(n:Int)<=64:=by have:=zf.out;omega
  have n1:(1:Int)<=n:=by have:=zf.out;omega
  rw[hn] at hsz;have Xx:=aj (show(dot ++ strOfNums wl ++ dot).size=n+2 by rw[ByteArray.size_append,ByteArray.size_append,hsz];show 1+n+1=n+2;omega);clear hn;have hmk:=La w5 (n+3) (by have:=zf.out;omega);rw[show((n+3:Nat):Int)=(n:Int)+3 by omega] at hmk;go_upto_region 10 with(fail);have HV0:=aj (VB.new w5 (n+3));have HB6:=aj (HB5.out.trans ((Below.refl w5.heap.size w5).alloc (Nat.le_refl _) (.cells (Array.replicate (n+3) (.int .u8 0)) 5) |>.mono HB5.out.size));have HG:=aj HB5.out.size;generalize w5.alloc (.cells (Array.replicate (n+3) (.int .u8 0)) 5)=W6 at *;generalize w5.heap.size=g at *;have HVL:=aj (show jJ T (bytesOf (dot ++ strOfNums wl ++ dot)) (List.replicate (n+3) 0) (dot ++ strOfNums wl ++ dot).size=qY T wl by unfold qY;rw[Xx.out,HN.out]);have HVN:=aj (show(qY T wl).length=n+3 by unfold qY;rw[oM,List.length_replicate,HN.out]);rw[<-V2.out,HN.out];generalize qY T wl=V at *;clear hmk x1 hlk x0 hsz;have hsz:=(strOfNums_size wl).trans HN.out;go_upto_block 0 with(go_at_call 139;go_loud(refine(Di h g B T ee (dot ++ strOfNums wl ++ dot) (List.replicate (n+3) 0) (n+3) w W6 HH.out HB6.out HG.out HV0.out (by simp) (by rw[Xx.out]) (by rw[Xx.out];have:=zf.out;omega)).mono ?_;rintro e w7 ⟨⟨u,rfl⟩,hv7,hf7⟩;rw[HVL.out] at hv7;have HV7:=aj hv7;have HB7:=aj (HB6.out.trans (hf7.below HB6.out.size (fun k e=>by rw[<-e];exact HG.out)));clear hv7 hf7));generalize w7=W7 at *;go_wp2;go_loopw [11,12] (fun v11 v12 wr=>∃ (z:Int) (j:Nat),v12=.int .i64 z/\aC (z=(j:Int)+2)/\aC (j<=n - 4)/\aC (VB wr g V)/\aC (Below w.heap.size w wr)/\aC (wr.ownsRow w.heap.size 3 1 v11 (jw V j).length ((jw V j).map (Value.int .i64)))) (fun _ v12 _=>n - (intOf v12).toNat)
  case atStart=>exact⟨2,0,rfl,⟨rfl⟩,⟨Nat.zero_le _⟩,HV7,HB7,⟨rfl,.inl ⟨rfl,rfl⟩⟩⟩
  case round =>
   obtain⟨z,j,rfl,hz,hj,hV,hB,hO⟩:=hrel;by_cases hlt:j < n - 4
   .have d9:decide (z<=(n:Int) - 3)=true:=decide_eq_true (by rw[hz.out];omega);have z0:0<=z+1:=(by rw[hz.out];omega);have z1:z+1 < ((n+3:Nat):Int):=(by rw[hz.out];omega);have z2:z+1 < (n:Int)+3:=(by rw[hz.out];omega);have z3:z<=64:=(by rw[hz.out];omega);have z4:0<=z:=(by rw[hz.out];omega);have cg:=aj hlt;have HZ:=aj (show(z+1).toNat=j+3 by rw[hz.out];omega);obtain⟨c,hc⟩:∃ c,V.getD (j+3) 0=c:=⟨_,rfl⟩;have k0:wr.cell? ⟨g,(z+1).toNat,none⟩=some (.int .u8 c):=by
     rw[HZ.out,<-hc];exact hV.out.cell (by rw[HVN.out];omega)
    have QL:=aj (show jw V (j+1)=jw V j ++ (if c.tmod 2=1 then [z] else []) by rw[<-hc,hz.out];rfl);have KW:=aj (show((jw V j).length+1) * 8<=140737488355328 by have:=zZ V j;omega);clear hlt hc;by_cases Tl:c.tmod 2=1
    .have QM:=aj (show jw V (j+1)=jw V j ++ [z] by rw[QL.out,if_pos Tl]);go_wp2_with (at_builtin;go_loud(refine cC (w0:=w) w.heap.size rfl (.tmp 66) (.tmp 68) 107 3 (.int .i64 0) 1 8 rfl Tryz.underlying107 info3 rfl (by decide) (by decide) u11 (jw V j).length ((jw V j).map (Value.int .i64)) [.int .i64 z] rfl rfl rfl (by intro u hu;rw[List.mem_singleton.1 hu];rfl) hO.out hB.out hB.out.size KW.out ?_;intro v1 w1 ho1 hb1 hg1 ha1;have HO1:=aj ho1;have HB1:=aj hb1;have HG1:=aj hg1;clear ho1 hb1 hg1 ha1));go_roundw
     case rel=>exact⟨z+1,j+1,rfl,⟨by rw[hz.out];omega⟩,⟨cg.out⟩,⟨(HG1.out.block g (Zo hV.out) (fun e=>by
      obtain⟨cs,hcs⟩:=eW hO.out g e.symm;have:=hV.out;unfold VB at this;rw[this] at hcs;cases hcs)).trans hV.out⟩,HB1,⟨by rw[QM.out,List.length_append,List.map_append];exact HO1.out⟩⟩
     case measure=>have:=cg.out;have:=hz.out;simp[intOf];omega
    .have QM:=aj (show jw V (j+1)=jw V j by rw[QL.out,if_neg Tl,List.append_nil]);go_wp2;go_roundw
     case rel=>exact⟨z+1,j+1,rfl,⟨by rw[hz.out];omega⟩,⟨cg.out⟩,hV,hB,⟨by rw[QM.out];exact hO.out⟩⟩
     case measure=>have:=cg.out;have:=hz.out;simp[intOf];omega
   .have d9:decide (z<=(n:Int) - 3)=false:=decide_eq_false (by rw[hz.out];have:=hj.out;omega);have hjn:j=n - 4:=(by have:=hj.out;omega);have hO2:=hO.out;rw[hjn] at hO2;have HO2:=aj hO2;clear hlt hjn hO2;go_wp2;go_ret2;exact⟨u11,0,rfl,by rw[<-V2.out,HN.out];exact HO2.out,hB.out⟩
end Go.Proofs.YtcaallkkeighdaaGreatDoor.P
namespace Go.Proofs.YtcaallkkeighdaaGreatDoor.P
open Go.RowKit aD aQ aR
attribute [local go_sem] cN cO dw dA
structure vD(w:World)(b:Nat)(A:Option Addr)(c:Nat)(l:List S75)(f v:Value):Prop where
 blk:w.heap[b]? = some (.cells #[.slice A l.length c,f,v] 171 (0,0))
 rd:Kd.C k75 w A l.length l
 cap:l.length<=c
theorem vD.below{w w':World}{b:Nat}{A:Option Addr}{c:Nat}{l:List S75}{f v:Value}(h:vD w b A c l f v)(hb:Below w.heap.size w w'):vD w' b A c l f v:=⟨ay h.blk hb,Kd.aM h.rd hb,h.cap⟩
theorem dn{l:List S75}{x:Int}{i:Nat}(h:x=(i:Int)):fL l x=aX l i:=by rw[h];exact NZ l i
theorem zl(l:List S75)(i:Nat)(r:Bool)(A:Option Addr)(c b:Nat)(f v:Value)(w:World)(h:vD w b A c l f v)(hi:i<=l.length)(hn:l.length<=8192)(hr:eH l i=r) :
  Calls Tryz.prog 129 #[.pointer (some ⟨b,0,none⟩),.int .i64 (i:Int)] w fun e w'=>e=.returned (.bool r)/\w'=w:=by
 obtain⟨hb,hl,hc⟩:=h;have HL:=aj hl;have HR:=aj hr;obtain⟨n,hnn⟩:∃ n,l.length=n:=⟨_,rfl⟩;obtain⟨x,hx⟩:∃ x:Int,(i:Int)=x:=⟨_,rfl⟩;have dF:=aj hnn;have HX:=aj hx.symm;rw[hnn] at hb hi hn;rw[hx];have x0:w.cell? ⟨b,0,none⟩=some (.slice A n c):=(ak hb 0).trans rfl;clear hl hc hb hnn hr;by_cases h1:i=n
 .have d1:(x == (n:Int))=true:=by rw[<-hx,h1];exact beq_self_eq_true _
  have HF:=aj (show r=true by rw[<-HR.out];unfold eH;rw[if_pos (h1.trans dF.out.symm)]);clear hx hi h1;go_enter Tryz.func129,Tryz.ntmps129;go_wp2;go_ret;exact⟨dQ HF.out,rfl⟩
 .have d1:(x == (n:Int))=false:=by rw[beq_eq_false_iff_ne];omega
  have q0:0<=x:=by omega
  have q1:x < (n:Int):=by omega
  have q2:x<=8192:=by omega
  have HI:=aj (show i < n by omega);obtain⟨ad,e0,k0,_⟩:=eD HL.out x q0 (by rw[dF.out];exact q1);cases e0
  rw[dn HX.out] at k0;have HR1:=aj (show r=(if (aX l i).f0=3 then true else (aX l i).f0 == 2 && (decide (0 < i) && (aX l (i - 1)).f0 != 2)) by rw[<-HR.out];unfold eH;rw[if_neg (by rw[dF.out];exact h1)]);have p0:=eq_true q0;have p1:=eq_true q1;obtain⟨g,hg⟩:∃ g,(aX l i).f0=g:=⟨_,rfl⟩;rw[hg] at k0;by_cases h3:g=3
  .have d3:(g == 3)=true:=by simp[h3]
   have HF:=aj (show r=true by rw[HR1.out,if_pos (by rw[hg];exact h3)]);clear hx hi h1 hg h3;go_enter Tryz.func129,Tryz.ntmps129;go_wp2;go_ret;exact⟨dQ HF.out,rfl⟩
  .have d3:(g == 3)=false:=by simpa using h3
   have HR2:=aj (show r=(g == 2 && (decide (0 < i) && (aX l (i - 1)).f0 != 2)) by rw[HR1.out,if_neg (by rw[hg];exact h3),hg]);by_cases h2:g=2
   .have d2:(g == 2)=true:=(by simp[h2]);have HR3:=aj (show r=(decide (0 < i) && (aX l (i - 1)).f0 != 2) by rw[HR2.out,d2,Bool.true_and]);by_cases h0:0 < i
    .have d0:decide (0 < x)=true:=decide_eq_true (by omega);have q3:0<=x - 1:=(by omega);have q4:x - 1 < (n:Int):=(by omega);obtain⟨J1,e0,k1,_⟩:=eD HL.out (x - 1) q3 (by rw[dF.out];exact q4);cases e0
     rw[dn (i:=i - 1) (by rw[HX.out];omega)] at k1;have k2:=k1;rw[show(x - 1).toNat=x.toNat - 1 by omega] at k2;have HF:=aj (show r=((aX l (i - 1)).f0 != 2) by rw[HR3.out,decide_eq_true h0,Bool.true_and]);have p3:=eq_true q3;have p4:=eq_true q4;clear hx hi h1 hg h3 h2 h0;go_enter Tryz.func129,Tryz.ntmps129;go_wp2;go_ret;exact⟨dQ HF.out,rfl⟩
    .have d0:decide (0 < x)=false:=decide_eq_false (by omega);have HF:=aj (show r=false by rw[HR3.out,decide_eq_false h0,Bool.false_and]);clear hx hi h1 hg h3 h2 h0;go_enter Tryz.func129,Tryz.ntmps129;go_wp2;go_ret;exact⟨dQ HF.out,rfl⟩
   .have d2:(g == 2)=false:=(by simpa using h2);have HF:=aj (show r=false by rw[HR2.out,d2,Bool.false_and]);clear hx hi h1 hg h3 h2;go_enter Tryz.func129,Tryz.ntmps129;go_wp2;go_ret;exact⟨dQ HF.out,rfl⟩
theorem tY{l:List S75}{j:Nat}(h:j < l.length)(h2:(aX l j).f0=2):cW l (l.length - j) j=cW l (l.length - (j+1)) (j+1):=by
 rw[show l.length - j=(l.length - (j+1))+1 by omega,cW,if_pos h2]
theorem tZ{l:List S75}{j:Nat}(h:j < l.length)(h2:(aX l j).f0≠2):cW l (l.length - j) j=j:=by
 rw[show l.length - j=(l.length - (j+1))+1 by omega,cW,if_neg h2]
theorem xE{l:List S75}{j:Nat}(h:j=l.length):cW l (l.length - j) j=j:=by
 rw[show l.length - j=0 by omega,cW]
theorem zn(l:List S75)(i R:Nat)(A:Option Addr)(c b:Nat)(f v:Value)(w:World)(h:vD w b A c l f v)(hi:i<=l.length)(hn:l.length<=8192)(hr:gD l i=R) :
  Calls Tryz.prog 104 #[.pointer (some ⟨b,0,none⟩),.int .i64 (i:Int)] w fun e w'=>e=.returned (.int .i64 (R:Int))/\w'=w:=by
 obtain⟨hb,hl,hc⟩:=h;have HL:=aj hl;obtain⟨n,hnn⟩:∃ n,l.length=n:=⟨_,rfl⟩;obtain⟨x,hx⟩:∃ x:Int,(i:Int)=x:=⟨_,rfl⟩;have dF:=aj hnn;have HX:=aj hx.symm;have HN:=aj hn;rw[hnn] at hb hi hn;rw[hx];have HR:=aj (show cW l (n - (if i < n/\(aX l i).f0=3 then i+1 else i)) (if i < n/\(aX l i).f0=3 then i+1 else i)=R by rw[<-hr,<-hnn];rfl);have x0:w.cell? ⟨b,0,none⟩=some (.slice A n c):=(ak hb 0).trans rfl;have p2:(0<=x)=True:=eq_true (by omega);have q2:0<=x/\x<=8192:=by omega
 obtain⟨q20,q21⟩:=q2;have d2:decide (0<=x)=true:=decide_eq_true q20;clear hl hc hb hnn hr;go_enter Tryz.func104,Tryz.ntmps104;go_upto_region 1 with(fail);obtain⟨B,hB⟩:∃ B:Bool,decide (i < n/\(aX l i).f0=3)=B:=⟨_,rfl⟩;have qx:=aj hB;have HI:=aj hi;clear hB;go_cut [26] from 5 to 26 (fun v26 wc=>v26=.bool B/\w=wc)
 case first =>
  by_cases h1:i < n
  .have d1:decide (x < (n:Int))=true:=decide_eq_true (by omega);have q1:x < (n:Int):=by omega
   have p1:=eq_true q1;obtain⟨ad,e0,k0,_⟩:=eD HL.out x q20 (by rw[dF.out];exact q1);cases e0
   rw[dn HX.out] at k0;have HQ:=aj (show((aX l i).f0 == 3)=B by rw[<-qx.out,Bool.eq_iff_iff,beq_iff_eq,decide_eq_true_iff];exact⟨fun q=>⟨h1,q⟩,fun q=>q.2⟩);generalize (aX l i).f0=g at *;clear hx hi h1;go_wp2;go_meet
   case rel=>exact⟨congrArg Value.bool HQ.out,rfl⟩
  .have d1:decide (x < (n:Int))=false:=decide_eq_false (by omega);have HQ:=aj (show false=B by rw[<-qx.out,eq_comm,decide_eq_false_iff_not];exact fun q=>h1 q.1);clear hx hi h1;go_wp2;go_meet
   case rel=>exact⟨congrArg Value.bool HQ.out,rfl⟩
 obtain⟨rfl,rfl⟩:=hcut;go_upto_if 26 with(fail);go_cut [1] from 27 to 28 (fun v1 wc=>∃ (y:Int) (j:Nat),v1=.int .i64 y/\aC (y=(j:Int))/\aC (j<=n)/\aC (cW l (n - j) j=R)/\w=wc)
 case first =>
  cases B with
  | true =>
   have HQ:=aj (of_decide_eq_true qx.out);have HQ2:=aj (show cW l (n - (i+1)) (i+1)=R by have:=HR.out;rw[if_pos HQ.out] at this;exact this);clear hx hi;go_wp2;go_meet
   case rel=>exact⟨x+1,i+1,rfl,⟨by rw[HX.out];omega⟩,⟨HQ.out.1⟩,HQ2,rfl⟩
  | false =>
   have HQ:=aj (of_decide_eq_false qx.out);have HQ2:=aj (show cW l (n - i) i=R by have:=HR.out;rw[if_neg HQ.out] at this;exact this);clear hx hi;go_wp2;go_meet
   case rel=>exact⟨x,i,rfl,HX,HI,HQ2,rfl⟩
 case rest =>
  obtain⟨y,j,rfl,hy,hj,hR,rfl⟩:=hcut;clear hi hx HR p2 d2 q20 q21 HX qx HI;go_wp2;go_loopw [1] (fun v1 wr=>∃ (y:Int) (j:Nat),v1=.int .i64 y/\aC (y=(j:Int))/\aC (j<=n)/\aC (cW l (n - j) j=R)/\w=wr) (fun v1 _=>n - (intOf v1).toNat)
  case atStart=>exact⟨y,j,rfl,hy,hj,hR,rfl⟩
  case round =>
   clear hy hj hR;obtain⟨y,j,rfl,hy,hj,hR,rfl⟩:=hrel;by_cases h1:j < n
   .have d1:decide (y < (n:Int))=true:=decide_eq_true (by rw[hy.out];omega);have q0:0<=y:=(by rw[hy.out];omega);have q1:y < (n:Int):=(by rw[hy.out];omega);have q3:y<=8192:=(by rw[hy.out];omega);have p0:=eq_true q0;have p1:=eq_true q1;obtain⟨ad,e0,k0,_⟩:=eD HL.out y q0 (by rw[dF.out];exact q1);cases e0
    rw[dn hy.out] at k0;have H1:=aj h1;by_cases h3:(aX l j).f0=2
    .have hg:((aX l j).f0 == 2)=true:=(by simp[h3]);have HQ:=aj (show cW l (n - (j+1)) (j+1)=R by rw[<-hR.out,<-dF.out];exact(tY (by rw[dF.out];exact h1) h3).symm);generalize (aX l j).f0=g at *;clear h1 h3;go_wp2;go_roundw
     case rel=>exact⟨y+1,j+1,rfl,⟨by rw[hy.out];omega⟩,⟨H1.out⟩,HQ,(by first|rfl|trivial)⟩
     case measure=>have:=H1.out;have:=hy.out;simp[intOf];omega
    .have hg:((aX l j).f0 == 2)=false:=(by simpa using h3);have HQ:=aj (show y=(R:Int) by rw[hy.out,<-hR.out,<-dF.out];exact(congrArg Int.ofNat (tZ (by rw[dF.out];exact h1) h3)).symm);generalize (aX l j).f0=g at *;clear h1 h3;go_wp2;go_ret;exact⟨dh HQ.out.symm,rfl⟩
   .have d1:decide (y < (n:Int))=false:=decide_eq_false (by rw[hy.out];omega);have HQ:=aj (show y=(R:Int) by rw[hy.out,<-hR.out,<-dF.out];exact(congrArg Int.ofNat (xE (by have:=hj.out;have:=dF.out;omega))).symm);clear h1;go_wp2;go_ret;exact⟨dh HQ.out.symm,rfl⟩
def gE(l:List S75)(a:Nat):Nat->Nat
 | 0=>0
 | b+1=>if a < b+1/\(aX l b).f0=2 then gE l a b else b+1
theorem kI(l:List S75)(a:Nat):∀ b,a<=b->a<=gE l a b/\gE l a b<=b
 | 0,h=>by simp only[gE];omega
 | b+1,h=>by
  unfold gE;split
  .have:=kI l a b (by omega);omega
  .omega
theorem Lc{w:World}{A:Option Addr}{n a R c:Nat}{l:List S75}(hl:Kd.C k75 w A l.length l)(hn:l.length=n)(h:a<=R/\R<=n)(hc:n<=c):Kd.C k75 w (if c=a then A else A.map (fun x=>x.add (a * 8))) (R - a) ((l.drop a).take (R - a)):=by
 have hdp:=Kd.AR (m:=R - a) (Kd.mW (m:=a) (c:=c) hl (by omega) (by omega)) (by rw[List.length_drop];omega);rw[show((l.drop a).take (R - a)).length=R - a by rw[List.length_take,List.length_drop];omega] at hdp;exact hdp
theorem Dm(l:List S75)(a:Nat):gE l a a=a:=by
 cases a with
 | zero=>rfl
 | succ a=>unfold gE;rw[if_neg (by omega)]
theorem sO(l:List S75)(a b:Nat)(A:Option Addr)(c:Nat)(w:World)(hl:Kd.C k75 w A l.length l)(hc:l.length<=c)(h:∀ x∈l,cY x)(hn:l.length<=8192)(h1:a<=b)(h2:b<=l.length) :
  Calls Tryz.prog 56 #[.slice A l.length c,.int .i64 (a:Int),.int .i64 (b:Int)] w fun e w'=>e=.returned (.int .i64 0)/\Below w.heap.size w w':=by
 have HL:=aj hl;have HC:=aj hc;have HI:=aj h;have HN:=aj hn;have d0:decide ((a:Int) < 0)=false:=decide_eq_false (by omega);have d1:decide ((b:Int) < (a:Int))=false:=decide_eq_false (by omega);have Xy:decide (b < a)=false:=decide_eq_false (by omega);have d2:decide ((l.length:Int) < (b:Int))=false:=decide_eq_false (by omega);have d2':decide (l.length < b)=false:=decide_eq_false (by omega);generalize hx:(a:Int)=x at *;generalize hy:(b:Int)=y at *;clear hl hc h hn h1 h2;go_enter Tryz.func56,Tryz.ntmps56;go_wp2_with (go_at_call 86;go_loud(refine(m_ l A c _ HL.out HC.out HI.out HN.out).mono ?_;rintro e w1 ⟨rfl,hb1⟩));go_ret;exact⟨rfl,hb1⟩
theorem qB(l:List S75)(a b R:Nat)(A:Option Addr)(c:Nat)(w:World)(hA:A=none->c=0)(hl:Kd.C k75 w A l.length l)(hc:l.length<=c)(hn:l.length<=8192)(h1:a<=b)(h2:b<=l.length)(hr:gE l a b=R) :
  Calls Tryz.prog 57 #[.slice A l.length c,.int .i64 (a:Int),.int .i64 (b:Int)] w fun e w'=>(∃ A',e=.returned (.slice A' (R - a) (c - a))/\Kd.C k75 w A' (R - a) ((l.drop a).take (R - a)))/\w'=w:=by
 have HA:=aj hA;have HL:=aj hl;obtain⟨n,hnn⟩:∃ n,l.length=n:=⟨_,rfl⟩;obtain⟨x,hx⟩:∃ x:Int,(a:Int)=x:=⟨_,rfl⟩;obtain⟨y,hy⟩:∃ y:Int,(b:Int)=y:=⟨_,rfl⟩;have dF:=aj hnn;have HX:=aj hx.symm;have HY:=aj hy.symm;have HN:=aj hn;have HR:=aj hr;rw[hnn] at hc hn h2;rw[hnn,hx,hy];have GX:=aj (show a<=R/\R<=b by rw[<-hr];exact kI l a b h1);have tT:=aj (And.intro h1 h2);have HC:=aj hc;clear hl hnn hr h1 h2 hx hy hn hc hA;go_enter Tryz.func57,Tryz.ntmps57;go_wp2;go_loopw [2] (fun v2 wr=>∃ (y:Int) (j:Nat),v2=.int .i64 y/\aC (y=(j:Int))/\aC (a<=j/\j<=n)/\aC (gE l a j=R)/\w=wr) (fun v2 _=>(intOf v2).toNat)
 case atStart=>exact⟨y,b,rfl,HY,tT,HR,rfl⟩
 case round =>
  clear HY tT HR;obtain⟨y,j,rfl,hy,hj,hR,rfl⟩:=hrel;have q3:0<=y/\y<=8192:=by rw[hy.out];have:=hj.out;have:=HN.out;have:=dF.out;omega
  obtain⟨q30,q31⟩:=q3;have q4:0<=x:=by rw[HX.out];omega
  by_cases h1:a < j
  .have d1:decide (x < y)=true:=decide_eq_true (by rw[hy.out,HX.out];omega);obtain⟨j,rfl⟩:∃ k,j=k+1:=⟨j - 1,by omega⟩;have q0:0<=y - 1:=by rw[hy.out];omega
   have q1:y - 1 < (n:Int):=by rw[hy.out];have:=hj.out;omega
   have p0:=eq_true q0;have p1:=eq_true q1;obtain⟨ad,e0,k0,_⟩:=eD HL.out (y - 1) q0 (by rw[dF.out];exact q1);cases e0
   rw[dn (i:=j) (by rw[hy.out];omega)] at k0;have k1:=k0;rw[show(y - 1).toNat=y.toNat - 1 by omega] at k1;have H1:=aj h1;by_cases h3:(aX l j).f0=2
   .have hg:((aX l j).f0 == 2)=true:=(by simp[h3]);have HQ:=aj (show gE l a j=R by have:=hR.out;unfold gE at this;rw[if_pos ⟨h1,h3⟩] at this;exact this);generalize (aX l j).f0=g at *;clear h1 h3;go_wp2;go_roundw
    case rel=>exact⟨y - 1,j,rfl,⟨by rw[hy.out];omega⟩,⟨by have:=hj.out;have:=H1.out;omega⟩,HQ,(by first|rfl|trivial)⟩
    case measure=>have:=H1.out;have:=hy.out;simp[intOf];omega
   .have hg:((aX l j).f0 == 2)=false:=(by simpa using h3);have HQ:=aj (show j+1=R by have:=hR.out;unfold gE at this;rw[if_neg (fun q=>h3 q.2)] at this;exact this);have HD:=aj (Lc HL.out dF.out (show a<=R/\R<=n by have:=HQ.out;have:=hj.out;omega) HC.out);have hcf:¬ c=a:=(by have:=HC.out;have:=hj.out;omega);rw[if_neg hcf] at HD;have hcx:¬ c=x.toNat:=(by rw[HX.out];simpa using hcf);have q5:x<=y:=(by rw[HX.out,hy.out];omega);have q6:y<=(n:Int):=(by rw[hy.out];have:=hj.out;omega);have q7:(n:Int)<=(c:Int):=(by have:=HC.out;omega);have q8:n<=c:=HC.out;have q9:y<=(c:Int):=(by omega);have HE:=aj (show x.toNat=a/\y.toNat=R by rw[HX.out,hy.out];have:=HQ.out;exact⟨by omega,by omega⟩);generalize (aX l j).f0=g at *;clear h1 h3 hcf;go_wp2;go_ret;exact⟨⟨_,by rw[HE.out.1,HE.out.2];rfl,HD.out⟩,rfl⟩
  .have d1:decide (x < y)=false:=decide_eq_false (by rw[hy.out,HX.out];omega);have hja:j=a:=by have:=hj.out;omega
   have HQ:=aj (show a=R by have:=hR.out;rw[hja,Dm] at this;exact this);have HD:=aj (Lc HL.out dF.out (show a<=R/\R<=n by have:=HQ.out;have:=hj.out;omega) HC.out);have q5:x<=y:=by rw[HX.out,hy.out];omega
   have q6:y<=(n:Int):=by rw[hy.out];have:=hj.out;omega
   have q7:(n:Int)<=(c:Int):=by have:=HC.out;omega
   have q8:n<=c:=HC.out;have q9:y<=(c:Int):=by omega
   have HE:=aj (show x.toNat=a/\y.toNat=R by rw[HX.out,hy.out];have:=HQ.out;exact⟨by omega,by omega⟩);have HJ:=aj (show a<=n by have:=hj.out;omega);by_cases hcf:c=a
   .rw[if_pos hcf] at HD;have hcx:c=x.toNat:=(by rw[HX.out];simpa using hcf);have V3:=aj hcf;clear h1 hja hcf;cases A with
    | none =>
     have c0:c=0:=HA.out rfl;subst c0;go_wp2;go_ret;exact⟨⟨_,by rw[HE.out.1,HE.out.2];have hz:=V3.out;subst hz;rfl,HD.out⟩,rfl⟩
    | some ad =>
     go_wp2;go_ret;exact⟨⟨_,by rw[HE.out.1,HE.out.2];have hz:=V3.out;subst hz;rw[Nat.sub_self];rfl,HD.out⟩,rfl⟩
   .rw[if_neg hcf] at HD;have hcx:¬ c=x.toNat:=(by rw[HX.out];simpa using hcf);have V3:=aj hcf;have HJA:=aj hja;clear h1 hja hcf;cases A with
    | none=>exact absurd (show c=a by have:=HA.out rfl;have:=HC.out;have:=HJ.out;omega) V3.out
    | some ad =>
     go_wp2;go_ret;exact⟨⟨_,by rw[HE.out.1,HE.out.2];rfl,HD.out⟩,rfl⟩
theorem Ld(e:S75)(h:e.f0≠2):gE [e] 0 1=1:=by
 unfold gE;rw[if_neg (fun q=>h q.2)]
theorem t_(x:Int)(h:0<=x):x < eM x/\eM x<=x+48:=by unfold eM;omega
theorem sP(e:S75)(x:Int)(ad:Addr)(c:Nat)(w:World)(hl:Kd.C k75 w (some ad) 1 [e])(hc:1<=c)(he:cY e)(h4:e.f0=4)(h0:0<=x)(h1:x<=4095) :
  Calls Tryz.prog 154 #[.slice (some ad) 1 c,.int .i64 0,.int .i64 1,.int .i64 x] w fun r w'=>r=.returned (.tuple #[.int .i64 (eM x - x),.int .i64 0])/\Below w.heap.size w w':=by
 have HL:=aj hl;have HC:=aj hc;have HE:=aj (show ∀ y∈[e],cY y by intro y hy;rw[List.mem_singleton.1 hy];exact he);have HX:=aj (And.intro h0 h1);have HT:=aj (Ld e (by rw[h4];decide));have H4:=aj h4;have HS:=aj (t_ x h0);clear hl hc he h4 h0 h1;go_enter Tryz.func154,Tryz.ntmps154;go_wp2_with (first|(go_at_call 56;go_loud(refine(sO [e] 0 1 (some ad) c _ HL.out HC.out HE.out (by simp) (by omega) (by simp)).mono ?_;rintro e w1 ⟨rfl,hb1⟩;have HL1:=aj (Kd.aM HL.out hb1)))|(go_at_call 141;go_loud(refine(sC x HX.out _).mono ?_;rintro e w2 ⟨rfl,hb2⟩))|(go_at_call 57;go_loud(refine(qB [e] 0 1 1 (some ad) c _ (fun q=>by cases q) (Kd.aM HL1.out hb2) HC.out (by simp) (by omega) (by simp) HT.out).mono ?_;rintro e w3 ⟨⟨A',rfl,HL3⟩,q_⟩;subst q_)));have Ft:=aj (show Kd.C k75 w3 A' 1 [e] from HL3);have HB3:=aj (hb1.trans (hb2.mono hb1.size));clear HL3 hb1 hb2;go_loopw [11,30] (fun v11 v30 wr=>∃ (q:Int) (j:Nat),v30=.int .i64 q/\v11=.int .i64 (if j=0 then x else eM x)/\aC (q=(j:Int))/\aC (j<=1)/\aC (Below w.heap.size w wr)/\aC (Below w3.heap.size w3 wr)) (fun _ v30 _=>1 - (intOf v30).toNat)
 case atStart=>exact⟨0,0,rfl,rfl,⟨rfl⟩,⟨by omega⟩,HB3,⟨Below.refl _ _⟩⟩
 case round =>
  obtain⟨q,j,rfl,rfl,hq,hj,HB,E9⟩:=hrel;by_cases hj0:j=0
  .subst hj0;obtain rfl:q=0:=hq.out;simp only[if_true];obtain⟨J1,e0,k0,k1,k2,k3,k4,k5,k6,k7⟩:=eD (Kd.aM Ft.out E9.out) 0 (by omega) (by omega);cases e0
   have hA0:J1.add ((0:Int).toNat * 8)=J1:=by cases J1;rfl
   rw[hA0] at k0 k1 k2 k3 k4 k5 k6 k7;have hrd:fL [e] 0=e:=rfl;rw[hrd] at k0 k1 k2 k3 k4 k5 k6 k7;have g1:(e.f0 == 1)=false:=by rw[H4.out];rfl
   have g2:(e.f0 == 2)=false:=by rw[H4.out];rfl
   have g4:(e.f0 == 4)=true:=by rw[H4.out];rfl
   clear hA0;go_wp2_with ((go_at_call 171;go_loud(refine(E7 x _ HX.out.1 (by have:=HX.out;omega)).mono ?_;rintro r w5 ⟨rfl,hb5⟩)));go_roundw
   case rel=>exact⟨1,1,rfl,rfl,⟨rfl⟩,⟨by omega⟩,⟨(HB.out.alloc HB.out.size _).trans (hb5.mono (HB.out.alloc HB.out.size _).size)⟩,⟨(E9.out.alloc E9.out.size _).trans (hb5.mono (E9.out.alloc E9.out.size _).size)⟩⟩
   case measure=>simp[intOf]
  .have hj1:j=1:=by have:=hj.out;omega
   subst hj1;obtain rfl:q=1:=hq.out;have d1:decide ((1:Int) < 1)=false:=by decide
   obtain⟨T,hT⟩:∃ T,eM x=T:=⟨_,rfl⟩;have HT2:=aj hT;rw[if_neg (by decide),hT];have t1:x < T/\T<=x+48:=by rw[<-hT];exact HS.out
   obtain⟨t10,t11⟩:=t1;have t2:0<=x/\x<=4095:=HX.out;obtain⟨t20,t21⟩:=t2;clear hT;go_wp2;go_ret2;exact⟨E8 (c:=0) (by rw[HT2.out]),HB.out⟩
end Go.Proofs.YtcaallkkeighdaaGreatDoor.P
namespace Go.Proofs.YtcaallkkeighdaaGreatDoor.P
open Go.RowKit aD aQ aR
attribute [local go_sem] cN cO dw dA
theorem BK{x:S75}(h:cY x)(a:Int)(h0:0<=a):a<=ke x a/\ke x a<=a+2097152:=by
 have:=h.w;have:=t_ a h0;unfold ke
 (repeat' split)<;>omega
theorem BL(l:List S75)(i:Nat)(at_ R:Int)(A:Option Addr)(c b:Nat)(f v:Value)(w:World)(h:vD w b A c l f v)(hi:i < l.length)(hn:l.length<=8192)(hx:cY (aX l i))(h0:0<=at_)(h1:at_<=1000000000000)(hr:ke (aX l i) at_=R) :
  Calls Tryz.prog 130 #[.pointer (some ⟨b,0,none⟩),.int .i64 (i:Int),.int .i64 at_] w fun e w'=>e=.returned (.int .i64 R)/\Below w.heap.size w w':=by
 obtain⟨hb,hl,hc⟩:=h;have HL:=aj hl;have HC:=aj hc;obtain⟨n,hnn⟩:∃ n,l.length=n:=⟨_,rfl⟩;obtain⟨x,hx'⟩:∃ x:Int,(i:Int)=x:=⟨_,rfl⟩;have dF:=aj hnn;have HX:=aj hx'.symm;rw[hnn] at hb hi hn;rw[hx'];have x0:w.cell? ⟨b,0,none⟩=some (.slice A n c):=(ak hb 0).trans rfl;have q0:0<=x:=by omega
 have q1:x < (n:Int):=by omega
 have q2:x<=8192:=by omega
 have p0:=eq_true q0;have p1:=eq_true q1;obtain⟨ad,e0,k0,k1,k2,k3,_⟩:=eD HL.out x q0 (by rw[dF.out];exact q1);cases e0
 rw[dn HX.out] at k0 k1 k2 k3;have HI:=aj hi;have KL:=aj hx;have HR:=aj hr;have hw:=hx.w;have hk:=hx.k;clear hl hc hb hnn hr hi hx' hx k1 k2;obtain⟨W,hW⟩:∃ W,(aX l i).f3=W:=⟨_,rfl⟩;obtain⟨g,hg⟩:∃ g,(aX l i).f0=g:=⟨_,rfl⟩;rw[hg] at k0 hk;rw[hW] at k3 hw;have HG:=aj (And.intro hg hW);clear hg hW;have HR1:=aj (show(if g=1 then at_+W else if g=2 then at_+W else if g=4 then eM at_ else at_)=R by rw[<-HG.out.1,<-HG.out.2];exact HR.out);obtain⟨hw0,hw1⟩:=hw;by_cases c1:g=1
 .have d1:(g == 1)=true:=by simp[c1]
  have HF:=aj (show R=at_+W by rw[<-HR1.out,if_pos c1]);have e1:wrap64 (at_+W)=at_+W:=dN _ (by omega);clear c1 hk;go_enter Tryz.func130,Tryz.ntmps130;go_wp2;go_ret;exact⟨dh (by rw[HF.out]),Below.refl _ _⟩
 .have d1:(g == 1)=false:=by simpa using c1
  by_cases c2:g=2
  .have d2:(g == 2)=true:=by simp[c2]
   have HF:=aj (show R=at_+W by rw[<-HR1.out,if_neg c1,if_pos c2]);have e1:wrap64 (at_+W)=at_+W:=dN _ (by omega);clear c1 c2 hk;go_enter Tryz.func130,Tryz.ntmps130;go_wp2;go_ret;exact⟨dh (by rw[HF.out]),Below.refl _ _⟩
  .have d2:(g == 2)=false:=by simpa using c2
   by_cases c4:g=4
   .have d4:(g == 4)=true:=(by simp[c4]);have HF:=aj (show R=eM at_ by rw[<-HR1.out,if_neg c1,if_neg c2,if_pos c4]);have HE:=aj (show(aX l i).f0=4 by rw[HG.out.1,c4]);have HD:=aj (show Kd.C k75 w (some (ad.add (i * 8))) 1 [aX l i] by
     have hdp:=Kd.AR (m:=1) (Kd.mW (m:=i) (c:=c) HL.out (by have:=HI.out;have:=dF.out;omega) HC.out) (by rw[List.length_drop];have:=HI.out;have:=dF.out;omega);rw[if_neg (by have:=HI.out;have:=dF.out;have:=HC.out;omega)] at hdp;rw[show(l.drop i).take 1=[aX l i] by rw[sE (by have:=HI.out;have:=dF.out;omega),List.drop_eq_getElem_cons (by have:=HI.out;have:=dF.out;omega)];rfl] at hdp;exact hdp)
    have hcx:¬ c=x.toNat:=(by rw[HX.out];have:=HC.out;have:=HI.out;have:=dF.out;simp;omega);have Sm:=aj (show x.toNat=i by rw[HX.out];rfl);have q5:x<=x+1:=(by omega);have q6:x+1<=(n:Int):=(by omega);have q7:(n:Int)<=(c:Int):=(by have:=HC.out;have:=dF.out;omega);have q8:n<=c:=(by omega);have q9:x+1<=(c:Int):=(by omega);have q3:0<=x+1:=(by omega);have e5:(x+1).toNat - x.toNat=1:=(by omega);have e6:x.toNat+1 - x.toNat=1:=(by omega);have HC2:=aj (show 1<=c - x.toNat by rw[HX.out];have:=HC.out;have:=HI.out;have:=dF.out;simp;omega);by_cases h4:at_<=4095
    .have d5:decide (4095 < at_)=false:=decide_eq_false (by omega);have hm:(if at_ < 4095 then at_ else 4095)=at_:=(by split<;>omega);have hm2:(if 4095 < at_ then 4095 else at_)=at_:=(by split<;>omega);have hm3:(if 4095<=at_ then 4095 else at_)=at_:=(by split<;>omega);have hm4:(if at_<=4095 then at_ else 4095)=at_:=(by split<;>omega);have H4:=aj h4;have H0:=aj h0;have hst:=t_ at_ h0;obtain⟨T,hT⟩:∃ T,eM at_=T:=⟨_,rfl⟩;have HT:=aj hT;rw[hT] at hst;obtain⟨t0,t1⟩:=hst;have e1:wrap64 (at_+(T - at_))=T:=(by rw[dN _ (by omega)];omega);clear c1 c2 c4 hk hw0 hw1 hT;go_enter Tryz.func130,Tryz.ntmps130;go_wp2_with (go_at_call 154;go_loud(rw[Sm.out];refine(sP (aX l i) at_ (ad.add (i * 8)) (c - i) w HD.out (by have:=HC2.out;rw[Sm.out] at this;exact this) KL.out HE.out H0.out H4.out).mono ?_;rintro e w2 ⟨rfl,hb2⟩));go_ret;exact⟨dh (by rw[HF.out,HT.out,e1]),hb2⟩
    .have d5:decide (4095 < at_)=true:=decide_eq_true (by omega);have hm:(if at_ < 4095 then at_ else 4095)=4095:=(by split<;>omega);have hm2:(if 4095 < at_ then 4095 else at_)=4095:=(by split<;>omega);have hm3:(if 4095<=at_ then 4095 else at_)=4095:=(by split<;>omega);have hm4:(if at_<=4095 then at_ else 4095)=4095:=(by split<;>omega);have e1:wrap64 ((at_ / 48+1) * 48)=(at_ / 48+1) * 48:=dN _ (by omega);clear c1 c2 c4 hk hw0 hw1 h4;go_enter Tryz.func130,Tryz.ntmps130;go_wp2_with (go_at_call 154;go_loud(rw[Sm.out];refine(sP (aX l i) 4095 (ad.add (i * 8)) (c - i) w HD.out (by have:=HC2.out;rw[Sm.out] at this;exact this) KL.out HE.out (by omega) (by omega)).mono ?_;rintro e w2 ⟨rfl,hb2⟩));go_ret;exact⟨dh (by rw[HF.out];unfold eM;first|rfl|rw[e1]),hb2⟩
   .have d4:(g == 4)=false:=(by simpa using c4);have HF:=aj (show R=at_ by rw[<-HR1.out,if_neg c1,if_neg c2,if_neg c4]);clear c1 c2 c4 hk;go_enter Tryz.func130,Tryz.ntmps130;go_wp2;go_ret;exact⟨dh (by rw[HF.out]),Below.refl _ _⟩
end Go.Proofs.YtcaallkkeighdaaGreatDoor.P
