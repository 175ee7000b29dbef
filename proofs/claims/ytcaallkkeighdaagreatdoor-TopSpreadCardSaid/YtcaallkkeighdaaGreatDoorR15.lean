/- hyph.word: a word in small letters. hyph.lay: digits laid upon values. Maps that the call has made,read as functions of their keys. The trie: its nodes,their maps,their digits;hyph.add. The trie's digits;hyph.add. slices.Clone of bytes;hyph.add. -/
import Derived.Maps.Own
import Derived.Maps.OwnOps
import Derived.Maps.Views
import Derived.StringKeys
import Derived.WalkSpells
import Derived.Test.YtcaallkkeighdaaGreatDoorR12
set_option maxRecDepth 100000
set_option maxHeartbeats 16000000
set_option linter.unusedVariables false
set_option linter.unusedSimpArgs false
namespace Go.Proofs.YtcaallkkeighdaaGreatDoor.P
open Go.RowKit aD aQ aR
def jC(c:Int):Bool:=decide (97<=c/\c<=122)
theorem jc(c:Int)(w:World):Calls Tryz.prog 165 #[.int .u8 c] w fun e w'=>e=.returned (.bool (jC c))/\w'=w:=by
 by_cases h1:97<=c
 .have d1:decide (97<=c)=true:=decide_eq_true h1;have HF:=aj (show jC c=decide (c<=122) by unfold jC;simp[h1]);clear h1;go_enter Tryz.func165,Tryz.ntmps165;go_wp2;go_ret;exact⟨dQ HF.out,rfl⟩
 .have d1:decide (97<=c)=false:=decide_eq_false h1;have HF:=aj (show jC c=false by unfold jC;simp[h1]);clear h1;go_enter Tryz.func165,Tryz.ntmps165;go_wp2;go_ret;exact⟨dQ HF.out,rfl⟩
def BB(w:World)(g:Nat)(xs:List Int)(pad:List Value)(fr:Nat × Nat):Prop:=w.heap[g]? = some (.cells ((xs.map (Value.int .u8)) ++ pad).toArray 5 fr)/\xs.length<=fr.1
theorem BB.cell{w:World}{g:Nat}{xs:List Int}{pad:List Value}{fr:Nat × Nat}(h:BB w g xs pad fr){i:Nat}(hi:i < xs.length):w.cell? ⟨g,i,none⟩=some (.int .u8 (xs.getD i 0)):=by
 rw[cell_of_row w g i _ 5 fr h.1];simp[List.getElem?_append_left (show i < (xs.map (Value.int .u8)).length by simpa using hi),List.getElem?_eq_getElem hi,List.getD_eq_getElem?_getD]
theorem BB.frozen{w:World}{g:Nat}{xs:List Int}{pad:List Value}{fr:Nat × Nat}(h:BB w g xs pad fr){i:Nat}(hi:i < xs.length):w.frozen? ⟨g,i,none⟩=false:=by
 have:=h.2;obtain⟨lo,hi'⟩:=fr;simp only[World.frozen?,h.1];have:¬ lo<=i:=by simp at this;omega
 simp[this]
theorem BB.put{w:World}{g:Nat}{xs:List Int}{pad:List Value}{fr:Nat × Nat}(h:BB w g xs pad fr){i:Nat}(hi:i < xs.length)(v:Int):BB (w.setCell ⟨g,i,none⟩ (.int .u8 v)) g (xs.set i v) pad fr:=by
 refine⟨?_,by rw[List.length_set];exact h.2⟩;have h1:(w.setCell ⟨g,i,none⟩ (.int .u8 v)).heap[g]? = some (.cells (((xs.map (Value.int .u8)) ++ pad).toArray.setIfInBounds i (.int .u8 v)) 5 fr):=by
  simp[World.setCell,Array.getElem?_modify,h.1]
 rw[h1]
 congr 2
 apply Array.toList_inj.1;rw[Array.toList_setIfInBounds];simp only;rw[List.set_append_left _ _ (by simpa using hi),List.map_set]
theorem BB.reads{w:World}{g:Nat}{xs:List Int}{pad:List Value}{fr:Nat × Nat}(h:BB w g xs pad fr)(hn:xs.length<=9223372036854775807):dZ w .u8 (some ⟨g,0,none⟩) xs.length xs :=
 ⟨rfl,hn,fun _=>⟨_,rfl,fun j hj=>by rw[add_plain];exact h.cell hj⟩⟩
theorem BB.new(w:World)(s:ByteArray):∃ pad fr,BB (Lib.bytesWorld w 5 s) w.heap.size (bytesOf s) pad fr:=by
 refine⟨(Array.replicate (grownCap w s.size 0 5 - s.size) (.int .u8 0)).toList,((Lib.bytesCells w 5 s).size,(Lib.bytesCells w 5 s).size+1),?_,?_⟩
 .rw[Lib.bytesWorld_at_new]
  congr 2
  apply Array.toList_inj.1;simp[Lib.bytesCells,bytesOf]
 .rw[ef];simp[Lib.bytesCells]
def Bz(c:Int):Int:=if 65<=c/\c<=90 then c+32 else c
def lQ(xs:List Int)(i:Nat):List Int:=(xs.take i).map Bz ++ xs.drop i
theorem tW(xs:List Int)(i:Nat):(lQ xs i).length=xs.length:=by unfold lQ;rw[List.length_append,List.length_map,List.length_take,List.length_drop];omega
theorem C8(xs:List Int)(i:Nat)(h:i < xs.length):(lQ xs i).getD i 0=xs.getD i 0:=by
 unfold lQ;rw[List.getD_eq_getElem?_getD,List.getD_eq_getElem?_getD,List.getElem?_append_right (by rw[List.length_map,List.length_take];omega)];rw[List.length_map,List.length_take,List.getElem?_drop]
 congr 2
 omega
theorem zW(xs:List Int)(i:Nat)(h:i < xs.length):(lQ xs i).set i (Bz (xs.getD i 0))=lQ xs (i+1):=by
 unfold lQ;rw[List.set_append_right _ _ (by rw[List.length_map,List.length_take];omega),List.length_map,List.length_take,show i - min i xs.length=0 by omega,List.drop_eq_getElem_cons h,List.set_cons_zero,List.take_succ_eq_append_getElem h,List.map_append,List.append_assoc];simp[List.getD_eq_getElem?_getD,List.getElem?_eq_getElem h]
theorem Fl(xs:List Int)(i:Nat)(h:i < xs.length)(hl:Bz (xs.getD i 0)=xs.getD i 0):lQ xs i=lQ xs (i+1):=by
 rw[<-zW xs i h,hl];refine(List.ext_getElem? fun k=>?_);rw[List.getElem?_set];split
 .rename_i hk
  subst hk;rw[<-C8 xs i h,List.getD_eq_getElem?_getD,if_pos (by rw[tW];exact h),List.getElem?_eq_getElem (by rw[tW];exact h)];rfl
 .rfl
theorem Ip(xs:List Int):lQ xs xs.length=xs.map Bz:=by unfold lQ;simp
def sK(s:ByteArray):List Int:=(bytesOf s).map Bz
theorem xq(s:ByteArray)(w:World)(h1:1<=s.size)(h2:s.size<=64)(hl:∀ i:Nat,i < s.size->fP (bt s (i:Int))=true):Calls Tryz.prog 137 #[.string s] w fun e w'=>e=.returned (.tuple #[.string (strOfNums (sK s)),.bool true])/\Below w.heap.size w w':=by
 have d1:decide ((s.size:Int) < 1)=false:=decide_eq_false (by omega);have d2:decide (64 < (s.size:Int))=false:=decide_eq_false (by omega);have d3:decide (64 < s.size)=false:=decide_eq_false (by omega);have kb:=fun W=>f_ (P:=Tryz.prog) 9 133 5 Tryz.underlying9 Tryz.underlying133 Tryz.underlying5 s W
 have HL:=aj hl;have H2:=aj (And.intro h1 h2);obtain⟨pad,fr,rF⟩:=BB.new w s;have qx:=aj rF;have HB0:=aj (fE (Below.refl w.heap.size w) (Nat.le_refl _) 5 s);obtain⟨n,hn⟩:∃ n,s.size=n:=⟨_,rfl⟩;have HN:=aj hn;have yQ:=aj (show(bytesOf s).length=n by rw[ef,hn]);clear hl h1 h2 rF hn;go_enter Tryz.func137,Tryz.ntmps137;go_upto_region 4 with(fail);generalize Lib.bytesWorld w 5 s=W1 at *;rw[HN.out];go_wp2;go_loopw [19] (fun v19 wr=>∃ (x:Int) (i:Nat),v19=.int .i64 x/\aC (x=(i:Int))/\aC (i<=n)/\aC (BB wr w.heap.size (lQ (bytesOf s) i) pad fr)/\aC (Below w.heap.size w wr)) (fun v19 _=>n - (intOf v19).toNat)
 case atStart=>exact⟨0,0,rfl,⟨rfl⟩,⟨Nat.zero_le _⟩,⟨by unfold lQ;simpa using qx.out⟩,HB0⟩
 case round =>
  obtain⟨x,i,rfl,hx,hi,hB,hW⟩:=hrel;have x0:0<=x:=by rw[hx.out];omega
  have nQ:=aj (show(lQ (bytesOf s) i).length=n by rw[tW];exact yQ.out);by_cases hlt:i < n
  .have d9:decide (x < (n:Int))=true:=decide_eq_true (by rw[hx.out];omega);have q1:x < (n:Int):=by rw[hx.out];omega
   have q2:x<=64:=by rw[hx.out];have:=H2.out;have:=HN.out;omega
   have p0:=eq_true x0;have p1:=eq_true q1;have cg:=aj hlt;have hxi:x.toNat=i:=by rw[hx.out];rfl
   obtain⟨c,hc⟩:∃ c,(bytesOf s).getD i 0=c:=⟨_,rfl⟩;have hcb:c=bt s (i:Int):=by rw[<-hc,<-gU];rfl
   have BA:=HL.out i (by rw[HN.out];exact hlt);rw[<-hcb] at BA;have VT:(97<=c/\c<=122)\/(65<=c/\c<=90):=by unfold fP at BA;simpa using BA
   have k0:wr.cell? ⟨w.heap.size,x.toNat,none⟩=some (.int .u8 c):=by rw[hxi,hB.out.cell (by rw[nQ.out];exact hlt),C8 _ _ (by rw[yQ.out];exact hlt),hc]
   have f0:=hB.out.frozen (i:=i) (by rw[nQ.out];exact hlt);rw[<-hxi] at f0;have vP:=aj hc;have KL:=aj hxi;clear hc hcb BA hxi;by_cases hu:65<=c/\c<=90
   .obtain⟨u0,u1⟩:=hu;have e1:decide (65<=c)=true:=decide_eq_true u0;have e2:decide (c<=90)=true:=decide_eq_true u1;have zh:=aj (show Bz ((bytesOf s).getD i 0)=c+32 by rw[vP.out];unfold Bz;rw[if_pos ⟨u0,u1⟩]);have e3:c+97 - 65=c+32:=(by omega);have wN:=aj (show jC (c+32)=true by unfold jC;exact decide_eq_true (by omega));clear hlt VT;go_wp2_with (go_at_call 165;go_loud(refine(jc (c+32) _).mono ?_;rintro e w7 ⟨rfl,q_⟩;have q_:=q_.symm;subst q_;rw[wN.out]));go_roundw
    case rel =>
     have hp:=hB.out.put (i:=i) (by rw[nQ.out];exact cg.out) (c+32);rw[<-zh.out,zW _ _ (by rw[yQ.out];exact cg.out),zh.out] at hp;exact⟨x+1,i+1,rfl,⟨by rw[hx.out];omega⟩,⟨cg.out⟩,⟨by rw[KL.out];exact hp⟩,⟨hW.out.setCell (Nat.le_refl _) _⟩⟩
    case measure=>have:=cg.out;have:=hx.out;simp[intOf];omega
   .have hs97:97<=c/\c<=122:=(by omega);have wN:=aj (show jC c=true by unfold jC;exact decide_eq_true hs97);have zh:=aj (show Bz ((bytesOf s).getD i 0)=(bytesOf s).getD i 0 by rw[vP.out];unfold Bz;rw[if_neg hu]);have e1:decide (65<=c)=true:=decide_eq_true (by omega);have e2:decide (c<=90)=false:=decide_eq_false (by omega);clear hlt VT hu hs97;go_wp2_with (go_at_call 165;go_loud(refine(jc c _).mono ?_;rintro e w7 ⟨rfl,q_⟩;have q_:=q_.symm;subst q_;rw[wN.out]));go_roundw
    case rel=>exact⟨x+1,i+1,rfl,⟨by rw[hx.out];omega⟩,⟨cg.out⟩,⟨by rw[<-Fl _ _ (by rw[yQ.out];exact cg.out) zh.out];exact hB.out⟩,hW⟩
    case measure=>have:=cg.out;have:=hx.out;simp[intOf];omega
  .have d9:decide (x < (n:Int))=false:=decide_eq_false (by rw[hx.out];omega);have hin:i=n:=by have:=hi.out;omega
   have Pk:=aj (show dZ wr .u8 (some ⟨w.heap.size,0,none⟩) n (sK s) by
    have h1:=hB.out.reads (by rw[nQ.out];have:=H2.out;have:=HN.out;omega);rw[nQ.out,hin,<-yQ.out,Ip] at h1;rw[<-yQ.out];exact h1)
   have kc:=fun cc=>iU (P:=Tryz.prog) (src:=133) (dst:=9) (c:=cc) Tryz.underlying133 Tryz.underlying5 Tryz.underlying9 Pk.out
   clear hlt hin;go_wp2;go_ret2;exact⟨rfl,hW.out⟩
theorem Iq(s:ByteArray)(w:World)(h2:64 < s.size):Calls Tryz.prog 137 #[.string s] w fun e w'=>e=.returned (.tuple #[.string ⟨#[]⟩,.bool false])/\w'=w:=by
 have d1:decide ((s.size:Int) < 1)=false:=decide_eq_false (by omega);have d2:decide (64 < (s.size:Int))=true:=decide_eq_true (by omega);have d3:decide (64 < s.size)=true:=decide_eq_true (by omega);go_enter Tryz.func137,Tryz.ntmps137;go_wp2;go_ret2;exact⟨rfl,rfl⟩
end Go.Proofs.YtcaallkkeighdaaGreatDoor.P
namespace Go.Proofs.YtcaallkkeighdaaGreatDoor.P
open Go.RowKit aD aQ aR
attribute [local go_sem] cN cO dw dA
def VB(w:World)(g:Nat)(xs:List Int):Prop:=w.heap[g]? = some (.cells ((xs.map (Value.int .u8))).toArray 5 (0,0))
theorem VB.cell{w:World}{g:Nat}{xs:List Int}(h:VB w g xs){i:Nat}(hi:i < xs.length):w.cell? ⟨g,i,none⟩=some (.int .u8 (xs.getD i 0)):=by
 rw[ak h i];simp[List.getElem?_eq_getElem hi,List.getD_eq_getElem?_getD]
theorem VB.put{w:World}{g:Nat}{xs:List Int}(h:VB w g xs)(i:Nat)(v:Int):VB (w.setCell ⟨g,i,none⟩ (.int .u8 v)) g (xs.set i v) :=
 aN h i _ (by apply Array.toList_inj.1;simp[List.map_set])
def eC(vs:List Int)(a:Nat)(ds:List Int):Nat->List Int
 | 0=>vs
 | i+1=>(eC vs a ds i).set (a+i) (if (eC vs a ds i).getD (a+i) 0 < ds.getD i 0 then ds.getD i 0 else (eC vs a ds i).getD (a+i) 0)
theorem jD(vs:List Int)(a:Nat)(ds:List Int):∀ i,(eC vs a ds i).length=vs.length
 | 0=>rfl
 | i+1=>by simp only[eC,List.length_set];exact jD vs a ds i
theorem Ir(g m c a n:Nat)(vs ds:List Int)(A:Option Addr)(w:World)(hv:VB w g vs)(hn:vs.length=n)(hd:dZ w .u8 A m ds)(hA:∀ ad,A=some ad->ad.block≠g)(ha:a+m<=n)(hm:n<=1000) :
  Calls Tryz.prog 140 #[.slice (some ⟨g,0,none⟩) n n,.int .i64 (a:Int),.slice A m c] w fun e w'=>(∃ u,e=.returned u)/\VB w' g (eC vs a ds m)/\fB (Eq g) w w':=by
 have HV:=aj hv;have HN:=aj hn;have HD:=aj hd;have HA:=aj hA;have VU:=aj (And.intro ha hm);obtain⟨x,hx⟩:∃ x:Int,(a:Int)=x:=⟨_,rfl⟩;have HX:=aj hx.symm;rw[hx];clear hv hn hd hA ha hm hx;go_enter Tryz.func140,Tryz.ntmps140;go_wp2;go_loopw [10] (fun v10 wr=>∃ (y:Int) (i:Nat),v10=.int .i64 y/\aC (y=(i:Int))/\aC (i<=m)/\aC (VB wr g (eC vs a ds i))/\aC (fB (Eq g) w wr)) (fun v10 _=>m - (intOf v10).toNat)
 case atStart=>exact⟨0,0,rfl,⟨rfl⟩,⟨Nat.zero_le _⟩,HV,⟨fB.refl _ _⟩⟩
 case round =>
  obtain⟨y,i,rfl,hy,hi,hV,hF⟩:=hrel;by_cases hlt:i < m
  .have d9:decide (y < (m:Int))=true:=decide_eq_true (by rw[hy.out];omega);have q0:0<=y:=by rw[hy.out];omega
   have q1:y < (m:Int):=by rw[hy.out];omega
   have p0:=eq_true q0;have p1:=eq_true q1;have q2:0<=x+y:=by rw[hy.out,HX.out];omega
   have q3:x+y < (n:Int):=by rw[hy.out,HX.out];have:=VU.out;omega
   have q4:x+y<=1000:=by have:=VU.out;omega
   have q5:y<=1000:=by have:=VU.out;omega
   have p2:=eq_true q2;have p3:=eq_true q3;have e5:(x+y).toNat=a+i:=by rw[hy.out,HX.out];omega
   obtain⟨ad,e,hcell⟩:=HD.out.at_ y q0 q1;cases e
   have k0:wr.cell? (ad.add y.toNat)=some (.int .u8 (rd ds y)):=hF.out.cell hcell (by rw[tK];exact(fun q=>HA.out ad rfl q.symm));have hrd:rd ds y=ds.getD i 0:=by rw[hy.out];unfold rd;simp
   rw[hrd] at k0;have cg:=aj hlt;have hal:a+i < (eC vs a ds i).length:=by rw[jD,HN.out];have:=VU.out;omega
   have k1:wr.cell? ⟨g,(x+y).toNat,none⟩=some (.int .u8 ((eC vs a ds i).getD (a+i) 0)):=by rw[e5];exact hV.out.cell hal
   have f1:=aB hV.out (x+y).toNat;have HST:=aj (show eC vs a ds (i+1)=(eC vs a ds i).set (a+i) (if (eC vs a ds i).getD (a+i) 0 < ds.getD i 0 then ds.getD i 0 else (eC vs a ds i).getD (a+i) 0) from rfl);have HE5:=aj e5;generalize (eC vs a ds i).getD (a+i) 0=c1 at *;generalize ds.getD i 0=c2 at *;clear hlt hcell hrd hal e5;go_wp2;go_roundw
   case rel=>exact⟨y+1,i+1,rfl,⟨by rw[hy.out];omega⟩,⟨cg.out⟩,⟨by rw[HE5.out,HST.out];exact hV.out.put (a+i) _⟩,⟨hF.out.set _ _ _ (.inl rfl)⟩⟩
   case measure=>have:=cg.out;have:=hy.out;simp[intOf];omega
  .have d9:decide (y < (m:Int))=false:=decide_eq_false (by rw[hy.out];omega);have him:i=m:=by have:=hi.out;omega
   subst him;clear hlt;go_wp2;go_end0;exact⟨⟨_,rfl⟩,hV.out,hF.out⟩
end Go.Proofs.YtcaallkkeighdaaGreatDoor.P
namespace Go.Proofs.YtcaallkkeighdaaGreatDoor.P
open Go.RowKit aD aQ aR
def RV(v:Value):Option (DataW Value × List MemPlace):=some (.held v,[])
def KM:DataW Value->Bool
 | .held _=>true
 | _=>false
def Sr(F:Lit->Option Value)(kl:Lit)(zd:DataW Value):DataW Value:=match F kl with|none=>zd|some v=>.held v
def MF(w:World)(k:TypeId)(b n:Nat)(F:Lit->Option Value):Prop:=∃ D:DataW Value,w.ownsMap Tryz.prog k RV b n D/\Maps.IsMap D/\∀ kl zd,D.atKey kl zd=Sr F kl zd
theorem MF.made(w:World)(k:TypeId):MF (w.alloc (.map #[] 0)) k w.heap.size 0 (fun _=>none):=⟨.map [],World.ownsMap_made w _ _ _,Maps.isMap_empty,fun kl zd=>by simp[DataW.atKey,Sr]⟩
theorem MF.kept{w w':World}{k:TypeId}{b n:Nat}{F:Lit->Option Value}{row:Option Nat}(h:MF w k b n F)(hg:w.grownBy w' row)(hne:some b≠row):MF w' k b n F:=by
 obtain⟨D,h1,h2,h3⟩:=h;exact⟨D,h1.kept hg hne,h2,h3⟩
theorem MF.lt{w:World}{k:TypeId}{b n:Nat}{F:Lit->Option Value}(h:MF w k b n F):b < w.heap.size:=by
 obtain⟨D,h1,_⟩:=h;exact h1.lt
theorem MF.block{w w':World}{k:TypeId}{b n:Nat}{F:Lit->Option Value}(h:MF w k b n F)(hb:w'.heap[b]? = w.heap[b]?):MF w' k b n F:=by
 obtain⟨D,⟨es,clock,e1,e2,e3,e4⟩,h2,h3⟩:=h;exact⟨D,⟨es,clock,hb.trans e1,e2,e3,e4⟩,h2,h3⟩
theorem MF.isMap{w:World}{k:TypeId}{b n:Nat}{F:Lit->Option Value}(h:MF w k b n F):∃ es cl,w.heap[b]? = some (.map es cl):=by
 obtain⟨D,⟨es,clock,e1,_⟩,_⟩:=h;exact⟨es,clock,e1⟩
theorem MF.mono{w:World}{k:TypeId}{b n m:Nat}{F:Lit->Option Value}(h:MF w k b n F)(hm:n<=m):MF w k b m F:=by
 obtain⟨D,h1,h2,h3⟩:=h;exact⟨D,h1.mono hm,h2,h3⟩
theorem MF.look{w:World}{k:TypeId}{b n:Nat}{F:Lit->Option Value}(h:MF w k b n F)(K:Maps.Keyed Tryz.prog k){t e:TypeId}(ht:Tryz.prog.underlying t=some (.map k e)){z:Value}(hz:(zeroValue e).run Tryz.prog w=.ok z w){key:Value}{kl:Lit}(hkey:keyOf Tryz.prog k key=some kl)(c:Bool) :
  (Instr.lookup t (.map (some b)) key c).run Tryz.prog w=.ok (if c then .tuple #[(F kl).getD z,.bool (F kl).isSome] else (F kl).getD z) w:=by
 obtain⟨D,⟨es,clock,hb,Fi,hs,rfl⟩,_,h3⟩:=h;rcases Maps.fit_look c K ht hz hb Fi hkey with⟨e1,_,e2⟩|⟨e0,y,_,_,e1,hy,e2,_⟩
 .have hn:F kl=none:=by
   cases hF:F kl with
   | none=>rfl
   | some v =>
    have:=(h3 kl .nil).symm.trans (e2 .nil);unfold Sr at this;rw[hF] at this;exact absurd (congrArg KM this) (by intro q;cases q)
  rw[e1,hn];rfl
 .have hn:F kl=some e0.val:=by
   unfold RV at hy;have hy2:y=(.held e0.val,[]):=(Option.some.inj hy).symm;have:=(h3 kl .nil).symm.trans (e2 .nil);unfold Sr at this;rw[hy2] at this;cases hF:F kl with
   | none=>rw[hF] at this;exact absurd (congrArg KM this) (by intro q;cases q)
   | some v=>rw[hF] at this;exact congrArg some (DataW.held.inj this)
  rw[e1,hn];rfl
def sM(F:Lit->Option Value)(kl:Lit)(v:Value):Lit->Option Value:=fun x=>if x.sameKey kl=true then some v else F x
theorem pV{F:Lit->Option Value}{kl:Lit}{v:Value}(h:WideAt.IsKeyLit kl):sM F kl v kl=some v:=by unfold sM;rw[if_pos (WideAt.sameKey_self h)]
theorem k_{F:Lit->Option Value}{kl x:Lit}{v:Value}(h:x≠kl):sM F kl v x=F x:=by unfold sM;rw[if_neg (by rw[Maps.sameKey_ne h];decide)]
theorem MF.update{w:World}{k:TypeId}{b n:Nat}{F:Lit->Option Value}(h:MF w k b n F)(K:Maps.Keyed Tryz.prog k){t e:TypeId}(ht:Tryz.prog.underlying t=some (.map k e))(hn:n < maxLen){key val:Value}{kl:Lit}(hkey:keyOf Tryz.prog k key=some kl) :
  ∃ w',(Instr.mapUpdate t (.map (some b)) key val).run Tryz.prog w=.ok () w'/\MF w' k b (n+1) (sM F kl val)/\w.grownBy w' (some b):=by
 obtain⟨D,h1,h2,h3⟩:=h;obtain⟨w',e1,e2,e3⟩:=h1.update K ht hn (d:=.held val) (ps:=[]) hkey rfl;refine⟨w',e1,⟨_,e2,h2.put _ _,fun x zd=>?_⟩,e3⟩;by_cases hx:x=kl
 .subst hx;unfold Sr;rw[pV (K.key hkey)];exact Maps.atKey_put_same h2 (K.key hkey) _ _
 .unfold Sr;rw[k_ hx,Maps.atKey_put_other hx];exact h3 x zd
theorem MF.store{w:World}{ops:Array Oper}{rest:List Oper}{o:Oper}{a:Act}{Q:Exit->Act->World->Prop}(hg:o.guard=none)(m x v:Operand)(t:TypeId)(hop:o.op=Op.mapUpdate t m x v)
  {k e:TypeId} {b n:Nat} {F:Lit->Option Value} (h:MF w k b n F) (K:Maps.Keyed Tryz.prog k) (ht:Tryz.prog.underlying t=some (.map k e)) (hn:n < maxLen) (hm:a.eval m=.map (some b)) {key val:Value} {kl:Lit} (hx:a.eval x=key) (hv:a.eval v=val) (hkey:keyOf Tryz.prog k key=some kl)
  (hK:∀ w',MF w' k b (n+1) (sM F kl val)->w.grownBy w' (some b)->wpList Tryz.prog ops Q rest (a.put o.dst undef) w'):wpList Tryz.prog ops Q (o :: rest) a w:=by
 refine wpList_plain hg fun K' hK'=>?_
 obtain⟨w',hrun,r1,r2⟩:=h.update K ht hn (val:=val) hkey;unfold Oper.wp;simp[execOp,hop,hm,hx,hv,hrun,Result.andThen];exact hK' _ _ (hK w' r1 r2)
end Go.Proofs.YtcaallkkeighdaaGreatDoor.P
namespace Go.Proofs.YtcaallkkeighdaaGreatDoor.P
open Go.RowKit aD aQ aR
attribute [local go_sem] cN cO dw dA
def upd{α:Type}(f:Nat->α)(k:Nat)(v:α):Nat->α:=fun x=>if x=k then v else f x
theorem bh{α:Type}(f:Nat->α)(k:Nat)(v:α):upd f k v k=v:=if_pos rfl
theorem aL{α:Type}(f:Nat->α){k x:Nat}(v:α)(h:x≠k):upd f k v x=f x:=if_neg h
structure Tr where
 n:Nat
 hm:Nat->Bool
 nx:Nat->Int->Option Nat
 dg:Nat->Option (List Int)
def jv(nb:Nat->Nat)(f:Int->Option Nat):Lit->Option Value
 | .int .u8 c=>(f c).map (fun j=>.pointer (some ⟨nb j,0,none⟩))
 | _=>none
def vA(db dc:Nat->Nat)(k:Nat):Option (List Int)->Value
 | none=>.slice none 0 0
 | some ds=>.slice (some ⟨db k,0,none⟩) ds.length (dc k)
def zj(mb:Nat->Nat)(k:Nat)(b:Bool):Value:=.map (if b=true then some (mb k) else none)
structure iC(w:World)(B:Nat)(t:Tr)(nb mb db dc:Nat->Nat):Prop where
 node:∀ k,k < t.n->w.heap[nb k]? = some (.cells #[zj mb k (t.hm k),vA db dc k (t.dg k)] 228 (0,0))
 map:∀ k,k < t.n->t.hm k=true->MF w 5 (mb k) t.n (jv nb (t.nx k))
 qz:∀ k,k < t.n->t.hm k=false->∀ c,t.nx k c=none
 Iu:∀ k,k < t.n->∀ ds,t.dg k=some ds->w.ownsRow B 5 1 (vA db dc k (some ds)) ds.length (ds.map (Value.int .u8))
 base:∀ k,k < t.n->B<=nb k/\(t.hm k=true->B<=mb k)
 ni:∀ i j,i < t.n->j < t.n->nb i=nb j->i=j
 mi:∀ i j,i < t.n->j < t.n->t.hm i=true->t.hm j=true->mb i=mb j->i=j
 di:∀ i j,i < t.n->j < t.n->t.dg i≠none->t.dg j≠none->db i=db j->i=j
structure qd(t:Tr)(dep:Nat->Nat):Prop where
 pos:0 < t.n
 root:dep 0=0
 nx:∀ k c j,k < t.n->t.nx k c=some j->j < t.n/\dep j=dep k+1
 dg:∀ k ds,k < t.n->t.dg k=some ds->ds.length=dep k+1
theorem iC.below{w w':World}{B:Nat}{t:Tr}{nb mb db dc:Nat->Nat}(h:iC w B t nb mb db dc)(hb:Below w.heap.size w w'):iC w' B t nb mb db dc :=
 ⟨fun k hk=>ay (h.node k hk) hb,fun k hk hm=>(h.map k hk hm).block (hb.block _ (h.map k hk hm).lt),h.qz,fun k hk ds hd=>(h.Iu k hk ds hd).kept (row:=none) ⟨hb.os,hb.tape,hb.output,hb.size,fun i hi _=>hb.block i hi⟩ (by cases hv:(vA db dc k (some ds)).ownBlock with
  | none=>exact .inl rfl
  | some r=>exact .inr (by simp)),h.base,h.ni,h.mi,h.di⟩
theorem GR(mb:Nat->Nat)(k:Nat):zj mb k false=.map none:=rfl
theorem mI(mb:Nat->Nat)(k:Nat):zj mb k true=.map (some (mb k)):=rfl
theorem iC.Pm{w:World}{B:Nat}{t:Tr}{nb mb db dc:Nat->Nat}(h:iC w B t nb mb db dc){k:Nat}(hk:k < t.n){ds:List Int}(hd:t.dg k=some ds):∃ cs,w.heap[db k]? = some (.cells cs 5 (0,0)):=by
 have:=eW (h.Iu k hk ds hd) (db k) (by simp[vA,Value.ownBlock]);exact this
theorem iC.QA{w:World}{B:Nat}{t:Tr}{nb mb db dc:Nat->Nat}(h:iC w B t nb mb db dc)(hB:B<=w.heap.size){k:Nat}(hk:k < t.n)(hm:t.hm k=false) :
  iC ((w.alloc (.map #[] 0)).setCell ⟨nb k,0,none⟩ (.map (some w.heap.size))) B { t with hm:=upd t.hm k true } nb (upd mb k w.heap.size) db dc:=by
 have hlt:∀ i,i < t.n->nb i < w.heap.size:=fun i hi=>aY (h.node i hi)
 have h1:Below w.heap.size w (w.alloc (.map #[] 0)):=(Below.refl _ _).alloc (Nat.le_refl _) _;have hoth:∀ b,b≠nb k->((w.alloc (.map #[] 0)).setCell ⟨nb k,0,none⟩ (.map (some w.heap.size))).heap[b]? = (w.alloc (.map #[] 0)).heap[b]?:=fun b hb=>Below.heap_setCell _ ⟨nb k,0,none⟩ _ b hb
 refine⟨fun i hi=>?_,fun i hi hm'=>?_,fun i hi hm'=>?_,fun i hi ds hd=>?_,fun i hi=>⟨(h.base i hi).1,fun hm'=>?_⟩,h.ni,fun i j hi hj Ng QB e=>?_,h.di⟩
 .dsimp only;by_cases hik:i=k
  .subst hik;rw[show upd t.hm i true i=true from bh _ _ _];exact aN (ay (h.node i hi) h1) 0 _ (by simp[zj,bh])
  .rw[show upd t.hm k true i=t.hm i from aL _ _ hik,hoth _ (fun e=>hik (h.ni i k hi hk e)),ay (h.node i hi) h1];simp[zj,aL _ _ hik]
 .by_cases hik:i=k
  .subst hik;rw[show upd mb i w.heap.size i=w.heap.size from bh _ _ _];have:=(MF.made w 5).block (hoth w.heap.size (by have:=hlt i hi;omega));refine MF.mono (n:=0) ?_ (Nat.zero_le _);have e:jv nb (t.nx i)=fun _=>none:=by
    funext kl;unfold jv;split
    .rw[h.qz i hi hm];rfl
    .rfl
   show MF _ 5 _ 0 (jv nb (t.nx i));rw[e];exact this
  .have hm2:t.hm i=true:=by rw[<-hm'];exact(aL _ _ hik).symm
   rw[show upd mb k w.heap.size i=mb i from aL _ _ hik];have hM:=h.map i hi hm2;obtain⟨es,cl,hM2⟩:=hM.isMap;refine hM.block ((hoth _ (fun e=>?_)).trans (h1.block _ hM.lt));rw[e,h.node k hk] at hM2;cases hM2
 .dsimp only at hm' ⊢;by_cases hik:i=k
  .subst hik;rw[show upd t.hm i true i=true from bh _ _ _] at hm';cases hm'
  .exact h.qz i hi (by rw[<-hm'];exact(aL _ _ hik).symm)
 .have hD:=(h.Iu i hi ds hd).alloc (.map #[] 0);obtain⟨cs,hc⟩:=h.Pm hi hd;refine hD.kept (grownBy_setCell' _ _ _) (.inr fun e=>?_);have e2:db i=nb k:=by simpa [vA,Value.ownBlock] using e
  rw[e2,h.node k hk] at hc;cases hc
 .by_cases hik:i=k
  .subst hik;rw[show upd mb i w.heap.size i=w.heap.size from bh _ _ _];exact hB
  .rw[show upd mb k w.heap.size i=mb i from aL _ _ hik];exact(h.base i hi).2 (by rw[<-hm'];exact(aL _ _ hik).symm)
 .by_cases hik:i=k
  .by_cases hjk:j=k
   .rw[hik,hjk]
   .have Xd:t.hm j=true:=(by rw[<-QB];exact(aL _ _ hjk).symm);rw[hik,bh,aL _ _ hjk] at e;have:=(h.map j hj Xd).lt;omega
  .have S8:t.hm i=true:=by rw[<-Ng];exact(aL _ _ hik).symm
   by_cases hjk:j=k
   .rw[hjk,bh,aL _ _ hik] at e;have:=(h.map i hi S8).lt;omega
   .rw[aL _ _ hik,aL _ _ hjk] at e;exact h.mi i j hi hj S8 (by rw[<-QB];exact(aL _ _ hjk).symm) e
theorem KN{nb:Nat->Nat}{f:Int->Option Nat}{n b:Nat}(h:∀ c j,f c=some j->j < n):jv (upd nb n b) f=jv nb f:=by
 funext kl;unfold jv;split
 .rename_i c
  cases hf:f c with
  | none=>rfl
  | some j=>simp only[Option.map_some];rw[aL nb b (by have:=h c j hf;omega)]
 .rfl
theorem Iw{nb:Nat->Nat}{f:Int->Option Nat}{n b:Nat}{c:Int}(h:∀ d j,f d=some j->j < n):jv (upd nb n b) (fun d=>if d=c then some n else f d)=sM (jv nb f) (.int .u8 c) (.pointer (some ⟨b,0,none⟩)):=by
 funext kl;by_cases hk:kl=.int .u8 c
 .subst hk;rw[pV (show WideAt.IsKeyLit (.int .u8 c) from trivial)];simp[jv,bh]
 .rw[k_ hk];unfold jv;split
  .rename_i d
   have hd:d≠c:=fun e=>hk (by rw[e])
   dsimp only;rw[if_neg hd];cases hf:f d with
   | none=>rfl
   | some j=>simp only[Option.map_some];rw[aL nb b (by have:=h d j hf;omega)]
  .rfl
def jR(t:Tr)(k:Nat)(c:Int):Tr:={ n:=t.n+1,hm:=upd t.hm t.n false,nx:=upd (upd t.nx k (fun d=>if d=c then some t.n else t.nx k d)) t.n (fun _=>none),dg:=upd t.dg t.n none }
theorem qd.jR{t:Tr}{dep:Nat->Nat}(h:qd t dep){k:Nat}(hk:k < t.n)(c:Int):qd (jR t k c) (upd dep t.n (dep k+1)):=by
 refine⟨Nat.succ_pos _,by rw[aL _ _ (by have:=h.pos;omega)];exact h.root,fun i d j hi e=>?_,fun i ds hi e=>?_⟩
 .dsimp only[P.jR] at e hi ⊢;by_cases hin:i=t.n
  .rw[hin,bh] at e;cases e
  .rw[aL _ _ hin] at e;by_cases hik:i=k
   .rw[hik,bh] at e;have e1:upd dep t.n (dep k+1) k=dep k:=aL _ _ (by omega);rw[hik,e1];split at e
    .obtain rfl:=Option.some.inj e;exact⟨by omega,bh _ _ _⟩
    .have:=h.nx k d j hk e;exact⟨by omega,(aL _ _ (by omega)).trans this.2⟩
   .rw[aL _ _ hik] at e;have:=h.nx i d j (by omega) e;have e1:upd dep t.n (dep k+1) i=dep i:=aL _ _ (by omega);rw[e1];exact⟨by omega,(aL _ _ (by omega)).trans this.2⟩
 .dsimp only[P.jR] at e hi ⊢;by_cases hin:i=t.n
  .rw[hin,bh] at e;cases e
  .rw[aL _ _ hin] at e;rw[aL dep _ hin];exact h.dg i ds (by omega) e
theorem iC.addNode{w w':World}{B:Nat}{t:Tr}{nb mb db dc:Nat->Nat}{dep:Nat->Nat}(h:iC w B t nb mb db dc)(hw:qd t dep)(hB:B<=w.heap.size){k:Nat}(hk:k < t.n)(hm:t.hm k=true){c:Int}
  (hg:(w.alloc (.cells #[.map none,.slice none 0 0] 228)).grownBy w' (some (mb k))) (hM:MF w' 5 (mb k) (t.n+1) (sM (jv nb (t.nx k)) (.int .u8 c) (.pointer (some ⟨w.heap.size,0,none⟩)))) :
  iC w' B (jR t k c) (upd nb t.n w.heap.size) mb db dc:=by
 have hlt:∀ i,i < t.n->nb i < w.heap.size:=fun i hi=>aY (h.node i hi)
 have h1:Below w.heap.size w (w.alloc (.cells #[.map none,.slice none 0 0] 228)):=(Below.refl _ _).alloc (Nat.le_refl _) _;have hkm:=(h.map k hk hm).isMap;obtain⟨es,cl,hkm⟩:=hkm;have hoth:∀ b,b < w.heap.size->b≠mb k->w'.heap[b]? = w.heap[b]?:=fun b hb hne=>(hg.block b (by simp;omega) (fun e=>hne (by cases e;rfl))).trans (h1.block b hb)
 have hnm:∀ i,i < t.n->nb i≠mb k:=fun i hi e=>by
  have:=h.node i hi;rw[e,hkm] at this;cases this
 refine⟨fun i hi=>?_,fun i hi hm'=>?_,fun i hi hm'=>?_,fun i hi ds hd=>?_,fun i hi=>?_,fun i j hi hj e=>?_,fun i j hi hj Ng QB e=>?_,fun i j hi hj Fm hdj e=>?_⟩<;>dsimp only[jR] at *
 .by_cases hin:i=t.n
  .subst hin;rw[bh,bh,bh];exact(hg.block _ (by simp) (fun e=>by have:=(h.map k hk hm).lt;have:=Option.some.inj e;omega)).trans (aH _ _)
  .rw[aL _ _ hin,aL _ _ hin,aL _ _ hin];exact(hoth _ (hlt i (by omega)) (hnm i (by omega))).trans (h.node i (by omega))
 .by_cases hin:i=t.n
  .subst hin;rw[bh] at hm';cases hm'
  .rw[aL _ _ hin] at hm';rw[aL (upd t.nx k _) _ hin];by_cases hik:i=k
   .subst hik;rw[bh,Iw (fun d j q=>(hw.nx i d j hk q).1)];exact hM
   .rw[aL t.nx _ hik,KN (fun d j q=>(hw.nx i d j (by omega) q).1)];have Zh:=h.map i (by omega) hm';exact(Zh.mono (Nat.le_succ _)).block (hoth _ Zh.lt (fun e=>hik (h.mi i k (by omega) hk hm' hm e)))
 .by_cases hin:i=t.n
  .subst hin;intro d;rw[bh]
  .rw[aL _ _ hin] at hm';intro d;rw[aL _ _ hin];by_cases hik:i=k
   .subst hik;rw[hm] at hm';cases hm'
   .rw[aL _ _ hik];exact h.qz i (by omega) hm' d
 .by_cases hin:i=t.n
  .subst hin;rw[bh] at hd;cases hd
  .rw[aL _ _ hin] at hd;obtain⟨cs,hc⟩:=h.Pm (by omega) hd;refine((h.Iu i (by omega) ds hd).alloc _).kept hg (.inr fun e=>?_);have e2:db i=mb k:=by simpa [vA,Value.ownBlock] using e
   rw[e2,hkm] at hc;cases hc
 .by_cases hin:i=t.n
  .subst hin;rw[bh,bh];exact⟨hB,fun q=>by cases q⟩
  .rw[aL _ _ hin,aL _ _ hin];exact h.base i (by omega)
 .by_cases hin:i=t.n
  .by_cases hjn:j=t.n
   .rw[hin,hjn]
   .rw[hin,bh,aL _ _ hjn] at e;have:=hlt j (by omega);omega
  .by_cases hjn:j=t.n
   .rw[hjn,bh,aL _ _ hin] at e;have:=hlt i (by omega);omega
   .rw[aL _ _ hin,aL _ _ hjn] at e;exact h.ni i j (by omega) (by omega) e
 .by_cases hin:i=t.n
  .subst hin;rw[bh] at Ng;cases Ng
  .by_cases hjn:j=t.n
   .subst hjn;rw[bh] at QB;cases QB
   .rw[aL _ _ hin] at Ng;rw[aL _ _ hjn] at QB;exact h.mi i j (by omega) (by omega) Ng QB e
 .by_cases hin:i=t.n
  .subst hin;rw[bh] at Fm;exact absurd rfl Fm
  .by_cases hjn:j=t.n
   .subst hjn;rw[bh] at hdj;exact absurd rfl hdj
   .rw[aL _ _ hin] at Fm;rw[aL _ _ hjn] at hdj;exact h.di i j (by omega) (by omega) Fm hdj e
end Go.Proofs.YtcaallkkeighdaaGreatDoor.P
namespace Go.Proofs.YtcaallkkeighdaaGreatDoor.P
open Go.RowKit aD aQ aR
attribute [local go_sem] cN cO dw dA
theorem jS(w:World)(b i:Nat)(v:Value):w.grownBy (w.setCell ⟨b,i,none⟩ v) (some b):=⟨rfl,rfl,rfl,by simp[World.setCell],fun k _ hk=>Below.heap_setCell w ⟨b,i,none⟩ v k (fun e=>hk (by rw[e]))⟩
theorem iC.QC{w:World}{B:Nat}{t:Tr}{nb mb db dc:Nat->Nat}(h:iC w B t nb mb db dc){k:Nat}(hk:k < t.n){ds:List Int}{g cap:Nat}(hrow:w.ownsRow B 5 1 (.slice (some ⟨g,0,none⟩) ds.length cap) ds.length (ds.map (Value.int .u8)))(hg:∀ i,i < t.n->t.dg i≠none->db i≠g) :
  iC (w.setCell ⟨nb k,1,none⟩ (.slice (some ⟨g,0,none⟩) ds.length cap)) B { t with dg:=upd t.dg k (some ds) } nb mb (upd db k g) (upd dc k cap):=by
 have hoth:∀ b,b≠nb k->(w.setCell ⟨nb k,1,none⟩ (.slice (some ⟨g,0,none⟩) ds.length cap)).heap[b]? = w.heap[b]?:=fun b hb=>Below.heap_setCell _ ⟨nb k,1,none⟩ _ b hb
 refine⟨fun i hi=>?_,fun i hi hm'=>?_,h.qz,fun i hi d hd=>?_,h.base,h.ni,h.mi,fun i j hi hj Fm hdj e=>?_⟩<;>dsimp only at *
 .by_cases hik:i=k
  .subst hik;rw[bh];exact aN (h.node i hi) 1 _ (by simp[vA,bh])
  .rw[aL t.dg _ hik,hoth _ (fun e=>hik (h.ni i k hi hk e)),h.node i hi]
   congr 4
   cases t.dg i with
   | none=>rfl
   | some d=>simp[vA,aL _ _ hik]
 .have hM:=h.map i hi hm';obtain⟨es,cl,hM2⟩:=hM.isMap;refine hM.block (hoth _ (fun e=>?_));rw[e,h.node k hk] at hM2;cases hM2
 .by_cases hik:i=k
  .subst hik;rw[bh] at hd;obtain rfl:=Option.some.inj hd;have e:vA (upd db i g) (upd dc i cap) i (some ds)=.slice (some ⟨g,0,none⟩) ds.length cap:=by simp[vA,bh]
   rw[e];refine hrow.kept (jS _ _ _ _) (.inr fun e=>?_);have e2:g=nb i:=by simpa [Value.ownBlock] using e
   obtain⟨cs,hc⟩:=eW hrow g (by simp[Value.ownBlock]);rw[e2,h.node i hi] at hc;cases hc
  .rw[aL _ _ hik] at hd;have e:vA (upd db k g) (upd dc k cap) i (some d)=vA db dc i (some d):=by simp[vA,aL _ _ hik]
   rw[e];obtain⟨cs,hc⟩:=h.Pm hi hd;refine(h.Iu i hi d hd).kept (jS _ _ _ _) (.inr fun e=>?_);have e2:db i=nb k:=by simpa [vA,Value.ownBlock] using e
   rw[e2,h.node k hk] at hc;cases hc
 .by_cases hik:i=k
  .by_cases hjk:j=k
   .rw[hik,hjk]
   .rw[aL t.dg _ hjk] at hdj;rw[hik,bh,aL _ _ hjk] at e;exact absurd e.symm (hg j hj hdj)
  .rw[aL t.dg _ hik] at Fm;by_cases hjk:j=k
   .rw[hjk,bh,aL _ _ hik] at e;exact absurd e (hg i hi Fm)
   .rw[aL t.dg _ hjk] at hdj;rw[aL _ _ hik,aL _ _ hjk] at e;exact h.di i j hi hj Fm hdj e
theorem iC.QD{w:World}{B:Nat}{t:Tr}{nb mb db dc:Nat->Nat}(h:iC w B t nb mb db dc){k:Nat}(hk:k < t.n){ds:List Int}(hd:t.dg k=some ds)(j:Nat)(v:Int) :
  iC (w.setCell ⟨db k,j,none⟩ (.int .u8 v)) B { t with dg:=upd t.dg k (some (ds.set j v)) } nb mb db dc:=by
 obtain⟨cs,hc⟩:=h.Pm hk hd;have hoth:∀ b,b≠db k->(w.setCell ⟨db k,j,none⟩ (.int .u8 v)).heap[b]? = w.heap[b]?:=fun b hb=>Below.heap_setCell _ ⟨db k,j,none⟩ _ b hb
 have hrow:=(h.Iu k hk ds hd);refine⟨fun i hi=>?_,fun i hi hm'=>?_,h.qz,fun i hi d hd'=>?_,h.base,h.ni,h.mi,fun i j hi hj Fm hdj e=>?_⟩<;>dsimp only at *
 .have hne:nb i≠db k:=fun e=>by rw[<-e,h.node i hi] at hc;cases hc
  rw[hoth _ hne,h.node i hi];by_cases hik:i=k
  .subst hik;rw[bh,hd];simp[vA]
  .rw[aL _ _ hik]
 .have hM:=h.map i hi hm';obtain⟨es,cl,hM2⟩:=hM.isMap;refine hM.block (hoth _ (fun e=>?_));rw[e,hc] at hM2;cases hM2
 .by_cases hik:i=k
  .subst hik;rw[bh] at hd';obtain rfl:=Option.some.inj hd';have e:vA db dc i (some (ds.set j v))=vA db dc i (some ds):=by simp[vA]
   rw[e,List.length_set,List.map_set];exact(hrow.stored j (.int .u8 v)).1
  .rw[aL _ _ hik] at hd';refine(h.Iu i hi d hd').kept (jS _ _ _ _) (.inr fun e=>?_);have e2:db i=db k:=by simpa [vA,Value.ownBlock] using e
   exact hik (h.di i k hi hk (by rw[hd'];simp) (by rw[hd];simp) e2)
 .refine h.di i j hi hj ?_ ?_ e
  .by_cases hik:i=k
   .subst hik;rw[hd];simp
   .rwa [aL _ _ hik] at Fm
  .by_cases hjk:j=k
   .subst hjk;rw[hd];simp
   .rwa [aL _ _ hjk] at hdj
def mJ(t:Tr)(k:Nat):List Int->Tr × Nat
 | []=>(t,k)
 | c :: l =>
  let t1:Tr:=if t.hm k=true then t else { t with hm:=upd t.hm k true }
  match t1.nx k c with
  | some j=>mJ t1 j l
  | none=>mJ (jR t1 k c) t1.n l
def jT(t:Tr)(k:Nat)(ds:List Int):Tr:=match t.dg k with
 | none=>{ t with dg:=upd t.dg k (some ds) }
 | some old=>{ t with dg:=upd t.dg k (some (eC old 0 ds ds.length)) }
def C9(t:Tr)(letters ds:List Int):Tr:=jT (mJ t 0 letters).1 (mJ t 0 letters).2 ds
end Go.Proofs.YtcaallkkeighdaaGreatDoor.P
namespace Go.Proofs.YtcaallkkeighdaaGreatDoor.P
open Go.RowKit aD aQ aR
attribute [local go_sem] cN cO dw dA
theorem C_(ad:Addr)(m c:Nat)(ds:List Int)(w:World)(hd:dZ w .u8 (some ad) m ds)(hm:0 < m)(hm2:m<=1000):Calls Tryz.prog 174 #[.slice (some ad) m c] w fun e w'=>∃ g cap,e=.returned (.slice (some ⟨g,0,none⟩) m cap)/\w.heap.size<=g/\w'.ownsRow w.heap.size 5 1 (.slice (some ⟨g,0,none⟩) m cap) m (ds.map (Value.int .u8))/\Below w.heap.size w w':=by
 obtain⟨i0,hi,hz0,hz1,hz2⟩:=info_parts qq;have HD:=aj hd;have HM:=aj (And.intro hm hm2);have yO:=aj hd.1;clear hd hm hm2;have hnl:=Lib.run_eql_slice_nil (P:=Tryz.prog) w 133 5 (some ad) m c 0 0 Tryz.underlying133;go_enter Tryz.func174,Tryz.ntmps174;go_upto_region 3 with(fail);have Pn:(w.alloc (.cells #[] 5)).ownsRow w.heap.size 5 1 (.slice (some ⟨w.heap.size,0,none⟩) 0 0) 0 []:=by
  have:=World.ownsRow_lit (base:=w.heap.size) (e:=5) (size:=1) w #[] 0 (Nat.le_refl _) (by decide) rfl
  simpa using this
 have hcells:∀ j u,(ds.map (Value.int .u8))[j]? = some u->(w.alloc (.cells #[] 5)).cell? (ad.add j)=some u:=by
  intro j u hj;obtain⟨hl,hv⟩:=List.getElem?_eq_some_iff.1 hj;have hl2:j < ds.length:=by simpa using hl
  obtain⟨J1,e,hc⟩:=HD.out.2.2 HM.out.1;cases e
  have:=cM (hc j (by have:=yO.out;omega)) (.cells #[] 5);rw[this,<-hv];simp[List.getD_eq_getElem?_getD,List.getElem?_eq_getElem hl2]
 have HC:=aj hcells;have HR:=aj Pn;clear hcells Pn;go_wp2_with (at_builtin;go_loud(refine wpList_append_own _ rfl _ _ 133 rfl w.heap.size 5 i0 (.int .u8 0) 1 1 Tryz.underlying133 hi hz0 hz1 hz2 rfl (by decide) _ 0 [] rfl HR.out ad m c (ds.map (Value.int .u8)) rfl (by have:=yO.out;simp;omega) HC.out ?_ ?_ ?_ (by simp) ?_;(focus (intro u hu;obtain⟨z,_,rfl⟩:=List.mem_map.1 hu;rfl));(focus (have:=HM.out;simp[maxLen];omega));(focus (have:=HM.out;simp;omega));intro v' w8 hown' hgrow hnil));go_ret;have hv:=hown';rw[Nat.zero_add,List.nil_append] at hv;obtain⟨m',rfl⟩:∃ m',m=m'+1:=⟨m - 1,by have:=HM.out;omega⟩;obtain⟨g,cap,rfl⟩:=ownsRow_succ hv;have hb:Below w.heap.size w w8:=((Below.refl w.heap.size w).alloc (Nat.le_refl _) (.cells #[] 5)).grown hgrow (by simp) (fun k e=>by have:=(HR.out.lt k e).1;exact this);exact⟨g,cap,rfl,fR hv g (by simp[Value.ownBlock]),hv,hb⟩
end Go.Proofs.YtcaallkkeighdaaGreatDoor.P
