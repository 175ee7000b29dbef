/- What metric's functions of bytes answer: the em,the width of a byte and of a text,what shows: for every byte and text. -/
import Derived.Test.YtcaallkkeighdaaGreatDoorR05
import Derived.Test.YtcaallkkeighdaaGreatDoorR01
set_option maxRecDepth 100000
set_option maxHeartbeats 16000000
set_option linter.unusedVariables false
set_option linter.unusedSimpArgs false
namespace Go.Proofs.YtcaallkkeighdaaGreatDoor.P
open Go.RowKit aD aQ aR
def e2(c:Int):Bool:=decide (Lib.indexByte [105,106,108,39,46,44,58,59,33,124] c.toNat.toUInt8>=0)
def e3(c:Int):Bool:=decide (Lib.indexByte [102,116,114,40,41,91,93,123,125,45,34,94,95,126,96,73,32] c.toNat.toUInt8>=0)
def ow(c:Int):Int :=
 if e2 c=true then 2 else if e3 c=true then 3 else if c=109\/c=119 then 7 else if c=77\/c=87 then 8 else if 65<=c/\c<=90 then 6
 else if (97<=c/\c<=122)\/(48<=c/\c<=57) then 5 else if 32 < c/\c<=126 then 6 else 0
theorem Kr(c:Int)(w:World):Calls Tryz.prog 107 #[.int .u8 c] w fun e w'=>e=.returned (.int .i64 (ow c))/\w'=w:=by
 go_enter Tryz.func107,Tryz.ntmps107;go_wp2_with (first|(go_at_call 66;refine(Tryz.strings_IndexByte _ _ _).mono ?_;rintro e w7 ⟨rfl,q_⟩;have q_:=q_.symm;subst q_))
 all_goals (go_ret;refine⟨?_,rfl⟩;show Ending.returned (.int .i64 _)=_;refine congrArg (fun x=>Ending.returned (.int .i64 x)) ?_;unfold ow e2 e3)
 all_goals (first|(simp only[UInt8.ofNat] at *;simp_all;done)|(simp_all;omega)|skip)
theorem CF(c:Int):0<=ow c/\ow c<=8:=by
 unfold ow
 (repeat' split)<;>omega
def fC(c z:Int):Int:=ow c * z / 8
theorem kT(c z:Int)(h0:0<=z)(h1:z<=64):0<=fC c z/\fC c z<=64:=by
 unfold fC;have:=CF c;have h2:0<=ow c * z:=Int.mul_nonneg this.1 h0;have h3:ow c * z<=8 * 64:=Int.mul_le_mul this.2 h1 h0 (by decide);omega
theorem dN(x:Int)(h : -9223372036854775808<=x/\x<=9223372036854775807):wrap64 x=x:=by unfold wrap64;omega
theorem qJ(c z:Int)(w:World)(h0:0<=z)(h1:z<=64):Calls Tryz.prog 62 #[.int .u8 c,.int .i64 z] w fun e w'=>e=.returned (.int .i64 (fC c z))/\w'=w:=by
 go_enter Tryz.func62,Tryz.ntmps62;go_wp2_with (first|(go_at_call 107;refine(Kr _ _).mono ?_;rintro e w7 ⟨rfl,q_⟩;have q_:=q_.symm;subst q_));go_ret;refine⟨?_,rfl⟩;have:=CF c;have h2:0<=ow c * z:=Int.mul_nonneg this.1 h0;have h3:ow c * z<=8 * 64:=Int.mul_le_mul this.2 h1 h0 (by decide);show Ending.returned (.int .i64 _)=_;refine congrArg (fun x=>Ending.returned (.int .i64 x)) ?_;unfold fC;rw[dN (ow c * z) (by omega),Int.tdiv_eq_ediv_of_nonneg h2,dN _ (by omega)]
def fJ(s:ByteArray)(z:Int):Nat->Nat->Int
 | 0,_=>0
 | d+1,i=>fC (bt s (i:Int)) z+fJ s z d (i+1)
def ox(s:ByteArray)(z:Int):Int:=fJ s z s.size 0
theorem jh(s:ByteArray)(z:Int)(h0:0<=z)(h1:z<=64):∀ d i,0<=fJ s z d i/\fJ s z d i<=64 * (d:Int)
 | 0,i=>⟨Int.le_refl _,Int.le_refl _⟩
 | d+1,i=>by
  have:=jh s z h0 h1 d (i+1);have h2:=kT (bt s (i:Int)) z h0 h1;simp only[fJ];omega
theorem wJ(s:ByteArray)(z:Int)(w:World)(h0:0<=z)(h1:z<=64)(hs:s.size<=4096):Calls Tryz.prog 63 #[.string s,.int .i64 z] w fun e w'=>e=.returned (.int .i64 (ox s z))/\Below w.heap.size w w':=by
 have kb:=fun W=>f_ (P:=Tryz.prog) 9 133 5 Tryz.underlying9 Tryz.underlying133 Tryz.underlying5 s W
 go_enter Tryz.func63,Tryz.ntmps63;go_wp2
 go_loopw [5,11] (fun v5 v11 wr=>∃ (y x:Int) (i:Nat),v5=.int .i64 y/\v11=.int .i64 x/\aC (x=(i:Int))/\aC (i<=s.size)/\aC (y+fJ s z (s.size - i) i=ox s z)/\aC (0<=y/\y<=64 * (i:Int))/\aC (dZ wr .u8 (some ⟨w.heap.size,0,none⟩) s.size (bytesOf s))/\aC (Below w.heap.size w wr))
  (fun _ v11 _=>s.size - (intOf v11).toNat)
 case atStart=>exact⟨0,0,0,rfl,rfl,⟨rfl⟩,⟨Nat.zero_le _⟩,⟨by unfold ox;simp⟩,⟨by simp⟩,⟨oq w 5 s (by omega)⟩,⟨fE (Below.refl _ _) (Nat.le_refl _) 5 s⟩⟩
 case round =>
  clear kb;obtain⟨y,x,i,rfl,rfl,hx,hi,hy,WU,hrd,hB⟩:=hrel;have x0:0<=x:=by rw[hx.out];omega
  by_cases hlt:i < s.size
  .have b1:decide (x < (s.size:Int))=true:=decide_eq_true (by rw[hx.out];omega);have x1:x<=4095:=by rw[hx.out];omega
   have q1:x < (s.size:Int):=by rw[hx.out];omega
   obtain⟨ad,e,hcell⟩:=hrd.out.at_ x x0 q1;cases e
   rw[gU] at hcell;have hcz:wr.cell? ⟨w.heap.size,x.toNat,none⟩=some (.int .u8 (bt s x)):=by rw[<-hcell,add_plain]
   clear hcell;have hstep:fJ s z (s.size - i) i=fC (bt s x) z+fJ s z (s.size - (i+1)) (i+1):=by
    rw[show s.size - i=(s.size - (i+1))+1 from by omega];simp only[fJ];rw[hx.out]
   have HS:=aj hstep;have hw:=kT (bt s x) z h0 h1;have HW:=aj hw;have hs1:wrap64 (y+fC (bt s x) z)=y+fC (bt s x) z:=by have:=WU.out;exact dN _ (by omega)
   clear hstep hw;go_wp2_with (first|(go_at_call 62;refine(qJ _ _ _ h0 h1).mono ?_;rintro e w7 ⟨rfl,q_⟩;have q_:=q_.symm;subst q_));go_roundw
   case rel=>exact⟨_,x+1,i+1,rfl,by first|rfl|simp,⟨by rw[hx.out];omega⟩,⟨by omega⟩,⟨by first|(rw[hs1];have h2:=hy.out;have h3:=HS.out;omega)|(have h2:=hy.out;have h3:=HS.out;omega)⟩,⟨by first|(rw[hs1];have h2:=WU.out;have h3:=HW.out;omega)|(have h2:=WU.out;have h3:=HW.out;omega)⟩,⟨⟨hrd.out.1,hrd.out.2.1,hrd.out.2.2⟩⟩,hB⟩
   case measure=>have:=hx.out;simp[intOf];omega
  .have b1:decide (x < (s.size:Int))=false:=decide_eq_false (by rw[hx.out];omega);go_wp2;go_ret;refine⟨?_,hB.out⟩;show Ending.returned (.int .i64 y)=_;have:=hy.out;rw[show s.size - i=0 from by omega] at this;simp only[fJ] at this;rw[<-this];simp
def jM(s:ByteArray):Nat->Nat->Bool
 | 0,_=>true
 | d+1,i=>if bt s (i:Int)<=32\/126 < bt s (i:Int) then false else jM s d (i+1)
def gN(s:ByteArray)(m:Int):Bool:=jM s s.size 0 && decide ((s.size:Int)<=m)
theorem CG(s:ByteArray)(m:Int)(w:World)(hs:s.size<=maxLen):Calls Tryz.prog 69 #[.string s,.int .i64 m] w fun e w'=>e=.returned (.bool (gN s m))/\Below w.heap.size w w':=by
 unfold maxLen at hs;have kb:=fun W=>f_ (P:=Tryz.prog) 9 133 5 Tryz.underlying9 Tryz.underlying133 Tryz.underlying5 s W
 go_enter Tryz.func69,Tryz.ntmps69;go_wp2
 go_loopw [10] (fun v10 wr=>∃ (x:Int) (i:Nat),v10=.int .i64 x/\aC (x=(i:Int))/\aC (i<=s.size)/\aC (jM s (s.size - i) i=jM s s.size 0)/\aC (dZ wr .u8 (some ⟨w.heap.size,0,none⟩) s.size (bytesOf s))/\aC (Below w.heap.size w wr))
  (fun v10 _=>s.size - (intOf v10).toNat)
 case atStart=>exact⟨0,0,rfl,⟨rfl⟩,⟨Nat.zero_le _⟩,⟨by simp⟩,⟨oq w 5 s (by omega)⟩,⟨fE (Below.refl _ _) (Nat.le_refl _) 5 s⟩⟩
 case round =>
  clear kb;obtain⟨x,i,rfl,hx,hi,hy,hrd,hB⟩:=hrel;have x0:0<=x:=by rw[hx.out];omega
  by_cases hlt:i < s.size
  .have b1:decide (x < (s.size:Int))=true:=decide_eq_true (by rw[hx.out];omega);have q1:x < (s.size:Int):=by rw[hx.out];omega
   have x1:x<=9223372036854775806:=by omega
   obtain⟨ad,e,hcell⟩:=hrd.out.at_ x x0 q1;cases e
   rw[gU] at hcell;have hcz:wr.cell? ⟨w.heap.size,x.toNat,none⟩=some (.int .u8 (bt s x)):=by rw[<-hcell,add_plain]
   clear hcell;have hstep:jM s (s.size - i) i=if bt s x<=32\/126 < bt s x then false else jM s (s.size - (i+1)) (i+1):=by
    rw[show s.size - i=(s.size - (i+1))+1 from by omega];simp only[jM];rw[hx.out]
   have HS:=aj hstep;have hxw:wrap64 (x+1)=x+1:=dN _ (by omega);clear hstep;by_cases e1:bt s x<=32
   .have d1:decide (bt s x<=32)=true:=decide_eq_true e1;have E1:=aj e1;clear e1;go_wp2;go_ret;refine⟨?_,hB.out⟩;show Ending.returned (.bool false)=_;unfold gN;rw[<-hy.out,HS.out,if_pos (.inl E1.out)];rfl
   .have d1:decide (bt s x<=32)=false:=decide_eq_false e1;have E1:=aj e1;clear e1;by_cases e2:126 < bt s x
    .have d2:decide (126 < bt s x)=true:=decide_eq_true e2;have E2:=aj e2;clear e2;go_wp2;go_ret;refine⟨?_,hB.out⟩;show Ending.returned (.bool false)=_;unfold gN;rw[<-hy.out,HS.out,if_pos (.inr E2.out)];rfl
    .have d2:decide (126 < bt s x)=false:=decide_eq_false e2;have E2:=aj e2;clear e2;go_wp2;go_roundw
     case rel=>exact⟨_,i+1,rfl,⟨by first|(rw[hxw,hx.out];omega)|(rw[hx.out];omega)⟩,⟨by omega⟩,⟨by rw[<-hy.out,HS.out,if_neg (fun q=>q.elim E1.out E2.out)]⟩,⟨⟨hrd.out.1,hrd.out.2.1,hrd.out.2.2⟩⟩,hB⟩
     case measure=>have:=hx.out;simp[intOf,hxw];omega
  .have b1:decide (x < (s.size:Int))=false:=decide_eq_false (by rw[hx.out];omega);go_wp2;go_ret;refine⟨?_,hB.out⟩;show Ending.returned (.bool (decide _))=_;unfold gN;rw[<-hy.out,show s.size - i=0 from by omega];simp[jM]
def cU(s:ByteArray)(z:Int):Int × Int:=if z < 1\/64 < z then (0,5) else if 4096 < s.size then (0,3) else (ox s z,0)
theorem Bd(z:Int):gA.f z=some (decide (1<=z/\z<=64)):=by
 unfold gA.f;by_cases h1:1<=z<;>by_cases h2:z<=64<;>simp[h1,h2]
theorem lN(s:ByteArray)(z:Int)(w:World):Calls Tryz.prog 65 #[.string s,.int .i64 z] w fun e w'=>e=.returned (.tuple #[.int .i64 (cU s z).1,.int .i64 (cU s z).2])/\Below w.heap.size w w':=by
 by_cases h:1<=z/\z<=64
 .have b1:decide (1<=z/\z<=64)=true:=decide_eq_true h;by_cases h2:4096 < s.size
  .have b2:decide (4096 < (s.size:Int))=true:=decide_eq_true (by omega);have hf:cU s z=(0,3):=by unfold cU;rw[if_neg (by omega),if_pos h2]
   rw[hf];clear h h2 hf;go_enter Tryz.func65,Tryz.ntmps65;go_wp2_with (first|(go_at_call 109;refine(gA.calls _ _ _ (Bd z)).mono ?_;rintro e w7 ⟨rfl,⟨nd,rfl⟩⟩));go_ret2;exact⟨rfl,by repeat(first|exact Below.refl _ _|apply aA|apply aG)⟩
  .have b2:decide (4096 < (s.size:Int))=false:=decide_eq_false (by omega);have hf:cU s z=(ox s z,0):=by unfold cU;rw[if_neg (by omega),if_neg h2]
   have HZ:=aj h;have HS:=aj h2;rw[hf];clear h h2 hf;go_enter Tryz.func65,Tryz.ntmps65;go_wp2_with (first|(go_at_call 109;refine(gA.calls _ _ _ (Bd z)).mono ?_;rintro e w7 ⟨rfl,⟨nd,rfl⟩⟩)|(go_at_call 63;refine(wJ _ _ _ (by have:=HZ.out;omega) HZ.out.2 (by have:=HS.out;omega)).mono ?_;rintro e w8 ⟨rfl,hb8⟩));go_ret2;exact⟨rfl,by first|exact hb8|exact(aA (Below.refl _ _) _).trans hb8⟩
 .have b1:decide (1<=z/\z<=64)=false:=decide_eq_false h;have hf:cU s z=(0,5):=by unfold cU;rw[if_pos (by omega)]
  rw[hf];clear h hf;go_enter Tryz.func65,Tryz.ntmps65;go_wp2_with (first|(go_at_call 109;refine(gA.calls _ _ _ (Bd z)).mono ?_;rintro e w7 ⟨rfl,⟨nd,rfl⟩⟩));go_ret2;exact⟨rfl,by repeat(first|exact Below.refl _ _|apply aA|apply aG)⟩
end Go.Proofs.YtcaallkkeighdaaGreatDoor.P
