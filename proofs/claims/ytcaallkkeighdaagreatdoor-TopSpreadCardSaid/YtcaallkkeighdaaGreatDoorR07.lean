/- What metric.nearer and metric.props answer: for every pair of bytes and all properties. -/
import Derived.Outline
import Derived.Deep.DeepFit
import Derived.Test.YtcaallkkeighdaaGreatDoorR06
set_option maxRecDepth 100000
set_option maxHeartbeats 16000000
set_option linter.unusedVariables false
set_option linter.unusedSimpArgs false
namespace Go.Proofs.YtcaallkkeighdaaGreatDoor.P
open Go.RowKit aD aQ aR
def l9(s:ByteArray)(a b:Int):Nat->Nat->Bool
 | 0,_=>false
 | d+1,i=>if i+1 < s.size then (if bt s (i:Int)=a/\bt s ((i+1:Nat):Int)=b then true else l9 s a b d (i+3)) else false
theorem Ks(s:ByteArray)(a b:Int)(hs:s.size<=4096):∀ d i,i<=s.size+3->s.size<=3 * d+i->aT.l0 (d+1) s a b (i:Int)=some (l9 s a b d i)
 | 0,i,hi,h=>by
  simp only[aT.l0,l9];rw[if_neg (by rw[dN _ (by omega)];omega)]
 | d+1,i,hi,h=>by
  rw[aT.l0,l9];by_cases h1:i+1 < s.size
  .have e1:wrap64 ((i:Int)+1)=((i+1:Nat):Int):=by rw[dN _ (by omega)];omega
   have e3:wrap64 ((i:Int)+3)=((i+3:Nat):Int):=by rw[dN _ (by omega)];omega
   have ih:=Ks s a b hs d (i+3) (by omega) (by omega);rw[e1,e3,if_pos (by omega),if_pos (by omega),if_pos (by omega),if_pos h1,ih];have p0:(0:Int)<=((i+1:Nat):Int):=by omega
   by_cases h2:bt s (i:Int)=a
   .by_cases h3:bt s ((i+1:Nat):Int)=b
    .rw[if_pos h2,if_pos p0,if_pos h3,if_pos ⟨h2,h3⟩]
    .rw[if_pos h2,if_pos p0,if_neg h3,if_neg (fun q=>h3 q.2)]
   .rw[if_neg h2,if_neg (fun q=>h2 q.1)]
  .rw[if_neg (by rw[dN _ (by omega)];omega),if_neg h1]
def tO:ByteArray:=⟨#[65,84,32,65,86,32,65,87,32,65,89,32,84,65,32,86,65,32,87,65,32,89,65,32,76,84,32,76,86,32,76,89,32,80,65,32,84,111,32,84,97,32,84,101,32,86,111,32,86,97,32,89,111,32,89,97,32]⟩
def qK:ByteArray:=⟨#[114,46,32,114,44,32,102,46,32,102,44,32,118,46,32,121,46,32,65,118,32,65,121,32,111,118,32,118,111,32]⟩
def rU(a b:Int):Int:=if l9 qK a b 20 0=true then 1 else if l9 tO a b 20 0=true then 2 else 0
def kU(a b z:Int):Int:=-(rU a b * z / 16)
theorem oy(a b:Int):0<=rU a b/\rU a b<=2:=by unfold rU;(repeat' split)<;>omega
theorem EP(a b z:Int)(h0:0<=z)(h1:z<=64) : -8<=kU a b z/\kU a b z<=0:=by
 unfold kU;have hk:=oy a b;have h2:0<=rU a b * z:=Int.mul_nonneg hk.1 h0;have h3:rU a b * z<=2 * 64:=Int.mul_le_mul hk.2 h1 h0 (by decide);omega
theorem pr1(a b:Int):aT.f 21 qK a b=some (l9 qK a b 20 0):=Ks qK a b (by decide) 20 0 (by decide) (by decide)
theorem pr2(a b:Int):aT.f 21 tO a b=some (l9 tO a b 20 0):=Ks tO a b (by decide) 20 0 (by decide) (by decide)
theorem Qk(a b z:Int)(h0:0<=z)(h1:z<=64):iL.f 21 a b z=some (kU a b z):=by
 have e1:=pr1 a b;have e2:=pr2 a b;have key:∀ k:Int,0<=k->k<=2->wrap64 (-(wrap64 (Int.tdiv (wrap64 (k * z)) 16))) = -(k * z / 16):=by
  intro k k0 k1;have h2:0<=k * z:=Int.mul_nonneg k0 h0;have h3:k * z<=2 * 64:=Int.mul_le_mul k1 h1 h0 (by decide);rw[dN (k * z) (by omega),Int.tdiv_eq_ediv_of_nonneg h2,dN (k * z / 16) (by omega),dN _ (by omega)]
 have hu:iL.f 21 a b z=(aT.f 21 tO a b).bind (fun t=>if t=true then (aT.f 21 qK a b).bind (fun t=>if t=true then some (wrap64 (-(wrap64 (Int.tdiv (wrap64 (1 * z)) 16)))) else some (wrap64 (-(wrap64 (Int.tdiv (wrap64 (2 * z)) 16))))) else (aT.f 21 qK a b).bind fun t=>if t=true then some (wrap64 (-(wrap64 (Int.tdiv (wrap64 (1 * z)) 16)))) else some (wrap64 (-(wrap64 (Int.tdiv (wrap64 (0 * z)) 16))))):=rfl;rw[hu,e1,e2];unfold kU rU;simp only[Option.bind_some];by_cases c1:l9 qK a b 20 0=true<;>by_cases c2:l9 tO a b 20 0=true<;>simp only[c1,c2,if_true,if_false,Bool.false_eq_true]<;>first|rw[key 1 (by omega) (by omega)]|rw[key 2 (by omega) (by omega)]|rw[key 0 (by omega) (by omega)]
theorem ER(a b z:Int)(w:World)(h0:0<=z)(h1:z<=64):Calls Tryz.prog 64 #[.int .u8 a,.int .u8 b,.int .i64 z] w fun e w'=>e=.returned (.int .i64 (kU a b z))/\aU w w' :=
 iL.calls 21 a b z _ w (Qk a b z h0 h1)
structure Pr where
 f0:Int
 f1:Int
 f2:Int
 f3:Int
 f4:Int
 f5:Int
 f6:Int
 f7:Int
 f8:Int
 f9:Int
 f10:Int
 f11:Int
 f12:Int
 f13:Int
 f14:Int
 f15:Int
 f16:Int
def Pr.bounds(p:Pr):List (Int × Int × Int):=[(p.f0,1,64),(p.f1,1,255),(p.f2,0,3),(p.f3,0,255),(p.f4,0,255),(p.f5,0,255),(p.f6,0,255),(p.f7,0,255),(p.f8,0,1),(p.f9,0,1),(p.f10,1,4),(p.f11,1,4),(p.f12,0,1),(p.f13,0,1),(p.f14,0,4),(p.f15,0,8),(p.f16,0,3)]
def dW(b:Int × Int × Int):Bool:=!(decide (b.1 < b.2.1) || decide (b.2.2 < b.1))
def Pr.ok(p:Pr):Bool:=p.bounds.all dW
theorem ix17(A:Array Value)(j:Int)(i:Nat)(hj:j=(i:Int))(hi:i < 17)(x y z:Value)(hA:A.extract (i * 3) (i * 3+3)=#[x,y,z])(W:World):(Instr.index 177 (.agg A) (.int .i64 j)).run Tryz.prog W=.ok (.agg #[x,y,z]) W:=by
 have hs:∀ W,(sizeOf 176).run Tryz.prog W=.ok 3 W:=fun W=>by kernel_rfl
 subst hj;simp[Instr.index,asIntOf,run_underlying Tryz.underlying177,hi,hs,go_sem];exact hA
theorem CH(p:Pr)(w:World):Calls Tryz.prog 68 #[.agg #[.int .i64 p.f0,.int .i64 p.f1,.int .i64 p.f2,.int .i64 p.f3,.int .i64 p.f4,.int .i64 p.f5,.int .i64 p.f6,.int .i64 p.f7,.int .i64 p.f8,.int .i64 p.f9,.int .i64 p.f10,.int .i64 p.f11,.int .i64 p.f12,.int .i64 p.f13,.int .i64 p.f14,.int .i64 p.f15,.int .i64 p.f16]] w fun e w'=>e=.returned (.bool p.ok)/\Below w.heap.size w w':=by
 have HP:=aj (show p.ok=(p.bounds.drop 0).all dW from rfl);generalize hpo:p.ok=po at *;clear hpo;go_enter Tryz.func68,Tryz.ntmps68;go_upto_region 1 with(first|((with_reducible refine aS (N:=1) rfl ?_);go_loud(refine cK ?hg (N:=1) ?hd (cs:=#[.int .i64 p.f0,.int .i64 p.f1,.int .i64 p.f2,.int .i64 p.f3,.int .i64 p.f4,.int .i64 p.f5,.int .i64 p.f6,.int .i64 p.f7,.int .i64 p.f8,.int .i64 p.f9,.int .i64 p.f10,.int .i64 p.f11,.int .i64 p.f12,.int .i64 p.f13,.int .i64 p.f14,.int .i64 p.f15,.int .i64 p.f16]) (t:=24) ?hr ?_;(case hd=>rfl);(case hg=>rfl);(case hr=>first|(go_simp;done)|(go_simp;rfl));intro gb0 hg0 w0 hx0 hb0;have HX:=aj hx0;have HB:=aj hb0;have x0:=(ak HX.out 0).trans rfl;have x1:=(ak HX.out 1).trans rfl;have x2:=(ak HX.out 2).trans rfl;have x3:=(ak HX.out 3).trans rfl;have x4:=(ak HX.out 4).trans rfl;have x5:=(ak HX.out 5).trans rfl;have x6:=(ak HX.out 6).trans rfl;have x7:=(ak HX.out 7).trans rfl;have x8:=(ak HX.out 8).trans rfl;have x9:=(ak HX.out 9).trans rfl;have x10:=(ak HX.out 10).trans rfl;have x11:=(ak HX.out 11).trans rfl;have x12:=(ak HX.out 12).trans rfl;have x13:=(ak HX.out 13).trans rfl;have x14:=(ak HX.out 14).trans rfl;have x15:=(ak HX.out 15).trans rfl;have x16:=(ak HX.out 16).trans rfl;clear hx0 hb0 hg0)));go_wp2;go_loopw [57] (fun v57 wr=>∃ (i:Nat),v57=.int .i64 (i:Int)/\aC (i<=17)/\aC (po=(p.bounds.drop i).all dW)/\aC (Below w.heap.size w wr)) (fun v57 _=>17 - (intOf v57).toNat)
 case atStart=>exact⟨0,rfl,⟨by decide⟩,HP,HB⟩
 case round =>
  clear HP HX HB x0 x1 x2 x3 x4 x5 x6 x7 x8 x9 x10 x11 x12 x13 x14 x15 x16;obtain⟨i,rfl,hi,HP,HB⟩:=hrel;by_cases hlt:i < 17
  .rcases (show i=0\/i=1\/i=2\/i=3\/i=4\/i=5\/i=6\/i=7\/i=8\/i=9\/i=10\/i=11\/i=12\/i=13\/i=14\/i=15\/i=16 by omega) with rfl|rfl|rfl|rfl|rfl|rfl|rfl|rfl|rfl|rfl|rfl|rfl|rfl|rfl|rfl|rfl|rfl
   .have hst:(p.bounds.drop 0).all dW=(dW (p.f0,1,64) && (p.bounds.drop 1).all dW):=rfl;rw[hst] at HP;clear hst hlt hi;have hix:∀ W:World,(Instr.index 177 (.agg #[.int .i64 p.f0,.int .i64 1,.int .i64 64,.int .i64 p.f1,.int .i64 1,.int .i64 255,.int .i64 p.f2,.int .i64 0,.int .i64 3,.int .i64 p.f3,.int .i64 0,.int .i64 255,.int .i64 p.f4,.int .i64 0,.int .i64 255,.int .i64 p.f5,.int .i64 0,.int .i64 255,.int .i64 p.f6,.int .i64 0,.int .i64 255,.int .i64 p.f7,.int .i64 0,.int .i64 255,.int .i64 p.f8,.int .i64 0,.int .i64 1,.int .i64 p.f9,.int .i64 0,.int .i64 1,.int .i64 p.f10,.int .i64 1,.int .i64 4,.int .i64 p.f11,.int .i64 1,.int .i64 4,.int .i64 p.f12,.int .i64 0,.int .i64 1,.int .i64 p.f13,.int .i64 0,.int .i64 1,.int .i64 p.f14,.int .i64 0,.int .i64 4,.int .i64 p.f15,.int .i64 0,.int .i64 8,.int .i64 p.f16,.int .i64 0,.int .i64 3]) (.int .i64 0)).run Tryz.prog W=.ok (.agg #[.int .i64 p.f0,.int .i64 1,.int .i64 64]) W:=fun W=>ix17 _ _ 0 rfl (by decide) _ _ _ rfl W
    by_cases c1:p.f0 < 1
    .have d1:decide (p.f0 < 1)=true:=decide_eq_true c1;obtain rfl:po=false:=(by rw[HP.out];unfold dW;simp only[d1];simp);clear HP c1;go_wp2;go_ret;exact⟨rfl,by repeat(first|exact HB.out|apply aA|apply aG|(refine Below.alloc ?_ HB.out.size _))⟩
    .have d1:decide (p.f0 < 1)=false:=decide_eq_false c1;by_cases c2:64 < p.f0
     .have d2:decide (64 < p.f0)=true:=decide_eq_true c2;obtain rfl:po=false:=(by rw[HP.out];unfold dW;simp only[d2];simp);clear HP c1 c2;go_wp2;go_ret;exact⟨rfl,by repeat(first|exact HB.out|apply aA|apply aG|(refine Below.alloc ?_ HB.out.size _))⟩
     .have d2:decide (64 < p.f0)=false:=decide_eq_false c2;have HP2:=aj (show po=(p.bounds.drop 1).all dW by rw[HP.out];unfold dW;simp only[d1,d2];simp);clear HP c1 c2;go_wp2;go_roundw
      case rel=>exact⟨1,rfl,⟨by decide⟩,HP2,⟨by repeat(first|exact HB.out|apply aA|apply aG|(refine Below.alloc ?_ HB.out.size _))⟩⟩
      case measure=>simp[intOf]
   .have hst:(p.bounds.drop 1).all dW=(dW (p.f1,1,255) && (p.bounds.drop 2).all dW):=rfl;rw[hst] at HP;clear hst hlt hi;have hix:∀ W:World,(Instr.index 177 (.agg #[.int .i64 p.f0,.int .i64 1,.int .i64 64,.int .i64 p.f1,.int .i64 1,.int .i64 255,.int .i64 p.f2,.int .i64 0,.int .i64 3,.int .i64 p.f3,.int .i64 0,.int .i64 255,.int .i64 p.f4,.int .i64 0,.int .i64 255,.int .i64 p.f5,.int .i64 0,.int .i64 255,.int .i64 p.f6,.int .i64 0,.int .i64 255,.int .i64 p.f7,.int .i64 0,.int .i64 255,.int .i64 p.f8,.int .i64 0,.int .i64 1,.int .i64 p.f9,.int .i64 0,.int .i64 1,.int .i64 p.f10,.int .i64 1,.int .i64 4,.int .i64 p.f11,.int .i64 1,.int .i64 4,.int .i64 p.f12,.int .i64 0,.int .i64 1,.int .i64 p.f13,.int .i64 0,.int .i64 1,.int .i64 p.f14,.int .i64 0,.int .i64 4,.int .i64 p.f15,.int .i64 0,.int .i64 8,.int .i64 p.f16,.int .i64 0,.int .i64 3]) (.int .i64 1)).run Tryz.prog W=.ok (.agg #[.int .i64 p.f1,.int .i64 1,.int .i64 255]) W:=fun W=>ix17 _ _ 1 rfl (by decide) _ _ _ rfl W
    by_cases c1:p.f1 < 1
    .have d1:decide (p.f1 < 1)=true:=decide_eq_true c1;obtain rfl:po=false:=(by rw[HP.out];unfold dW;simp only[d1];simp);clear HP c1;go_wp2;go_ret;exact⟨rfl,by repeat(first|exact HB.out|apply aA|apply aG|(refine Below.alloc ?_ HB.out.size _))⟩
    .have d1:decide (p.f1 < 1)=false:=decide_eq_false c1;by_cases c2:255 < p.f1
     .have d2:decide (255 < p.f1)=true:=decide_eq_true c2;obtain rfl:po=false:=(by rw[HP.out];unfold dW;simp only[d2];simp);clear HP c1 c2;go_wp2;go_ret;exact⟨rfl,by repeat(first|exact HB.out|apply aA|apply aG|(refine Below.alloc ?_ HB.out.size _))⟩
     .have d2:decide (255 < p.f1)=false:=decide_eq_false c2;have HP2:=aj (show po=(p.bounds.drop 2).all dW by rw[HP.out];unfold dW;simp only[d1,d2];simp);clear HP c1 c2;go_wp2;go_roundw
      case rel=>exact⟨2,rfl,⟨by decide⟩,HP2,⟨by repeat(first|exact HB.out|apply aA|apply aG|(refine Below.alloc ?_ HB.out.size _))⟩⟩
      case measure=>simp[intOf]
   .have hst:(p.bounds.drop 2).all dW=(dW (p.f2,0,3) && (p.bounds.drop 3).all dW):=rfl;rw[hst] at HP;clear hst hlt hi;have hix:∀ W:World,(Instr.index 177 (.agg #[.int .i64 p.f0,.int .i64 1,.int .i64 64,.int .i64 p.f1,.int .i64 1,.int .i64 255,.int .i64 p.f2,.int .i64 0,.int .i64 3,.int .i64 p.f3,.int .i64 0,.int .i64 255,.int .i64 p.f4,.int .i64 0,.int .i64 255,.int .i64 p.f5,.int .i64 0,.int .i64 255,.int .i64 p.f6,.int .i64 0,.int .i64 255,.int .i64 p.f7,.int .i64 0,.int .i64 255,.int .i64 p.f8,.int .i64 0,.int .i64 1,.int .i64 p.f9,.int .i64 0,.int .i64 1,.int .i64 p.f10,.int .i64 1,.int .i64 4,.int .i64 p.f11,.int .i64 1,.int .i64 4,.int .i64 p.f12,.int .i64 0,.int .i64 1,.int .i64 p.f13,.int .i64 0,.int .i64 1,.int .i64 p.f14,.int .i64 0,.int .i64 4,.int .i64 p.f15,.int .i64 0,.int .i64 8,.int .i64 p.f16,.int .i64 0,.int .i64 3]) (.int .i64 2)).run Tryz.prog W=.ok (.agg #[.int .i64 p.f2,.int .i64 0,.int .i64 3]) W:=fun W=>ix17 _ _ 2 rfl (by decide) _ _ _ rfl W
    by_cases c1:p.f2 < 0
    .have d1:decide (p.f2 < 0)=true:=decide_eq_true c1;obtain rfl:po=false:=(by rw[HP.out];unfold dW;simp only[d1];simp);clear HP c1;go_wp2;go_ret;exact⟨rfl,by repeat(first|exact HB.out|apply aA|apply aG|(refine Below.alloc ?_ HB.out.size _))⟩
    .have d1:decide (p.f2 < 0)=false:=decide_eq_false c1;by_cases c2:3 < p.f2
     .have d2:decide (3 < p.f2)=true:=decide_eq_true c2;obtain rfl:po=false:=(by rw[HP.out];unfold dW;simp only[d2];simp);clear HP c1 c2;go_wp2;go_ret;exact⟨rfl,by repeat(first|exact HB.out|apply aA|apply aG|(refine Below.alloc ?_ HB.out.size _))⟩
     .have d2:decide (3 < p.f2)=false:=decide_eq_false c2;have HP2:=aj (show po=(p.bounds.drop 3).all dW by rw[HP.out];unfold dW;simp only[d1,d2];simp);clear HP c1 c2;go_wp2;go_roundw
      case rel=>exact⟨3,rfl,⟨by decide⟩,HP2,⟨by repeat(first|exact HB.out|apply aA|apply aG|(refine Below.alloc ?_ HB.out.size _))⟩⟩
      case measure=>simp[intOf]
   .have hst:(p.bounds.drop 3).all dW=(dW (p.f3,0,255) && (p.bounds.drop 4).all dW):=rfl;rw[hst] at HP;clear hst hlt hi;have hix:∀ W:World,(Instr.index 177 (.agg #[.int .i64 p.f0,.int .i64 1,.int .i64 64,.int .i64 p.f1,.int .i64 1,.int .i64 255,.int .i64 p.f2,.int .i64 0,.int .i64 3,.int .i64 p.f3,.int .i64 0,.int .i64 255,.int .i64 p.f4,.int .i64 0,.int .i64 255,.int .i64 p.f5,.int .i64 0,.int .i64 255,.int .i64 p.f6,.int .i64 0,.int .i64 255,.int .i64 p.f7,.int .i64 0,.int .i64 255,.int .i64 p.f8,.int .i64 0,.int .i64 1,.int .i64 p.f9,.int .i64 0,.int .i64 1,.int .i64 p.f10,.int .i64 1,.int .i64 4,.int .i64 p.f11,.int .i64 1,.int .i64 4,.int .i64 p.f12,.int .i64 0,.int .i64 1,.int .i64 p.f13,.int .i64 0,.int .i64 1,.int .i64 p.f14,.int .i64 0,.int .i64 4,.int .i64 p.f15,.int .i64 0,.int .i64 8,.int .i64 p.f16,.int .i64 0,.int .i64 3]) (.int .i64 3)).run Tryz.prog W=.ok (.agg #[.int .i64 p.f3,.int .i64 0,.int .i64 255]) W:=fun W=>ix17 _ _ 3 rfl (by decide) _ _ _ rfl W
    by_cases c1:p.f3 < 0
    .have d1:decide (p.f3 < 0)=true:=decide_eq_true c1;obtain rfl:po=false:=(by rw[HP.out];unfold dW;simp only[d1];simp);clear HP c1;go_wp2;go_ret;exact⟨rfl,by repeat(first|exact HB.out|apply aA|apply aG|(refine Below.alloc ?_ HB.out.size _))⟩
    .have d1:decide (p.f3 < 0)=false:=decide_eq_false c1;by_cases c2:255 < p.f3
     .have d2:decide (255 < p.f3)=true:=decide_eq_true c2;obtain rfl:po=false:=(by rw[HP.out];unfold dW;simp only[d2];simp);clear HP c1 c2;go_wp2;go_ret;exact⟨rfl,by repeat(first|exact HB.out|apply aA|apply aG|(refine Below.alloc ?_ HB.out.size _))⟩
     .have d2:decide (255 < p.f3)=false:=decide_eq_false c2;have HP2:=aj (show po=(p.bounds.drop 4).all dW by rw[HP.out];unfold dW;simp only[d1,d2];simp);clear HP c1 c2;go_wp2;go_roundw
      case rel=>exact⟨4,rfl,⟨by decide⟩,HP2,⟨by repeat(first|exact HB.out|apply aA|apply aG|(refine Below.alloc ?_ HB.out.size _))⟩⟩
      case measure=>simp[intOf]
   .have hst:(p.bounds.drop 4).all dW=(dW (p.f4,0,255) && (p.bounds.drop 5).all dW):=rfl;rw[hst] at HP;clear hst hlt hi;have hix:∀ W:World,(Instr.index 177 (.agg #[.int .i64 p.f0,.int .i64 1,.int .i64 64,.int .i64 p.f1,.int .i64 1,.int .i64 255,.int .i64 p.f2,.int .i64 0,.int .i64 3,.int .i64 p.f3,.int .i64 0,.int .i64 255,.int .i64 p.f4,.int .i64 0,.int .i64 255,.int .i64 p.f5,.int .i64 0,.int .i64 255,.int .i64 p.f6,.int .i64 0,.int .i64 255,.int .i64 p.f7,.int .i64 0,.int .i64 255,.int .i64 p.f8,.int .i64 0,.int .i64 1,.int .i64 p.f9,.int .i64 0,.int .i64 1,.int .i64 p.f10,.int .i64 1,.int .i64 4,.int .i64 p.f11,.int .i64 1,.int .i64 4,.int .i64 p.f12,.int .i64 0,.int .i64 1,.int .i64 p.f13,.int .i64 0,.int .i64 1,.int .i64 p.f14,.int .i64 0,.int .i64 4,.int .i64 p.f15,.int .i64 0,.int .i64 8,.int .i64 p.f16,.int .i64 0,.int .i64 3]) (.int .i64 4)).run Tryz.prog W=.ok (.agg #[.int .i64 p.f4,.int .i64 0,.int .i64 255]) W:=fun W=>ix17 _ _ 4 rfl (by decide) _ _ _ rfl W
    by_cases c1:p.f4 < 0
    .have d1:decide (p.f4 < 0)=true:=decide_eq_true c1;obtain rfl:po=false:=(by rw[HP.out];unfold dW;simp only[d1];simp);clear HP c1;go_wp2;go_ret;exact⟨rfl,by repeat(first|exact HB.out|apply aA|apply aG|(refine Below.alloc ?_ HB.out.size _))⟩
    .have d1:decide (p.f4 < 0)=false:=decide_eq_false c1;by_cases c2:255 < p.f4
     .have d2:decide (255 < p.f4)=true:=decide_eq_true c2;obtain rfl:po=false:=(by rw[HP.out];unfold dW;simp only[d2];simp);clear HP c1 c2;go_wp2;go_ret;exact⟨rfl,by repeat(first|exact HB.out|apply aA|apply aG|(refine Below.alloc ?_ HB.out.size _))⟩
     .have d2:decide (255 < p.f4)=false:=decide_eq_false c2;have HP2:=aj (show po=(p.bounds.drop 5).all dW by rw[HP.out];unfold dW;simp only[d1,d2];simp);clear HP c1 c2;go_wp2;go_roundw
      case rel=>exact⟨5,rfl,⟨by decide⟩,HP2,⟨by repeat(first|exact HB.out|apply aA|apply aG|(refine Below.alloc ?_ HB.out.size _))⟩⟩
      case measure=>simp[intOf]
   .have hst:(p.bounds.drop 5).all dW=(dW (p.f5,0,255) && (p.bounds.drop 6).all dW):=rfl;rw[hst] at HP;clear hst hlt hi;have hix:∀ W:World,(Instr.index 177 (.agg #[.int .i64 p.f0,.int .i64 1,.int .i64 64,.int .i64 p.f1,.int .i64 1,.int .i64 255,.int .i64 p.f2,.int .i64 0,.int .i64 3,.int .i64 p.f3,.int .i64 0,.int .i64 255,.int .i64 p.f4,.int .i64 0,.int .i64 255,.int .i64 p.f5,.int .i64 0,.int .i64 255,.int .i64 p.f6,.int .i64 0,.int .i64 255,.int .i64 p.f7,.int .i64 0,.int .i64 255,.int .i64 p.f8,.int .i64 0,.int .i64 1,.int .i64 p.f9,.int .i64 0,.int .i64 1,.int .i64 p.f10,.int .i64 1,.int .i64 4,.int .i64 p.f11,.int .i64 1,.int .i64 4,.int .i64 p.f12,.int .i64 0,.int .i64 1,.int .i64 p.f13,.int .i64 0,.int .i64 1,.int .i64 p.f14,.int .i64 0,.int .i64 4,.int .i64 p.f15,.int .i64 0,.int .i64 8,.int .i64 p.f16,.int .i64 0,.int .i64 3]) (.int .i64 5)).run Tryz.prog W=.ok (.agg #[.int .i64 p.f5,.int .i64 0,.int .i64 255]) W:=fun W=>ix17 _ _ 5 rfl (by decide) _ _ _ rfl W
    by_cases c1:p.f5 < 0
    .have d1:decide (p.f5 < 0)=true:=decide_eq_true c1;obtain rfl:po=false:=(by rw[HP.out];unfold dW;simp only[d1];simp);clear HP c1;go_wp2;go_ret;exact⟨rfl,by repeat(first|exact HB.out|apply aA|apply aG|(refine Below.alloc ?_ HB.out.size _))⟩
    .have d1:decide (p.f5 < 0)=false:=decide_eq_false c1;by_cases c2:255 < p.f5
     .have d2:decide (255 < p.f5)=true:=decide_eq_true c2;obtain rfl:po=false:=(by rw[HP.out];unfold dW;simp only[d2];simp);clear HP c1 c2;go_wp2;go_ret;exact⟨rfl,by repeat(first|exact HB.out|apply aA|apply aG|(refine Below.alloc ?_ HB.out.size _))⟩
     .have d2:decide (255 < p.f5)=false:=decide_eq_false c2;have HP2:=aj (show po=(p.bounds.drop 6).all dW by rw[HP.out];unfold dW;simp only[d1,d2];simp);clear HP c1 c2;go_wp2;go_roundw
      case rel=>exact⟨6,rfl,⟨by decide⟩,HP2,⟨by repeat(first|exact HB.out|apply aA|apply aG|(refine Below.alloc ?_ HB.out.size _))⟩⟩
      case measure=>simp[intOf]
   .have hst:(p.bounds.drop 6).all dW=(dW (p.f6,0,255) && (p.bounds.drop 7).all dW):=rfl;rw[hst] at HP;clear hst hlt hi;have hix:∀ W:World,(Instr.index 177 (.agg #[.int .i64 p.f0,.int .i64 1,.int .i64 64,.int .i64 p.f1,.int .i64 1,.int .i64 255,.int .i64 p.f2,.int .i64 0,.int .i64 3,.int .i64 p.f3,.int .i64 0,.int .i64 255,.int .i64 p.f4,.int .i64 0,.int .i64 255,.int .i64 p.f5,.int .i64 0,.int .i64 255,.int .i64 p.f6,.int .i64 0,.int .i64 255,.int .i64 p.f7,.int .i64 0,.int .i64 255,.int .i64 p.f8,.int .i64 0,.int .i64 1,.int .i64 p.f9,.int .i64 0,.int .i64 1,.int .i64 p.f10,.int .i64 1,.int .i64 4,.int .i64 p.f11,.int .i64 1,.int .i64 4,.int .i64 p.f12,.int .i64 0,.int .i64 1,.int .i64 p.f13,.int .i64 0,.int .i64 1,.int .i64 p.f14,.int .i64 0,.int .i64 4,.int .i64 p.f15,.int .i64 0,.int .i64 8,.int .i64 p.f16,.int .i64 0,.int .i64 3]) (.int .i64 6)).run Tryz.prog W=.ok (.agg #[.int .i64 p.f6,.int .i64 0,.int .i64 255]) W:=fun W=>ix17 _ _ 6 rfl (by decide) _ _ _ rfl W
    by_cases c1:p.f6 < 0
    .have d1:decide (p.f6 < 0)=true:=decide_eq_true c1;obtain rfl:po=false:=(by rw[HP.out];unfold dW;simp only[d1];simp);clear HP c1;go_wp2;go_ret;exact⟨rfl,by repeat(first|exact HB.out|apply aA|apply aG|(refine Below.alloc ?_ HB.out.size _))⟩
    .have d1:decide (p.f6 < 0)=false:=decide_eq_false c1;by_cases c2:255 < p.f6
     .have d2:decide (255 < p.f6)=true:=decide_eq_true c2;obtain rfl:po=false:=(by rw[HP.out];unfold dW;simp only[d2];simp);clear HP c1 c2;go_wp2;go_ret;exact⟨rfl,by repeat(first|exact HB.out|apply aA|apply aG|(refine Below.alloc ?_ HB.out.size _))⟩
     .have d2:decide (255 < p.f6)=false:=decide_eq_false c2;have HP2:=aj (show po=(p.bounds.drop 7).all dW by rw[HP.out];unfold dW;simp only[d1,d2];simp);clear HP c1 c2;go_wp2;go_roundw
      case rel=>exact⟨7,rfl,⟨by decide⟩,HP2,⟨by repeat(first|exact HB.out|apply aA|apply aG|(refine Below.alloc ?_ HB.out.size _))⟩⟩
      case measure=>simp[intOf]
   .have hst:(p.bounds.drop 7).all dW=(dW (p.f7,0,255) && (p.bounds.drop 8).all dW):=rfl;rw[hst] at HP;clear hst hlt hi;have hix:∀ W:World,(Instr.index 177 (.agg #[.int .i64 p.f0,.int .i64 1,.int .i64 64,.int .i64 p.f1,.int .i64 1,.int .i64 255,.int .i64 p.f2,.int .i64 0,.int .i64 3,.int .i64 p.f3,.int .i64 0,.int .i64 255,.int .i64 p.f4,.int .i64 0,.int .i64 255,.int .i64 p.f5,.int .i64 0,.int .i64 255,.int .i64 p.f6,.int .i64 0,.int .i64 255,.int .i64 p.f7,.int .i64 0,.int .i64 255,.int .i64 p.f8,.int .i64 0,.int .i64 1,.int .i64 p.f9,.int .i64 0,.int .i64 1,.int .i64 p.f10,.int .i64 1,.int .i64 4,.int .i64 p.f11,.int .i64 1,.int .i64 4,.int .i64 p.f12,.int .i64 0,.int .i64 1,.int .i64 p.f13,.int .i64 0,.int .i64 1,.int .i64 p.f14,.int .i64 0,.int .i64 4,.int .i64 p.f15,.int .i64 0,.int .i64 8,.int .i64 p.f16,.int .i64 0,.int .i64 3]) (.int .i64 7)).run Tryz.prog W=.ok (.agg #[.int .i64 p.f7,.int .i64 0,.int .i64 255]) W:=fun W=>ix17 _ _ 7 rfl (by decide) _ _ _ rfl W
    by_cases c1:p.f7 < 0
    .have d1:decide (p.f7 < 0)=true:=decide_eq_true c1;obtain rfl:po=false:=(by rw[HP.out];unfold dW;simp only[d1];simp);clear HP c1;go_wp2;go_ret;exact⟨rfl,by repeat(first|exact HB.out|apply aA|apply aG|(refine Below.alloc ?_ HB.out.size _))⟩
    .have d1:decide (p.f7 < 0)=false:=decide_eq_false c1;by_cases c2:255 < p.f7
     .have d2:decide (255 < p.f7)=true:=decide_eq_true c2;obtain rfl:po=false:=(by rw[HP.out];unfold dW;simp only[d2];simp);clear HP c1 c2;go_wp2;go_ret;exact⟨rfl,by repeat(first|exact HB.out|apply aA|apply aG|(refine Below.alloc ?_ HB.out.size _))⟩
     .have d2:decide (255 < p.f7)=false:=decide_eq_false c2;have HP2:=aj (show po=(p.bounds.drop 8).all dW by rw[HP.out];unfold dW;simp only[d1,d2];simp);clear HP c1 c2;go_wp2;go_roundw
      case rel=>exact⟨8,rfl,⟨by decide⟩,HP2,⟨by repeat(first|exact HB.out|apply aA|apply aG|(refine Below.alloc ?_ HB.out.size _))⟩⟩
      case measure=>simp[intOf]
   .have hst:(p.bounds.drop 8).all dW=(dW (p.f8,0,1) && (p.bounds.drop 9).all dW):=rfl;rw[hst] at HP;clear hst hlt hi;have hix:∀ W:World,(Instr.index 177 (.agg #[.int .i64 p.f0,.int .i64 1,.int .i64 64,.int .i64 p.f1,.int .i64 1,.int .i64 255,.int .i64 p.f2,.int .i64 0,.int .i64 3,.int .i64 p.f3,.int .i64 0,.int .i64 255,.int .i64 p.f4,.int .i64 0,.int .i64 255,.int .i64 p.f5,.int .i64 0,.int .i64 255,.int .i64 p.f6,.int .i64 0,.int .i64 255,.int .i64 p.f7,.int .i64 0,.int .i64 255,.int .i64 p.f8,.int .i64 0,.int .i64 1,.int .i64 p.f9,.int .i64 0,.int .i64 1,.int .i64 p.f10,.int .i64 1,.int .i64 4,.int .i64 p.f11,.int .i64 1,.int .i64 4,.int .i64 p.f12,.int .i64 0,.int .i64 1,.int .i64 p.f13,.int .i64 0,.int .i64 1,.int .i64 p.f14,.int .i64 0,.int .i64 4,.int .i64 p.f15,.int .i64 0,.int .i64 8,.int .i64 p.f16,.int .i64 0,.int .i64 3]) (.int .i64 8)).run Tryz.prog W=.ok (.agg #[.int .i64 p.f8,.int .i64 0,.int .i64 1]) W:=fun W=>ix17 _ _ 8 rfl (by decide) _ _ _ rfl W
    by_cases c1:p.f8 < 0
    .have d1:decide (p.f8 < 0)=true:=decide_eq_true c1;obtain rfl:po=false:=(by rw[HP.out];unfold dW;simp only[d1];simp);clear HP c1;go_wp2;go_ret;exact⟨rfl,by repeat(first|exact HB.out|apply aA|apply aG|(refine Below.alloc ?_ HB.out.size _))⟩
    .have d1:decide (p.f8 < 0)=false:=decide_eq_false c1;by_cases c2:1 < p.f8
     .have d2:decide (1 < p.f8)=true:=decide_eq_true c2;obtain rfl:po=false:=(by rw[HP.out];unfold dW;simp only[d2];simp);clear HP c1 c2;go_wp2;go_ret;exact⟨rfl,by repeat(first|exact HB.out|apply aA|apply aG|(refine Below.alloc ?_ HB.out.size _))⟩
     .have d2:decide (1 < p.f8)=false:=decide_eq_false c2;have HP2:=aj (show po=(p.bounds.drop 9).all dW by rw[HP.out];unfold dW;simp only[d1,d2];simp);clear HP c1 c2;go_wp2;go_roundw
      case rel=>exact⟨9,rfl,⟨by decide⟩,HP2,⟨by repeat(first|exact HB.out|apply aA|apply aG|(refine Below.alloc ?_ HB.out.size _))⟩⟩
      case measure=>simp[intOf]
   .have hst:(p.bounds.drop 9).all dW=(dW (p.f9,0,1) && (p.bounds.drop 10).all dW):=rfl;rw[hst] at HP;clear hst hlt hi;have hix:∀ W:World,(Instr.index 177 (.agg #[.int .i64 p.f0,.int .i64 1,.int .i64 64,.int .i64 p.f1,.int .i64 1,.int .i64 255,.int .i64 p.f2,.int .i64 0,.int .i64 3,.int .i64 p.f3,.int .i64 0,.int .i64 255,.int .i64 p.f4,.int .i64 0,.int .i64 255,.int .i64 p.f5,.int .i64 0,.int .i64 255,.int .i64 p.f6,.int .i64 0,.int .i64 255,.int .i64 p.f7,.int .i64 0,.int .i64 255,.int .i64 p.f8,.int .i64 0,.int .i64 1,.int .i64 p.f9,.int .i64 0,.int .i64 1,.int .i64 p.f10,.int .i64 1,.int .i64 4,.int .i64 p.f11,.int .i64 1,.int .i64 4,.int .i64 p.f12,.int .i64 0,.int .i64 1,.int .i64 p.f13,.int .i64 0,.int .i64 1,.int .i64 p.f14,.int .i64 0,.int .i64 4,.int .i64 p.f15,.int .i64 0,.int .i64 8,.int .i64 p.f16,.int .i64 0,.int .i64 3]) (.int .i64 9)).run Tryz.prog W=.ok (.agg #[.int .i64 p.f9,.int .i64 0,.int .i64 1]) W:=fun W=>ix17 _ _ 9 rfl (by decide) _ _ _ rfl W
    by_cases c1:p.f9 < 0
    .have d1:decide (p.f9 < 0)=true:=decide_eq_true c1;obtain rfl:po=false:=(by rw[HP.out];unfold dW;simp only[d1];simp);clear HP c1;go_wp2;go_ret;exact⟨rfl,by repeat(first|exact HB.out|apply aA|apply aG|(refine Below.alloc ?_ HB.out.size _))⟩
    .have d1:decide (p.f9 < 0)=false:=decide_eq_false c1;by_cases c2:1 < p.f9
     .have d2:decide (1 < p.f9)=true:=decide_eq_true c2;obtain rfl:po=false:=(by rw[HP.out];unfold dW;simp only[d2];simp);clear HP c1 c2;go_wp2;go_ret;exact⟨rfl,by repeat(first|exact HB.out|apply aA|apply aG|(refine Below.alloc ?_ HB.out.size _))⟩
     .have d2:decide (1 < p.f9)=false:=decide_eq_false c2;have HP2:=aj (show po=(p.bounds.drop 10).all dW by rw[HP.out];unfold dW;simp only[d1,d2];simp);clear HP c1 c2;go_wp2;go_roundw
      case rel=>exact⟨10,rfl,⟨by decide⟩,HP2,⟨by repeat(first|exact HB.out|apply aA|apply aG|(refine Below.alloc ?_ HB.out.size _))⟩⟩
      case measure=>simp[intOf]
   .have hst:(p.bounds.drop 10).all dW=(dW (p.f10,1,4) && (p.bounds.drop 11).all dW):=rfl;rw[hst] at HP;clear hst hlt hi;have hix:∀ W:World,(Instr.index 177 (.agg #[.int .i64 p.f0,.int .i64 1,.int .i64 64,.int .i64 p.f1,.int .i64 1,.int .i64 255,.int .i64 p.f2,.int .i64 0,.int .i64 3,.int .i64 p.f3,.int .i64 0,.int .i64 255,.int .i64 p.f4,.int .i64 0,.int .i64 255,.int .i64 p.f5,.int .i64 0,.int .i64 255,.int .i64 p.f6,.int .i64 0,.int .i64 255,.int .i64 p.f7,.int .i64 0,.int .i64 255,.int .i64 p.f8,.int .i64 0,.int .i64 1,.int .i64 p.f9,.int .i64 0,.int .i64 1,.int .i64 p.f10,.int .i64 1,.int .i64 4,.int .i64 p.f11,.int .i64 1,.int .i64 4,.int .i64 p.f12,.int .i64 0,.int .i64 1,.int .i64 p.f13,.int .i64 0,.int .i64 1,.int .i64 p.f14,.int .i64 0,.int .i64 4,.int .i64 p.f15,.int .i64 0,.int .i64 8,.int .i64 p.f16,.int .i64 0,.int .i64 3]) (.int .i64 10)).run Tryz.prog W=.ok (.agg #[.int .i64 p.f10,.int .i64 1,.int .i64 4]) W:=fun W=>ix17 _ _ 10 rfl (by decide) _ _ _ rfl W
    by_cases c1:p.f10 < 1
    .have d1:decide (p.f10 < 1)=true:=decide_eq_true c1;obtain rfl:po=false:=(by rw[HP.out];unfold dW;simp only[d1];simp);clear HP c1;go_wp2;go_ret;exact⟨rfl,by repeat(first|exact HB.out|apply aA|apply aG|(refine Below.alloc ?_ HB.out.size _))⟩
    .have d1:decide (p.f10 < 1)=false:=decide_eq_false c1;by_cases c2:4 < p.f10
     .have d2:decide (4 < p.f10)=true:=decide_eq_true c2;obtain rfl:po=false:=(by rw[HP.out];unfold dW;simp only[d2];simp);clear HP c1 c2;go_wp2;go_ret;exact⟨rfl,by repeat(first|exact HB.out|apply aA|apply aG|(refine Below.alloc ?_ HB.out.size _))⟩
     .have d2:decide (4 < p.f10)=false:=decide_eq_false c2;have HP2:=aj (show po=(p.bounds.drop 11).all dW by rw[HP.out];unfold dW;simp only[d1,d2];simp);clear HP c1 c2;go_wp2;go_roundw
      case rel=>exact⟨11,rfl,⟨by decide⟩,HP2,⟨by repeat(first|exact HB.out|apply aA|apply aG|(refine Below.alloc ?_ HB.out.size _))⟩⟩
      case measure=>simp[intOf]
   .have hst:(p.bounds.drop 11).all dW=(dW (p.f11,1,4) && (p.bounds.drop 12).all dW):=rfl;rw[hst] at HP;clear hst hlt hi;have hix:∀ W:World,(Instr.index 177 (.agg #[.int .i64 p.f0,.int .i64 1,.int .i64 64,.int .i64 p.f1,.int .i64 1,.int .i64 255,.int .i64 p.f2,.int .i64 0,.int .i64 3,.int .i64 p.f3,.int .i64 0,.int .i64 255,.int .i64 p.f4,.int .i64 0,.int .i64 255,.int .i64 p.f5,.int .i64 0,.int .i64 255,.int .i64 p.f6,.int .i64 0,.int .i64 255,.int .i64 p.f7,.int .i64 0,.int .i64 255,.int .i64 p.f8,.int .i64 0,.int .i64 1,.int .i64 p.f9,.int .i64 0,.int .i64 1,.int .i64 p.f10,.int .i64 1,.int .i64 4,.int .i64 p.f11,.int .i64 1,.int .i64 4,.int .i64 p.f12,.int .i64 0,.int .i64 1,.int .i64 p.f13,.int .i64 0,.int .i64 1,.int .i64 p.f14,.int .i64 0,.int .i64 4,.int .i64 p.f15,.int .i64 0,.int .i64 8,.int .i64 p.f16,.int .i64 0,.int .i64 3]) (.int .i64 11)).run Tryz.prog W=.ok (.agg #[.int .i64 p.f11,.int .i64 1,.int .i64 4]) W:=fun W=>ix17 _ _ 11 rfl (by decide) _ _ _ rfl W
    by_cases c1:p.f11 < 1
    .have d1:decide (p.f11 < 1)=true:=decide_eq_true c1;obtain rfl:po=false:=(by rw[HP.out];unfold dW;simp only[d1];simp);clear HP c1;go_wp2;go_ret;exact⟨rfl,by repeat(first|exact HB.out|apply aA|apply aG|(refine Below.alloc ?_ HB.out.size _))⟩
    .have d1:decide (p.f11 < 1)=false:=decide_eq_false c1;by_cases c2:4 < p.f11
     .have d2:decide (4 < p.f11)=true:=decide_eq_true c2;obtain rfl:po=false:=(by rw[HP.out];unfold dW;simp only[d2];simp);clear HP c1 c2;go_wp2;go_ret;exact⟨rfl,by repeat(first|exact HB.out|apply aA|apply aG|(refine Below.alloc ?_ HB.out.size _))⟩
     .have d2:decide (4 < p.f11)=false:=decide_eq_false c2;have HP2:=aj (show po=(p.bounds.drop 12).all dW by rw[HP.out];unfold dW;simp only[d1,d2];simp);clear HP c1 c2;go_wp2;go_roundw
      case rel=>exact⟨12,rfl,⟨by decide⟩,HP2,⟨by repeat(first|exact HB.out|apply aA|apply aG|(refine Below.alloc ?_ HB.out.size _))⟩⟩
      case measure=>simp[intOf]
   .have hst:(p.bounds.drop 12).all dW=(dW (p.f12,0,1) && (p.bounds.drop 13).all dW):=rfl;rw[hst] at HP;clear hst hlt hi;have hix:∀ W:World,(Instr.index 177 (.agg #[.int .i64 p.f0,.int .i64 1,.int .i64 64,.int .i64 p.f1,.int .i64 1,.int .i64 255,.int .i64 p.f2,.int .i64 0,.int .i64 3,.int .i64 p.f3,.int .i64 0,.int .i64 255,.int .i64 p.f4,.int .i64 0,.int .i64 255,.int .i64 p.f5,.int .i64 0,.int .i64 255,.int .i64 p.f6,.int .i64 0,.int .i64 255,.int .i64 p.f7,.int .i64 0,.int .i64 255,.int .i64 p.f8,.int .i64 0,.int .i64 1,.int .i64 p.f9,.int .i64 0,.int .i64 1,.int .i64 p.f10,.int .i64 1,.int .i64 4,.int .i64 p.f11,.int .i64 1,.int .i64 4,.int .i64 p.f12,.int .i64 0,.int .i64 1,.int .i64 p.f13,.int .i64 0,.int .i64 1,.int .i64 p.f14,.int .i64 0,.int .i64 4,.int .i64 p.f15,.int .i64 0,.int .i64 8,.int .i64 p.f16,.int .i64 0,.int .i64 3]) (.int .i64 12)).run Tryz.prog W=.ok (.agg #[.int .i64 p.f12,.int .i64 0,.int .i64 1]) W:=fun W=>ix17 _ _ 12 rfl (by decide) _ _ _ rfl W
    by_cases c1:p.f12 < 0
    .have d1:decide (p.f12 < 0)=true:=decide_eq_true c1;obtain rfl:po=false:=(by rw[HP.out];unfold dW;simp only[d1];simp);clear HP c1;go_wp2;go_ret;exact⟨rfl,by repeat(first|exact HB.out|apply aA|apply aG|(refine Below.alloc ?_ HB.out.size _))⟩
    .have d1:decide (p.f12 < 0)=false:=decide_eq_false c1;by_cases c2:1 < p.f12
     .have d2:decide (1 < p.f12)=true:=decide_eq_true c2;obtain rfl:po=false:=(by rw[HP.out];unfold dW;simp only[d2];simp);clear HP c1 c2;go_wp2;go_ret;exact⟨rfl,by repeat(first|exact HB.out|apply aA|apply aG|(refine Below.alloc ?_ HB.out.size _))⟩
     .have d2:decide (1 < p.f12)=false:=decide_eq_false c2;have HP2:=aj (show po=(p.bounds.drop 13).all dW by rw[HP.out];unfold dW;simp only[d1,d2];simp);clear HP c1 c2;go_wp2;go_roundw
      case rel=>exact⟨13,rfl,⟨by decide⟩,HP2,⟨by repeat(first|exact HB.out|apply aA|apply aG|(refine Below.alloc ?_ HB.out.size _))⟩⟩
      case measure=>simp[intOf]
   .have hst:(p.bounds.drop 13).all dW=(dW (p.f13,0,1) && (p.bounds.drop 14).all dW):=rfl;rw[hst] at HP;clear hst hlt hi;have hix:∀ W:World,(Instr.index 177 (.agg #[.int .i64 p.f0,.int .i64 1,.int .i64 64,.int .i64 p.f1,.int .i64 1,.int .i64 255,.int .i64 p.f2,.int .i64 0,.int .i64 3,.int .i64 p.f3,.int .i64 0,.int .i64 255,.int .i64 p.f4,.int .i64 0,.int .i64 255,.int .i64 p.f5,.int .i64 0,.int .i64 255,.int .i64 p.f6,.int .i64 0,.int .i64 255,.int .i64 p.f7,.int .i64 0,.int .i64 255,.int .i64 p.f8,.int .i64 0,.int .i64 1,.int .i64 p.f9,.int .i64 0,.int .i64 1,.int .i64 p.f10,.int .i64 1,.int .i64 4,.int .i64 p.f11,.int .i64 1,.int .i64 4,.int .i64 p.f12,.int .i64 0,.int .i64 1,.int .i64 p.f13,.int .i64 0,.int .i64 1,.int .i64 p.f14,.int .i64 0,.int .i64 4,.int .i64 p.f15,.int .i64 0,.int .i64 8,.int .i64 p.f16,.int .i64 0,.int .i64 3]) (.int .i64 13)).run Tryz.prog W=.ok (.agg #[.int .i64 p.f13,.int .i64 0,.int .i64 1]) W:=fun W=>ix17 _ _ 13 rfl (by decide) _ _ _ rfl W
    by_cases c1:p.f13 < 0
    .have d1:decide (p.f13 < 0)=true:=decide_eq_true c1;obtain rfl:po=false:=(by rw[HP.out];unfold dW;simp only[d1];simp);clear HP c1;go_wp2;go_ret;exact⟨rfl,by repeat(first|exact HB.out|apply aA|apply aG|(refine Below.alloc ?_ HB.out.size _))⟩
    .have d1:decide (p.f13 < 0)=false:=decide_eq_false c1;by_cases c2:1 < p.f13
     .have d2:decide (1 < p.f13)=true:=decide_eq_true c2;obtain rfl:po=false:=(by rw[HP.out];unfold dW;simp only[d2];simp);clear HP c1 c2;go_wp2;go_ret;exact⟨rfl,by repeat(first|exact HB.out|apply aA|apply aG|(refine Below.alloc ?_ HB.out.size _))⟩
     .have d2:decide (1 < p.f13)=false:=decide_eq_false c2;have HP2:=aj (show po=(p.bounds.drop 14).all dW by rw[HP.out];unfold dW;simp only[d1,d2];simp);clear HP c1 c2;go_wp2;go_roundw
      case rel=>exact⟨14,rfl,⟨by decide⟩,HP2,⟨by repeat(first|exact HB.out|apply aA|apply aG|(refine Below.alloc ?_ HB.out.size _))⟩⟩
      case measure=>simp[intOf]
   .have hst:(p.bounds.drop 14).all dW=(dW (p.f14,0,4) && (p.bounds.drop 15).all dW):=rfl;rw[hst] at HP;clear hst hlt hi;have hix:∀ W:World,(Instr.index 177 (.agg #[.int .i64 p.f0,.int .i64 1,.int .i64 64,.int .i64 p.f1,.int .i64 1,.int .i64 255,.int .i64 p.f2,.int .i64 0,.int .i64 3,.int .i64 p.f3,.int .i64 0,.int .i64 255,.int .i64 p.f4,.int .i64 0,.int .i64 255,.int .i64 p.f5,.int .i64 0,.int .i64 255,.int .i64 p.f6,.int .i64 0,.int .i64 255,.int .i64 p.f7,.int .i64 0,.int .i64 255,.int .i64 p.f8,.int .i64 0,.int .i64 1,.int .i64 p.f9,.int .i64 0,.int .i64 1,.int .i64 p.f10,.int .i64 1,.int .i64 4,.int .i64 p.f11,.int .i64 1,.int .i64 4,.int .i64 p.f12,.int .i64 0,.int .i64 1,.int .i64 p.f13,.int .i64 0,.int .i64 1,.int .i64 p.f14,.int .i64 0,.int .i64 4,.int .i64 p.f15,.int .i64 0,.int .i64 8,.int .i64 p.f16,.int .i64 0,.int .i64 3]) (.int .i64 14)).run Tryz.prog W=.ok (.agg #[.int .i64 p.f14,.int .i64 0,.int .i64 4]) W:=fun W=>ix17 _ _ 14 rfl (by decide) _ _ _ rfl W
    by_cases c1:p.f14 < 0
    .have d1:decide (p.f14 < 0)=true:=decide_eq_true c1;obtain rfl:po=false:=(by rw[HP.out];unfold dW;simp only[d1];simp);clear HP c1;go_wp2;go_ret;exact⟨rfl,by repeat(first|exact HB.out|apply aA|apply aG|(refine Below.alloc ?_ HB.out.size _))⟩
    .have d1:decide (p.f14 < 0)=false:=decide_eq_false c1;by_cases c2:4 < p.f14
     .have d2:decide (4 < p.f14)=true:=decide_eq_true c2;obtain rfl:po=false:=(by rw[HP.out];unfold dW;simp only[d2];simp);clear HP c1 c2;go_wp2;go_ret;exact⟨rfl,by repeat(first|exact HB.out|apply aA|apply aG|(refine Below.alloc ?_ HB.out.size _))⟩
     .have d2:decide (4 < p.f14)=false:=decide_eq_false c2;have HP2:=aj (show po=(p.bounds.drop 15).all dW by rw[HP.out];unfold dW;simp only[d1,d2];simp);clear HP c1 c2;go_wp2;go_roundw
      case rel=>exact⟨15,rfl,⟨by decide⟩,HP2,⟨by repeat(first|exact HB.out|apply aA|apply aG|(refine Below.alloc ?_ HB.out.size _))⟩⟩
      case measure=>simp[intOf]
   .have hst:(p.bounds.drop 15).all dW=(dW (p.f15,0,8) && (p.bounds.drop 16).all dW):=rfl;rw[hst] at HP;clear hst hlt hi;have hix:∀ W:World,(Instr.index 177 (.agg #[.int .i64 p.f0,.int .i64 1,.int .i64 64,.int .i64 p.f1,.int .i64 1,.int .i64 255,.int .i64 p.f2,.int .i64 0,.int .i64 3,.int .i64 p.f3,.int .i64 0,.int .i64 255,.int .i64 p.f4,.int .i64 0,.int .i64 255,.int .i64 p.f5,.int .i64 0,.int .i64 255,.int .i64 p.f6,.int .i64 0,.int .i64 255,.int .i64 p.f7,.int .i64 0,.int .i64 255,.int .i64 p.f8,.int .i64 0,.int .i64 1,.int .i64 p.f9,.int .i64 0,.int .i64 1,.int .i64 p.f10,.int .i64 1,.int .i64 4,.int .i64 p.f11,.int .i64 1,.int .i64 4,.int .i64 p.f12,.int .i64 0,.int .i64 1,.int .i64 p.f13,.int .i64 0,.int .i64 1,.int .i64 p.f14,.int .i64 0,.int .i64 4,.int .i64 p.f15,.int .i64 0,.int .i64 8,.int .i64 p.f16,.int .i64 0,.int .i64 3]) (.int .i64 15)).run Tryz.prog W=.ok (.agg #[.int .i64 p.f15,.int .i64 0,.int .i64 8]) W:=fun W=>ix17 _ _ 15 rfl (by decide) _ _ _ rfl W
    by_cases c1:p.f15 < 0
    .have d1:decide (p.f15 < 0)=true:=decide_eq_true c1;obtain rfl:po=false:=(by rw[HP.out];unfold dW;simp only[d1];simp);clear HP c1;go_wp2;go_ret;exact⟨rfl,by repeat(first|exact HB.out|apply aA|apply aG|(refine Below.alloc ?_ HB.out.size _))⟩
    .have d1:decide (p.f15 < 0)=false:=decide_eq_false c1;by_cases c2:8 < p.f15
     .have d2:decide (8 < p.f15)=true:=decide_eq_true c2;obtain rfl:po=false:=(by rw[HP.out];unfold dW;simp only[d2];simp);clear HP c1 c2;go_wp2;go_ret;exact⟨rfl,by repeat(first|exact HB.out|apply aA|apply aG|(refine Below.alloc ?_ HB.out.size _))⟩
     .have d2:decide (8 < p.f15)=false:=decide_eq_false c2;have HP2:=aj (show po=(p.bounds.drop 16).all dW by rw[HP.out];unfold dW;simp only[d1,d2];simp);clear HP c1 c2;go_wp2;go_roundw
      case rel=>exact⟨16,rfl,⟨by decide⟩,HP2,⟨by repeat(first|exact HB.out|apply aA|apply aG|(refine Below.alloc ?_ HB.out.size _))⟩⟩
      case measure=>simp[intOf]
   .have hst:(p.bounds.drop 16).all dW=(dW (p.f16,0,3) && (p.bounds.drop 17).all dW):=rfl;rw[hst] at HP;clear hst hlt hi;have hix:∀ W:World,(Instr.index 177 (.agg #[.int .i64 p.f0,.int .i64 1,.int .i64 64,.int .i64 p.f1,.int .i64 1,.int .i64 255,.int .i64 p.f2,.int .i64 0,.int .i64 3,.int .i64 p.f3,.int .i64 0,.int .i64 255,.int .i64 p.f4,.int .i64 0,.int .i64 255,.int .i64 p.f5,.int .i64 0,.int .i64 255,.int .i64 p.f6,.int .i64 0,.int .i64 255,.int .i64 p.f7,.int .i64 0,.int .i64 255,.int .i64 p.f8,.int .i64 0,.int .i64 1,.int .i64 p.f9,.int .i64 0,.int .i64 1,.int .i64 p.f10,.int .i64 1,.int .i64 4,.int .i64 p.f11,.int .i64 1,.int .i64 4,.int .i64 p.f12,.int .i64 0,.int .i64 1,.int .i64 p.f13,.int .i64 0,.int .i64 1,.int .i64 p.f14,.int .i64 0,.int .i64 4,.int .i64 p.f15,.int .i64 0,.int .i64 8,.int .i64 p.f16,.int .i64 0,.int .i64 3]) (.int .i64 16)).run Tryz.prog W=.ok (.agg #[.int .i64 p.f16,.int .i64 0,.int .i64 3]) W:=fun W=>ix17 _ _ 16 rfl (by decide) _ _ _ rfl W
    by_cases c1:p.f16 < 0
    .have d1:decide (p.f16 < 0)=true:=decide_eq_true c1;obtain rfl:po=false:=(by rw[HP.out];unfold dW;simp only[d1];simp);clear HP c1;go_wp2;go_ret;exact⟨rfl,by repeat(first|exact HB.out|apply aA|apply aG|(refine Below.alloc ?_ HB.out.size _))⟩
    .have d1:decide (p.f16 < 0)=false:=decide_eq_false c1;by_cases c2:3 < p.f16
     .have d2:decide (3 < p.f16)=true:=decide_eq_true c2;obtain rfl:po=false:=(by rw[HP.out];unfold dW;simp only[d2];simp);clear HP c1 c2;go_wp2;go_ret;exact⟨rfl,by repeat(first|exact HB.out|apply aA|apply aG|(refine Below.alloc ?_ HB.out.size _))⟩
     .have d2:decide (3 < p.f16)=false:=decide_eq_false c2;have HP2:=aj (show po=(p.bounds.drop 17).all dW by rw[HP.out];unfold dW;simp only[d1,d2];simp);clear HP c1 c2;go_wp2;go_roundw
      case rel=>exact⟨17,rfl,⟨by decide⟩,HP2,⟨by repeat(first|exact HB.out|apply aA|apply aG|(refine Below.alloc ?_ HB.out.size _))⟩⟩
      case measure=>simp[intOf]
  .have hi17:i=17:=by have:=hi.out;omega
   subst hi17;have HP2:=HP.out;have hpt:po=true:=HP2;subst hpt;go_wp2;go_ret;exact⟨rfl,HB.out⟩
end Go.Proofs.YtcaallkkeighdaaGreatDoor.P
