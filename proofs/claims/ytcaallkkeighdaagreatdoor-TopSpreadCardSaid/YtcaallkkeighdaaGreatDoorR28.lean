/- slices.Reverse of a row of pieces of the call's own. least.Break answers as the plain leastOf,of items that may be without Leaps,of a profile that may be. -/
import Derived.Test.YtcaallkkeighdaaGreatDoorR27
set_option maxRecDepth 100000
set_option maxHeartbeats 16000000
set_option linter.unusedVariables false
set_option linter.unusedSimpArgs false
namespace Go.Proofs.YtcaallkkeighdaaGreatDoor.P
open Go.RowKit aD aQ aR
def LR:Bool × List (List Nat × List Nat):=(true,[([],[]),([],[]),([],[]),([],[]),([],[]),([],[]),([4,5],[4,5]),([6],[6]),([],[]),([],[]),([8,9],[8,9]),([10],[10]),([0,1,0,1,4,5,6,7,11],[0,1]),([12,7,0,1,4,5,6,7,11],[7,12]),([2,3,0,1,2,3,4,5,6,7,8,9,10,11,12,13],[2,3]),([14,11,13,0,1,2,3,4,5,6,7,8,9,10,11,12,13],[11,14])])
def Ra:List Nat:=[0,0,0,0,0,0,48,112,0,0,768,1792,4083,8179,16383,32767]
theorem LU:jZ .any (opsOf Tryz.f50 3)=LR:=by kernel_rfl
theorem I_:kC LR.2 Ra=true:=by kernel_rfl
def uj(xs:List S72)(k:Nat):List S72:=(List.range xs.length).map (fun i=>if i < k\/xs.length - k<=i then xs.getD (xs.length - 1 - i) z72 else xs.getD i z72)
theorem mP(xs:List S72)(k:Nat):(uj xs k).length=xs.length:=by unfold uj;simp
theorem oU(xs:List S72)(k i:Nat)(h:i < xs.length):(uj xs k)[i]? = some (if i < k\/xs.length - k<=i then xs.getD (xs.length - 1 - i) z72 else xs.getD i z72):=by
 unfold uj;rw[List.getElem?_map,List.getElem?_range h];rfl
theorem Ja(xs:List S72):uj xs 0=xs:=by
 refine List.ext_getElem? fun i=>?_
 by_cases h:i < xs.length
 .rw[oU xs 0 i h,if_neg (by omega),List.getElem?_eq_getElem h];simp[List.getD_eq_getElem?_getD,List.getElem?_eq_getElem h]
 .rw[List.getElem?_eq_none (by rw[mP];omega),List.getElem?_eq_none (by omega)]
theorem Jb(xs:List S72)(k:Nat)(h:2 * k+1 < xs.length):((uj xs k).set k (xs.getD (xs.length - 1 - k) z72)).set (xs.length - 1 - k) (xs.getD k z72)=uj xs (k+1):=by
 refine List.ext_getElem? fun i=>?_
 by_cases hi:i < xs.length
 .rw[oU xs (k+1) i hi];by_cases e1:xs.length - 1 - k=i
  .rw[<-e1,List.getElem?_set_self (by rw[List.length_set,mP];omega),if_pos (by omega),show xs.length - 1 - (xs.length - 1 - k)=k by omega]
  .rw[List.getElem?_set_ne e1];by_cases e2:k=i
   .rw[<-e2,List.getElem?_set_self (by rw[mP];omega),if_pos (by omega)]
   .rw[List.getElem?_set_ne e2,oU xs k i hi];by_cases c:i < k\/xs.length - k<=i
    .rw[if_pos c,if_pos (by omega)]
    .rw[if_neg c,if_neg (by omega)]
 .rw[List.getElem?_eq_none (by rw[List.length_set,List.length_set,mP];omega),List.getElem?_eq_none (by rw[mP];omega)]
theorem LW(xs:List S72)(k:Nat)(h:xs.length<=2 * k+1):uj xs k=xs.reverse:=by
 refine List.ext_getElem? fun i=>?_
 by_cases hi:i < xs.length
 .rw[oU xs k i hi,List.getElem?_reverse hi,List.getElem?_eq_getElem (show xs.length - 1 - i < xs.length by omega)]
  congr 1
  have hg:∀ q (hq:q < xs.length),xs.getD q z72=xs[q]:=fun q hq=>by simp[List.getD_eq_getElem?_getD,List.getElem?_eq_getElem hq]
  by_cases c:i < k\/xs.length - k<=i
  .rw[if_pos c,hg _ (by omega)]
  .rw[if_neg c,hg _ hi]
   congr 1
   omega
 .rw[List.getElem?_eq_none (by rw[mP];omega),List.getElem?_eq_none (by rw[List.length_reverse];omega)]
theorem Dw(xs:List S72)(k i:Nat)(hi:i < xs.length)(h:¬ (i < k\/xs.length - k<=i)):(uj xs k).getD i z72=xs.getD i z72:=by
 rw[List.getD_eq_getElem?_getD,oU xs k i hi,if_neg h];rfl
theorem BQ{w w':World}{row:Option Nat}(h:w.drew.grownBy w' row):w.grownBy w' row:=⟨h.os,h.tape,h.output,h.size,h.block⟩
theorem Jc(xs:List S72)(g n cap base:Nat)(ok:Nat->Prop)(w:World)(hn:xs.length=n)(hn8:n<=100000)(h0:0 < n)(hR0:k72.R 72 w base ok (.slice (some ⟨g,0,none⟩) n cap) xs) :
  Calls Tryz.prog 50 #[.slice (some ⟨g,0,none⟩) n cap] w fun e w'=>(∃ u,e=.returned u)/\k72.R 72 w' base ok (.slice (some ⟨g,0,none⟩) n cap) xs.reverse/\w.grownBy w' (some g):=by
 have HN:=aj hn;have HR0:=aj hR0;have HP:=aj h0;clear hn hR0;go_enter Tryz.func50,Tryz.ntmps50;go_wp2;go_loopw [2,3] (fun v2 v3 wr=>∃ (x y:Int) (k:Nat),v2=.int .i64 x/\v3=.int .i64 y/\aC (x=(k:Int)/\y=(n:Int) - 1 - (k:Int)/\k<=n)/\aC (k72.R 72 wr base ok (.slice (some ⟨g,0,none⟩) n cap) (uj xs k)/\w.grownBy wr (some g))) (fun v2 _ _=>n - (intOf v2).toNat)
 case atStart=>exact⟨0,(n:Int) - 1,0,rfl,rfl,⟨rfl,by omega,Nat.zero_le _⟩,⟨by rw[Ja];exact HR0.out,World.grownBy.refl _ _⟩⟩
 case round =>
  obtain⟨x,y,k,rfl,rfl,hxy,hR⟩:=hrel;have hx0:0<=x:=by have:=hxy.out.1;omega
  have hx8:x<=100000:=by have:=hxy.out;omega
  have hy8:y<=100000:=by have:=hxy.out;omega
  have hym : -100001<=y:=by have:=hxy.out;omega
  by_cases hlt:x < y
  .have d1:decide (x < y)=true:=decide_eq_true hlt;have hx1:x < (n:Int):=by have:=hxy.out;omega
   have hy0:0<=y:=by omega
   have hy1:y < (n:Int):=by have:=hxy.out;omega
   have hkn:2 * k+1 < n:=by have:=hxy.out;omega
   obtain⟨ys,hys⟩:∃ ys,uj xs k=ys:=⟨_,rfl⟩;rw[hys] at hR;obtain⟨av,XT⟩:∃ av,ys.getD x.toNat z72=av:=⟨_,rfl⟩;obtain⟨bv,XU⟩:∃ bv,ys.getD y.toNat z72=bv:=⟨_,rfl⟩;obtain⟨ca,hla,XV,hca,hfa⟩:=Kd.EF hR.out.1 z72 x hx0 hx1;rw[XT] at XV;obtain rfl:=tN XV;have a0:wr.cell? ⟨g,x.toNat * 5,none⟩=some (.int .i64 av.f0):=hca 0 _ rfl;have fa0:wr.frozen? ⟨g,x.toNat * 5,none⟩=false:=hfa 0;have a1:wr.cell? ⟨g,x.toNat * 5+1,none⟩=some (.int .i64 av.f1):=hca 1 _ rfl;have fa1:wr.frozen? ⟨g,x.toNat * 5+1,none⟩=false:=hfa 1;have a2:wr.cell? ⟨g,x.toNat * 5+2,none⟩=some (.bool av.f2):=hca 2 _ rfl;have fa2:wr.frozen? ⟨g,x.toNat * 5+2,none⟩=false:=hfa 2;have a3:wr.cell? ⟨g,x.toNat * 5+3,none⟩=some (.bool av.f3):=hca 3 _ rfl;have fa3:wr.frozen? ⟨g,x.toNat * 5+3,none⟩=false:=hfa 3;have a4:wr.cell? ⟨g,x.toNat * 5+4,none⟩=some (.int .i64 av.f4):=hca 4 _ rfl;have fa4:wr.frozen? ⟨g,x.toNat * 5+4,none⟩=false:=hfa 4;obtain⟨cb,hlb,XW,hcb,M6⟩:=Kd.EF hR.out.1 z72 y hy0 hy1;rw[XU] at XW;obtain rfl:=tN XW;have b0:wr.cell? ⟨g,y.toNat * 5,none⟩=some (.int .i64 bv.f0):=hcb 0 _ rfl;have fb0:wr.frozen? ⟨g,y.toNat * 5,none⟩=false:=M6 0;have b1:wr.cell? ⟨g,y.toNat * 5+1,none⟩=some (.int .i64 bv.f1):=hcb 1 _ rfl;have fb1:wr.frozen? ⟨g,y.toNat * 5+1,none⟩=false:=M6 1;have b2:wr.cell? ⟨g,y.toNat * 5+2,none⟩=some (.bool bv.f2):=hcb 2 _ rfl;have fb2:wr.frozen? ⟨g,y.toNat * 5+2,none⟩=false:=M6 2;have b3:wr.cell? ⟨g,y.toNat * 5+3,none⟩=some (.bool bv.f3):=hcb 3 _ rfl;have fb3:wr.frozen? ⟨g,y.toNat * 5+3,none⟩=false:=M6 3;have b4:wr.cell? ⟨g,y.toNat * 5+4,none⟩=some (.int .i64 bv.f4):=hcb 4 _ rfl;have fb4:wr.frozen? ⟨g,y.toNat * 5+4,none⟩=false:=M6 4;have Sz:=aj (Kd.O6 (W:=wr.drew) hR.out.1 x hx0 hx1 (seg:=[.int .i64 bv.f0,.int .i64 bv.f1,.bool bv.f2,.bool bv.f3,.int .i64 bv.f4]) (j:=0) hla hca (show 5<=5 by decide) (x':=bv) (pQ _ _ _ bv) (fun _ hk=>hk));have HAV:=aj (show av=xs.getD k z72 by
    rw[<-XT,<-hys,show x.toNat=k by have:=hxy.out;omega];exact Dw xs k k (by rw[HN.out];omega) (by rw[HN.out];omega))
   have HBV:=aj (show bv=xs.getD (n - 1 - k) z72 by
    rw[<-XU,<-hys,show y.toNat=n - 1 - k by have:=hxy.out;omega];exact Dw xs k (n - 1 - k) (by rw[HN.out];omega) (by rw[HN.out];omega))
   have HYS:=aj hys;have tG:=aj hkn;have p0:=eq_true hx0;have p1:=eq_true hx1;have p2:=eq_true hy0;have p3:=eq_true hy1;clear hla hca XV hfa hlb hcb XW M6 XT XU hys hkn hlt;go_upto_region 3 with(fail);refine wB (n:=16) (S:=fun w'=>w'.cell? ⟨g,y.toNat * 5,none⟩=some (.int .i64 bv.f0)/\w'.cell? ⟨g,y.toNat * 5+1,none⟩=some (.int .i64 bv.f1)/\w'.cell? ⟨g,y.toNat * 5+2,none⟩=some (.bool bv.f2)/\w'.cell? ⟨g,y.toNat * 5+3,none⟩=some (.bool bv.f3)/\w'.cell? ⟨g,y.toNat * 5+4,none⟩=some (.int .i64 bv.f4)/\w'.cell? ⟨g,x.toNat * 5,none⟩=some (.int .i64 av.f0)/\w'.cell? ⟨g,x.toNat * 5+1,none⟩=some (.int .i64 av.f1)/\w'.cell? ⟨g,x.toNat * 5+2,none⟩=some (.bool av.f2)/\w'.cell? ⟨g,x.toNat * 5+3,none⟩=some (.bool av.f3)/\w'.cell? ⟨g,x.toNat * 5+4,none⟩=some (.int .i64 av.f4)) (ds:=[13,15]) #[aq,aq,aq,aq,aq,aq,aq,aq,aq,aq,aq,aq,aq,aq,aq,aq] (by kernel_rfl) rfl rfl ⟨b0,b1,b2,b3,b4,a0,a1,a2,a3,a4⟩ (fun hHeld=>?_);refine mA LU I_ (fun dX ud=>?_);generalize hw8:wr.drew=w8 at hHeld ⊢;change wr.drew=w8 at hw8;have XY:w8.frozen? ⟨g,x.toNat * 5,none⟩=false:=by rw[<-hw8];exact fa0
   have XZ:w8.frozen? ⟨g,x.toNat * 5+1,none⟩=false:=by rw[<-hw8];exact fa1
   have X3:w8.frozen? ⟨g,x.toNat * 5+2,none⟩=false:=by rw[<-hw8];exact fa2
   have X4:w8.frozen? ⟨g,x.toNat * 5+3,none⟩=false:=by rw[<-hw8];exact fa3
   have X5:w8.frozen? ⟨g,x.toNat * 5+4,none⟩=false:=by rw[<-hw8];exact fa4
   have a0':w8.cell? ⟨g,x.toNat * 5,none⟩=some (.int .i64 av.f0):=by rw[<-hw8];exact a0
   have LX:w8.cell? ⟨g,x.toNat * 5+1,none⟩=some (.int .i64 av.f1):=by rw[<-hw8];exact a1
   have Wg:w8.cell? ⟨g,x.toNat * 5+2,none⟩=some (.bool av.f2):=by rw[<-hw8];exact a2
   have Zy:w8.cell? ⟨g,x.toNat * 5+3,none⟩=some (.bool av.f3):=by rw[<-hw8];exact a3
   have a4':w8.cell? ⟨g,x.toNat * 5+4,none⟩=some (.int .i64 av.f4):=by rw[<-hw8];exact a4
   refine bW (i:=0) (N:=(some 14)) (v:=?_) (a':=?_) #[au,aq,aq,aq,aq,aq,aq,aq,aq,aq,aq,aq,aq,aq,aq,aq] rfl rfl (bF dX.out (by kernel_rfl)) (fun _ _ _ h=>h) (Or.inl ⟨by rfl,?_⟩) ?_ ?_;rotate_left
   .intro w';go_simp
    with_reducible rfl
   rotate_left
   .simp only[Act.put,aE,aI,aJ,bC];rfl
   refine bW (i:=1) (N:=(some 15)) (v:=?_) (a':=?_) #[au,au,aq,aq,aq,aq,aq,aq,aq,aq,aq,aq,aq,aq,aq,aq] rfl rfl (bF dX.out (by kernel_rfl)) (fun _ _ _ h=>h) (Or.inl ⟨by rfl,?_⟩) ?_ ?_;rotate_left
   .intro w';go_simp
    with_reducible rfl
   rotate_left
   .simp only[Act.put,aE,aI,aJ,bC];rfl
   refine bW (i:=2) (N:=(some 16)) (v:=?_) (a':=?_) #[au,au,au,aq,aq,aq,aq,aq,aq,aq,aq,aq,aq,aq,aq,aq] rfl rfl (bF dX.out (by kernel_rfl)) (fun _ _ _ h=>h) (Or.inl ⟨by rfl,?_⟩) ?_ ?_;rotate_left
   .intro w';go_simp
    with_reducible rfl
   rotate_left
   .simp only[Act.put,aE,aI,aJ,bC];rfl
   refine bW (i:=3) (N:=(some 17)) (v:=?_) (a':=?_) #[au,au,au,au,aq,aq,aq,aq,aq,aq,aq,aq,aq,aq,aq,aq] rfl rfl (bF dX.out (by kernel_rfl)) (fun _ _ _ h=>h) (Or.inl ⟨by rfl,?_⟩) ?_ ?_;rotate_left
   .intro w';go_simp
    with_reducible rfl
   rotate_left
   .simp only[Act.put,aE,aI,aJ,bC];rfl
   refine bW (i:=4) (N:=(some 18)) (v:=?_) (a':=?_) #[au,au,au,au,au,aq,aq,aq,aq,aq,aq,aq,aq,aq,aq,aq] rfl rfl (bF dX.out (by kernel_rfl)) (fun _ _ _ h=>h) (Or.inl ⟨by rfl,?_⟩) ?_ ?_;rotate_left
   .intro w';go_simp
    with_reducible rfl
   rotate_left
   .simp only[Act.put,aE,aI,aJ,bC];rfl
   refine bW (i:=5) (N:=(some 19)) (v:=?_) (a':=?_) #[au,au,au,au,au,au,aq,aq,aq,aq,aq,aq,aq,aq,aq,aq] rfl rfl (bF dX.out (by kernel_rfl)) (fun _ _ _ h=>h) (Or.inl ⟨by rfl,?_⟩) ?_ ?_;rotate_left
   .intro w';go_simp
    with_reducible rfl
   rotate_left
   .simp only[Act.put,aE,aI,aJ,bC];rfl
   refine bW (i:=6) (N:=(some 20)) (v:=?_) (a':=?_) #[au,au,au,au,au,au,au,aq,aq,aq,aq,aq,aq,aq,aq,aq] rfl rfl (bF dX.out (by kernel_rfl)) (fun _ _ _ h=>h) (Or.inl ⟨by rfl,?_⟩) ?_ ?_;rotate_left
   .intro w';go_simp
    with_reducible rfl
   rotate_left
   .simp only[Act.put,aE,aI,aJ,bC];rfl
   refine gY (i:=7) (N:=(some 21)) (v:=?_) (a':=?_) #[au,au,au,au,au,au,au,au,aq,aq,aq,aq,aq,aq,aq,aq] rfl rfl (dB dX.out ud.out (by kernel_rfl)) (fun _ _ _ h=>h) (Or.inl ⟨by rfl,?_⟩) hHeld ?_ ?_;rotate_left
   .rintro w' ⟨s0,s1,s2,s3,s4,s5,s6,s7,s8,s9⟩;go_simp
    with_reducible rfl
   rotate_left
   .simp only[Act.put,aE,aI,aJ,bC];rfl
   refine bW (i:=8) (N:=(some 22)) (v:=?_) (a':=?_) #[au,au,au,au,au,au,au,au,au,aq,aq,aq,aq,aq,aq,aq] rfl rfl (bF dX.out (by kernel_rfl)) (fun _ _ _ h=>h) (Or.inl ⟨by rfl,?_⟩) ?_ ?_;rotate_left
   .intro w';go_simp
    with_reducible rfl
   rotate_left
   .simp only[Act.put,aE,aI,aJ,bC];rfl
   refine bW (i:=9) (N:=(some 23)) (v:=?_) (a':=?_) #[au,au,au,au,au,au,au,au,au,au,aq,aq,aq,aq,aq,aq] rfl rfl (bF dX.out (by kernel_rfl)) (fun _ _ _ h=>h) (Or.inl ⟨by rfl,?_⟩) ?_ ?_;rotate_left
   .intro w';go_simp
    with_reducible rfl
   rotate_left
   .simp only[Act.put,aE,aI,aJ,bC];rfl
   refine bW (i:=10) (N:=(some 24)) (v:=?_) (a':=?_) #[au,au,au,au,au,au,au,au,au,au,au,aq,aq,aq,aq,aq] rfl rfl (bF dX.out (by kernel_rfl)) (fun _ _ _ h=>h) (Or.inl ⟨by rfl,?_⟩) ?_ ?_;rotate_left
   .intro w';go_simp
    with_reducible rfl
   rotate_left
   .simp only[Act.put,aE,aI,aJ,bC];rfl
   refine gY (i:=11) (N:=(some 25)) (v:=?_) (a':=?_) #[au,au,au,au,au,au,au,au,au,au,au,au,aq,aq,aq,aq] rfl rfl (dB dX.out ud.out (by kernel_rfl)) (fun _ _ _ h=>h) (Or.inl ⟨by rfl,?_⟩) hHeld ?_ ?_;rotate_left
   .rintro w' ⟨s0,s1,s2,s3,s4,s5,s6,s7,s8,s9⟩;go_simp
    with_reducible rfl
   rotate_left
   .simp only[Act.put,aE,aI,aJ,bC];rfl
   refine bW (i:=12) (N:=(some 26)) (v:=?_) (a':=?_) #[au,au,au,au,au,au,au,au,au,au,au,au,au,aq,aq,aq] rfl rfl (bF dX.out (by kernel_rfl)) (fun _ _ _ h=>h) (Or.inl ⟨by rfl,?_⟩) ?_ ?_;rotate_left
   .intro w';go_simp
    with_reducible rfl
   rotate_left
   .simp only[Act.put,aE,aI,aJ,bC];rfl
   refine CA (i:=13) (N:=none) #[au,au,au,au,au,au,au,au,au,au,au,au,au,au,aq,aq] rfl rfl (jy dX.out (by kernel_rfl)) (by decide) (fun K hK=>?_);refine wC (w1:=?_) (by rfl) rfl ?_ ?_;rotate_left
   .go_simp;rfl
   refine hK.out _ _ ?_;clear hK K;obtain⟨w11,hw11⟩:∃ w11,(((((w8.setCell ⟨g,x.toNat * 5,none⟩ (.int .i64 bv.f0)).setCell ⟨g,x.toNat * 5+1,none⟩ (.int .i64 bv.f1)).setCell ⟨g,x.toNat * 5+2,none⟩ (.bool bv.f2)).setCell ⟨g,x.toNat * 5+3,none⟩ (.bool bv.f3)).setCell ⟨g,x.toNat * 5+4,none⟩ (.int .i64 bv.f4))=w11:=⟨_,rfl⟩;have HR11:=aj (show k72.R 72 w11 base ok (.slice (some ⟨g,0,none⟩) n cap) (ys.set x.toNat bv)/\wr.grownBy w11 (some g) by rw[<-hw11,<-hw8];exact⟨Sz.out.1,BQ Sz.out.2⟩);rw[hw11];clear hw11 hw8 hHeld a0 a1 a2 a3 a4 b0 b1 b2 b3 b4 fa0 fa1 fa2 fa3 fa4;obtain⟨c9,hl9,hM9,hc9,hf9⟩:=Kd.EF HR11.out.1 z72 y hy0 hy1;obtain rfl:=tN hM9;have b0:=hc9 0 _ rfl;have b1:=hc9 1 _ rfl;have b2:=hc9 2 _ rfl;have b3:=hc9 3 _ rfl;have b4:=hc9 4 _ rfl;have X6:=aj (Kd.O6 HR11.out.1 y hy0 hy1 (seg:=[.int .i64 av.f0,.int .i64 av.f1,.bool av.f2,.bool av.f3,.int .i64 av.f4]) (j:=0) hl9 hc9 (show 5<=5 by decide) (x':=av) (pQ _ _ _ av) (fun _ hk=>hk));have fb0:=hf9 0;have fb1:=hf9 1;have fb2:=hf9 2;have fb3:=hf9 3;have fb4:=hf9 4;change w11.cell? ⟨g,y.toNat * 5,none⟩=_ at b0;change w11.cell? ⟨g,y.toNat * 5+1,none⟩=_ at b1;change w11.cell? ⟨g,y.toNat * 5+2,none⟩=_ at b2;change w11.cell? ⟨g,y.toNat * 5+3,none⟩=_ at b3;change w11.cell? ⟨g,y.toNat * 5+4,none⟩=_ at b4;change w11.frozen? ⟨g,y.toNat * 5,none⟩=_ at fb0;change w11.frozen? ⟨g,y.toNat * 5+1,none⟩=_ at fb1;change w11.frozen? ⟨g,y.toNat * 5+2,none⟩=_ at fb2;change w11.frozen? ⟨g,y.toNat * 5+3,none⟩=_ at fb3;change w11.frozen? ⟨g,y.toNat * 5+4,none⟩=_ at fb4;clear hl9 hM9 hc9 hf9;clear a0' LX Wg Zy a4' XY XZ X3 X4 X5;refine bW (i:=14) (N:=(some 27)) (v:=?_) (a':=?_) #[au,au,au,au,au,au,au,au,au,au,au,au,au,au,au,aq] rfl rfl (bF dX.out (by kernel_rfl)) (fun _ _ _ h=>h) (Or.inl ⟨by rfl,?_⟩) ?_ ?_;rotate_left
   .intro w';go_simp
    with_reducible rfl
   rotate_left
   .simp only[Act.put,aE,aI,aJ,bC];rfl
   refine CA (i:=15) (N:=none) #[au,au,au,au,au,au,au,au,au,au,au,au,au,au,au,au] rfl rfl (jy dX.out (by kernel_rfl)) (by decide) (fun K hK=>?_);refine wC (w1:=?_) (by rfl) rfl ?_ ?_;rotate_left
   .go_simp;rfl
   refine hK.out _ _ ?_;clear hK K;clear b0 b1 b2 b3 b4 fb0 fb1 fb2 fb3 fb4;refine CB (rQ dX.out (by kernel_rfl)) ?_;have CV:=aj (X6.out);go_wp2;go_roundw
   case rel =>
    refine⟨x+1,y - 1,k+1,rfl,rfl,⟨by have:=hxy.out;omega,by have:=hxy.out;omega,by have:=tG.out;omega⟩,⟨?_,(hR.out.2.trans HR11.out.2).trans CV.out.2⟩⟩;have e:((ys.set x.toNat bv).set y.toNat av)=uj xs (k+1):=by
     rw[<-HYS.out,HAV.out,HBV.out,show x.toNat=k by have:=hxy.out;omega,show y.toNat=xs.length - 1 - k by rw[HN.out];have:=hxy.out;have:=tG.out;omega,<-HN.out];exact Jb xs k (by rw[HN.out];exact tG.out)
    rw[<-e];exact CV.out.1
   case measure=>have:=tG.out;have:=hxy.out;simp[intOf];omega
  .have d1:decide (x < y)=false:=decide_eq_false hlt;have HQ:=aj (show uj xs k=xs.reverse from LW xs k (by rw[HN.out];have:=hxy.out;omega));clear hlt;go_wp2
   first|go_end0|((try simp only[Exit.inBlock,Exit.then]);refine bodyPost_ret (results_none rfl _ _ _) rfl ?_)
   exact⟨⟨_,rfl⟩,by rw[<-HQ.out];exact hR.out.1,hR.out.2⟩
def Chain(l:List S75)(S:List S30)(r:S30):Nat->Int->List S72->Prop
 | _,bf,[]=>bf=(l.length:Int)
 | k,bf,p :: P=>∃ b:Nat,gJ l bf b=true/\bf < (b:Int)/\b<=l.length/\p=Bw l (bG S r k).f1 bf b/\Chain l S r (k+1) b P
theorem xO{l:List S75}{S:List S30}{r:S30}{n:Nat}{M:Wy}(h:WV l n M []):∀ (k:Nat) (b:Int) (rest:List S72),(k=0/\b = -1\/1<=k/\(M b ((k:Int) - 1)).isSome=true)->Chain l S r k b rest->Chain l S r 0 (-1) ((mG l S r M k b).reverse ++ rest)
 | 0,b,rest,hk,hc=>by
  rcases hk with⟨_,rfl⟩|⟨q,_⟩
  .exact hc
  .omega
 | k+1,b,rest,hk,hc=>by
  rcases hk with⟨q,_⟩|⟨_,q⟩
  .omega
  rw[show((k+1:Nat):Int) - 1=(k:Int) by omega] at q;obtain⟨x,hx⟩:=Option.isSome_iff_exists.1 q;have hg:eB M b k=x:=by unfold eB;rw[hx];rfl
  obtain⟨a1,a2,a3,a4,a5⟩:=h.ent b k x hx;unfold mG;rw[List.reverse_cons,List.append_assoc,hg];refine xO h k x.2 _ ?_ ?_
  .rcases a5 with q|q
   .exact .inl ⟨by omega,q.2⟩
   .exact .inr ⟨by omega,q.2.2⟩
  .refine⟨b.toNat,a4,by omega,by omega,by rw[show((b.toNat:Nat):Int)=b by omega],?_⟩;rw[show((b.toNat:Nat):Int)=b by omega];exact hc
def MH(w:World)(mb:Nat)(M:Wy):Prop:=∃ cnt F,MF w 116 mb cnt F/\FM F M
theorem MH.step{w w':World}{mb:Nat}{M:Wy}(h:MH w mb M)(hb:Below w.heap.size w w'):MH w' mb M:=by
 obtain⟨cnt,F,h1,h2⟩:=h;exact⟨cnt,F,h1.block (hb.block mb h1.lt),h2⟩
theorem MH.look{w:World}{mb:Nat}{M:Wy}(h:MH w mb M)(b k:Int)(hb:sm b)(hk:sm k)(c:Bool) :
  (Instr.lookup 110 (.map (some mb)) (.agg #[.int .i64 b,.int .i64 k]) c).run Tryz.prog w=.ok (if c then .tuple #[Ac (eB M b k),.bool (M b k).isSome] else Ac (eB M b k)) w:=by
 obtain⟨cnt,F,h3,h4⟩:=h;have:=h3.look oQ Tryz.underlying110 (G1 w) (mN b k hb hk) c;unfold LD at this;rw[this,h4 b k hb hk];unfold eB;cases M b k with
 | none=>rfl
 | some x=>rfl
theorem qZ(M:Wy)(len:Nat):∀ (d n:Nat) (li fe:Int),(li < 0\/0<=li/\li < (n:Int)/\(M len li).isSome=true/\fe=(eB M len li).1)->(kZ M len d n li fe).1 < 0\/0<=(kZ M len d n li fe).1/\(kZ M len d n li fe).1 < ((n+d:Nat):Int)/\(M len (kZ M len d n li fe).1).isSome=true/\(kZ M len d n li fe).2=(eB M len (kZ M len d n li fe).1).1
 | 0,n,li,fe,h=>h
 | d+1,n,li,fe,h=>by
  unfold kZ;split
  .rename_i c
   have:=qZ M len d (n+1) n (eB M len n).1 (.inr ⟨by omega,by omega,c.1,rfl⟩);rw[show n+(d+1)=n+1+d by omega];exact this
  .have:=qZ M len d (n+1) li fe (by rcases h with h|h;exact .inl h;exact .inr ⟨h.1,by omega,h.2.2⟩);rw[show n+(d+1)=n+1+d by omega];exact this
theorem Ae(l:List S75)(S:List S30)(r:S30)(M:Wy):∀ k b,(mG l S r M k b).length=k
 | 0,b=>rfl
 | k+1,b=>by unfold mG;rw[List.length_cons,Ae l S r M k]
def LY(l:List S75)(S:List S30)(r:S30):Prop:=(leastOf l S r).2.2=0->0<=(leastOf l S r).2.1/\(kf l=true/\(leastOf l S r).1=[⟨(l.length:Int),(l.length:Int),false,false,0⟩]\/kf l=false/\Chain l S r 0 (-1) (leastOf l S r).1)
def Rb(l:List S75)(S:List S30)(r:S30)(w:World)(e:Ending)(w':World):Prop:=∃ v,e=.returned (.tuple #[v,.int .i64 (leastOf l S r).2.1,.int .i64 (leastOf l S r).2.2])/\k72.R 72 w' w.heap.size (fun _=>True) v (leastOf l S r).1/\Below w.heap.size w w'/\LY l S r
theorem X7{l:List S75}{s:List S30}{r:S30}{A A2:Option Addr}{c c2 n m:Nat}(hn':l.length=n)(hm:s.length=m)(w:World)(hl:Kd.C k75 w A n l)(hc:n<=c)(h:∀ x∈l,cY x)(hn:n<=8192)(hs:Kd.C k30 w A2 m s)(hc2:m<=c2)(h0:sD l s r=0) :
  Calls Tryz.prog 43 #[.slice A n c,.slice A2 m c2,.agg #[.int .i64 r.f0,.int .i64 r.f1]] w fun e w'=>e=.returned (.int .i64 0)/\Below w.heap.size w w':=by
 subst hn' hm;have:=Bt l A c s A2 c2 r w hl hc h hn hs hc2;rw[h0] at this;exact this
theorem BR(l:List S75)(A:Option Addr)(n c:Nat)(S:List S30)(A2:Option Addr)(m c2:Nat)(r:S30)(w:World)(hn:l.length=n)(hm:S.length=m)(hl:Kd.C k75 w A n l)(hc:n<=c)(hi:∀ x∈l,cY x)(hn8:n<=8192)(hs:Kd.C k30 w A2 m S)(hc2:m<=c2)(h0:bV S r=0)(Pz:sD l S r=0) :
  Calls Tryz.prog 15 #[.slice A n c,.slice A2 m c2,.agg #[.int .i64 r.f0,.int .i64 r.f1]] w (Rb l S r w):=by
 have HL:=aj hl;have HC:=aj hc;have HI:=aj hi;have HN:=aj hn;have HM:=aj hm;have HN8:=aj hn8;have HS:=aj hs;have HC2:=aj hc2;have H0:=aj h0;have zh:=aj Pz;have HB0:=aj ((Below.refl w.heap.size w).alloc (Nat.le_refl _) (.cells #[.int .i64 r.f0,.int .i64 r.f1] 30));have HR0:=aj (aH w (.cells #[.int .i64 r.f0,.int .i64 r.f1] 30));have n0:n<=8192:=hn8;obtain⟨em,hem⟩:∃ em,kf l=em:=⟨_,rfl⟩;have Ou:=aj hem;clear hl hc hi hn hm hs hc2 h0 Pz hem hn8;go_enter Tryz.func15,Tryz.ntmps15;go_upto_region 4 with(go_at_call 43;go_loud(refine(X7 HN.out HM.out _ (Kd.aM HL.out HB0.out) HC.out HI.out HN8.out (Kd.aM HS.out HB0.out) HC2.out zh.out).mono ?_;rintro e w1 ⟨rfl,hb1⟩;have HB1:=aj (HB0.out.trans (hb1.mono HB0.out.size));have HR1:=aj (ay HR0.out hb1)));have r0:w1.cell? ⟨w.heap.size,0,none⟩=some (.int .i64 r.f0):=(ak HR1.out 0).trans rfl;have r1:w1.cell? ⟨w.heap.size,1,none⟩=some (.int .i64 r.f1):=(ak HR1.out 1).trans rfl;go_upto_region 5 with(fail);have HK2:=aj (show(w1.alloc (.cells #[.slice A n c,.slice A2 m c2,.int .i64 r.f0,.int .i64 r.f1,.slice none 0 0,.slice none 0 0,.slice none 0 0,.slice none 0 0] 109)).heap[w1.heap.size]? = some (.cells (Pw A n c A2 m c2 r.f0 r.f1 (.slice none 0 0) (.slice none 0 0) (.slice none 0 0) (.slice none 0 0)) 109 (0,0)) from aH _ _);have HB2:=aj (HB1.out.alloc HB1.out.size (.cells #[.slice A n c,.slice A2 m c2,.int .i64 r.f0,.int .i64 r.f1,.slice none 0 0,.slice none 0 0,.slice none 0 0,.slice none 0 0] 109));have HR2:=aj (aP HR1.out (.cells #[.slice A n c,.slice A2 m c2,.int .i64 r.f0,.int .i64 r.f1,.slice none 0 0,.slice none 0 0,.slice none 0 0,.slice none 0 0] 109));have HG1:=aj (show w.heap.size<=w1.heap.size/\w.heap.size < w1.heap.size from ⟨HB1.out.size,aY HR1.out⟩);obtain⟨bs,hbs⟩:∃ bs,w1.heap.size=bs:=⟨_,rfl⟩;rw[hbs] at HK2 HG1 ⊢;generalize w1.alloc (.cells #[.slice A n c,.slice A2 m c2,.int .i64 r.f0,.int .i64 r.f1,.slice none 0 0,.slice none 0 0,.slice none 0 0,.slice none 0 0] 109)=w2 at *;clear r0 r1 hbs;go_upto_region 6 with(go_at_call 44;go_loud(refine(IW l S r A A2 n c m c2 bs _ HK2.out HN.out HN8.out w.heap.size HG1.out.1 (fun w' hb'=>Kd.aM HL.out (HB2.out.trans hb')) HI.out).mono ?_;rintro e w3 ⟨⟨u,rfl⟩,g4,g5,g6,g7,hst,Hr,hb3⟩;have HB3:=aj (HB2.out.trans hb3);have HR3:=aj (Hr.blk HR2.out (fun e=>by have:=HG1.out.2;omega));have Ep:=aj (show M4 w3 bs n l A c A2 m c2 r S g4 g5 g6 g7 from ⟨hst,Kd.aM HS.out HB3.out,HM.out,HC2.out,H0.out,HI.out,HN.out,HN8.out,HC.out⟩);clear hst Hr hb3));cases em with
 | true =>
  have HF:=aj (show leastOf l S r=([⟨(n:Int),(n:Int),false,false,0⟩],100,0) by unfold leastOf;rw[if_neg (by rw[zh.out];simp),if_pos Ou.out,HN.out]);go_wp2_with (first|(go_at_call 45;go_loud(refine(kJ Ep.out.st HN.out HN8.out true Ou.out).mono ?_;rintro e w4 ⟨rfl,hb4⟩;have HB4:=aj (HB3.out.trans (hb4.mono HB3.out.size))))|((with_reducible refine aS (N:=44) rfl ?_);go_loud(refine Kd.O5 k72 (w0:=w) (W:=w4) w.heap.size 72 rfl (N:=44) rfl (xs:=[⟨(n:Int),(n:Int),false,false,0⟩]) (inner:=[.int .i64 (n:Int),.int .i64 (n:Int),.bool false,.bool false,.int .i64 0]) (ok:=fun _=>True) (uJ:=fun _=>False) ?_ ?_ (fun _ h=>h.elim) trivial HB4.out HB4.out.size (by simp) ?_;(focus (first|(go_simp;done)|(go_simp;rfl)));(focus (exact(iY.none _ _).snoc (pQ _ _ _ _) rfl));intro v5 w5 hR5 hb5 hg5 ab2)));refine bodyPost_ret (v:=.tuple #[v5,.int .i64 100,.int .i64 0]) (by first|(simp[results,Tryz.results15,go_sem];done)|rfl) rfl ?_;refine⟨v5,by rw[HF.out],by rw[HF.out];exact hR5,hb5,fun _=>⟨by rw[HF.out];show(0:Int)<=100;decide,.inl ⟨Ou.out,by rw[HF.out,HN.out]⟩⟩⟩
 | false =>
  obtain⟨MR,Q9⟩:∃ MR,w_ l S r=MR:=⟨_,rfl⟩;have Sx:=aj Q9;obtain⟨LI,FE,hP⟩:∃ LI FE,xg l S r=(LI,FE):=⟨_,_,rfl⟩;have HP:=aj (show kZ MR n (n+1 - 0) 0 (-1) 0=(LI,FE) by rw[<-hP,<-Q9,Nat.sub_zero];unfold xg;rw[HN.out]);have X8:=aj (show LI < 0\/0<=LI/\LI < ((0+(n+1):Nat):Int)/\(MR n LI).isSome=true/\FE=(eB MR n LI).1 by
   have:=qZ MR n (n+1) 0 (-1) 0 (.inl (by decide));have e:kZ MR n (n+1) 0 (-1) 0=(LI,FE):=by have:=HP.out;rw[Nat.sub_zero] at this;exact this
   rw[e] at this;exact this)
  have HF:=aj (show leastOf l S r=if LI < 0 then ([],0,6) else ((mG l S r MR (LI.toNat+1) (n:Int)).reverse,FE,0) by unfold leastOf;rw[if_neg (by rw[zh.out];simp),if_neg (by rw[Ou.out];decide),hP,Q9,HN.out]);clear Q9 hP;go_upto_region 9 with(first|(go_at_call 45;go_loud(refine(kJ Ep.out.st HN.out HN8.out false Ou.out).mono ?_;rintro e w4 ⟨rfl,hb4⟩;have HB4:=aj (HB3.out.trans (hb4.mono HB3.out.size));have I9:=aj (Ep.out.below hb4);have HR4:=aj (ay HR3.out hb4)))|(go_at_call 46;go_loud(refine(FD I9.out MR Sx.out).mono ?_;rintro e w5 ⟨mb,rfl,Zz,hb5,k5,ZA⟩;have HMH:=aj (show MH w5 mb MR from Zz);have HB5:=aj (HB4.out.trans (hb5.mono HB4.out.size));have X9:=aj (I9.out.below hb5);have HR5:=aj (ay HR4.out hb5);have X_:=aj ZA;clear Zz hb5 ZA)));go_wp2;go_loopw [12,13,14] (fun v12 v13 v14 wr=>∃ (li fe y:Int) (k:Nat),v12=.int .i64 li/\v13=.int .i64 fe/\v14=.int .i64 y/\aC (y=(k:Int)/\k<=n+1)/\aC (kZ MR n (n+1 - k) k li fe=(LI,FE))/\aC (Below w5.heap.size w5 wr)) (fun _ _ v14 _=>n+1 - (intOf v14).toNat)
  case atStart=>exact⟨-1,0,0,0,rfl,rfl,rfl,⟨rfl,Nat.zero_le _⟩,HP,⟨Below.refl _ _⟩⟩
  case round =>
   obtain⟨li,fe,y,k,rfl,rfl,rfl,hy,hW,hB⟩:=hrel;have y0:0<=y:=by have:=hy.out.1;omega
   have y8:y<=8193:=by have:=hy.out;omega
   have TX:=aj (HMH.out.step hB.out);by_cases hkn:k<=n
   .have d1:decide (y<=(n:Int))=true:=decide_eq_true (by have:=hy.out.1;omega);have tG:=aj hkn;have sn:sm (n:Int):=⟨by omega,by omega⟩;have sy:sm y:=⟨by omega,by omega⟩;obtain⟨e1,e2,he⟩:∃ e1 e2,eB MR n y=(e1,e2):=⟨_,_,rfl⟩;obtain⟨ib,hib⟩:∃ ib,(MR n y).isSome=ib:=⟨_,rfl⟩;have hlk:(Instr.lookup 110 (.map (some mb)) (.agg #[.int .i64 (n:Int),.int .i64 y]) true).run Tryz.prog wr=.ok (.tuple #[.agg #[.int .i64 e1,.int .i64 e2],.bool ib]) wr:=by
     have:=TX.out.look n y sn sy true;rw[he,hib] at this;exact this
    have hW2:=hW.out;rw[show n+1 - k=(n+1 - (k+1))+1 by omega,kZ,<-hy.out.1,he,hib] at hW2;have HW2:=aj hW2;clear he hib hW2 hkn;go_upto_region 14 with(fail);have HX6:=aj (aH wr (.cells #[.int .i64 e1,.int .i64 e2] 113));have HB6:=aj (hB.out.trans (((Below.refl wr.heap.size wr).alloc (Nat.le_refl _) (.cells #[.int .i64 e1,.int .i64 e2] 113)).mono hB.out.size));obtain⟨bx,hbx⟩:∃ bx,wr.heap.size=bx:=⟨_,rfl⟩;rw[hbx] at HX6 ⊢;generalize wr.alloc (.cells #[.int .i64 e1,.int .i64 e2] 113)=w6 at *;clear hbx hlk;have x0:w6.cell? ⟨bx,0,none⟩=some (.int .i64 e1):=(ak HX6.out 0).trans rfl;by_cases ht:ib=true/\(li < 0\/e1 < fe)
    .have hW3:=HW2.out;rw[if_pos ht] at hW3;have HW3:=aj hW3;have hib:ib=true:=ht.1;subst hib;have hor:=ht.2;clear ht hW3;by_cases hneg:li < 0
     .have d3:decide (li < 0)=true:=decide_eq_true hneg;go_upto_region 15 with(fail);have b0:=Bx.cell x0;refine aZ (by kernel_rfl) (by kernel_rfl) ?_
      repeat(go_big_quiet_step (fail))
      refine wpQuiet_nil ?_;intro w9 hb9;clear b0 x0;go_wp2;go_roundw
      case rel=>exact⟨y,e1,y+1,k+1,rfl,rfl,rfl,⟨by have:=hy.out.1;omega,by have:=tG.out;omega⟩,HW3,⟨HB6.out.trans (hb9.mono HB6.out.size)⟩⟩
      case measure=>have:=tG.out;have:=hy.out.1;simp[intOf];omega
     .have d3:decide (li < 0)=false:=decide_eq_false hneg;have d4:decide (e1 < fe)=true:=decide_eq_true (by omega);go_upto_region 15 with(fail);have b0:=Bx.cell x0;refine aZ (by kernel_rfl) (by kernel_rfl) ?_
      repeat(go_big_quiet_step (fail))
      refine wpQuiet_nil ?_;intro w9 hb9;clear b0 x0;go_wp2;go_roundw
      case rel=>exact⟨y,e1,y+1,k+1,rfl,rfl,rfl,⟨by have:=hy.out.1;omega,by have:=tG.out;omega⟩,HW3,⟨HB6.out.trans (hb9.mono HB6.out.size)⟩⟩
      case measure=>have:=tG.out;have:=hy.out.1;simp[intOf];omega
    .have hW3:=HW2.out;rw[if_neg ht] at hW3;have HW3:=aj hW3;clear hW3;cases ib with
     | false =>
      clear ht;go_wp2;go_roundw
      case rel=>exact⟨li,fe,y+1,k+1,rfl,rfl,rfl,⟨by have:=hy.out.1;omega,by have:=tG.out;omega⟩,HW3,HB6⟩
      case measure=>have:=tG.out;have:=hy.out.1;simp[intOf];omega
     | true =>
      have d3:decide (li < 0)=false:=decide_eq_false (fun q=>ht ⟨rfl,.inl q⟩);have d4:decide (e1 < fe)=false:=decide_eq_false (fun q=>ht ⟨rfl,.inr q⟩);clear ht;go_wp2;go_roundw
      case rel=>exact⟨li,fe,y+1,k+1,rfl,rfl,rfl,⟨by have:=hy.out.1;omega,by have:=tG.out;omega⟩,HW3,HB6⟩
      case measure=>have:=tG.out;have:=hy.out.1;simp[intOf];omega
   .have d1:decide (y<=(n:Int))=false:=decide_eq_false (by have:=hy.out.1;omega);have Wf:=aj (show li=LI/\fe=FE by
     have:=hW.out;rw[show n+1 - k=0 by omega,kZ] at this;exact⟨congrArg Prod.fst this,congrArg Prod.snd this⟩)
    have hli:li=LI:=Wf.out.1;have hfe:fe=FE:=Wf.out.2;subst hli hfe;have HB6:=aj (HB5.out.trans (hB.out.mono HB5.out.size));have Ya:=aj (X9.out.below hB.out);have HR6:=aj (ay HR5.out hB.out);clear hkn;by_cases hneg:li < 0
    .have d3:decide (li < 0)=true:=decide_eq_true hneg;have HF2:=aj (show leastOf l S r=([],0,6) by rw[HF.out,if_pos hneg]);clear hneg;go_wp2;refine bodyPost_ret (v:=.tuple #[.slice none 0 0,.int .i64 0,.int .i64 6]) (by first|(simp[results,Tryz.results15,go_sem];done)|rfl) rfl ?_;refine⟨_,by rw[HF2.out],by rw[HF2.out];exact Kd.nO _ _ _ _ _,HB6.out,fun q=>?_⟩;rw[HF2.out] at q;exact absurd (show(6:Int)=0 from q) (by decide)
    .have d3:decide (li < 0)=false:=decide_eq_false hneg;have hpk:0<=li/\li < ((0+(n+1):Nat):Int)/\(MR n li).isSome=true/\fe=(eB MR n li).1:=(by rcases X8.out with q|q;exact absurd q hneg;exact q);have OC:=aj hpk;obtain⟨K,hK⟩:∃ K:Nat,li=(K:Int):=⟨li.toNat,by omega⟩;have HK:=aj (show li=(K:Int)/\K<=n from ⟨hK,by omega⟩);obtain⟨PB,Ot⟩:∃ PB,mG l S r MR (K+1) (n:Int)=PB:=⟨_,rfl⟩;have Bs:=aj Ot;have KW:=aj (show PB.length=K+1 by rw[<-Ot];exact Ae l S r MR _ _);have HF2:=aj (show leastOf l S r=(PB.reverse,fe,0) by rw[HF.out,if_neg hneg,show li.toNat=K by omega,Ot]);have l0:0<=li:=hpk.1;have l8:li<=8192:=(by omega);clear hneg hpk hK Ot;go_wp2;obtain⟨wo,rfl⟩:∃ wo:World,wo=wr:=⟨_,rfl⟩;have HMO:=TX;go_loopw [17,18,19] (fun v17 v18 v19 wq=>∃ (z b:Int) (k1:Nat) (acc:List S72),v18=.int .i64 z/\v19=.int .i64 b/\aC (z=(k1:Int) - 1/\k1<=K+1/\-1<=b/\b<=(n:Int))/\aC (k1=0\/(MR b ((k1:Int) - 1)).isSome=true)/\aC (acc ++ mG l S r MR k1 b=PB)/\aC (k72.R 72 wq wo.heap.size (fun _=>True) v17 acc/\Below wo.heap.size wo wq)) (fun _ v18 _ _=>(intOf v18+1).toNat)
     case atStart=>exact⟨li,(n:Int),K+1,[],rfl,rfl,⟨by have:=HK.out.1;omega,by omega,by omega,by omega⟩,⟨.inr (by rw[show((K+1:Nat):Int) - 1=li by have:=HK.out.1;omega];exact OC.out.2.2.1)⟩,⟨by rw[List.nil_append];exact Bs.out⟩,⟨Kd.nO _ _ _ _ _,Below.refl _ _⟩⟩
     case round =>
      obtain⟨z,b,k1,acc,rfl,rfl,hz,qP,hacc,BS⟩:=hrel;have z8:z<=8192:=(by have:=hz.out;have:=HK.out.2;omega);have zm : -1<=z:=(by have:=hz.out;omega);have HB7:=aj (HB6.out.trans (BS.out.2.mono HB6.out.size));have Rc:=aj (Ya.out.below BS.out.2);have HR7:=aj (ay HR6.out BS.out.2);have HM7:=aj (HMO.out.step BS.out.2);cases k1 with
      | succ k =>
       have d5:decide (0<=z)=true:=decide_eq_true (by have:=hz.out;omega);have z0:0<=z:=of_decide_eq_true d5;have Yb:z=(k:Int):=(by have:=hz.out.1;omega);have hsome:(MR b z).isSome=true:=(by rcases qP.out with q|q;omega;rwa [show((k+1:Nat):Int) - 1=z by omega] at q);obtain⟨⟨e1,e2⟩,hx⟩:=Option.isSome_iff_exists.1 hsome;obtain⟨a1,a2,a3,a4,a5⟩:=X_.out.ent b z (e1,e2) hx;have hg:eB MR b z=(e1,e2):=(by unfold eB;rw[hx];rfl);have hlk:(Instr.lookup 110 (.map (some mb)) (.agg #[.int .i64 b,.int .i64 z]) false).run Tryz.prog wr=.ok (.agg #[.int .i64 e1,.int .i64 e2]) wr:=by
        have:=HM7.out.look b z ⟨by have:=hz.out;omega,by have:=hz.out;omega⟩ ⟨by omega,by omega⟩ false;rw[hg] at this;exact this
       have hf2:=I6 e1 e2;have he2 : -1<=e2/\e2 < b/\b<=(l.length:Int):=a2;have xH:b<=(n:Int):=hz.out.2.2.2;have hb0:0<=b:=(by omega);obtain⟨a,ha⟩:∃ a:Int,((lstart l e2:Nat):Int)=a:=⟨_,rfl⟩;have HA:=aj ha;have Ft:=aj (show lstart l e2<=n by have:=(mH l e2 (by omega)).1;rw[<-HN.out];exact this);obtain⟨W,hW⟩:∃ W,nZ l (lstart l e2) b.toNat=W:=⟨_,rfl⟩;have HW:=aj hW;obtain⟨X,hX⟩:∃ X,(bG S r k).f0=X:=⟨_,rfl⟩;obtain⟨R,hR⟩:∃ R,(bG S r k).f1=R:=⟨_,rfl⟩;have ZB:=aj (And.intro hX hR);obtain⟨hb,Yc⟩:∃ hb,Es l b=hb:=⟨_,rfl⟩;have HHB:=aj Yc;have IC:=aj (show mG l S r MR (k+1) b=⟨a,b,decide (R < W),hb,W⟩ :: mG l S r MR k e2 by
        show Bw l (bG S r k).f1 (eB MR b k).2 b :: mG l S r MR k (eB MR b k).2=_;rw[<-Yb,hg];unfold Bw;rw[ha,hR,hW,Yc])
       have Yd:=aj Yb;have HE:=aj (show -1<=e2/\e2<=(n:Int)/\(z=0/\e2 = -1\/1<=z/\0<=e2/\(MR e2 (z - 1)).isSome=true) from ⟨by omega,by omega,a5⟩);have q0 : -1<=e2:=he2.1;have q1:e2<=8192:=(by omega);have q2:b<=8192:=(by omega);have hf30:=BO X R;have r0:wr.cell? ⟨w.heap.size,0,none⟩=some (.int .i64 r.f0):=(ak HR7.out 0).trans rfl;have r1:wr.cell? ⟨w.heap.size,1,none⟩=some (.int .i64 r.f1):=(ak HR7.out 1).trans rfl;clear hsome hx a1 a2 a3 a4 a5 hg he2 ha hW hX hR Yc Yb;go_upto_region 25 with(first|(go_at_call 47;go_loud(refine(dP Rc.out.st HN.out HN8.out e2 q0 HE.out.2.1 a HA.out).mono ?_;rintro e w8 ⟨rfl,rfl⟩))|(go_at_call 48;go_loud(refine(xG Rc.out a b (lstart l e2) b.toNat HA.out.symm (by omega) Ft.out (by omega) W HW.out).mono ?_;rintro e w8 ⟨rfl,hb8⟩;have HB8:=aj (HB7.out.trans (hb8.mono HB7.out.size));have TY:=aj (Rc.out.below hb8);have HR8:=aj (ay HR7.out hb8);have FI:=aj (And.intro (Kd.dL BS.out.1 hb8) (BS.out.2.trans (hb8.mono BS.out.2.size))))));clear r0 r1 hlk hf2;have r0:w8.cell? ⟨w.heap.size,0,none⟩=some (.int .i64 r.f0):=(ak HR8.out 0).trans rfl;have r1:w8.cell? ⟨w.heap.size,1,none⟩=some (.int .i64 r.f1):=(ak HR8.out 1).trans rfl;have JU:=aj (show acc.length<=8193 by
        have:=congrArg List.length hacc.out;rw[List.length_append,KW.out] at this;have:=HK.out.2;omega)
       go_wp2_with (first|(go_at_call 22;go_loud(refine(vR TY.out.hs HM.out HC2.out z k Yd.out X R ZB.out.1 ZB.out.2).mono ?_;rintro e w9 ⟨rfl,hb9⟩;have Ye:=aj (TY.out.below hb9);have vE:=aj (And.intro (Kd.dL FI.out.1 hb9) (FI.out.2.trans (hb9.mono FI.out.2.size)))))|(go_at_call 49;go_loud(refine(lT Ye.out.st HN.out HN8.out b hb HHB.out).mono ?_;rintro e w10 ⟨rfl,rfl⟩))|(at_builtin;go_loud(refine Kd.gH k72 (w0:=wo) (W:=w9) wo.heap.size rfl (.tmp 98) (.tmp 113) 59 72 (.agg #[.int .i64 0,.int .i64 0,.bool false,.bool false,.int .i64 0]) 32 rfl Tryz.underlying59 GY rfl (by decide) (by decide) _ acc ⟨a,b,decide (R < W),hb,W⟩ [.int .i64 a,.int .i64 b,.bool (decide (R < W)),.bool hb,.int .i64 W] (fun _=>True) (fun _=>False) (by rfl) (by rfl) (pQ _ _ _ _) (fun _ h=>h.elim) (fun _ _=>trivial) vE.out.1 vE.out.2 vE.out.2.size (by have:=JU.out;omega) ?_;intro v11 w11 hR11 hB11 _ _)));go_roundw
       case rel =>
        refine⟨z - 1,e2,k,acc ++ [⟨a,b,decide (R < W),hb,W⟩],rfl,rfl,⟨by have:=hz.out;omega,by have:=hz.out;omega,HE.out.1,HE.out.2.1⟩,⟨?_⟩,⟨?_⟩,⟨hR11,hB11⟩⟩
        .rcases HE.out.2.2 with q|q
         .exact .inl (by have:=Yd.out;omega)
         .exact .inr (by rw[<-Yd.out];exact q.2.2)
        .have:=hacc.out;rw[IC.out] at this;rw[List.append_assoc];exact this
       case measure=>have:=hz.out;simp[intOf];omega
      | zero =>
       have d5:decide (0<=z)=false:=decide_eq_false (by have:=hz.out;omega);have G3:acc=PB:=(by have:=hacc.out;rw[mG,List.append_nil] at this;exact this);subst G3;have hl1:=KW.out;obtain⟨A7,c7,hv,hc7,_⟩:=Kd.fG BS.out.1;have hfm:∃ g,A7=some ⟨g,0,none⟩/\wo.heap.size<=g:=by
        obtain⟨inner,ho,hr⟩:=BS.out.1.2;rcases ho.2 with⟨e,e2⟩|⟨g,cap,cur,e,hg,_⟩
        .omega
        .rw[hv] at e;injection e with e;exact⟨g,e,hg⟩
       obtain⟨g,rfl,hgb⟩:=hfm;have GX:=aj BS.out.1;have HGB:=aj hgb;obtain⟨N1,hN1⟩:∃ N1,acc.length=N1:=⟨_,rfl⟩;have HN1:=aj hN1;rw[hv,hN1] at GX;rw[hN1] at hv hl1;subst hv;have HB7:=aj BS.out.2;have T9:=aj hl1;clear hN1 hl1 hc7;go_wp2_with (go_at_call 50;go_loud(refine(Jc acc g N1 c7 _ _ _ HN1.out (by have:=T9.out;have:=HK.out;omega) (by have:=T9.out;omega) GX.out).mono ?_;rintro e w12 ⟨⟨u,rfl⟩,hR12,hg12⟩));refine bodyPost_ret (v:=.tuple #[.slice (some ⟨g,0,none⟩) N1 c7,.int .i64 fe,.int .i64 0]) (by first|(simp[results,Tryz.results15,go_sem];done)|rfl) rfl ?_;have hB12:Below wo.heap.size wo w12:=HB7.out.grown hg12 HB7.out.size (fun k e=>by injection e with e;rw[<-e];exact HGB.out);refine⟨_,by rw[HF2.out],by rw[HF2.out];exact Kd.fF hR12 HB6.out.size,HB6.out.trans (hB12.mono HB6.out.size),fun _=>?_⟩;rw[HF2.out];refine⟨?_,.inr ⟨Ou.out,?_⟩⟩
       .show 0<=fe;rw[OC.out.2.2.2];obtain⟨x,hx⟩:=Option.isSome_iff_exists.1 OC.out.2.2.1;unfold eB;rw[hx];exact(X_.out.ent _ _ _ hx).2.2.1.1
       .have:=xO (S:=S) (r:=r) X_.out (K+1) (n:Int) [] (.inr ⟨by omega,by rw[show((K+1:Nat):Int) - 1=li by have:=HK.out.1;omega];exact OC.out.2.2.1⟩) (by show(n:Int)=(l.length:Int);rw[HN.out]);rw[List.append_nil,Bs.out] at this;exact this
end Go.Proofs.YtcaallkkeighdaaGreatDoor.P
