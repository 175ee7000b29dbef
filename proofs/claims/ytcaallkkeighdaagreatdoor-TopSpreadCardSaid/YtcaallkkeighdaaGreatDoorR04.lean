/- The walk of functions of the program to their answers in plain Lean;no further condition. The values' own types: clusters,lines,glyphs. What the functions of package cluster answer,as plain functions of a text's bytes. -/
import Derived.Test.YtcaallkkeighdaaGreatDoorProg
import Derived.Test.YtcaallkkeighdaaGreatDoorR03
set_option maxRecDepth 100000
set_option maxHeartbeats 16000000
set_option linter.unusedVariables false
set_option linter.unusedSimpArgs false
namespace Go.Proofs.YtcaallkkeighdaaGreatDoor.P
open Go.RowKit aD aQ aR
attribute [local go_sem] cN cO dw dA mB
def SL:Option Int->Value
 | none=>.nilIface
 | some c=>.iface 0 (.int .i64 c)
theorem bQ:SL none=.nilIface:=rfl
theorem bR(c:Int):SL (some c)=.iface 0 (.int .i64 c):=rfl
theorem ao0:(Tryz.prog.info? 9).map (fun i=>(i.zero,i.size,i.bytes))=some (some (.string ⟨#[]⟩),1,16):=by kernel_rfl
theorem P_:(Tryz.prog.info? 75).map (fun i=>(i.zero,i.size,i.bytes))=some (some (.agg #[(.int .i64 0),(.int .i64 0),(.int .i64 0),(.int .i64 0),(.int .i64 0),(.int .i64 0),(.int .i64 0),(.bool false)]),8,64):=by kernel_rfl
theorem J8:(Tryz.prog.info? 99).map (fun i=>(i.zero,i.size,i.bytes))=some (some (.agg #[(.int .i64 0),(.int .i64 0),(.int .i64 0),(.int .i64 0),(.int .i64 0),(.int .i64 0)]),6,48):=by kernel_rfl
theorem al6:(Tryz.prog.info? 123).map (fun i=>(i.zero,i.size,i.bytes))=some (some (.agg #[(.int .i64 0),(.int .i64 0),(.int .i64 0),(.int .i64 0)]),4,32):=by kernel_rfl
structure S121 where
 f0:Int
 f1:Int
 f2:Int
def z121:S121:=⟨(0:Int),(0:Int),(0:Int)⟩
def k121:Kd S121:=Kd.Nf (Kd.pair (Kd.int .i64) (Kd.pair (Kd.int .i64) (Kd.int .i64))) (fun x:S121=>(x.f0,x.f1,x.f2))
theorem Hw{w:World}{x:S121}{cs:List Value}(h:k121.K w x cs):cs=[.int .i64 x.f0,.int .i64 x.f1,.int .i64 x.f2]:=by
 obtain⟨_,_,rfl,rfl,⟨_,_,rfl,rfl,rfl⟩⟩:=h;exact rfl
theorem Nl(w:World)(x:S121)  : k121.K w x [.int .i64 x.f0,.int .i64 x.f1,.int .i64 x.f2]:=⟨[.int .i64 x.f0],[.int .i64 x.f1,.int .i64 x.f2],rfl,rfl,⟨[.int .i64 x.f1],[.int .i64 x.f2],rfl,rfl,rfl⟩⟩
structure S123 where
 f0:Int
 f1:S121
def z123:S123:=⟨(0:Int),z121⟩
def k123:Kd S123:=Kd.Nf (Kd.pair (Kd.int .i64) k121) (fun x:S123=>(x.f0,x.f1))
theorem zO{w:World}{x:S123}{cs:List Value}(h:k123.K w x cs):cs=[.int .i64 x.f0,.int .i64 x.f1.f0,.int .i64 x.f1.f1,.int .i64 x.f1.f2]:=by
 obtain⟨_,_,rfl,rfl,s1⟩:=h;obtain rfl:=Hw s1;exact rfl
theorem AX(w:World)(x:S123)  : k123.K w x [.int .i64 x.f0,.int .i64 x.f1.f0,.int .i64 x.f1.f1,.int .i64 x.f1.f2]:=⟨[.int .i64 x.f0],[.int .i64 x.f1.f0,.int .i64 x.f1.f1,.int .i64 x.f1.f2],rfl,rfl,(Nl w x.f1 )⟩
def bI(xs:List S123)(i:Int):S123:=xs.getD i.toNat z123
theorem jH{w:World}{A:Option Addr}{n:Nat}{xs:List S123}(h:Kd.C k123 w A n xs)(i:Int)(h0:0<=i)(h1:i < n):∃ ad ,A=some ad/\w.cell? (ad.add (i.toNat * 4))=some (.int .i64 (bI xs i).f0)/\w.cell? ⟨(ad.add (i.toNat * 4)).block,(ad.add (i.toNat * 4)).off+1,none⟩=some (.int .i64 (bI xs i).f1.f0)/\w.cell? ⟨(ad.add (i.toNat * 4)).block,(ad.add (i.toNat * 4)).off+2,none⟩=some (.int .i64 (bI xs i).f1.f1)/\w.cell? ⟨(ad.add (i.toNat * 4)).block,(ad.add (i.toNat * 4)).off+3,none⟩=some (.int .i64 (bI xs i).f1.f2):=by
 obtain⟨ad,c,e,_,hK,hc0⟩:=Kd.uI h z123 i h0 h1;have hc:∀ j u,c[j]? = some u->w.cell? (ad.add (i.toNat * 4+j))=some u:=hc0;obtain rfl:=zO hK;exact⟨ad,e,hc 0 _ rfl,by rw[<-bM _ _ 1 (by omega)];exact hc 1 _ rfl,by rw[<-bM _ _ 2 (by omega)];exact hc 2 _ rfl,by rw[<-bM _ _ 3 (by omega)];exact hc 3 _ rfl⟩
structure S30 where
 f0:Int
 f1:Int
def z30:S30:=⟨(0:Int),(0:Int)⟩
def k30:Kd S30:=Kd.Nf (Kd.pair (Kd.int .i64) (Kd.int .i64)) (fun x:S30=>(x.f0,x.f1))
theorem rR{w:World}{x:S30}{cs:List Value}(h:k30.K w x cs):cs=[.int .i64 x.f0,.int .i64 x.f1]:=by
 obtain⟨_,_,rfl,rfl,rfl⟩:=h;exact rfl
theorem EI(w:World)(x:S30)  : k30.K w x [.int .i64 x.f0,.int .i64 x.f1]:=⟨[.int .i64 x.f0],[.int .i64 x.f1],rfl,rfl,rfl⟩
theorem vG(w:World)(base:Nat)(ok:Nat->Prop)(x:S30)  : k30.M w base ok x [.int .i64 x.f0,.int .i64 x.f1]:=⟨[.int .i64 x.f0],[.int .i64 x.f1],rfl,rfl,rfl⟩
def jA(xs:List S30)(i:Int):S30:=xs.getD i.toNat z30
theorem J9{w:World}{A:Option Addr}{n:Nat}{xs:List S30}(h:Kd.C k30 w A n xs)(i:Int)(h0:0<=i)(h1:i < n):∃ ad ,A=some ad/\w.cell? (ad.add (i.toNat * 2))=some (.int .i64 (jA xs i).f0)/\w.cell? ⟨(ad.add (i.toNat * 2)).block,(ad.add (i.toNat * 2)).off+1,none⟩=some (.int .i64 (jA xs i).f1):=by
 obtain⟨ad,c,e,_,hK,hc0⟩:=Kd.uI h z30 i h0 h1;have hc:∀ j u,c[j]? = some u->w.cell? (ad.add (i.toNat * 2+j))=some u:=hc0;obtain rfl:=rR hK;exact⟨ad,e,hc 0 _ rfl,by rw[<-bM _ _ 1 (by omega)];exact hc 1 _ rfl⟩
structure S99 where
 f0:Int
 f1:Int
 f2:Int
 f3:Int
 f4:Int
 f5:Int
def z99:S99:=⟨(0:Int),(0:Int),(0:Int),(0:Int),(0:Int),(0:Int)⟩
def k99:Kd S99:=Kd.Nf (Kd.pair (Kd.int .i64) (Kd.pair (Kd.int .i64) (Kd.pair (Kd.int .i64) (Kd.pair (Kd.int .i64) (Kd.pair (Kd.int .i64) (Kd.int .i64)))))) (fun x:S99=>(x.f0,x.f1,x.f2,x.f3,x.f4,x.f5))
theorem wG{w:World}{x:S99}{cs:List Value}(h:k99.K w x cs):cs=[.int .i64 x.f0,.int .i64 x.f1,.int .i64 x.f2,.int .i64 x.f3,.int .i64 x.f4,.int .i64 x.f5]:=by
 obtain⟨_,_,rfl,rfl,⟨_,_,rfl,rfl,⟨_,_,rfl,rfl,⟨_,_,rfl,rfl,⟨_,_,rfl,rfl,rfl⟩⟩⟩⟩⟩:=h;exact rfl
theorem J_(w:World)(x:S99)  : k99.K w x [.int .i64 x.f0,.int .i64 x.f1,.int .i64 x.f2,.int .i64 x.f3,.int .i64 x.f4,.int .i64 x.f5]:=⟨[.int .i64 x.f0],[.int .i64 x.f1,.int .i64 x.f2,.int .i64 x.f3,.int .i64 x.f4,.int .i64 x.f5],rfl,rfl,⟨[.int .i64 x.f1],[.int .i64 x.f2,.int .i64 x.f3,.int .i64 x.f4,.int .i64 x.f5],rfl,rfl,⟨[.int .i64 x.f2],[.int .i64 x.f3,.int .i64 x.f4,.int .i64 x.f5],rfl,rfl,⟨[.int .i64 x.f3],[.int .i64 x.f4,.int .i64 x.f5],rfl,rfl,⟨[.int .i64 x.f4],[.int .i64 x.f5],rfl,rfl,rfl⟩⟩⟩⟩⟩
theorem Gy(w:World)(base:Nat)(ok:Nat->Prop)(x:S99)  : k99.M w base ok x [.int .i64 x.f0,.int .i64 x.f1,.int .i64 x.f2,.int .i64 x.f3,.int .i64 x.f4,.int .i64 x.f5]:=⟨[.int .i64 x.f0],[.int .i64 x.f1,.int .i64 x.f2,.int .i64 x.f3,.int .i64 x.f4,.int .i64 x.f5],rfl,rfl,⟨[.int .i64 x.f1],[.int .i64 x.f2,.int .i64 x.f3,.int .i64 x.f4,.int .i64 x.f5],rfl,rfl,⟨[.int .i64 x.f2],[.int .i64 x.f3,.int .i64 x.f4,.int .i64 x.f5],rfl,rfl,⟨[.int .i64 x.f3],[.int .i64 x.f4,.int .i64 x.f5],rfl,rfl,⟨[.int .i64 x.f4],[.int .i64 x.f5],rfl,rfl,rfl⟩⟩⟩⟩⟩
def aV(xs:List S99)(i:Int):S99:=xs.getD i.toNat z99
theorem eV{w:World}{A:Option Addr}{n:Nat}{xs:List S99}(h:Kd.C k99 w A n xs)(i:Int)(h0:0<=i)(h1:i < n):∃ ad ,A=some ad/\w.cell? (ad.add (i.toNat * 6))=some (.int .i64 (aV xs i).f0)/\w.cell? ⟨(ad.add (i.toNat * 6)).block,(ad.add (i.toNat * 6)).off+1,none⟩=some (.int .i64 (aV xs i).f1)/\w.cell? ⟨(ad.add (i.toNat * 6)).block,(ad.add (i.toNat * 6)).off+2,none⟩=some (.int .i64 (aV xs i).f2)/\w.cell? ⟨(ad.add (i.toNat * 6)).block,(ad.add (i.toNat * 6)).off+3,none⟩=some (.int .i64 (aV xs i).f3)/\w.cell? ⟨(ad.add (i.toNat * 6)).block,(ad.add (i.toNat * 6)).off+4,none⟩=some (.int .i64 (aV xs i).f4)/\w.cell? ⟨(ad.add (i.toNat * 6)).block,(ad.add (i.toNat * 6)).off+5,none⟩=some (.int .i64 (aV xs i).f5):=by
 obtain⟨ad,c,e,_,hK,hc0⟩:=Kd.uI h z99 i h0 h1;have hc:∀ j u,c[j]? = some u->w.cell? (ad.add (i.toNat * 6+j))=some u:=hc0;obtain rfl:=wG hK;exact⟨ad,e,hc 0 _ rfl,by rw[<-bM _ _ 1 (by omega)];exact hc 1 _ rfl,by rw[<-bM _ _ 2 (by omega)];exact hc 2 _ rfl,by rw[<-bM _ _ 3 (by omega)];exact hc 3 _ rfl,by rw[<-bM _ _ 4 (by omega)];exact hc 4 _ rfl,by rw[<-bM _ _ 5 (by omega)];exact hc 5 _ rfl⟩
structure S75 where
 f0:Int
 f1:Int
 f2:Int
 f3:Int
 f4:Int
 f5:Int
 f6:Int
 f7:Bool
def z75:S75:=⟨(0:Int),(0:Int),(0:Int),(0:Int),(0:Int),(0:Int),(0:Int),false⟩
def k75:Kd S75:=Kd.Nf (Kd.pair (Kd.int .i64) (Kd.pair (Kd.int .i64) (Kd.pair (Kd.int .i64) (Kd.pair (Kd.int .i64) (Kd.pair (Kd.int .i64) (Kd.pair (Kd.int .i64) (Kd.pair (Kd.int .i64) Kd.bool))))))) (fun x:S75=>(x.f0,x.f1,x.f2,x.f3,x.f4,x.f5,x.f6,x.f7))
theorem Ka{w:World}{x:S75}{cs:List Value}(h:k75.K w x cs):cs=[.int .i64 x.f0,.int .i64 x.f1,.int .i64 x.f2,.int .i64 x.f3,.int .i64 x.f4,.int .i64 x.f5,.int .i64 x.f6,.bool x.f7]:=by
 obtain⟨_,_,rfl,rfl,⟨_,_,rfl,rfl,⟨_,_,rfl,rfl,⟨_,_,rfl,rfl,⟨_,_,rfl,rfl,⟨_,_,rfl,rfl,⟨_,_,rfl,rfl,rfl⟩⟩⟩⟩⟩⟩⟩:=h;exact rfl
theorem Nn(w:World)(base:Nat)(ok:Nat->Prop)(x:S75)  : k75.M w base ok x [.int .i64 x.f0,.int .i64 x.f1,.int .i64 x.f2,.int .i64 x.f3,.int .i64 x.f4,.int .i64 x.f5,.int .i64 x.f6,.bool x.f7]:=⟨[.int .i64 x.f0],[.int .i64 x.f1,.int .i64 x.f2,.int .i64 x.f3,.int .i64 x.f4,.int .i64 x.f5,.int .i64 x.f6,.bool x.f7],rfl,rfl,⟨[.int .i64 x.f1],[.int .i64 x.f2,.int .i64 x.f3,.int .i64 x.f4,.int .i64 x.f5,.int .i64 x.f6,.bool x.f7],rfl,rfl,⟨[.int .i64 x.f2],[.int .i64 x.f3,.int .i64 x.f4,.int .i64 x.f5,.int .i64 x.f6,.bool x.f7],rfl,rfl,⟨[.int .i64 x.f3],[.int .i64 x.f4,.int .i64 x.f5,.int .i64 x.f6,.bool x.f7],rfl,rfl,⟨[.int .i64 x.f4],[.int .i64 x.f5,.int .i64 x.f6,.bool x.f7],rfl,rfl,⟨[.int .i64 x.f5],[.int .i64 x.f6,.bool x.f7],rfl,rfl,⟨[.int .i64 x.f6],[.bool x.f7],rfl,rfl,rfl⟩⟩⟩⟩⟩⟩⟩
def fL(xs:List S75)(i:Int):S75:=xs.getD i.toNat z75
theorem eD{w:World}{A:Option Addr}{n:Nat}{xs:List S75}(h:Kd.C k75 w A n xs)(i:Int)(h0:0<=i)(h1:i < n):∃ ad ,A=some ad/\w.cell? (ad.add (i.toNat * 8))=some (.int .i64 (fL xs i).f0)/\w.cell? ⟨(ad.add (i.toNat * 8)).block,(ad.add (i.toNat * 8)).off+1,none⟩=some (.int .i64 (fL xs i).f1)/\w.cell? ⟨(ad.add (i.toNat * 8)).block,(ad.add (i.toNat * 8)).off+2,none⟩=some (.int .i64 (fL xs i).f2)/\w.cell? ⟨(ad.add (i.toNat * 8)).block,(ad.add (i.toNat * 8)).off+3,none⟩=some (.int .i64 (fL xs i).f3)/\w.cell? ⟨(ad.add (i.toNat * 8)).block,(ad.add (i.toNat * 8)).off+4,none⟩=some (.int .i64 (fL xs i).f4)/\w.cell? ⟨(ad.add (i.toNat * 8)).block,(ad.add (i.toNat * 8)).off+5,none⟩=some (.int .i64 (fL xs i).f5)/\w.cell? ⟨(ad.add (i.toNat * 8)).block,(ad.add (i.toNat * 8)).off+6,none⟩=some (.int .i64 (fL xs i).f6)/\w.cell? ⟨(ad.add (i.toNat * 8)).block,(ad.add (i.toNat * 8)).off+7,none⟩=some (.bool (fL xs i).f7):=by
 obtain⟨ad,c,e,_,hK,hc0⟩:=Kd.uI h z75 i h0 h1;have hc:∀ j u,c[j]? = some u->w.cell? (ad.add (i.toNat * 8+j))=some u:=hc0;obtain rfl:=Ka hK;exact⟨ad,e,hc 0 _ rfl,by rw[<-bM _ _ 1 (by omega)];exact hc 1 _ rfl,by rw[<-bM _ _ 2 (by omega)];exact hc 2 _ rfl,by rw[<-bM _ _ 3 (by omega)];exact hc 3 _ rfl,by rw[<-bM _ _ 4 (by omega)];exact hc 4 _ rfl,by rw[<-bM _ _ 5 (by omega)];exact hc 5 _ rfl,by rw[<-bM _ _ 6 (by omega)];exact hc 6 _ rfl,by rw[<-bM _ _ 7 (by omega)];exact hc 7 _ rfl⟩
structure S72 where
 f0:Int
 f1:Int
 f2:Bool
 f3:Bool
 f4:Int
def z72:S72:=⟨(0:Int),(0:Int),false,false,(0:Int)⟩
def k72:Kd S72:=Kd.Nf (Kd.pair (Kd.int .i64) (Kd.pair (Kd.int .i64) (Kd.pair Kd.bool (Kd.pair Kd.bool (Kd.int .i64))))) (fun x:S72=>(x.f0,x.f1,x.f2,x.f3,x.f4))
theorem Ke{w:World}{x:S72}{cs:List Value}(h:k72.K w x cs):cs=[.int .i64 x.f0,.int .i64 x.f1,.bool x.f2,.bool x.f3,.int .i64 x.f4]:=by
 obtain⟨_,_,rfl,rfl,⟨_,_,rfl,rfl,⟨_,_,rfl,rfl,⟨_,_,rfl,rfl,rfl⟩⟩⟩⟩:=h;exact rfl
theorem tN{w:World}{base:Nat}{ok:Nat->Prop}{x:S72}{cs:List Value}(h:k72.M w base ok x cs):cs=[.int .i64 x.f0,.int .i64 x.f1,.bool x.f2,.bool x.f3,.int .i64 x.f4]:=by
 obtain⟨_,_,rfl,rfl,⟨_,_,rfl,rfl,⟨_,_,rfl,rfl,⟨_,_,rfl,rfl,rfl⟩⟩⟩⟩:=h;exact rfl
theorem pQ(w:World)(base:Nat)(ok:Nat->Prop)(x:S72)  : k72.M w base ok x [.int .i64 x.f0,.int .i64 x.f1,.bool x.f2,.bool x.f3,.int .i64 x.f4]:=⟨[.int .i64 x.f0],[.int .i64 x.f1,.bool x.f2,.bool x.f3,.int .i64 x.f4],rfl,rfl,⟨[.int .i64 x.f1],[.bool x.f2,.bool x.f3,.int .i64 x.f4],rfl,rfl,⟨[.bool x.f2],[.bool x.f3,.int .i64 x.f4],rfl,rfl,⟨[.bool x.f3],[.int .i64 x.f4],rfl,rfl,rfl⟩⟩⟩⟩
def mX(xs:List S72)(i:Int):S72:=xs.getD i.toNat z72
theorem Kf{w:World}{A:Option Addr}{n:Nat}{xs:List S72}(h:Kd.C k72 w A n xs)(i:Int)(h0:0<=i)(h1:i < n):∃ ad ,A=some ad/\w.cell? (ad.add (i.toNat * 5))=some (.int .i64 (mX xs i).f0)/\w.cell? ⟨(ad.add (i.toNat * 5)).block,(ad.add (i.toNat * 5)).off+1,none⟩=some (.int .i64 (mX xs i).f1)/\w.cell? ⟨(ad.add (i.toNat * 5)).block,(ad.add (i.toNat * 5)).off+2,none⟩=some (.bool (mX xs i).f2)/\w.cell? ⟨(ad.add (i.toNat * 5)).block,(ad.add (i.toNat * 5)).off+3,none⟩=some (.bool (mX xs i).f3)/\w.cell? ⟨(ad.add (i.toNat * 5)).block,(ad.add (i.toNat * 5)).off+4,none⟩=some (.int .i64 (mX xs i).f4):=by
 obtain⟨ad,c,e,_,hK,hc0⟩:=Kd.uI h z72 i h0 h1;have hc:∀ j u,c[j]? = some u->w.cell? (ad.add (i.toNat * 5+j))=some u:=hc0;obtain rfl:=Ke hK;exact⟨ad,e,hc 0 _ rfl,by rw[<-bM _ _ 1 (by omega)];exact hc 1 _ rfl,by rw[<-bM _ _ 2 (by omega)];exact hc 2 _ rfl,by rw[<-bM _ _ 3 (by omega)];exact hc 3 _ rfl,by rw[<-bM _ _ 4 (by omega)];exact hc 4 _ rfl⟩
end Go.Proofs.YtcaallkkeighdaaGreatDoor.P
namespace Go.Proofs.YtcaallkkeighdaaGreatDoor.P
open Go.RowKit aD aQ aR
theorem info3:(Tryz.prog.info? 3).map (fun i=>(i.zero,i.size,i.bytes))=some (some (.int .i64 0),1,8):=by kernel_rfl
theorem Kg:(Tryz.prog.info? 4).map (fun i=>(i.zero,i.size,i.bytes))=some (some (.bool false),1,1):=by kernel_rfl
theorem qq:(Tryz.prog.info? 5).map (fun i=>(i.zero,i.size,i.bytes))=some (some (.int .u8 0),1,1):=by kernel_rfl
theorem Qa:(Tryz.prog.info? 50).map (fun i=>(i.zero,i.size,i.bytes))=some (some (.agg #[(.int .i64 0),(.int .i64 0),(.int .i64 0)]),3,24):=by kernel_rfl
theorem AY:(Tryz.prog.info? 46).map (fun i=>(i.zero,i.size,i.bytes))=some (some (.agg #[(.int .i64 0),(.int .i64 0),(.int .i64 0),(.int .i64 0),(.int .i64 0),(.bool false),(.int .i64 0)]),7,56):=by kernel_rfl
theorem AZ:(Tryz.prog.info? 48).map (fun i=>(i.zero,i.size,i.bytes))=some (some (.agg #[(.int .i64 0),(.int .i64 0),(.int .i64 0),(.int .i64 0)]),4,32):=by kernel_rfl
theorem Qb:(Tryz.prog.info? 30).map (fun i=>(i.zero,i.size,i.bytes))=some (some (.agg #[(.int .i64 0),(.int .i64 0)]),2,16):=by kernel_rfl
theorem Qc:(Tryz.prog.info? 72).map (fun i=>(i.zero,i.size,i.bytes))=some (some (.agg #[(.int .i64 0),(.int .i64 0),(.bool false),(.bool false),(.int .i64 0)]),5,32):=by kernel_rfl
structure S50 where
 f0:Int
 f1:Int
 f2:Int
def z50:S50:=⟨(0:Int),(0:Int),(0:Int)⟩
def k50:Kd S50:=Kd.Nf (Kd.pair (Kd.int .i64) (Kd.pair (Kd.int .i64) (Kd.int .i64))) (fun x:S50=>(x.f0,x.f1,x.f2))
theorem Kh{w:World}{x:S50}{cs:List Value}(h:k50.K w x cs):cs=[.int .i64 x.f0,.int .i64 x.f1,.int .i64 x.f2]:=by
 obtain⟨_,_,rfl,rfl,⟨_,_,rfl,rfl,rfl⟩⟩:=h;exact rfl
theorem Np(w:World)(base:Nat)(ok:Nat->Prop)(x:S50):k50.M w base ok x [.int .i64 x.f0,.int .i64 x.f1,.int .i64 x.f2]:=⟨[.int .i64 x.f0],[.int .i64 x.f1,.int .i64 x.f2],rfl,rfl,⟨[.int .i64 x.f1],[.int .i64 x.f2],rfl,rfl,rfl⟩⟩
def kS(xs:List S50)(i:Int):S50:=xs.getD i.toNat z50
theorem Ki{w:World}{A:Option Addr}{n:Nat}{xs:List S50}(h:Kd.C k50 w A n xs)(i:Int)(h0:0<=i)(h1:i < n):∃ ad ,A=some ad/\w.cell? (ad.add (i.toNat * 3))=some (.int .i64 (kS xs i).f0)/\w.cell? ⟨(ad.add (i.toNat * 3)).block,(ad.add (i.toNat * 3)).off+1,none⟩=some (.int .i64 (kS xs i).f1)/\w.cell? ⟨(ad.add (i.toNat * 3)).block,(ad.add (i.toNat * 3)).off+2,none⟩=some (.int .i64 (kS xs i).f2):=by
 obtain⟨ad,c,e,_,hK,hc0⟩:=Kd.uI h z50 i h0 h1;have hc:∀ j u,c[j]? = some u->w.cell? (ad.add (i.toNat * 3+j))=some u:=hc0;obtain rfl:=Kh hK;exact⟨ad,e,hc 0 _ rfl,by rw[<-bM _ _ 1 (by omega)];exact hc 1 _ rfl,by rw[<-bM _ _ 2 (by omega)];exact hc 2 _ rfl⟩
structure S46 where
 f0:Int
 f1:Int
 f2:Int
 f3:Int
 f4:Int
 f5:Bool
 f6:Int
def z46:S46:=⟨(0:Int),(0:Int),(0:Int),(0:Int),(0:Int),false,(0:Int)⟩
def k46:Kd S46:=Kd.Nf (Kd.pair (Kd.int .i64) (Kd.pair (Kd.int .i64) (Kd.pair (Kd.int .i64) (Kd.pair (Kd.int .i64) (Kd.pair (Kd.int .i64) (Kd.pair (Kd.bool) (Kd.int .i64))))))) (fun x:S46=>(x.f0,x.f1,x.f2,x.f3,x.f4,x.f5,x.f6))
theorem Kj{w:World}{x:S46}{cs:List Value}(h:k46.K w x cs):cs=[.int .i64 x.f0,.int .i64 x.f1,.int .i64 x.f2,.int .i64 x.f3,.int .i64 x.f4,.bool x.f5,.int .i64 x.f6]:=by
 obtain⟨_,_,rfl,rfl,⟨_,_,rfl,rfl,⟨_,_,rfl,rfl,⟨_,_,rfl,rfl,⟨_,_,rfl,rfl,⟨_,_,rfl,rfl,rfl⟩⟩⟩⟩⟩⟩:=h;exact rfl
theorem vH(w:World)(base:Nat)(ok:Nat->Prop)(x:S46):k46.M w base ok x [.int .i64 x.f0,.int .i64 x.f1,.int .i64 x.f2,.int .i64 x.f3,.int .i64 x.f4,.bool x.f5,.int .i64 x.f6]:=⟨[.int .i64 x.f0],[.int .i64 x.f1,.int .i64 x.f2,.int .i64 x.f3,.int .i64 x.f4,.bool x.f5,.int .i64 x.f6],rfl,rfl,⟨[.int .i64 x.f1],[.int .i64 x.f2,.int .i64 x.f3,.int .i64 x.f4,.bool x.f5,.int .i64 x.f6],rfl,rfl,⟨[.int .i64 x.f2],[.int .i64 x.f3,.int .i64 x.f4,.bool x.f5,.int .i64 x.f6],rfl,rfl,⟨[.int .i64 x.f3],[.int .i64 x.f4,.bool x.f5,.int .i64 x.f6],rfl,rfl,⟨[.int .i64 x.f4],[.bool x.f5,.int .i64 x.f6],rfl,rfl,⟨[.bool x.f5],[.int .i64 x.f6],rfl,rfl,rfl⟩⟩⟩⟩⟩⟩
def dJ(xs:List S46)(i:Int):S46:=xs.getD i.toNat z46
theorem EJ{w:World}{A:Option Addr}{n:Nat}{xs:List S46}(h:Kd.C k46 w A n xs)(i:Int)(h0:0<=i)(h1:i < n):∃ ad ,A=some ad/\w.cell? (ad.add (i.toNat * 7))=some (.int .i64 (dJ xs i).f0)/\w.cell? ⟨(ad.add (i.toNat * 7)).block,(ad.add (i.toNat * 7)).off+1,none⟩=some (.int .i64 (dJ xs i).f1)/\w.cell? ⟨(ad.add (i.toNat * 7)).block,(ad.add (i.toNat * 7)).off+2,none⟩=some (.int .i64 (dJ xs i).f2)/\w.cell? ⟨(ad.add (i.toNat * 7)).block,(ad.add (i.toNat * 7)).off+3,none⟩=some (.int .i64 (dJ xs i).f3)/\w.cell? ⟨(ad.add (i.toNat * 7)).block,(ad.add (i.toNat * 7)).off+4,none⟩=some (.int .i64 (dJ xs i).f4)/\w.cell? ⟨(ad.add (i.toNat * 7)).block,(ad.add (i.toNat * 7)).off+5,none⟩=some (.bool (dJ xs i).f5)/\w.cell? ⟨(ad.add (i.toNat * 7)).block,(ad.add (i.toNat * 7)).off+6,none⟩=some (.int .i64 (dJ xs i).f6):=by
 obtain⟨ad,c,e,_,hK,hc0⟩:=Kd.uI h z46 i h0 h1;have hc:∀ j u,c[j]? = some u->w.cell? (ad.add (i.toNat * 7+j))=some u:=hc0;obtain rfl:=Kj hK;exact⟨ad,e,hc 0 _ rfl,by rw[<-bM _ _ 1 (by omega)];exact hc 1 _ rfl,by rw[<-bM _ _ 2 (by omega)];exact hc 2 _ rfl,by rw[<-bM _ _ 3 (by omega)];exact hc 3 _ rfl,by rw[<-bM _ _ 4 (by omega)];exact hc 4 _ rfl,by rw[<-bM _ _ 5 (by omega)];exact hc 5 _ rfl,by rw[<-bM _ _ 6 (by omega)];exact hc 6 _ rfl⟩
structure S48 where
 f0:Int
 f1:Int
 f2:Int
 f3:Int
def z48:S48:=⟨(0:Int),(0:Int),(0:Int),(0:Int)⟩
def k48:Kd S48:=Kd.Nf (Kd.pair (Kd.int .i64) (Kd.pair (Kd.int .i64) (Kd.pair (Kd.int .i64) (Kd.int .i64)))) (fun x:S48=>(x.f0,x.f1,x.f2,x.f3))
theorem Kk{w:World}{x:S48}{cs:List Value}(h:k48.K w x cs):cs=[.int .i64 x.f0,.int .i64 x.f1,.int .i64 x.f2,.int .i64 x.f3]:=by
 obtain⟨_,_,rfl,rfl,⟨_,_,rfl,rfl,⟨_,_,rfl,rfl,rfl⟩⟩⟩:=h;exact rfl
theorem vI(w:World)(base:Nat)(ok:Nat->Prop)(x:S48):k48.M w base ok x [.int .i64 x.f0,.int .i64 x.f1,.int .i64 x.f2,.int .i64 x.f3]:=⟨[.int .i64 x.f0],[.int .i64 x.f1,.int .i64 x.f2,.int .i64 x.f3],rfl,rfl,⟨[.int .i64 x.f1],[.int .i64 x.f2,.int .i64 x.f3],rfl,rfl,⟨[.int .i64 x.f2],[.int .i64 x.f3],rfl,rfl,rfl⟩⟩⟩
def iG(xs:List S48)(i:Int):S48:=xs.getD i.toNat z48
theorem Kl{w:World}{A:Option Addr}{n:Nat}{xs:List S48}(h:Kd.C k48 w A n xs)(i:Int)(h0:0<=i)(h1:i < n):∃ ad ,A=some ad/\w.cell? (ad.add (i.toNat * 4))=some (.int .i64 (iG xs i).f0)/\w.cell? ⟨(ad.add (i.toNat * 4)).block,(ad.add (i.toNat * 4)).off+1,none⟩=some (.int .i64 (iG xs i).f1)/\w.cell? ⟨(ad.add (i.toNat * 4)).block,(ad.add (i.toNat * 4)).off+2,none⟩=some (.int .i64 (iG xs i).f2)/\w.cell? ⟨(ad.add (i.toNat * 4)).block,(ad.add (i.toNat * 4)).off+3,none⟩=some (.int .i64 (iG xs i).f3):=by
 obtain⟨ad,c,e,_,hK,hc0⟩:=Kd.uI h z48 i h0 h1;have hc:∀ j u,c[j]? = some u->w.cell? (ad.add (i.toNat * 4+j))=some u:=hc0;obtain rfl:=Kk hK;exact⟨ad,e,hc 0 _ rfl,by rw[<-bM _ _ 1 (by omega)];exact hc 1 _ rfl,by rw[<-bM _ _ 2 (by omega)];exact hc 2 _ rfl,by rw[<-bM _ _ 3 (by omega)];exact hc 3 _ rfl⟩
def fP(c:Int):Bool:=decide ((97<=c/\c<=122)\/(65<=c/\c<=90))
def pR(c:Int):Bool:=decide (c=94\/c=96\/c=126)
def kindOf(c:Int):Int :=
 if fP c=true then 1 else if c=32 then 3 else if c=9 then 4 else if c=31 then 5 else if c=1 then 6 else if c=2 then 7 else if c=3 then 8 else if 32 < c/\c<=126 then 2 else 0
def mY(s:ByteArray):Nat->Nat->Int
 | 0,_=>0
 | d+1,i=>if kindOf (bt s (i:Int))=0 then 4 else mY s d (i+1)
def cB(s:ByteArray):Int:=if 4096 < s.size then 3 else mY s s.size 0
def ext(s:ByteArray)(a:Nat)(q:Int):Nat->Nat->Nat
 | 0,t=>t
 | d+1,t=>if q=1/\t < s.size/\t < a+3/\pR (bt s (t:Int))=true then ext s a q d (t+1) else t
def fH(s:ByteArray)(a:Nat):Nat:=ext s a (kindOf (bt s (a:Int))) 3 (a+1)
def rS(s:ByteArray)(a:Nat):S50:=⟨(a:Int),(fH s a:Int),kindOf (bt s (a:Int))⟩
def cP(s:ByteArray):Nat->Nat->List S50
 | 0,_=>[]
 | d+1,a=>if a < s.size then rS s a :: cP s d (fH s a) else []
def cQ(s:ByteArray):List S50:=cP s s.size 0
theorem Qd(s:ByteArray)(a:Nat)(q:Int)(d:Nat):∀ t,t<=ext s a q d t:=by
 induction d with
 | zero=>intro t;exact Nat.le_refl _
 | succ d ih =>
  intro t;simp only[ext];split
  .exact Nat.le_trans (Nat.le_succ t) (ih (t+1))
  .exact Nat.le_refl _
theorem Qe(s:ByteArray)(a:Nat)(q:Int)(d:Nat):∀ t,t<=s.size->ext s a q d t<=s.size:=by
 induction d with
 | zero=>intro t h;exact h
 | succ d ih =>
  intro t h;simp only[ext];split
  .rename_i c;exact ih (t+1) (by omega)
  .exact h
theorem jf(s:ByteArray)(a:Nat):a < fH s a:=Qd s a _ 3 (a+1)
theorem wH(s:ByteArray)(a:Nat)(h:a < s.size):fH s a<=s.size:=Qe s a _ 3 (a+1) (by omega)
theorem qt(s:ByteArray)(d:Nat):∀ a e,s.size<=a+d->s.size<=a+e->cP s d a=cP s e a:=by
 induction d with
 | zero =>
  intro a e h1 h2;cases e with
  | zero=>rfl
  | succ e=>simp only[cP];rw[if_neg (by omega)]
 | succ d ih =>
  intro a e h1 h2;cases e with
  | zero=>simp only[cP];rw[if_neg (by omega)]
  | succ e =>
   simp only[cP];split
   .have:=jf s a;rw[ih (fH s a) e (by omega) (by omega)]
   .rfl
def rest(s:ByteArray)(a:Nat):List S50:=cP s s.size a
theorem kM(s:ByteArray)(a:Nat)(h:a < s.size):rest s a=rS s a :: rest s (fH s a):=by
 unfold rest;have g:=jf s a;rw[qt s s.size a (s.size+1) (by omega) (by omega)];simp only[cP];rw[if_pos h]
theorem Km(s:ByteArray)(a:Nat)(h:s.size<=a):rest s a=[]:=by
 unfold rest;rw[qt s s.size a 0 (by omega) (by omega)];rfl
def gL(s:ByteArray):List S50 × Int:=if cB s=0 then (cQ s,0) else ([],cB s)
def placeOf(s:ByteArray)(a:Int):Int:=if cB s=0 then (if a < 0\/(s.size:Int) < a then 5 else 0) else cB s
def fS(n:Int)(a:Int):List S50->Int
 | []=>n
 | c :: l=>if c.f1 > a then c.f1 else fS n a l
def gM(a:Int):List S50->Bool
 | []=>false
 | c :: l=>if c.f0=a then true else gM a l
def iK.f(_:Nat)(a0:ByteArray):Option (List S50 × Int):=some (gL a0)
end Go.Proofs.YtcaallkkeighdaaGreatDoor.P
