/- What a paragraph and slots that come in read as;the tables of the row's condition. -/
import Derived.Test.YtcaallkkeighdaaGreatDoorRows
import Derived.Test.YtcaallkkeighdaaGreatDoorTie
import Derived.ProofKit
import Derived.OpenShut
import Derived.ShutString
import Derived.ChangeOld
import Derived.SizedLaws
import Derived.LaidMore
import Derived.Deep.Slices
import Derived.Lib.LaidTab
import Derived.Stop.Joined
import Derived.Test.YtcaallkkeighdaaGreatDoorQ43
set_option maxRecDepth 100000
set_option maxHeartbeats 16000000
set_option linter.unusedVariables false
set_option linter.unusedSimpArgs false
namespace Go.Proofs.YtcaallkkeighdaaGreatDoor.MI
open Go.ChangeShapes Go.WideShapes Go.ChangeAt Go.WideMaps Go.WideElems Go.Deep Go.RowKit aD P
section
variable {H:Type} {enc:TypeId × Value->H} {P:Program} {w:World} {α:Type} [Inhabited α] {d:Kd α} {Good:α->Prop}
theorem uH {t e:TypeId} {c1:Value} {x:DataW H × List MemPlace} {fuel:Nat} (ht:P.underlying t=some (.slice e)) (hc:P.cellsOf e=d.sz)
  (hel:∀ n cs y,DataW.trod enc P w 0 (fun _=>true) true n e cs=some y->∃ x:α,d.K w x cs/\Good x)
  (h:DataW.trod enc P w 0 (fun _=>true) true fuel t [c1]=some x) :
  ∃ (a:Option Addr) (cap:Nat) (xs:List α),c1=.slice a xs.length cap/\xs.length<=cap/\d.C w a xs.length xs/\∀ x∈xs,Good x:=by
 rcases open_slice ht h with ⟨hcs,_⟩|⟨ad,l,c,m,n,D,Pl,hcs,_,hl,hm,hmm,hx,hi⟩
 .obtain rfl:=List.head_eq_of_cons_eq hcs
  exact ⟨none,0,[],rfl,Nat.le_refl _,⟨rfl,by simp,fun h=>absurd h (by simp)⟩,fun _ h=>by simp at h⟩
 .obtain rfl:=List.head_eq_of_cons_eq hcs
  have hml:l<=m:=by rw [hmm];split<;>omega
  have each:∀ i,i < l->∃ x:α × List Value,w.cells? 0 (ad.add (i * P.cellsOf e)) (P.cellsOf e)=some x.2/\d.K w x.1 x.2/\Good x.1:=by
   intro i hlt;obtain ⟨cs',h1,h2⟩:=hi i (by omega);obtain ⟨y,hk,hg⟩:=hel _ _ _ h2;exact ⟨(y,cs'),h1,hk,hg⟩
  obtain ⟨f,hfi⟩:=choose_lt each;have hlen:((List.range l).map fun i=>(f i).1).length=l:=by simp
  refine ⟨some ad,c,(List.range l).map fun i=>(f i).1,by rw [hlen],by rw [hlen];exact hl,?_,?_⟩
  .refine ⟨rfl,?_,fun _=>⟨ad,rfl,fun i p hp=>?_⟩⟩
   .rw [hlen];unfold maxLen at hm;omega
   .have hlt:i < l:=by have:=(List.getElem?_eq_some_iff.1 hp).1;simpa using this
    obtain ⟨h1,h2,_⟩:=hfi i hlt;have:p=(f i).1:=by simpa [hlt] using hp.symm
    subst this;obtain ⟨_,L7,hcell⟩:=World.cells?_some h1;refine ⟨(f i).2,d.qj h2,h2,fun q u hu=>?_⟩;have hq:q < P.cellsOf e:=(by rw [<-L7];exact (List.getElem?_eq_some_iff.1 hu).1);have:=hcell q hq;rw [Deep.add_add] at this;rw [<-hc,this];exact hu
  .intro y hy
   obtain ⟨i,hi1,rfl⟩:=List.mem_map.1 hy;exact (hfi i (List.mem_range.1 hi1)).2.2
end
instance:Inhabited S123:=⟨z123⟩
instance:Inhabited S30:=⟨z30⟩
section
variable {H:Type} {enc:TypeId × Value->H} {W:World}
theorem R8 (n:Nat) (cs:List Value) (y:DataW H × List MemPlace) (h:DataW.trod enc Tryz.prog W 0 (fun _=>true) true n 24 cs=some y):∃ x:Pr,cs=[.int .i64 x.f0,.int .i64 x.f1,.int .i64 x.f2,.int .i64 x.f3,.int .i64 x.f4,.int .i64 x.f5,.int .i64 x.f6,.int .i64 x.f7,.int .i64 x.f8,.int .i64 x.f9,.int .i64 x.f10,.int .i64 x.f11,.int .i64 x.f12,.int .i64 x.f13,.int .i64 x.f14,.int .i64 x.f15,.int .i64 x.f16]:=by
 obtain ⟨xs,m,_,_,hl,hlen,hf⟩:=DataW.trod_struct Tryz.underlying24 h;rw [show Tryz.prog.cellsOf 24=17 from by kernel_rfl] at hl
 match cs,hl,xs,hlen with
 | [c0,c1,c2,c3,c4,c5,c6,c7,c8,c9,c10,c11,c12,c13,c14,c15,c16],_,[y0,y1,y2,y3,y4,y5,y6,y7,y8,y9,y10,y11,y12,y13,y14,y15,y16],_ =>
  have g0:DataW.trod enc Tryz.prog W 0 (fun _=>true) true m 3 (List.take (Tryz.prog.cellsOf 3) (List.drop 0 [c0,c1,c2,c3,c4,c5,c6,c7,c8,c9,c10,c11,c12,c13,c14,c15,c16]))=some y0:=hf 0 _ rfl;have g1:DataW.trod enc Tryz.prog W 0 (fun _=>true) true m 3 (List.take (Tryz.prog.cellsOf 3) (List.drop 1 [c0,c1,c2,c3,c4,c5,c6,c7,c8,c9,c10,c11,c12,c13,c14,c15,c16]))=some y1:=hf 1 _ rfl;have g2:DataW.trod enc Tryz.prog W 0 (fun _=>true) true m 3 (List.take (Tryz.prog.cellsOf 3) (List.drop 2 [c0,c1,c2,c3,c4,c5,c6,c7,c8,c9,c10,c11,c12,c13,c14,c15,c16]))=some y2:=hf 2 _ rfl;have g3:DataW.trod enc Tryz.prog W 0 (fun _=>true) true m 3 (List.take (Tryz.prog.cellsOf 3) (List.drop 3 [c0,c1,c2,c3,c4,c5,c6,c7,c8,c9,c10,c11,c12,c13,c14,c15,c16]))=some y3:=hf 3 _ rfl;have g4:DataW.trod enc Tryz.prog W 0 (fun _=>true) true m 3 (List.take (Tryz.prog.cellsOf 3) (List.drop 4 [c0,c1,c2,c3,c4,c5,c6,c7,c8,c9,c10,c11,c12,c13,c14,c15,c16]))=some y4:=hf 4 _ rfl;have g5:DataW.trod enc Tryz.prog W 0 (fun _=>true) true m 3 (List.take (Tryz.prog.cellsOf 3) (List.drop 5 [c0,c1,c2,c3,c4,c5,c6,c7,c8,c9,c10,c11,c12,c13,c14,c15,c16]))=some y5:=hf 5 _ rfl;have g6:DataW.trod enc Tryz.prog W 0 (fun _=>true) true m 3 (List.take (Tryz.prog.cellsOf 3) (List.drop 6 [c0,c1,c2,c3,c4,c5,c6,c7,c8,c9,c10,c11,c12,c13,c14,c15,c16]))=some y6:=hf 6 _ rfl;have g7:DataW.trod enc Tryz.prog W 0 (fun _=>true) true m 3 (List.take (Tryz.prog.cellsOf 3) (List.drop 7 [c0,c1,c2,c3,c4,c5,c6,c7,c8,c9,c10,c11,c12,c13,c14,c15,c16]))=some y7:=hf 7 _ rfl;have g8:DataW.trod enc Tryz.prog W 0 (fun _=>true) true m 3 (List.take (Tryz.prog.cellsOf 3) (List.drop 8 [c0,c1,c2,c3,c4,c5,c6,c7,c8,c9,c10,c11,c12,c13,c14,c15,c16]))=some y8:=hf 8 _ rfl;have g9:DataW.trod enc Tryz.prog W 0 (fun _=>true) true m 3 (List.take (Tryz.prog.cellsOf 3) (List.drop 9 [c0,c1,c2,c3,c4,c5,c6,c7,c8,c9,c10,c11,c12,c13,c14,c15,c16]))=some y9:=hf 9 _ rfl;have g10:DataW.trod enc Tryz.prog W 0 (fun _=>true) true m 3 (List.take (Tryz.prog.cellsOf 3) (List.drop 10 [c0,c1,c2,c3,c4,c5,c6,c7,c8,c9,c10,c11,c12,c13,c14,c15,c16]))=some y10:=hf 10 _ rfl;have g11:DataW.trod enc Tryz.prog W 0 (fun _=>true) true m 3 (List.take (Tryz.prog.cellsOf 3) (List.drop 11 [c0,c1,c2,c3,c4,c5,c6,c7,c8,c9,c10,c11,c12,c13,c14,c15,c16]))=some y11:=hf 11 _ rfl;have g12:DataW.trod enc Tryz.prog W 0 (fun _=>true) true m 3 (List.take (Tryz.prog.cellsOf 3) (List.drop 12 [c0,c1,c2,c3,c4,c5,c6,c7,c8,c9,c10,c11,c12,c13,c14,c15,c16]))=some y12:=hf 12 _ rfl;have g13:DataW.trod enc Tryz.prog W 0 (fun _=>true) true m 3 (List.take (Tryz.prog.cellsOf 3) (List.drop 13 [c0,c1,c2,c3,c4,c5,c6,c7,c8,c9,c10,c11,c12,c13,c14,c15,c16]))=some y13:=hf 13 _ rfl;have g14:DataW.trod enc Tryz.prog W 0 (fun _=>true) true m 3 (List.take (Tryz.prog.cellsOf 3) (List.drop 14 [c0,c1,c2,c3,c4,c5,c6,c7,c8,c9,c10,c11,c12,c13,c14,c15,c16]))=some y14:=hf 14 _ rfl;have g15:DataW.trod enc Tryz.prog W 0 (fun _=>true) true m 3 (List.take (Tryz.prog.cellsOf 3) (List.drop 15 [c0,c1,c2,c3,c4,c5,c6,c7,c8,c9,c10,c11,c12,c13,c14,c15,c16]))=some y15:=hf 15 _ rfl;have g16:DataW.trod enc Tryz.prog W 0 (fun _=>true) true m 3 (List.take (Tryz.prog.cellsOf 3) (List.drop 16 [c0,c1,c2,c3,c4,c5,c6,c7,c8,c9,c10,c11,c12,c13,c14,c15,c16]))=some y16:=hf 16 _ rfl;rw [show Tryz.prog.cellsOf 3=1 from by kernel_rfl] at g0;obtain ⟨x0,e0,_,w0⟩:=DataW.trod_int Tryz.underlying3 g0;simp at e0;subst e0;rw [show Tryz.prog.cellsOf 3=1 from by kernel_rfl] at g1;obtain ⟨x1,e1,_,w1⟩:=DataW.trod_int Tryz.underlying3 g1;simp at e1;subst e1;rw [show Tryz.prog.cellsOf 3=1 from by kernel_rfl] at g2;obtain ⟨x2,e2,_,w2⟩:=DataW.trod_int Tryz.underlying3 g2;simp at e2;subst e2;rw [show Tryz.prog.cellsOf 3=1 from by kernel_rfl] at g3;obtain ⟨x3,e3,_,w3⟩:=DataW.trod_int Tryz.underlying3 g3;simp at e3;subst e3;rw [show Tryz.prog.cellsOf 3=1 from by kernel_rfl] at g4;obtain ⟨x4,e4,_,w4⟩:=DataW.trod_int Tryz.underlying3 g4;simp at e4;subst e4;rw [show Tryz.prog.cellsOf 3=1 from by kernel_rfl] at g5;obtain ⟨x5,e5,_,w5⟩:=DataW.trod_int Tryz.underlying3 g5;simp at e5;subst e5;rw [show Tryz.prog.cellsOf 3=1 from by kernel_rfl] at g6;obtain ⟨x6,e6,_,w6⟩:=DataW.trod_int Tryz.underlying3 g6;simp at e6;subst e6;rw [show Tryz.prog.cellsOf 3=1 from by kernel_rfl] at g7;obtain ⟨x7,e7,_,w7⟩:=DataW.trod_int Tryz.underlying3 g7;simp at e7;subst e7;rw [show Tryz.prog.cellsOf 3=1 from by kernel_rfl] at g8;obtain ⟨x8,e8,_,w8⟩:=DataW.trod_int Tryz.underlying3 g8;simp at e8;subst e8;rw [show Tryz.prog.cellsOf 3=1 from by kernel_rfl] at g9;obtain ⟨x9,e9,_,w9⟩:=DataW.trod_int Tryz.underlying3 g9;simp at e9;subst e9;rw [show Tryz.prog.cellsOf 3=1 from by kernel_rfl] at g10;obtain ⟨x10,e10,_,w10⟩:=DataW.trod_int Tryz.underlying3 g10;simp at e10;subst e10;rw [show Tryz.prog.cellsOf 3=1 from by kernel_rfl] at g11;obtain ⟨x11,e11,_,w11⟩:=DataW.trod_int Tryz.underlying3 g11;simp at e11;subst e11;rw [show Tryz.prog.cellsOf 3=1 from by kernel_rfl] at g12;obtain ⟨x12,e12,_,w12⟩:=DataW.trod_int Tryz.underlying3 g12;simp at e12;subst e12;rw [show Tryz.prog.cellsOf 3=1 from by kernel_rfl] at g13;obtain ⟨x13,e13,_,w13⟩:=DataW.trod_int Tryz.underlying3 g13;simp at e13;subst e13;rw [show Tryz.prog.cellsOf 3=1 from by kernel_rfl] at g14;obtain ⟨x14,e14,_,w14⟩:=DataW.trod_int Tryz.underlying3 g14;simp at e14;subst e14;rw [show Tryz.prog.cellsOf 3=1 from by kernel_rfl] at g15;obtain ⟨x15,e15,_,w15⟩:=DataW.trod_int Tryz.underlying3 g15;simp at e15;subst e15;rw [show Tryz.prog.cellsOf 3=1 from by kernel_rfl] at g16;obtain ⟨x16,e16,_,w16⟩:=DataW.trod_int Tryz.underlying3 g16;simp at e16;subst e16;exact ⟨⟨x0,x1,x2,x3,x4,x5,x6,x7,x8,x9,x10,x11,x12,x13,x14,x15,x16⟩,rfl⟩
theorem O1 (n:Nat) (cs:List Value) (y:DataW H × List MemPlace) (h:DataW.trod enc Tryz.prog W 0 (fun _=>true) true n 121 cs=some y):∃ x:S121,cs=[.int .i64 x.f0,.int .i64 x.f1,.int .i64 x.f2]:=by
 obtain ⟨xs,m,_,_,hl,hlen,hf⟩:=DataW.trod_struct Tryz.underlying121 h;rw [show Tryz.prog.cellsOf 121=3 from by kernel_rfl] at hl
 match cs,hl,xs,hlen with
 | [c0,c1,c2],_,[y0,y1,y2],_ =>
  have g0:DataW.trod enc Tryz.prog W 0 (fun _=>true) true m 3 (List.take (Tryz.prog.cellsOf 3) (List.drop 0 [c0,c1,c2]))=some y0:=hf 0 _ rfl;have g1:DataW.trod enc Tryz.prog W 0 (fun _=>true) true m 3 (List.take (Tryz.prog.cellsOf 3) (List.drop 1 [c0,c1,c2]))=some y1:=hf 1 _ rfl;have g2:DataW.trod enc Tryz.prog W 0 (fun _=>true) true m 3 (List.take (Tryz.prog.cellsOf 3) (List.drop 2 [c0,c1,c2]))=some y2:=hf 2 _ rfl;rw [show Tryz.prog.cellsOf 3=1 from by kernel_rfl] at g0;obtain ⟨x0,e0,_,w0⟩:=DataW.trod_int Tryz.underlying3 g0;simp at e0;subst e0;rw [show Tryz.prog.cellsOf 3=1 from by kernel_rfl] at g1;obtain ⟨x1,e1,_,w1⟩:=DataW.trod_int Tryz.underlying3 g1;simp at e1;subst e1;rw [show Tryz.prog.cellsOf 3=1 from by kernel_rfl] at g2;obtain ⟨x2,e2,_,w2⟩:=DataW.trod_int Tryz.underlying3 g2;simp at e2;subst e2;exact ⟨⟨x0,x1,x2⟩,rfl⟩
theorem MJ (n:Nat) (cs:List Value) (y:DataW H × List MemPlace) (h:DataW.trod enc Tryz.prog W 0 (fun _=>true) true n 30 cs=some y):∃ x:S30,cs=[.int .i64 x.f0,.int .i64 x.f1]:=by
 obtain ⟨xs,m,_,_,hl,hlen,hf⟩:=DataW.trod_struct Tryz.underlying30 h;rw [show Tryz.prog.cellsOf 30=2 from by kernel_rfl] at hl
 match cs,hl,xs,hlen with
 | [c0,c1],_,[y0,y1],_ =>
  have g0:DataW.trod enc Tryz.prog W 0 (fun _=>true) true m 3 (List.take (Tryz.prog.cellsOf 3) (List.drop 0 [c0,c1]))=some y0:=hf 0 _ rfl;have g1:DataW.trod enc Tryz.prog W 0 (fun _=>true) true m 3 (List.take (Tryz.prog.cellsOf 3) (List.drop 1 [c0,c1]))=some y1:=hf 1 _ rfl;rw [show Tryz.prog.cellsOf 3=1 from by kernel_rfl] at g0;obtain ⟨x0,e0,_,w0⟩:=DataW.trod_int Tryz.underlying3 g0;simp at e0;subst e0;rw [show Tryz.prog.cellsOf 3=1 from by kernel_rfl] at g1;obtain ⟨x1,e1,_,w1⟩:=DataW.trod_int Tryz.underlying3 g1;simp at e1;subst e1;exact ⟨⟨x0,x1⟩,rfl⟩
theorem O2 (n:Nat) (cs:List Value) (y:DataW H × List MemPlace) (h:DataW.trod enc Tryz.prog W 0 (fun _=>true) true n 30 cs=some y):∃ x:S30,k30.K W x cs/\True:=by
 obtain ⟨x,rfl⟩:=MJ n cs y h;exact ⟨x,EI _ _,trivial⟩
theorem MK (n:Nat) (cs:List Value) (y:DataW H × List MemPlace) (h:DataW.trod enc Tryz.prog W 0 (fun _=>true) true n 123 cs=some y):∃ x:S123,k123.K W x cs/\True:=by
 obtain ⟨xs,m,_,_,hl,hlen,hf⟩:=DataW.trod_struct Tryz.underlying123 h;rw [show Tryz.prog.cellsOf 123=4 from by kernel_rfl] at hl
 match cs,hl,xs,hlen with
 | [c0,c1,c2,c3],_,[y0,y1],_ =>
  have g0:DataW.trod enc Tryz.prog W 0 (fun _=>true) true m 3 (List.take (Tryz.prog.cellsOf 3) (List.drop 0 [c0,c1,c2,c3]))=some y0:=hf 0 _ rfl;have g1:DataW.trod enc Tryz.prog W 0 (fun _=>true) true m 121 (List.take (Tryz.prog.cellsOf 121) (List.drop 1 [c0,c1,c2,c3]))=some y1:=hf 1 _ rfl;rw [show Tryz.prog.cellsOf 3=1 from by kernel_rfl] at g0;rw [show Tryz.prog.cellsOf 121=3 from by kernel_rfl] at g1;obtain ⟨x0,e0,_,w0⟩:=DataW.trod_int Tryz.underlying3 g0;simp at e0;subst e0;obtain ⟨x1,e1⟩:=O1 _ _ _ g1;simp at e1;obtain ⟨rfl,rfl,rfl⟩:=e1;exact ⟨⟨x0,x1⟩,AX _ _,trivial⟩
theorem R9 (n:Nat) (cs:List Value) (y:DataW H × List MemPlace) (h:DataW.trod enc Tryz.prog W 0 (fun _=>true) true n 9 cs=some y):∃ x:ByteArray,Kd.string.K W x cs/\x.size<=maxLen:=by
 obtain ⟨s,rfl,_,hs⟩:=DataW.trod_string Tryz.underlying9 h;exact ⟨s,rfl,hs⟩
theorem R_ {base:Nat} {v:Value} {d:DataW H} {ps:List MemPlace} (hval:Value.okWide Tryz.prog W .any base 27 v) (hd:DataW.Trod enc Tryz.prog W 0 (fun _=>true) true 27 v d ps) :
  ∃ (p:Pa) (As Am:Option Addr) (cs cm:Nat),v=.agg (cG p As cs Am cm)/\dK W p As cs Am cm/\p.lb.size<=maxLen/\∀ m∈p.ma,m.size<=maxLen:=by
 obtain ⟨cs,rfl,hcs⟩:=okWide_struct Tryz.underlying27 hval;obtain ⟨fuel,h⟩:=hd;obtain ⟨cl⟩:=cs;simp only [Value.cells] at h;obtain ⟨xs,m,_,_,hl,hlen,hf⟩:=DataW.trod_struct Tryz.underlying27 h;rw [show Tryz.prog.cellsOf 27=21 from by kernel_rfl] at hl
 match cl,hl,xs,hlen with
 | [c0,c1,c2,c3,c4,c5,c6,c7,c8,c9,c10,c11,c12,c13,c14,c15,c16,c17,c18,c19,c20],_,[y0,y1,y2,y3,y4],_ =>
  have g0:DataW.trod enc Tryz.prog W 0 (fun _=>true) true m 9 (List.take (Tryz.prog.cellsOf 9) (List.drop 0 [c0,c1,c2,c3,c4,c5,c6,c7,c8,c9,c10,c11,c12,c13,c14,c15,c16,c17,c18,c19,c20]))=some y0:=hf 0 _ rfl;have g1:DataW.trod enc Tryz.prog W 0 (fun _=>true) true m 22 (List.take (Tryz.prog.cellsOf 22) (List.drop 1 [c0,c1,c2,c3,c4,c5,c6,c7,c8,c9,c10,c11,c12,c13,c14,c15,c16,c17,c18,c19,c20]))=some y1:=hf 1 _ rfl;have g2:DataW.trod enc Tryz.prog W 0 (fun _=>true) true m 24 (List.take (Tryz.prog.cellsOf 24) (List.drop 2 [c0,c1,c2,c3,c4,c5,c6,c7,c8,c9,c10,c11,c12,c13,c14,c15,c16,c17,c18,c19,c20]))=some y2:=hf 2 _ rfl;have g3:DataW.trod enc Tryz.prog W 0 (fun _=>true) true m 9 (List.take (Tryz.prog.cellsOf 9) (List.drop 19 [c0,c1,c2,c3,c4,c5,c6,c7,c8,c9,c10,c11,c12,c13,c14,c15,c16,c17,c18,c19,c20]))=some y3:=hf 3 _ rfl;have g4:DataW.trod enc Tryz.prog W 0 (fun _=>true) true m 25 (List.take (Tryz.prog.cellsOf 25) (List.drop 20 [c0,c1,c2,c3,c4,c5,c6,c7,c8,c9,c10,c11,c12,c13,c14,c15,c16,c17,c18,c19,c20]))=some y4:=hf 4 _ rfl;rw [show Tryz.prog.cellsOf 9=1 from by kernel_rfl] at g0;rw [show Tryz.prog.cellsOf 22=1 from by kernel_rfl] at g1;rw [show Tryz.prog.cellsOf 24=17 from by kernel_rfl] at g2;rw [show Tryz.prog.cellsOf 9=1 from by kernel_rfl] at g3;rw [show Tryz.prog.cellsOf 25=1 from by kernel_rfl] at g4;obtain ⟨s,e0,_,_⟩:=DataW.trod_string Tryz.underlying9 g0;simp at e0;subst e0;obtain ⟨As,cs1,sp,e1,hc1,hC1,_⟩:=uH (d:=k123) (Good:=fun _=>True) Tryz.underlying22 (by kernel_rfl) MK (show DataW.trod enc Tryz.prog W 0 (fun _=>true) true m 22 [c1]=some y1 from g1);subst e1;obtain ⟨pr,e2⟩:=R8 _ _ _ g2;simp at e2;obtain ⟨rfl,rfl,rfl,rfl,rfl,rfl,rfl,rfl,rfl,rfl,rfl,rfl,rfl,rfl,rfl,rfl,rfl⟩:=e2;obtain ⟨lb,e3,_,hlb⟩:=DataW.trod_string Tryz.underlying9 g3;simp at e3;subst e3;obtain ⟨Am,cm1,ma,e4,hc4,hC4,hg4⟩:=uH (d:=Kd.string) (Good:=fun x=>x.size<=maxLen) Tryz.underlying25 (by kernel_rfl) R9 (show DataW.trod enc Tryz.prog W 0 (fun _=>true) true m 25 [c20]=some y4 from g4);subst e4;exact ⟨⟨s,sp,pr,lb,ma⟩,As,Am,cs1,cm1,rfl,⟨hC1,hc1,hC4,hc4⟩,hlb,hg4⟩
theorem Sb {base:Nat} {v:Value} {d:DataW H} {ps:List MemPlace} (hval:Value.okWide Tryz.prog W .any base 30 v) (hd:DataW.Trod enc Tryz.prog W 0 (fun _=>true) true 30 v d ps):∃ r:S30,v=.agg #[.int .i64 r.f0,.int .i64 r.f1]:=by
 obtain ⟨cs,rfl,hcs⟩:=okWide_struct Tryz.underlying30 hval;obtain ⟨fuel,h⟩:=hd;obtain ⟨cl⟩:=cs;simp only [Value.cells] at h;obtain ⟨x,e⟩:=MJ _ _ _ h;subst e;exact ⟨x,rfl⟩
theorem Sc {base:Nat} {v:Value} {d:DataW H} {ps:List MemPlace} (hval:Value.okWide Tryz.prog W .any base 28 v) (hd:DataW.Trod enc Tryz.prog W 0 (fun _=>true) true 28 v d ps):∃ (A:Option Addr) (c:Nat) (S:List S30),v=.slice A S.length c/\S.length<=c/\Kd.C k30 W A S.length S:=by
 obtain ⟨a,len,cap,rfl⟩:=okWide_slice Tryz.underlying28 hval;obtain ⟨fuel,h⟩:=hd;simp only [Value.cells] at h;obtain ⟨A,c,S,e,h1,h2,_⟩:=uH (d:=k30) (Good:=fun _=>True) Tryz.underlying28 (by kernel_rfl) O2 (show DataW.trod enc Tryz.prog W 0 (fun _=>true) true fuel 28 [.slice a len cap]=some _ from h);exact ⟨A,c,S,e,h1,h2⟩
end
abbrev El:List (String × DataW Unit):=[("unicode.White_Space",Rows.laid_unicode_White_Space),("strings.asciiSpace",Rows.laid_strings_asciiSpace)]
theorem gT:Tryz.prog.globalNamed "strings.asciiSpace" = some 1:=by kernel_rfl
theorem Sd:(Tryz.prog.globals[1]?).map (·.type)=some 234:=by kernel_rfl
theorem Sg:Tryz.prog.cellsOf 5=1:=by kernel_rfl
theorem ML:Tryz.prog.cellsOf 234=256:=by kernel_rfl
theorem O3:(Rows.laid_strings_asciiSpace:DataW Unit)=Lib.tabData .u8 Lib.asciiSpaceTab:=by kernel_rfl
theorem Em {W:World} (h:laidMetH Tryz.prog El W):Lib.TabIs Tryz.prog W "strings.asciiSpace" .u8 Lib.asciiSpaceTab:=by
 rw [MakeChecks.laidMetH_plain _ _ _ (by kernel_rfl)] at h;obtain ⟨ps,⟨g0,t0,cs0,f0,p0,q0,hg0,ht0,hv0,hd0,⟨g1,t1,cs1,f1,p1,q1,hg1,ht1,hv1,hd1,_,_⟩,_⟩,_,_⟩:=h;obtain rfl:=Option.some.inj (gT.symm.trans hg1);obtain rfl:=Option.some.inj (Sd.symm.trans ht1);rw [O3] at hd1;unfold Lib.TabIs;rw [hv1,<-Lib.cells_of_tab Tryz.underlying234 Tryz.underlying5 Sg ML hd1]
end Go.Proofs.YtcaallkkeighdaaGreatDoor.MI
