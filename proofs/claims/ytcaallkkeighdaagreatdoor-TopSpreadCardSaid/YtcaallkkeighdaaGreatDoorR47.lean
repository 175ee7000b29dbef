/- The law TopSpread as a row: for every input that can be read it returns true,and its arguments read as before;the two tables read as they are laid. TopSpread' card: the row,its two tables tied to the program's text;no further condition. -/
import Derived.Test.YtcaallkkeighdaaGreatDoorCards
import Derived.SevenTiedAt
import Derived.Test.YtcaallkkeighdaaGreatDoorR46
set_option maxRecDepth 100000
set_option maxHeartbeats 16000000
set_option linter.unusedVariables false
set_option linter.unusedSimpArgs false
namespace Go.Proofs.YtcaallkkeighdaaGreatDoor.topSpread
open Go.ChangeShapes Go.WideShapes Go.ChangeAt Go.WideMaps Go.WideElems Go.Deep Go.RowKit aD P MI
section
variable{H:Type}{enc:TypeId × Value->H}{W:World}
theorem ah7{P:Program}{t e:TypeId}{a:Option Addr}{len cap:Nat}{x:DataW H × List MemPlace}{fuel:Nat}(ht:P.underlying t=some (.slice e))
  (h:DataW.trod enc P W 0 (fun _=>true) true fuel t [.slice a len cap]=some x) (hw:∀ n∈x.1.weights P t,n<=reachBytes):len * P.bytesOf e<=reachBytes:=by
 rcases open_slice ht h with⟨hcs,_⟩|⟨ad,l,c,m,n,D,Pl,hcs,_,hl,hm,hmm,hx,hi⟩
 .have h1:=List.head_eq_of_cons_eq hcs;injection h1 with _ h2 _;rw[h2];simp
 .have h1:=List.head_eq_of_cons_eq hcs;injection h1 with _ h2 _;subst h2;rw[hx] at hw;refine Nat.le_trans (Nat.mul_le_mul_right _ ?_) (hw _ (by unfold DataW.weights;rw[ht];exact List.mem_cons_self ..));simp
theorem am4{d:DataW H}{ps:List MemPlace}(p:Pa)(As Am:Option Addr)(cs cm:Nat)(hd:DataW.Trod enc Tryz.prog W 0 (fun _=>true) true 27 (.agg (cG p As cs Am cm)) d ps)(hw:∀ n∈d.weights Tryz.prog 27,n<=reachBytes):p.sp.length * 32<=140737488355328/\p.ma.length * 16<=140737488355328:=by
 obtain⟨fuel,h⟩:=hd;simp only[Value.cells] at h;obtain⟨xs,m,_,hx,hl,hlen,hf⟩:=DataW.trod_struct Tryz.underlying27 h
 match xs,hlen with
 | [y0,y1,y2,y3,y4],_ =>
  have g1:=hf 1 _ rfl;have g4:=hf 4 _ rfl;have e1:Tryz.prog.cellsOf 22=1:=by kernel_rfl
  have e4:Tryz.prog.cellsOf 25=1:=by kernel_rfl
  have g1:DataW.trod enc Tryz.prog W 0 (fun _=>true) true m 22 [.slice As p.sp.length cs]=some y1:=by
   have h1:DataW.trod enc Tryz.prog W 0 (fun _=>true) true m 22 (((cG p As cs Am cm).toList.drop 1).take (Tryz.prog.cellsOf 22))=some y1:=g1;rw[e1] at h1;exact h1
  have g4:DataW.trod enc Tryz.prog W 0 (fun _=>true) true m 25 [.slice Am p.ma.length cm]=some y4:=by
   have h1:DataW.trod enc Tryz.prog W 0 (fun _=>true) true m 25 (((cG p As cs Am cm).toList.drop 20).take (Tryz.prog.cellsOf 25))=some y4:=g4;rw[e4] at h1;exact h1
  have hx1:d=.agg [y0.1,y1.1,y2.1,y3.1,y4.1]:=congrArg Prod.fst hx;have hw2:∀ (j:Nat) (t:TypeId) (z:DataW H),[9,22,24,9,25][j]? = some t->[y0.1,y1.1,y2.1,y3.1,y4.1][j]? = some z->∀ n∈z.weights Tryz.prog t,n<=reachBytes:=fun j t z ht hz n hn=>by
   refine hw n ?_;rw[hx1];unfold DataW.weights;rw[Tryz.underlying27];exact DataW.weights_mem_each (ts:=[9,22,24,9,25]) ht hz n hn
  have w1:=ah7 Tryz.underlying22 g1 (hw2 1 22 _ rfl rfl);have w4:=ah7 Tryz.underlying25 g4 (hw2 4 25 _ rfl rfl);rw[show Tryz.prog.bytesOf 123=32 from by kernel_rfl] at w1;rw[show Tryz.prog.bytesOf 9=16 from by kernel_rfl] at w4;unfold reachBytes at w1 w4;omega
end
theorem own:ownKnob Tryz.prog.godebug=none:=by kernel_rfl
theorem laidOut:laidOutB Tryz.prog=true:=by kernel_rfl
theorem MN(os:Os)(args:Array Value):laidMetH Tryz.prog El ((World.doorLaid Tryz.prog 4000 os).forCall (fun _ _=>0) ⟨#[],args,[]⟩).memory :=
 laidMetH_of_parts3 (fuel:=12) (laidMet_of_run' 12 (by kernel_rfl) (by kernel_rfl)) (by kernel_rfl) (by kernel_rfl)
theorem MO:Gi:=fun p x last _ _ _ _ w hA hz h0 hx ht=>JD p x last w hA hz h0 hx ht
theorem lifted(os:Os)(started:os.Started)(H:Type)(enc:TypeId × Value->H) :
  ReturnsInHanded {} Tryz.checked os 4 .any (fun w args=>(Rows.topSpreadSpec.pre enc Tryz.prog Tryz.f4 [] false w args/\laidMetH Tryz.prog El w)/\sizedMet enc Tryz.prog Tryz.f4 (OpenSpec.ofChange Rows.topSpreadSpec) false w args)
   (Rows.topSpreadSpec.post enc Tryz.prog Tryz.f4 false true false false):=by
 refine returnsInHanded_of_change_and (C:=Tryz.checked) (X:=fun w _=>laidMetH Tryz.prog El w) (fun _ _ _ hh h=>h.of_heap hh) own started (by kernel_rfl) Tryz.func4
  (ChangeSpec.witness_shaped (enc:=enc) (C:=Tryz.checked) (os:=os) (X:=fun w _=>laidMetH Tryz.prog El w) false (World.doorLaid Tryz.prog 4000 os) #[.agg Ev,.slice none 0 0,.agg #[.int .i64 0,.int .i64 0]] 8 rfl (World.shaped_of_RefB (by kernel_rfl) (by kernel_rfl)) (by kernel_rfl) (by kernel_rfl) (by kernel_rfl) (MN os _)) ?_
 intro W base args ds gs before PZ hW _ Zr hL _;have hval:∀ (j:Nat) t v,Tryz.f4.params[j]? = some t->args[j]? = some v->Value.okWide Tryz.prog W .any base t v:=PZ;have hW':=hW;obtain⟨p,q,hA0,hV,rfl,hfz,hnd⟩:=hW;have hA:DataW.TrodAll enc Tryz.prog W 0 (fun _=>true) true Tryz.f4.params.toList args.toList ds p:=hA0;rw[Tryz.params4] at hA hval Zr;obtain⟨v0,vs0,d0,ds0,p0,q0,hargs,rfl,rfl,h0,r0⟩:=trodAll_cons hA;obtain⟨v1,vs1,d1,ds1,p1,q1,rfl,rfl,rfl,h1,r1⟩:=trodAll_cons r0;obtain⟨v2,vs2,d2,ds2,p2,q2,rfl,rfl,rfl,h2,r2⟩:=trodAll_cons r1;obtain⟨rfl,rfl,rfl⟩:=trodAll_nil r2;obtain rfl:args=#[v0,v1,v2]:=by cases args;simp_all
 obtain⟨rfl,rfl⟩:=trodVars_none hV;have k0:=h0;have k1:=h1;have k2:=h2;have lt0:∀ x∈p0,x.block < W.heap.size:=by obtain⟨m,hm⟩:=k0;exact DataW.trod_lt m _ _ _ hm
 have lt1:∀ x∈p1,x.block < W.heap.size:=by obtain⟨m,hm⟩:=k1;exact DataW.trod_lt m _ _ _ hm
 have lt2:∀ x∈p2,x.block < W.heap.size:=by obtain⟨m,hm⟩:=k2;exact DataW.trod_lt m _ _ _ hm
 obtain⟨pa,As,Am,cs,cm,rfl,hPA,hlb,hmk⟩:=R_ (hval 0 27 v0 rfl rfl) h0;obtain⟨A,c,S,rfl,hc,hS⟩:=Sc (hval 1 28 v1 rfl rfl) h1;obtain⟨r,rfl⟩:=Sb (hval 2 30 v2 rfl rfl) h2;have hsz:=am4 pa As Am cs cm h0 (fun n hn=>by
  have:=List.all_eq_true.1 Zr n (DataW.weights_mem_each (j:=0) (t:=27) rfl rfl n hn)
  simpa using this)
 have htab:=Em hL;clear hA0 PZ;refine(ad7 MO pa S r A c W hPA hlb hmk hsz.1 hsz.2 rfl hS hc htab).mono fun e W' ⟨he,je⟩=>?_
 subst he;exact⟨_,rfl,_,_,_,[],_,[],hW',trodAll_mk1 (shut_bool Tryz.underlying4 _),(trodAll_cons_mk (Below.trod laidOut (by kernel_rfl) (of_decide_eq_true (by kernel_rfl)) k0 je lt0) (trodAll_cons_mk (Below.trod laidOut (by kernel_rfl) (of_decide_eq_true (by kernel_rfl)) k1 je lt1) (trodAll_cons_mk (Below.trod laidOut (by kernel_rfl) (of_decide_eq_true (by kernel_rfl)) k2 je lt2) trodAll_mk0))),rfl,je.frame _,fun h=>by cases h⟩
theorem row:Rows.TopSpreadSaid :=
 OpenClaim.holds_of_wide 4 Tryz.f4 rfl rfl rfl rfl rfl rfl rfl ⟨rfl,rfl,rfl,rfl,rfl⟩ rfl rfl rfl rfl rfl (by kernel_rfl) Tryz.func4 (by kernel_rfl)
  (of_decide_eq_true (by kernel_rfl)) (by unfold Func.isWrapper;first|(rw[if_pos (by decide +kernel)];kernel_rfl)|(rw[if_neg (by decide +kernel)];exact⟨rfl,rfl⟩))
  (fun os started H enc _=>lifted os started H enc)
#print axioms row
end Go.Proofs.YtcaallkkeighdaaGreatDoor.topSpread
namespace Go.Proofs.YtcaallkkeighdaaGreatDoor
open Go
theorem topSpread_holds:Rows.TopSpreadCardSaid :=
 Claim7.holds_tied_plain_at .later [] [.listed,.data] true (true, "8a5ae6285007f477d4b4283547384e33ad76d133ba956974ee700c86d1e4c1bf") false
  topSpread.row (fun _ h=>by cases h) (by kernel_rfl) (fun _ h=>by cases h) topSpread_row_tie rfl ⟨rfl,rfl⟩ (by kernel_rfl) rfl
  (fun f fn hf hfn=>by
   obtain rfl:f=4:=Option.some.inj ((show Tryz.prog.funcNamed "quire/quiretop.TopSpread" = some 4 by kernel_rfl).symm.trans hf) |>.symm
   obtain rfl:fn=Tryz.f4:=(Option.some.inj (Tryz.func4.symm.trans hfn)).symm;exact⟨by kernel_rfl,fun j t ht=>by
    rw[Tryz.params4] at ht;rcases j with _|_|_|j
    .obtain rfl:t=27:=(by simpa using ht.symm);exact(show Tryz.prog.wantsStandIn 27=false by kernel_rfl)
    .obtain rfl:t=28:=(by simpa using ht.symm);exact(show Tryz.prog.wantsStandIn 28=false by kernel_rfl)
    .obtain rfl:t=30:=(by simpa using ht.symm);exact(show Tryz.prog.wantsStandIn 30=false by kernel_rfl)
    .simp at ht⟩)
  (by kernel_rfl)
#print axioms topSpread_holds
end Go.Proofs.YtcaallkkeighdaaGreatDoor
