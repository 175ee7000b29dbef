/- quiretop.plainly of a text that is not empty. cluster.Bound answers as the plain function of the spec: for every text and place. cluster.Next answers as the plain function of the spec: for every text and place. package set: may,blank,tabs,blanks,moved,first. -/
import Derived.Great.BuildSlice
import Derived.Laws.CopyOwn
import Derived.Test.YtcaallkkeighdaaGreatDoorR34
set_option maxRecDepth 100000
set_option maxHeartbeats 16000000
set_option linter.unusedVariables false
set_option linter.unusedSimpArgs false
namespace Go.Proofs.YtcaallkkeighdaaGreatDoor.P
open Go.RowKit aD aQ aR
def Yt:Pr:=⟨8,12,0,0,0,0,0,0,0,0,1,1,0,0,0,0,0⟩
def OI(t:ByteArray):Pa:=⟨t,[⟨(t.size:Int),⟨0,0,0⟩⟩],Yt,⟨#[]⟩,[]⟩
def M8(t:ByteArray)(v:Value):Array Value:=#[.string t,v,.int .i64 8,.int .i64 12,.int .i64 0,.int .i64 0,.int .i64 0,.int .i64 0,.int .i64 0,.int .i64 0,.int .i64 0,.int .i64 0,.int .i64 1,.int .i64 1,.int .i64 0,.int .i64 0,.int .i64 0,.int .i64 0,.int .i64 0,.string ⟨#[]⟩,.slice none 0 0]
def Ev:Array Value:=#[.string ⟨#[]⟩,.slice none 0 0,.int .i64 0,.int .i64 0,.int .i64 0,.int .i64 0,.int .i64 0,.int .i64 0,.int .i64 0,.int .i64 0,.int .i64 0,.int .i64 0,.int .i64 0,.int .i64 0,.int .i64 0,.int .i64 0,.int .i64 0,.int .i64 0,.int .i64 0,.string ⟨#[]⟩,.slice none 0 0]
theorem vV(t:ByteArray)(v:Value):(Tryz.prog.info? 27).map (·.size)=some (M8 t v).size:=by
 show(Tryz.prog.info? 27).map (·.size)=some 21;kernel_rfl
theorem Ce(t:ByteArray)(A:Option Addr)(n c:Nat):(M8 t (.slice A n c)).all (·.oneCell')=true:=by
 unfold M8;simp[Value.oneCell']
theorem FZ(t:ByteArray)(A:Option Addr):M8 t (.slice A 1 1)=cG (OI t) A 1 none 0:=rfl
theorem Cg{w:World}{b:Nat}{r:S123}(h:w.heap[b]? = some (.cells #[.int .i64 r.f0,.int .i64 r.f1.f0,.int .i64 r.f1.f1,.int .i64 r.f1.f2] 123 (0,0))):Kd.C k123 w (some ⟨b,0,none⟩) 1 [r]:=by
 refine⟨rfl,by decide,fun _=>⟨_,rfl,fun j p hj=>?_⟩⟩;cases j with
 | succ j=>simp at hj
 | zero =>
  obtain rfl:r=p:=by simpa using hj
  refine⟨[.int .i64 r.f0,.int .i64 r.f1.f0,.int .i64 r.f1.f1,.int .i64 r.f1.f2],rfl,AX _ _,fun i u hu=>?_⟩;rw[Nat.zero_mul,Nat.zero_add,add_plain,ak h i]
  simpa using hu
theorem ux{P:Program}{ops:Array Oper}{rest:List Oper}{o:Oper}{a:Act}{w:World}{Q:Exit->Act->World->Prop}(hgd:o.guard=none)(ty:TypeId)(x y:Operand)(ho:o.op=.store ty x y)
  (g:Nat) (cells:Array Value) (hx:a.eval x=.pointer (some ⟨g,0,none⟩)) (hy:a.eval y=.agg cells)
  (t:TypeId) (old:Array Value) (hg:w.heap[g]? = some (.cells old t (0,0))) (hi:(P.info? ty).map (·.size)=some cells.size)
  (hold:old.size=cells.size) (h1:cells.all (·.oneCell')=true)
  (h:∀ w1,w1.heap[g]? = some (.cells cells t (0,0))->(∀ k,k≠g->w1.heap[k]? = w.heap[k]?)->(∀ B w0,Below B w0 w->B<=g->Below B w0 w1)->w1.heap.size=w.heap.size->wpList P ops Q rest (a.put o.dst undef) w1):wpList P ops Q (o :: rest) a w :=
 wpList_store_row hgd ty x y ho g cells hx hy t old hg hi hold h1 (h _ (setRow_heap w g old cells t (0,0) hg) (fun k hk=>setRow_other w g k cells hk) (fun B w0 hb hB=>below_setRow hb hB cells) (by simp[World.setRow]))
theorem zy(t:ByteArray)(ht:0 < t.size)(w:World) :
  Calls Tryz.prog 18 #[.string t] w fun e w'=>∃ A,e=.returned (.agg (cG (OI t) A 1 none 0))/\dK w' (OI t) A 1 none 0/\Below w.heap.size w w':=by
 have d1:decide (0 < (t.size:Int))=true:=decide_eq_true (by omega);have HB1:=aj ((Below.refl w.heap.size w).alloc (Nat.le_refl _) (.cells Ev 27));have HX1:=aj (aH w (.cells Ev 27));have HB2:=aj (HB1.out.alloc HB1.out.size (.cells Ev 27));have HX2:=aj (aP HX1.out (.cells Ev 27));have hy2:=aH (w.alloc (.cells Ev 27)) (.cells Ev 27);have hsz:((w.alloc (.cells Ev 27)).alloc (.cells Ev 27)).heap.size=w.heap.size+2:=by rw[World.size_alloc,World.size_alloc]
 rw[World.size_alloc] at hy2;have HY2:=aj hy2;have uN:=aj hsz;have hz:(zeroValue 27).run Tryz.prog w=.ok (.agg Ev) w:=by rfl
 clear ht hy2 hsz hz;obtain⟨n,hn⟩:∃ n:Int,(t.size:Int)=n:=⟨_,rfl⟩;have HN:=aj hn;go_enter Tryz.func18,Tryz.ntmps18;go_upto_region 1 with(fail);go_upto_region 2 with(first|((with_reducible refine aS (N:=5) rfl ?_);go_loud(refine wpList_buildTo rfl 24 _ rfl _ rfl #[.int .i64 8,.int .i64 12,.int .i64 0,.int .i64 0,.int .i64 0,.int .i64 0,.int .i64 0,.int .i64 0,.int .i64 0,.int .i64 0,.int .i64 1,.int .i64 1,.int .i64 0,.int .i64 0,.int .i64 0,.int .i64 0,.int .i64 0] (by kernel_rfl) ?_))|((with_reducible refine aS (N:=6) rfl ?_);go_loud(refine wpList_buildTo rfl 27 _ rfl _ rfl (M8 t (.slice none 0 0)) (by kernel_rfl) ?_))|(refine ux rfl 27 _ _ rfl (w.heap.size+1) (M8 t (.slice none 0 0)) rfl rfl 27 Ev (by exact HY2.out) (vV t _) rfl (Ce _ _ _ _) ?_;intro w3 hw3 hk3 hB3 hs3;have HW3:=aj (And.intro hw3 (And.intro hk3 (And.intro hB3 hs3)));clear hw3 hk3 hB3 hs3));obtain⟨bw,hbw⟩:∃ b,w.heap.size=b:=⟨_,rfl⟩;have tE:=aj hbw;rw[hbw] at HW3 uN HX2 HY2 ⊢;have HB3:=aj (show Below bw w w3 by have:=HW3.out.2.2.1 bw w (by have:=HB2.out;rw[hbw] at this;exact this) (by omega);exact this);have HX3:=aj (show w3.heap[bw]? = some (.cells Ev 27 (0,0)) by rw[HW3.out.2.1 bw (by omega)];exact HX2.out);have HY3:=aj HW3.out.1;have HS3:=aj (show w3.heap.size=bw+2 from HW3.out.2.2.2.trans uN.out);clear HW3 uN HX1 HX2 HY2 HB1 HB2 hbw;rw[hn] at d1;have hv:=aH w3 (.cells #[.int .i64 n,.int .i64 0,.int .i64 0,.int .i64 0] 123);have hB4:Below w3.heap.size w3 (w3.alloc (.cells #[.int .i64 n,.int .i64 0,.int .i64 0,.int .i64 0] 123)):=(Below.refl _ _).alloc (Nat.le_refl _) _;have HY4:=aj (ay HY3.out hB4);have HX4:=aj (ay HX3.out hB4);have HV4:=aj hv;have HB4:=aj (HB3.out.trans (hB4.mono (by have:=HS3.out;omega)));have y1:(w3.alloc (.cells #[.int .i64 n,.int .i64 0,.int .i64 0,.int .i64 0] 123)).cell? ⟨bw+1,1,none⟩=some (.slice none 0 0):=(ak HY4.out 1).trans rfl;have fz:=aB HY4.out 1;clear hv hB4;go_upto_region 4 with(fail);rw[HS3.out] at HV4 ⊢;generalize w3.alloc (.cells #[.int .i64 n,.int .i64 0,.int .i64 0,.int .i64 0] 123)=w4 at *;have HY5:=aj (show(w4.setCell ⟨bw+1,1,none⟩ (.slice (some ⟨bw+2,0,none⟩) 1 1)).heap[bw+1]? = some (.cells (M8 t (.slice (some ⟨bw+2,0,none⟩) 1 1)) 27 (0,0)) from aN HY4.out 1 _ rfl);have HX5:=aj (cw (p:=⟨bw+1,1,none⟩) HX4.out (by show bw≠bw+1;omega) (.slice (some ⟨bw+2,0,none⟩) 1 1));have HV5:=aj (cw (p:=⟨bw+1,1,none⟩) HV4.out (by show bw+2≠bw+1;omega) (.slice (some ⟨bw+2,0,none⟩) 1 1));have HB5:=aj (HB4.out.setCell (p:=⟨bw+1,1,none⟩) (by show bw<=bw+1;omega) (.slice (some ⟨bw+2,0,none⟩) 1 1));generalize w4.setCell ⟨bw+1,1,none⟩ (.slice (some ⟨bw+2,0,none⟩) 1 1)=w5 at *;clear y1 fz;go_wp2_with (first|((with_reducible refine aS (N:=15) rfl ?_);go_loud(refine wpList_load_row rfl 27 _ rfl (bw+1) rfl 27 (M8 t (.slice (some ⟨bw+2,0,none⟩) 1 1)) (0,0) _ (by exact HY5.out) Tryz.underlying27 rfl (vV t _) ?_))|(refine ux rfl 27 _ _ rfl bw (M8 t (.slice (some ⟨bw+2,0,none⟩) 1 1)) rfl rfl 27 Ev (by exact HX5.out) (vV t _) rfl (Ce _ _ _ _) ?_;intro w6 hw6 hk6 hB6 hs6;have HW6:=aj (And.intro hw6 (And.intro hk6 (And.intro hB6 hs6)));clear hw6 hk6 hB6 hs6));refine bodyPost_ret (results_cell_row Tryz.results18 _ _ bw 27 (M8 t (.slice (some ⟨bw+2,0,none⟩) 1 1)) (0,0) _ rfl HW6.out.1 Tryz.underlying27 rfl (vV t _)) rfl ?_;refine⟨some ⟨bw+2,0,none⟩,by rw[FZ],⟨?_,Nat.le_refl _,Kd.J2 _ _,Nat.le_refl _⟩,?_⟩
 .refine Cg (r:=⟨(t.size:Int),⟨0,0,0⟩⟩) ?_;rw[HW6.out.2.1 _ (by omega),HN.out];exact HV5.out
 .rw[tE.out];exact HW6.out.2.2.1 _ _ HB5.out (Nat.le_refl _)
end Go.Proofs.YtcaallkkeighdaaGreatDoor.P
namespace Go.Proofs.YtcaallkkeighdaaGreatDoor.P
open Go.RowKit Go.Shelf aD aQ aR
attribute [local go_sem] Oper.semAt_some
theorem xZ(a:Int):∀ l:List S50,(∀ c∈l,c.f0≠a)->gM a l=false
 | [],_=>rfl
 | c :: l,h=>by
  have hc:=h c (by simp);simp only[gM];rw[if_neg hc];exact xZ a l (fun d hd=>h d (by simp[hd]))
theorem vr(a:Int):∀ l:List S50,(∃ c∈l,c.f0=a)->gM a l=true
 | [],h=>by obtain⟨_,h,_⟩:=h;cases h
 | c :: l,h=>by
  simp only[gM];split
  .rfl
  .rename_i hc
   obtain⟨d,hd,e⟩:=h;rcases List.mem_cons.1 hd with rfl|hd
   .exact absurd e hc
   .exact vr a l ⟨d,hd,e⟩
theorem two(w w1:World)(v1 v2:Value)(t1 t2:TypeId)(hb:Below ((w.alloc (.cells #[v1] t1)).alloc (.cells #[v2] t2)).heap.size ((w.alloc (.cells #[v1] t1)).alloc (.cells #[v2] t2)) w1) :
  Boxed w1 w.heap.size t1 v1/\Boxed w1 (w.heap.size+1) t2 v2/\w.heap.size+1+1<=w1.heap.size/\Below w.heap.size w w1:=by
 have x1:=(Boxed.new w t1 v1).alloc (.cells #[v2] t2);have x2:=Boxed.new (w.alloc (.cells #[v1] t1)) t2 v2;have hs:=hb.size;simp only[World.size_alloc] at x2 hs;refine⟨CM x1 hb (by simp;omega),CM x2 hb (by simp),hs,?_⟩;have hB0:Below w.heap.size w ((w.alloc (.cells #[v1] t1)).alloc (.cells #[v2] t2)):=((Below.refl _ w).alloc (Nat.le_refl _) _).alloc (by simp) _;exact hB0.trans (hb.mono (by simp;omega))
theorem Me(s:ByteArray)(a:Int)(hw:cB s=0)(h0:0<=a)(h1:a<=s.size)(w:World):Calls Tryz.prog 71 #[.string s,.int .i64 a] w fun e w'=>e=.returned (.bool (gM a (cQ s) || decide (a=(s.size:Int))))/\Below w.heap.size w w':=by
 have b0:(cB s != 0)=false:=by rw[hw];rfl
 have b1:decide (a < 0)=false:=decide_eq_false (by omega);have b2:decide ((s.size:Int) < a)=false:=decide_eq_false (by omega);have H1:=aj h1;have H0:=aj h0;clear h0 h1;refine(callsIn_wide (n:=5)).1 ?_;refine callsIn_of_wp_marks Tryz.func71 rfl trivial ?_ rfl;simp only[Tryz.ntmps71,List.size_toArray,List.length_cons,List.length_nil,Nat.reduceAdd,Nat.reduceSub,Array.replicate_succ,Array.replicate_zero,List.push_toArray,List.append_toArray,List.nil_append,List.cons_append];refine wpIn_wide.2 ?_;go_wp2_with (first|(go_at_call 24;refine(h_ s _).mono ?_;rintro e w1 ⟨rfl,hb⟩;obtain⟨x1,x2,hsz,hB⟩:=two w w1 _ _ _ _ hb;clear hb;have c1:=x1.cell;have c2:=x2.cell)|(go_at_call 25;refine(qL s _).mono ?_;rintro e w2 ⟨rfl,rfl⟩));have hB1:Below w.heap.size w (w1.alloc (.cells #[.string s] 9)):=hB.alloc hB.size _;have bT:=Boxed.new w1 9 (.string s);have y1:=x1.alloc (.cells #[.string s] 9);have y2:=x2.alloc (.cells #[.string s] 9);have EU:(w1.alloc (.cells #[.string s] 9)).heap.size=w1.heap.size+1:=by simp
 obtain⟨W0,hW0⟩:∃ W0,w1.alloc (.cells #[.string s] 9)=W0:=⟨_,rfl⟩;rw[hW0] at hB1 bT y1 y2 EU ⊢;clear hW0 c1 c2 x1 x2 hB;refine(wpIn_wide (n:=5)).1 ?_
 refine wpIn_rangeFunc_ownH rfl (by omega) (gf:=59) (lb:=#[.pointer (some ⟨w1.heap.size,0,none⟩)]) rfl trivial (enters_of Tryz.func59 (by kernel_rfl) rfl)
  (qM s (qN s hw) (5 - 1) (by omega) w1.heap.size W0 (by omega) Qn (fun _ _ _=>rfl) (fun _ e=>by cases e) bT.cell)
  Kc.trans (fun W l o o' hl ho hc _=>Kc.putObj W l o o' hl (by omega) ho hc rfl (fun _ e=>by cases e)) (Below.refl _ _) (fun _=>rfl)
  (fun pre W=>((((∀ c∈pre,c.f0≠a)/\Boxed W w.heap.size 3 (.int .i64 a))/\Boxed W (w.heap.size+1) 4 (.bool false))/\Boxed W w1.heap.size 9 (.string s))/\Below w.heap.size w W)
  (fun c pre W=>((c=.ret/\∃ x∈pre,x.f0=a)/\Boxed W (w.heap.size+1) 4 (.bool true))/\Below w.heap.size w W)
  (OwnFrom.and (OwnFrom.and (OwnFrom.and (OwnFrom.and (ownFrom_pure _ _) (Own.from (boxed_own _ _ _) _)) (Own.from (boxed_own _ _ _) _)) (Own.from (boxed_own _ _ _) _)) (ownFrom_below (Nat.le_refl _) (by omega)))
  (fun c=>OwnFrom.and (OwnFrom.and (ownFrom_pure _ _) (Own.from (boxed_own _ _ _) _)) (ownFrom_below (Nat.le_refl _) (by omega)))
  ⟨⟨⟨⟨by simp,y1⟩,y2⟩,bT⟩,hB1⟩
  (fun x a' W=>∃ Bx,w.heap.size+1 < Bx/\W.heap[Bx]? = some (.cells #[.int .i64 x.f0,.int .i64 x.f1,.int .i64 x.f2] 50 (0,0))/\a'={ tmps:=#[.string s,.int .i64 a,undef,.pointer (some ⟨w.heap.size,0,none⟩),.pointer (some ⟨w.heap.size+1,0,none⟩),.pointer (some ⟨Bx,0,none⟩),.string s,.int .i64 0,.bool false,.bool false,.int .i64 a,.bool false,.bool false,.bool false,.int .i64 a,.string s,.int .i64 s.size,.bool false,.bool false,.string s,.func (.func 59) #[] #[.pointer (some ⟨w1.heap.size,0,none⟩)],.agg #[.int .i64 x.f0,.int .i64 x.f1,.int .i64 x.f2],undef,undef,undef,undef,undef,undef,undef,undef],defers:=[] })
  (fun x a' _ X Y row hs hg hr=>by
   obtain⟨Bx,e1,e2,e3⟩:=hs;refine⟨Bx,e1,(hg.block Bx (Array.getElem?_eq_some_iff.1 e2).1 (fun e=>?_)).trans e2,e3⟩;obtain⟨_,o,ho,hoc⟩:=hr Bx e.symm;rw[e2] at ho;cases ho
   cases hoc)
  ?assign ?body ?done ?stop
 case assign =>
  rintro l pre x W K ⟨⟨⟨⟨hp,z1⟩,z2⟩,zT⟩,hB2⟩ hK
  gi_wp2
  exact hK _ _ ((KeepsOthers.alloc _ _).from _) (Kc.none (World.grownBy_alloc W _ none) zT.lt (by simp) (fun _ e=>by cases e)) ⟨⟨⟨⟨hp,z1.alloc _⟩,z2.alloc _⟩,zT.alloc _⟩,hB2.alloc hB2.size _⟩ ⟨W.heap.size,z2.lt,aH _ _,rfl⟩
 case body =>
  rintro l pre x a' W hl ⟨r,hr⟩ ⟨⟨⟨⟨hp,z1⟩,z2⟩,zT⟩,hB2⟩ ⟨Bx,Zb,bX,rfl⟩ hlt;have c1:=z1.cell;have k0:W.cell? ⟨Bx,0,none⟩=some (.int .i64 x.f0):=(ak bX 0).trans rfl;have c2:=z2.cell;have f2:=z2.frozen
  gi_wp2
  .rename_i hxy
   have hxa:x.f0=a:=eq_of_beq hxy;exact⟨(KeepsOthers.setCell _ _ _).from _,⟨⟨rfl,x,by simp,hxa⟩,z2.set _⟩,hB2.setCell (p:=⟨w.heap.size+1,0,none⟩) (by simp) _⟩
  .rename_i hxy
   have hxa:x.f0≠a:=fun e=>by simp[e] at hxy
   exact⟨KeepsFrom.refl _ _,Kc.refl (fun _ e=>by cases e),⟨⟨⟨fun c hc=>(List.mem_append.1 hc).elim (hp c) (fun e=>by simp at e;rw[e];exact hxa),z1⟩,z2⟩,zT⟩,hB2⟩
 case done =>
  rintro D ys W hD rfl ⟨⟨⟨⟨hp,z1⟩,z2⟩,zT⟩,hB2⟩ hK;have c1:=z1.cell;have c2:=z2.cell;have f2:=z2.frozen;go_wp2;have hK':=(KeepsOthers.setCell W ⟨w.heap.size+1,0,none⟩ (.bool (a == s.size))).same D _ hK rfl;refine⟨by simp,.inl ⟨_,_,rfl,run_takeDeferred hK',?_⟩⟩;have q2:=cell_kept (z2.set (.bool (a == s.size))).cell (grownBy_putObj' _ D (.deferred none)) (fun r e=>by cases e;exact⟨_,hK',rfl⟩);refine⟨.bool (a == s.size),?_,by rw[xZ a _ hp];rfl,(hB2.setCell (p:=⟨w.heap.size+1,0,none⟩) (by simp) _).trans (belowK_b (w:=w) (Nat.le_refl _) _ D _ _ (by omega) hK' rfl rfl)⟩;simp[results,Tryz.f71,go_sem,q2]
 case stop =>
  rintro D c pre W hD hpre ⟨⟨⟨rfl,x,hx,hxa⟩,z2⟩,hB2⟩ hK;have c2:=z2.cell
  gi_wp2
  refine⟨by simp,.inl ⟨_,_,rfl,run_takeDeferred hK,?_⟩⟩;have q2:=cell_kept z2.cell (grownBy_putObj' _ D (.deferred none)) (fun r e=>by cases e;exact⟨_,hK,rfl⟩);refine⟨.bool true,?_,by rw[vr a _ ⟨x,hpre.subset hx,hxa⟩];rfl,hB2.trans (belowK_b (w:=w) (Nat.le_refl _) W D _ _ (by omega) hK rfl rfl)⟩;simp[results,Tryz.f71,go_sem,q2]
end Go.Proofs.YtcaallkkeighdaaGreatDoor.P
namespace Go.Proofs.YtcaallkkeighdaaGreatDoor.P
open Go.RowKit Go.Shelf aD aQ aR
attribute [local go_sem] Oper.semAt_some
theorem Ar(n a:Int):∀ l:List S50,(∀ c∈l,c.f1<=a)->fS n a l=n
 | [],_=>rfl
 | c :: l,h=>by
  have hc:=h c (by simp);simp only[fS];rw[if_neg (by omega)];exact Ar n a l (fun d hd=>h d (by simp[hd]))
theorem yc(n a:Int)(x:S50)(hx:a < x.f1)(k:List S50):∀ l:List S50,(∀ c∈l,c.f1<=a)->fS n a (l ++ x :: k)=x.f1
 | [],_=>by simp[fS,hx]
 | c :: l,h=>by
  have hc:=h c (by simp);simp only[List.cons_append,fS];rw[if_neg (by omega)];exact yc n a x hx k l (fun d hd=>h d (by simp[hd]))
theorem F2(n a:Int)(l k:List S50)(x:S50)(hx:x∈l)(hh:a < x.f1):fS n a (l ++ k)=fS n a l:=by
 induction l with
 | nil=>cases hx
 | cons c l ih =>
  simp only[List.cons_append,fS];split
  .rfl
  .rename_i hc
   rcases List.mem_cons.1 hx with rfl|h
   .exact absurd hh hc
   .exact ih h
theorem DN(s:ByteArray)(a:Int)(h:placeOf s a=0):cB s=0:=by
 unfold placeOf at h;split at h
 .assumption
 .exact h
theorem OJ(s:ByteArray)(a:Int)(hw:placeOf s a=0)(w:World):Calls Tryz.prog 74 #[.string s,.int .i64 a] w fun e w'=>e=.returned (.tuple #[.int .i64 (fS s.size a (cQ s)),.int .i64 0])/\Below w.heap.size w w':=by
 have b0:(placeOf s a != 0)=false:=by rw[hw];rfl
 have hW:=DN s a hw;have sz:s.size<=4096:=qN s hW;refine(callsIn_wide (n:=5)).1 ?_;refine callsIn_of_wp_marks Tryz.func74 rfl trivial ?_ rfl;simp only[Tryz.ntmps74,List.size_toArray,List.length_cons,List.length_nil,Nat.reduceAdd,Nat.reduceSub,Array.replicate_succ,Array.replicate_zero,List.push_toArray,List.append_toArray,List.nil_append,List.cons_append];refine wpIn_wide.2 ?_;go_wp2_with (first|(go_at_call 116;refine(CK s a _).mono ?_;rintro e w1 ⟨rfl,hb⟩;obtain⟨x1,x2,x3,hsz,hB⟩:=three w w1 _ _ _ _ _ _ hb;clear hb;have c1:=x1.cell;have c2:=x2.cell;have c3:=x3.cell)|(go_at_call 25;refine(qL s _).mono ?_;rintro e w2 ⟨rfl,rfl⟩));have hB1:Below w.heap.size w (w1.alloc (.cells #[.string s] 9)):=hB.alloc hB.size _;have bT:=Boxed.new w1 9 (.string s);have y1:=x1.alloc (.cells #[.string s] 9);have y2:=x2.alloc (.cells #[.string s] 9);have y3:=x3.alloc (.cells #[.string s] 9);have EU:(w1.alloc (.cells #[.string s] 9)).heap.size=w1.heap.size+1:=by simp
 obtain⟨W0,hW0⟩:∃ W0,w1.alloc (.cells #[.string s] 9)=W0:=⟨_,rfl⟩;rw[hW0] at hB1 bT y1 y2 y3 EU ⊢;clear hW0 c1 c2 c3 x1 x2 x3 hB;refine(wpIn_wide (n:=5)).1 ?_
 refine wpIn_rangeFunc_ownH rfl (by omega) (gf:=59) (lb:=#[.pointer (some ⟨w1.heap.size,0,none⟩)]) rfl trivial (enters_of Tryz.func59 (by kernel_rfl) rfl)
  (qM s sz (5 - 1) (by omega) w1.heap.size W0 (by omega) Qn (fun _ _ _=>rfl) (fun _ e=>by cases e) bT.cell)
  Kc.trans (fun W l o o' hl ho hc _=>Kc.putObj W l o o' hl (by omega) ho hc rfl (fun _ e=>by cases e)) (Below.refl _ _) (fun _=>rfl)
  (fun pre W=>(((((∀ c∈pre,c.f1<=a)/\Boxed W w.heap.size 3 (.int .i64 a))/\Boxed W (w.heap.size+1) 3 (.int .i64 0))/\Boxed W (w.heap.size+1+1) 34 (.int .i64 0))/\Boxed W w1.heap.size 9 (.string s))/\Below w.heap.size w W)
  (fun c pre W=>(((c=.ret/\∃ x∈pre,a < x.f1)/\Boxed W (w.heap.size+1) 3 (.int .i64 (fS s.size a pre)))/\Boxed W (w.heap.size+1+1) 34 (.int .i64 0))/\Below w.heap.size w W)
  (OwnFrom.and (OwnFrom.and (OwnFrom.and (OwnFrom.and (OwnFrom.and (ownFrom_pure _ _) (Own.from (boxed_own _ _ _) _)) (Own.from (boxed_own _ _ _) _)) (Own.from (boxed_own _ _ _) _)) (Own.from (boxed_own _ _ _) _)) (ownFrom_below (Nat.le_refl _) (by omega)))
  (fun c=>OwnFrom.and (OwnFrom.and (OwnFrom.and (ownFrom_pure _ _) (Own.from (boxed_own _ _ (fun pre=>Value.int .i64 (fS s.size a pre))) _)) (Own.from (boxed_own _ _ _) _)) (ownFrom_below (Nat.le_refl _) (by omega)))
  ⟨⟨⟨⟨⟨by simp,y1⟩,y2⟩,y3⟩,bT⟩,hB1⟩
  (fun x a' W=>∃ Bx,w.heap.size+1+1 < Bx/\W.heap[Bx]? = some (.cells #[.int .i64 x.f0,.int .i64 x.f1,.int .i64 x.f2] 50 (0,0))/\a'={ tmps:=#[.string s,.int .i64 a,undef,.pointer (some ⟨w.heap.size,0,none⟩),.pointer (some ⟨w.heap.size+1,0,none⟩),.pointer (some ⟨w.heap.size+1+1,0,none⟩),.int .i64 0,.pointer (some ⟨Bx,0,none⟩),.string s,.int .i64 a,.int .i64 0,.int .i64 0,.bool false,undef,.string s,.func (.func 59) #[] #[.pointer (some ⟨w1.heap.size,0,none⟩)],.agg #[.int .i64 x.f0,.int .i64 x.f1,.int .i64 x.f2],undef,undef,undef,undef,undef,undef,undef,undef],defers:=[] })
  (fun x a' _ X Y row hs hg hr=>by
   obtain⟨Bx,e1,e2,e3⟩:=hs;refine⟨Bx,e1,(hg.block Bx (Array.getElem?_eq_some_iff.1 e2).1 (fun e=>?_)).trans e2,e3⟩;obtain⟨_,o,ho,hoc⟩:=hr Bx e.symm;rw[e2] at ho;cases ho
   cases hoc)
  ?assign ?body ?done ?stop
 case assign =>
  rintro l pre x W K ⟨⟨⟨⟨⟨hp,z1⟩,z2⟩,z3⟩,zT⟩,hB2⟩ hK
  gi_wp2
  exact hK _ _ ((KeepsOthers.alloc _ _).from _) (Kc.none (World.grownBy_alloc W _ none) zT.lt (by simp) (fun _ e=>by cases e)) ⟨⟨⟨⟨⟨hp,z1.alloc _⟩,z2.alloc _⟩,z3.alloc _⟩,zT.alloc _⟩,hB2.alloc hB2.size _⟩ ⟨W.heap.size,z3.lt,aH _ _,rfl⟩
 case body =>
  rintro l pre x a' W hl ⟨r,hr⟩ ⟨⟨⟨⟨⟨hp,z1⟩,z2⟩,z3⟩,zT⟩,hB2⟩ ⟨Bx,Zb,bX,rfl⟩ hlt;have c1:=z1.cell;have k1:W.cell? ⟨Bx,1,none⟩=some (.int .i64 x.f1):=(ak bX 1).trans rfl;have c2:=z2.cell;have c3:=z3.cell;have f2:=z2.frozen;have f3:=z3.frozen
  gi_wp2
  .have hxa:a < x.f1:=by assumption
   refine⟨((KeepsOthers.setCell _ _ _).trans (KeepsOthers.setCell _ _ _)).from _,⟨⟨⟨rfl,x,by simp,hxa⟩,?_⟩,(z3.other (by omega) _).set _⟩,(hB2.setCell (p:=⟨w.heap.size+1,0,none⟩) (by simp) _).setCell (p:=⟨w.heap.size+1+1,0,none⟩) (by simp;omega) _⟩;rw[yc _ a x hxa [] pre hp];exact(z2.set _).other (by omega) _
  .have hxa:x.f1<=a:=by assumption
   exact⟨KeepsFrom.refl _ _,Kc.refl (fun _ e=>by cases e),⟨⟨⟨⟨fun c hc=>(List.mem_append.1 hc).elim (hp c) (fun e=>by simp at e;rw[e];exact hxa),z1⟩,z2⟩,z3⟩,zT⟩,hB2⟩
 case done =>
  rintro D ys W hD rfl ⟨⟨⟨⟨⟨hp,z1⟩,z2⟩,z3⟩,zT⟩,hB2⟩ hK;have c2:=z2.cell;have c3:=z3.cell;have f2:=z2.frozen;have f3:=z3.frozen;go_wp2;have hK':=((KeepsOthers.setCell W ⟨w.heap.size+1,0,none⟩ (.int .i64 s.size)).trans (KeepsOthers.setCell (W.setCell ⟨w.heap.size+1,0,none⟩ (.int .i64 s.size)) ⟨w.heap.size+1+1,0,none⟩ (.int .i64 0))).same D _ hK rfl;refine⟨by simp,.inl ⟨_,_,rfl,run_takeDeferred hK',?_⟩⟩;have q2:=cell_kept ((z2.set (.int .i64 s.size)).other (by omega) (.int .i64 0) (B':=w.heap.size+1+1)).cell (grownBy_putObj' _ D (.deferred none)) (fun r e=>by cases e;exact⟨_,hK',rfl⟩);have q3:=cell_kept ((z3.other (by omega) (.int .i64 s.size) (B':=w.heap.size+1)).set (.int .i64 0)).cell (grownBy_putObj' _ D (.deferred none)) (fun r e=>by cases e;exact⟨_,hK',rfl⟩);refine⟨.tuple #[.int .i64 s.size,.int .i64 0],?_,by rw[Ar _ a _ hp],((hB2.setCell (p:=⟨w.heap.size+1,0,none⟩) (by simp) _).setCell (p:=⟨w.heap.size+1+1,0,none⟩) (by simp;omega) _).trans (belowK_b (w:=w) (Nat.le_refl _) _ D _ _ (by omega) hK' rfl rfl)⟩;simp[results,Tryz.f74,go_sem,q2,q3]
 case stop =>
  rintro D c pre W hD hpre ⟨⟨⟨⟨rfl,x,hx,hxa⟩,z2⟩,z3⟩,hB2⟩ hK;have c2:=z2.cell;have c3:=z3.cell
  gi_wp2
  refine⟨by simp,.inl ⟨_,_,rfl,run_takeDeferred hK,?_⟩⟩;have q2:=cell_kept z2.cell (grownBy_putObj' _ D (.deferred none)) (fun r e=>by cases e;exact⟨_,hK,rfl⟩);have q3:=cell_kept z3.cell (grownBy_putObj' _ D (.deferred none)) (fun r e=>by cases e;exact⟨_,hK,rfl⟩);obtain⟨k,hk⟩:=hpre;refine⟨.tuple #[.int .i64 (fS s.size a pre),.int .i64 0],?_,by rw[<-hk,F2 _ a pre k x hx hxa],hB2.trans (belowK_b (w:=w) (Nat.le_refl _) W D _ _ (by omega) hK rfl rfl)⟩;simp[results,Tryz.f74,go_sem,q2,q3]
end Go.Proofs.YtcaallkkeighdaaGreatDoor.P
namespace Go.Proofs.YtcaallkkeighdaaGreatDoor.P
open Go.RowKit aD aQ aR
attribute [local go_sem] cN cO dw dA
def JW(s:ByteArray)(a:Int):Bool:=gM a (cQ s) || decide (a=(s.size:Int))
theorem OL(s:ByteArray)(a:Int)(b:Bool)(hb:JW s a=b)(hw:cB s=0)(h0:0<=a)(h1:a<=s.size)(w:World):Calls Tryz.prog 71 #[.string s,.int .i64 a] w fun e w'=>e=.returned (.bool b)/\Below w.heap.size w w':=by
 subst hb;exact Me s a hw h0 h1 w
structure gK(p:Pa)(x:S46):Prop where
 f:0<=x.f0/\x.f0<=x.f1/\x.f1<=(p.tx.size:Int)
 a:JW p.tx x.f0=true
 b:JW p.tx x.f1=true
 lx:0<=x.f2/\x.f2<=4095
 lw:0<=x.f3/\x.f3<=4095
abbrev tH(x:S46):Array Value:=#[.int .i64 x.f0,.int .i64 x.f1,.int .i64 x.f2,.int .i64 x.f3,.int .i64 x.f4,.bool x.f5,.int .i64 x.f6]
theorem Jj(p:Pa)(x:S46){As Am:Option Addr}{cs cm:Nat}(w:World)(hz:p.small)(h0:bB p=0)(hx:gK p x) :
  Calls Tryz.prog 29 #[.agg (cG p As cs Am cm),.agg (tH x)] w fun e w'=>e=.returned (.bool true)/\Below w.heap.size w w':=by
 have HW:=aj (gI h0).1;have HX:=aj hx;have HB0:=aj (((Below.refl w.heap.size w).alloc (Nat.le_refl _) (.cells (cG p As cs Am cm) 27)).alloc (by simp) (.cells (tH x) 46));have dI:=aj (aP (aH w (.cells (cG p As cs Am cm) 27)) (.cells (tH x) 46));have nj:=aH (w.alloc (.cells (cG p As cs Am cm) 27)) (.cells (tH x) 46);rw[World.size_alloc] at nj;have kH:=aj nj;obtain⟨⟨f1,f2,f3⟩,fa,fb,⟨x1,x2⟩,⟨y1,y2⟩⟩:=hx;have d1:decide (x.f0<=x.f1)=true:=decide_eq_true f2;have d2:decide (0<=x.f2)=true:=decide_eq_true x1;have d3:decide (x.f2<=4095)=true:=decide_eq_true x2;have d4:decide (0<=x.f3)=true:=decide_eq_true y1;have d5:decide (x.f3<=4095)=true:=decide_eq_true y2;clear nj f1 f2 f3 fa fb x1 x2 y1 y2 hz h0;go_enter Tryz.func29,Tryz.ntmps29;go_upto_region 1 with(fail);obtain⟨bx,hbx⟩:∃ bx,w.heap.size=bx:=⟨_,rfl⟩;have mK:=aj hbx;rw[hbx] at dI kH HB0 ⊢;generalize (w.alloc (.cells (cG p As cs Am cm) 27)).alloc (.cells (tH x) 46)=w0 at *;have HB0:=aj (show Below w.heap.size w w0 by rw[hbx];exact HB0.out);clear hbx;have a0:w0.cell? ⟨bx,0,none⟩=some (.string p.tx):=(ak dI.out 0).trans rfl;have r0:w0.cell? ⟨bx+1,0,none⟩=some (.int .i64 x.f0):=(ak kH.out 0).trans rfl;have r1:w0.cell? ⟨bx+1,1,none⟩=some (.int .i64 x.f1):=(ak kH.out 1).trans rfl;have r2:w0.cell? ⟨bx+1,2,none⟩=some (.int .i64 x.f2):=(ak kH.out 2).trans rfl;have r3:w0.cell? ⟨bx+1,3,none⟩=some (.int .i64 x.f3):=(ak kH.out 3).trans rfl;have ga:=aj (And.intro HX.out.a HX.out.b);go_wp2_with (go_at_call 71;go_loud(refine(OL p.tx _ true (by with_reducible first|exact ga.out.1|exact ga.out.2) HW.out (by have:=HX.out.f;omega) (by have:=HX.out.f;omega) _).mono ?_;rintro e w1 ⟨rfl,hb1⟩;have HB0:=aj (HB0.out.trans (hb1.mono HB0.out.size));replace a0:=(hb1.cell (World.block_lt_of_cell? _ _ a0)).trans a0;replace r1:=(hb1.cell (World.block_lt_of_cell? _ _ r1)).trans r1;replace r2:=(hb1.cell (World.block_lt_of_cell? _ _ r2)).trans r2;replace r3:=(hb1.cell (World.block_lt_of_cell? _ _ r3)).trans r3;clear hb1));go_ret;exact⟨rfl,HB0.out⟩
def rz(m:S99):Bool:=m.f2 == 3 || m.f2 == 5
abbrev Au(m:S99):Array Value:=#[.int .i64 m.f0,.int .i64 m.f1,.int .i64 m.f2,.int .i64 m.f3,.int .i64 m.f4,.int .i64 m.f5]
theorem DP(m:S99)(w:World)(b:Bool)(hb:rz m=b):Calls Tryz.prog 72 #[.agg (Au m)] w fun e w'=>e=.returned (.bool b)/\Below w.heap.size w w':=by
 have HB0:=aj ((Below.refl w.heap.size w).alloc (Nat.le_refl _) (.cells (Au m) 99));by_cases c1:m.f2=3
 .have d1:(m.f2 == 3)=true:=beq_iff_eq.mpr c1;have HE:=aj (show b=true by rw[<-hb];unfold rz;rw[d1];rfl);clear hb c1;go_enter Tryz.func72,Tryz.ntmps72;go_wp2;go_ret;exact⟨dQ HE.out,HB0.out⟩
 .have d1:(m.f2 == 3)=false:=beq_eq_false_iff_ne.mpr c1;obtain⟨q,hq⟩:∃ q,(m.f2 == 5)=q:=⟨_,rfl⟩;have HE:=aj (show b=q by rw[<-hb];unfold rz;rw[d1,hq];rfl);clear hb c1;go_enter Tryz.func72,Tryz.ntmps72;go_wp2;go_ret;exact⟨dQ HE.out,HB0.out⟩
def Av(l:List S99):Bool:=l.any (fun m=>m.f2 == 4)
def qg:List S99->Int
 | []=>0
 | m :: l=>(if m.f2=3 then 1 else 0)+qg l
def qh:List S99->Int
 | []=>0
 | m :: l=>(if m.f2=3 then m.f4 / 3 else 0)+qh l
theorem yd:∀ l:List S99,0<=qg l/\qg l<=(l.length:Int)
 | []=>⟨Int.le_refl _,Int.le_refl _⟩
 | m :: l=>by
  have:=yd l;simp only[qg,List.length_cons];split<;>omega
theorem yg:∀ l:List S99,(∀ m∈l,cI m)->0<=qh l/\qh l<=1365 * (l.length:Int)
 | [],_=>⟨Int.le_refl _,Int.le_refl _⟩
 | m :: l,h=>by
  have:=yg l (fun x hx=>h x (List.mem_cons_of_mem _ hx));have hm:=h m (by simp);unfold cI at hm;simp only[qh,List.length_cons];split<;>omega
theorem drop_at{l:List S99}{k:Nat}(h:k < l.length):l.drop k=aV l (k:Int) :: l.drop (k+1):=by
 rw[List.drop_eq_getElem_cons h];unfold aV;simp[List.getD_eq_getElem?_getD,List.getElem?_eq_getElem h]
theorem o_{l:List S99}{k:Nat}(h:k < l.length):aV l (k:Int)∈l:=by
 unfold aV;simp[List.getD_eq_getElem?_getD,List.getElem?_eq_getElem h]
theorem lE(l:List S99)(n:Nat)(hn:l.length=n)(A B:Option Addr)(c nb cb:Nat)(a so d h:Int)(w:World)(hl:Kd.C k99 w A n l)(hn8:n<=4096)(b:Bool)(hb:Av l=b) :
  Calls Tryz.prog 34 #[.agg #[.slice A n c,.slice B nb cb,.int .i64 a,.int .i64 so,.int .i64 d,.int .i64 h]] w fun e w'=>e=.returned (.bool b)/\Below w.heap.size w w':=by
 have HL:=aj hl;have HN:=aj hn;have zf:=aj hb;have HB0:=aj ((Below.refl w.heap.size w).alloc (Nat.le_refl _) (.cells #[.slice A n c,.slice B nb cb,.int .i64 a,.int .i64 so,.int .i64 d,.int .i64 h] 90));clear hl hn hb;go_enter Tryz.func34,Tryz.ntmps34;go_wp2;go_loopw [8] (fun v8 wr=>∃ (y:Int) (k:Nat),v8=.int .i64 y/\aC (y=(k:Int)/\k<=n)/\aC (Av (l.drop k)=b)/\aC (Below w.heap.size w wr)) (fun v8 _=>n - (intOf v8).toNat)
 case atStart=>exact⟨0,0,rfl,⟨rfl,Nat.zero_le _⟩,zf,HB0⟩
 case round =>
  obtain⟨y,k,rfl,hy,hT,HB⟩:=hrel;by_cases hlt:k < n
  .have d1:decide (y < (n:Int))=true:=decide_eq_true (by rw[hy.out.1];omega);have q0:0<=y:=by rw[hy.out.1];omega
   have q1:y < (n:Int):=by rw[hy.out.1];omega
   obtain⟨ad,e0,k0,k1,k2,k3,k4,k5⟩:=eV (Kd.aM HL.out HB.out) y q0 q1;cases e0
   have hT2:=hT.out;rw[drop_at (by rw[HN.out];exact hlt),<-hy.out.1] at hT2;obtain⟨m,hm⟩:∃ m,aV l y=m:=⟨_,rfl⟩;rw[hm] at k0 k1 k2 k3 k4 k5 hT2;have z0:=cM k0 (.cells #[.int .i64 0,.int .i64 0,.int .i64 0,.int .i64 0,.int .i64 0,.int .i64 0] 99);have cg:=aj hlt;have p0:=eq_true q0;have p1:=eq_true q1;by_cases c4:m.f2=4
   .have d4:(m.f2 == 4)=true:=beq_iff_eq.mpr c4;have HE:=aj (show b=true by rw[<-hT2];unfold Av;rw[List.any_cons,d4];rfl);clear hlt hT2 hm c4;go_wp2;go_ret;exact⟨dQ HE.out,HB.out.alloc HB.out.size _⟩
   .have d4:(m.f2 == 4)=false:=beq_eq_false_iff_ne.mpr c4;have HE:=aj (show Av (l.drop (k+1))=b by rw[<-hT2];unfold Av;rw[List.any_cons,d4];rfl);clear hlt hT2 hm c4;go_wp2;go_roundw
    case rel=>exact⟨y+1,k+1,rfl,⟨by rw[hy.out.1];omega,cg.out⟩,HE,⟨HB.out.alloc HB.out.size _⟩⟩
    case measure=>have:=cg.out;have:=hy.out;simp[intOf];omega
  .have d1:decide (y < (n:Int))=false:=decide_eq_false (by rw[hy.out.1];omega);have HE:=aj (show b=false by rw[<-hT.out,List.drop_eq_nil_of_le (by rw[HN.out];omega)];rfl);clear hlt;go_wp2;go_ret;exact⟨dQ HE.out,HB.out⟩
theorem Ch(l:List S99)(n:Nat)(hn:l.length=n)(A B:Option Addr)(c nb cb:Nat)(a so:Int)(an sn:Nat)(d h:Int)(w:World)(hl:Kd.C k99 w A n l)(hc:n<=c)(hn8:n<=4096)(hM:∀ m∈l,cI m)(ha:a=(an:Int))(hs:so=(sn:Int))(h1:an<=sn)(h2:sn<=n)(r1 r2:Int)(hr1:qg ((l.take sn).drop an)=r1)(hr2:qh ((l.take sn).drop an)=r2) :
  Calls Tryz.prog 33 #[.agg #[.slice A n c,.slice B nb cb,.int .i64 a,.int .i64 so,.int .i64 d,.int .i64 h]] w fun e w'=>e=.returned (.tuple #[.int .i64 r1,.int .i64 r2])/\Below w.heap.size w w':=by
 obtain⟨L,hL⟩:∃ L,(l.take sn).drop an=L:=⟨_,rfl⟩;have NX:L.length=sn - an:=by rw[<-hL];simp;omega
 have TU:=aj (show ∀ m∈L,cI m by rw[<-hL];exact fun m hm=>hM m (List.mem_of_mem_take (List.mem_of_mem_drop hm)));have HSL:=aj (show Kd.C k99 w (if c=an then A else A.map (·.add (an * 6))) (sn - an) L by
  have:=Kd.SJ (k:=k99) (lo:=an) (hi:=sn) (c:=c) (by rw[hn];exact hl) h1 (by rw[hn];exact h2) (by rw[hn];exact hc);rw[hL,NX] at this;exact this)
 rw[hL] at hr1 hr2;have HB0:=aj ((Below.refl w.heap.size w).alloc (Nat.le_refl _) (.cells #[.slice A n c,.slice B nb cb,.int .i64 a,.int .i64 so,.int .i64 d,.int .i64 h] 90));have hcut:=Nh (P:=Tryz.prog) 82 99 .i64 .i64 Tryz.underlying82 rfl 6 rfl A n c a so (by omega) (by omega) (by omega) hc (w.alloc (.cells #[.slice A n c,.slice B nb cb,.int .i64 a,.int .i64 so,.int .i64 d,.int .i64 h] 90));rw[show a.toNat=an by omega,show so.toNat=sn by omega] at hcut;obtain⟨A2,hA2⟩:∃ A2,(if c=an then A else A.map (·.add (an * 6)))=A2:=⟨_,rfl⟩;rw[hA2] at hcut HSL;obtain⟨m2,hm2⟩:∃ m2,sn - an=m2:=⟨_,rfl⟩;rw[hm2] at hcut HSL NX;have HM2:=aj (show m2<=4096 by omega);have yO:=aj NX;have HR:=aj (And.intro hr1 hr2);clear hl hc hn8 hM ha hs h1 h2 hr1 hr2 hL NX hA2 hm2 hn;go_enter Tryz.func33,Tryz.ntmps33;go_wp2;clear hcut;go_loopw [4,5,16] (fun v4 v5 v16 wr=>∃ (x z y:Int) (k:Nat),v4=.int .i64 x/\v5=.int .i64 z/\v16=.int .i64 y/\aC (y=(k:Int)/\k<=m2)/\aC ((x+qg (L.drop k)=r1/\0<=x/\x<=(k:Int))/\(z+qh (L.drop k)=r2/\0<=z/\z<=1365 * (k:Int)))/\aC (Below w.heap.size w wr)) (fun _ _ v16 _=>m2 - (intOf v16).toNat)
 case atStart=>exact⟨0,0,0,0,rfl,rfl,rfl,⟨rfl,Nat.zero_le _⟩,⟨⟨by rw[List.drop_zero,HR.out.1];omega,Int.le_refl _,Int.le_refl _⟩,⟨by rw[List.drop_zero,HR.out.2];omega,Int.le_refl _,Int.le_refl _⟩⟩,HB0⟩
 case round =>
  obtain⟨x,z,y,k,rfl,rfl,rfl,hy,hX,HB⟩:=hrel;by_cases hlt:k < m2
  .have d1:decide (y < (m2:Int))=true:=decide_eq_true (by rw[hy.out.1];omega);have q0:0<=y:=by rw[hy.out.1];omega
   have q1:y < (m2:Int):=by rw[hy.out.1];omega
   have q2:y<=4096:=by have:=HM2.out;omega
   obtain⟨ad,e0,k0,k1,k2,k3,k4,k5⟩:=eV (Kd.aM HSL.out HB.out) y q0 q1;subst e0;have hX2:=hX.out;rw[drop_at (by rw[yO.out];exact hlt),<-hy.out.1] at hX2;have hmm:cI (aV L y):=TU.out _ (by rw[hy.out.1];exact o_ (by rw[yO.out];exact hlt));obtain⟨m,hm⟩:∃ m,aV L y=m:=⟨_,rfl⟩;rw[hm] at k0 k1 k2 k3 k4 k5 hX2 hmm;have z0:=cM k0 (.cells #[.int .i64 0,.int .i64 0,.int .i64 0,.int .i64 0,.int .i64 0,.int .i64 0] 99);have cg:=aj hlt;have p0:=eq_true q0;have p1:=eq_true q1;have x1:0<=x:=hX2.1.2.1;have x2:x<=4096:=by have:=hX2.1.2.2;have:=HM2.out;omega
   have z1:0<=z:=hX2.2.2.1;have z2:z<=5591040:=by have:=hX2.2.2.2;have:=HM2.out;omega
   have t1:0<=m.f4:=hmm.1;have t2:m.f4<=4095:=hmm.2.1;have t3:m.f4.tdiv 3=m.f4 / 3:=Int.tdiv_eq_ediv_of_nonneg t1;simp only[qg,qh] at hX2;by_cases c3:m.f2=3
   .have d4:(m.f2 == 3)=true:=beq_iff_eq.mpr c3;rw[if_pos c3,if_pos c3] at hX2;have HE:=aj hX2;obtain⟨t,ht⟩:∃ t,m.f4 / 3=t:=⟨_,rfl⟩;have t4:0<=t:=(by omega);have t5:t<=1365:=(by omega);have HT:=aj (And.intro ht (And.intro t4 t5));rw[ht] at t3;clear hlt hX2 hm c3 hmm ht;go_wp2;go_roundw
    case rel=>exact⟨x+1,z+t,y+1,k+1,rfl,rfl,rfl,⟨by rw[hy.out.1];omega,cg.out⟩,⟨by have:=HE.out;have:=HT.out;have:=hy.out;omega⟩,⟨HB.out.alloc HB.out.size _⟩⟩
    case measure=>have:=cg.out;have:=hy.out;simp[intOf];omega
   .have d4:(m.f2 == 3)=false:=beq_eq_false_iff_ne.mpr c3;rw[if_neg c3,if_neg c3] at hX2;have HE:=aj hX2;clear hlt hX2 hm c3 hmm t3;go_wp2;go_roundw
    case rel=>exact⟨x,z,y+1,k+1,rfl,rfl,rfl,⟨by rw[hy.out.1];omega,cg.out⟩,⟨by have:=HE.out;have:=hy.out;omega⟩,⟨HB.out.alloc HB.out.size _⟩⟩
    case measure=>have:=cg.out;have:=hy.out;simp[intOf];omega
  .have d1:decide (y < (m2:Int))=false:=decide_eq_false (by rw[hy.out.1];omega);have HE:=aj (show x=r1/\z=r2 by
    have h1:=hX.out;rw[List.drop_eq_nil_of_le (by rw[yO.out];omega)] at h1;simp only[qg,qh] at h1;omega)
   clear hlt;go_wp2;go_ret2;obtain⟨rfl,rfl⟩:=HE.out;exact⟨rfl,HB.out⟩
theorem yh(e:Int)(w:World):Calls Tryz.prog 75 #[.agg #[.int .i64 e]] w fun e' w'=>e'=.returned (.int .i64 0)/\Below w.heap.size w w':=by
 have HB0:=aj ((Below.refl w.heap.size w).alloc (Nat.le_refl _) (.cells #[.int .i64 e] 152));go_enter Tryz.func75,Tryz.ntmps75;go_wp2;go_ret;exact⟨rfl,HB0.out⟩
theorem DQ(e:Int)(w:World):Calls Tryz.prog 76 #[.agg #[.int .i64 e]] w fun e' w'=>e'=.returned (.int .i64 (if 0<=e then e else 0))/\Below w.heap.size w w':=by
 have HB0:=aj ((Below.refl w.heap.size w).alloc (Nat.le_refl _) (.cells #[.int .i64 e] 152));go_enter Tryz.func76,Tryz.ntmps76;go_wp2
 all_goals go_ret
 all_goals refine⟨?_,HB0.out⟩
 all_goals first|rfl|(congr 2;split<;>omega)
theorem Ci(e:Int)(h:e<=1000000000)(w:World):Calls Tryz.prog 77 #[.agg #[.int .i64 e]] w fun e' w'=>e'=.returned (.int .i64 (if 0<=e then e / 2 else 0))/\Below w.heap.size w w':=by
 have HB0:=aj ((Below.refl w.heap.size w).alloc (Nat.le_refl _) (.cells #[.int .i64 e] 152));go_enter Tryz.func77,Tryz.ntmps77;go_wp2
 all_goals go_ret
 all_goals refine⟨?_,HB0.out⟩
 all_goals first|rfl|(congr 2;split<;>omega)
def jt(al e:Int):Int:=if al=2 then (if 0<=e then e else 0) else if al=3 then (if 0<=e then e / 2 else 0) else 0
theorem OM(e r:Int)(h:jt 2 e=r)(w:World):Calls Tryz.prog 76 #[.agg #[.int .i64 e]] w fun e' w'=>e'=.returned (.int .i64 r)/\Below w.heap.size w w':=by
 subst h;exact DQ e w
theorem Mf(e r:Int)(h:jt 3 e=r)(h1:e<=1000000000)(w:World):Calls Tryz.prog 77 #[.agg #[.int .i64 e]] w fun e' w'=>e'=.returned (.int .i64 r)/\Below w.heap.size w w':=by
 subst h;exact Ci e h1 w
theorem kL{P:Program}{w:World}{a:Addr}{m:Mode}(fn:Fn)(fi ca:Array Value):(store a (.func fn fi ca) m).run P w=stored P w a (.func fn fi ca) m:=run_store P w a _ m rfl
attribute [local go_sem] kL
theorem DR(al e:Int)(h0:0<=al/\al<=3)(h:e<=1000000000)(w:World)(r:Int)(hr:jt al e=r):Calls Tryz.prog 36 #[.int .i64 al,.int .i64 e] w fun e' w'=>e'=.returned (.int .i64 r)/\Below w.heap.size w w':=by
 have HB0:=aj ((Below.refl w.heap.size w).alloc (Nat.le_refl _) (.cells #[.func (.func 75) #[] #[],.func (.func 75) #[] #[],.func (.func 76) #[] #[],.func (.func 77) #[] #[]] 153));have HR:=aj hr;have HH:=aj h;obtain⟨h1,h2⟩:=h0;clear hr h;obtain rfl|rfl|rfl|rfl:al=0\/al=1\/al=2\/al=3:=by omega
 .go_enter Tryz.func36,Tryz.ntmps36;go_wp2_with (go_at_call 75;go_loud(refine(yh e _).mono ?_;rintro e1 w1 ⟨rfl,hb1⟩));go_ret;exact⟨dh (by rw[<-HR.out];rfl),HB0.out.trans (hb1.mono HB0.out.size)⟩
 .go_enter Tryz.func36,Tryz.ntmps36;go_wp2_with (go_at_call 75;go_loud(refine(yh e _).mono ?_;rintro e1 w1 ⟨rfl,hb1⟩));go_ret;exact⟨dh (by rw[<-HR.out];rfl),HB0.out.trans (hb1.mono HB0.out.size)⟩
 .go_enter Tryz.func36,Tryz.ntmps36;go_wp2_with (go_at_call 76;go_loud(refine(OM e _ HR.out _).mono ?_;rintro e1 w1 ⟨rfl,hb1⟩));go_ret;exact⟨rfl,HB0.out.trans (hb1.mono HB0.out.size)⟩
 .go_enter Tryz.func36,Tryz.ntmps36;go_wp2_with (go_at_call 77;go_loud(refine(Mf e _ HR.out HH.out _).mono ?_;rintro e1 w1 ⟨rfl,hb1⟩));go_ret;exact⟨rfl,HB0.out.trans (hb1.mono HB0.out.size)⟩
theorem DT(p:Pa){As Am:Option Addr}{cs cm:Nat}(A B:Option Addr)(n c nb cb:Nat)(a so d h:Int)(w:World)(h0:bB p=0)(r:Int)(hr:fS p.tx.size 0 (cQ p.tx)=r) :
  Calls Tryz.prog 35 #[.agg #[.slice A n c,.slice B nb cb,.int .i64 a,.int .i64 so,.int .i64 d,.int .i64 h],.agg (cG p As cs Am cm)] w fun e w'=>e=.returned (.int .i64 r)/\Below w.heap.size w w':=by
 subst hr;have HP:=aj (show placeOf p.tx 0=0 by unfold placeOf;rw[if_pos (gI h0).1,if_neg (by omega)]);have HB0:=aj (((Below.refl w.heap.size w).alloc (Nat.le_refl _) (.cells #[.slice A n c,.slice B nb cb,.int .i64 a,.int .i64 so,.int .i64 d,.int .i64 h] 90)).alloc (by simp) (.cells (cG p As cs Am cm) 27));have hbx:=aH (w.alloc (.cells #[.slice A n c,.slice B nb cb,.int .i64 a,.int .i64 so,.int .i64 d,.int .i64 h] 90)) (.cells (cG p As cs Am cm) 27);rw[World.size_alloc] at hbx;have dI:=aj hbx;clear hbx h0;go_enter Tryz.func35,Tryz.ntmps35;go_upto_region 1 with(fail);generalize (w.alloc (.cells #[.slice A n c,.slice B nb cb,.int .i64 a,.int .i64 so,.int .i64 d,.int .i64 h] 90)).alloc (.cells (cG p As cs Am cm) 27)=w0 at *;have a0:w0.cell? ⟨w.heap.size+1,0,none⟩=some (.string p.tx):=(ak dI.out 0).trans rfl;go_wp2_with (go_at_call 74;go_loud(refine(OJ p.tx 0 HP.out _).mono ?_;rintro e1 w1 ⟨rfl,hb1⟩));go_ret;exact⟨rfl,HB0.out.trans (hb1.mono HB0.out.size)⟩
end Go.Proofs.YtcaallkkeighdaaGreatDoor.P
