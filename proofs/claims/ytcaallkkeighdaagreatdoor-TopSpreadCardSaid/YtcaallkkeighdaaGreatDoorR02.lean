/- Words of the walks, as far as these proofs use them: of rows, blocks, boxes and regions; the conditions stand in each statement. -/
import Derived.Below
import Derived.Deep.Draws
import Derived.Deep.AppendLies
import Derived.Maps.AppendAt
import Derived.OwnWalk
import Derived.Laws.BytesArg
import Derived.Laws.MakeOwn
import Derived.Laws.OwnMore
import Derived.Deep.OwnRows
import Derived.Tactics
import Derived.Lib.ConvBytes
import Derived.Laws.Slices
import Derived.WalkKit
import Derived.KernelRfl
import Derived.RowKit3
import Derived.Deep.LoopGhost
import Derived.Deep.QuietTactic
import Derived.BigQuiet
import Derived.WideLaws
import Derived.Deep.DeepCutAuto
import Derived.Deep.CutBlock
import Derived.Deep.RegionHeld3
import Derived.Laws.Rows
import Derived.Lib.AppendStr
import Derived.ArgAppend
import Derived.Laws.IdiomCopy
import Derived.RowKit
set_option maxRecDepth 100000
set_option maxHeartbeats 16000000
set_option linter.unusedVariables false
set_option linter.unusedSimpArgs false
namespace Go.Proofs.YtcaallkkeighdaaGreatDoor.aD
open Go.RowKit
structure aC(p:Prop):Prop where mk :: (out:p)
abbrev aq:=false
abbrev au:=true
theorem aj{p:Prop}(h:p):aC p:=⟨h⟩
theorem aE{α:Type _}(l:List α)(i:Nat)(a:α):l.toArray.setIfInBounds i a=(l.set i a).toArray:=List.setIfInBounds_toArray ..
theorem aI{α:Type _}(x y:α)(l:List α):(x::l).set 0 y=y::l:=List.set_cons_zero ..
theorem aJ{α:Type _}(x y:α)(l:List α)(n:Nat):(x::l).set (n+1) y=x::l.set n y:=List.set_cons_succ ..
structure aU(w w':World):Prop where mk :: (out:∃ n,w'=w.drewN n)
theorem aU.refl(w:World):aU w w:=⟨⟨0,rfl⟩⟩
theorem aU.step{w w':World}(h:aU w w')(n:Nat):aU w (w'.drewN n):=by
 obtain⟨m,rfl⟩:=h;exact⟨⟨m+n,World.drewN_drewN ..⟩⟩
theorem aU.below{w w':World}(h:aU w w'):Below w.heap.size w w':=by
 obtain⟨n,rfl⟩:=h
 induction n with
 | zero=>exact Below.refl _ _
 | succ n ih=>rw[<-World.drew_drewN];exact ih.drew
def rd(xs:List Int)(i:Int):Int:=xs.getD i.toNat 0
def bt(s:ByteArray)(i:Int):Int:=if h:i.toNat < s.size then ((s[i.toNat]'h).toNat:Int) else 0
theorem nN(s:ByteArray)(i:Int):∀ h:i.toNat < s.size,((s[i.toNat]'h).toNat:Int)=bt s i:=fun h=>by simp[bt,h]
theorem mz(s:ByteArray)(i:Int):0<=bt s i/\bt s i<=255:=by
 unfold bt;split
 .rename_i h
  have:=(s[i.toNat]'h).toNat_lt;omega
 .omega
def jL(k:IntKind)(xs:List Int):List Value:=xs.map fun x=>.int k x
theorem oo(k:IntKind)(xs:List Int):(jL k xs).length=xs.length:=by simp[jL]
theorem aF{w W:World}(h:Below w.heap.size w W)(o:Obj):Below w.heap.size w (W.alloc o):=h.alloc h.size o
theorem aG{B:Nat}{w W:World}(h:Below B w W):Below B w W.drew:=⟨h.os,h.tape,h.output,h.size,h.block⟩
theorem aA{B:Nat}{w W:World}(h:Below B w W)(n:Nat):Below B w (W.drewN n):=⟨h.os,h.tape,h.output,h.size,h.block⟩
theorem EA{B:Nat}{w w1 w2:World}(h:Below B w w1)(hB:B<=w1.heap.size)(k:Below w1.heap.size w1 w2):Below B w w2 :=
 h.trans ⟨k.os,k.tape,k.output,k.size,fun i hi=>k.block i (Nat.lt_of_lt_of_le hi hB)⟩
theorem vY{w w1:World}(h:Below w.heap.size w w1)(row:Option Nat):w.grownBy w1 row:=⟨h.os,h.tape,h.output,h.size,fun i hi _=>h.block i hi⟩
theorem bH{w w1:World}(h:Below w.heap.size w w1){a:Addr}{v:Value}(hc:w.cell? a=some v):w1.cell? a=some v:=(h.cell (World.block_lt_of_cell? w a hc)).trans hc
theorem add_plain(g j:Nat):(⟨g,0,none⟩:Addr).add j=⟨g,j,none⟩:=by unfold Addr.add;split<;>simp_all
def dZ(w:World)(k:IntKind)(A:Option Addr)(n:Nat)(xs:List Int):Prop :=
 xs.length=n/\n<=9223372036854775807/\(0 < n->∃ ad,A=some ad/\∀ j,j < n->w.cell? (ad.add j)=some (.int k (xs.getD j 0)))
theorem dZ.at_{w:World}{k:IntKind}{A:Option Addr}{n:Nat}{xs:List Int}(h:dZ w k A n xs)(i:Int)(h0:0<=i)(h1:i < n):∃ ad,A=some ad/\w.cell? (ad.add i.toNat)=some (.int k (rd xs i)):=by
 obtain⟨ad,e,hc⟩:=h.2.2 (by omega);exact⟨ad,e,hc _ (by omega)⟩
theorem Gm(W:World)(base:Nat)(e:TypeId)(size:Nat):W.ownsRow base e size (.slice none 0 0) 0 []:=⟨by simp,.inl ⟨rfl,rfl⟩⟩
theorem fR{w:World}{base:Nat}{e:TypeId}{size n:Nat}{v:Value}{xs:List Value}(h:w.ownsRow base e size v n xs)(k:Nat)(hk:v.ownBlock=some k):base<=k:=by
 rcases h.2 with⟨rfl,_⟩|⟨g,cap,cur,rfl,hb,_⟩
 .simp[Value.ownBlock] at hk
 .have:g=k:=by simpa [Value.ownBlock] using hk
  omega
theorem jW{w:World}{base:Nat}{e:TypeId}{size n:Nat}{v:Value}{xs:List Value}(h:w.ownsRow base e size v n xs)(k:Nat)(hk:v.ownBlock=some k):k < w.heap.size:=by
 rcases h.2 with⟨rfl,_⟩|⟨g,cap,cur,rfl,hb,hh,_⟩
 .simp[Value.ownBlock] at hk
 .have:g=k:=by simpa [Value.ownBlock] using hk
  subst this;exact(Array.getElem?_eq_some_iff.1 hh).1
theorem rH{w w1:World}{base:Nat}{e:TypeId}{size n:Nat}{v:Value}{xs:List Value}(h:w.ownsRow base e size v n xs)(hb:Below w.heap.size w w1):w1.ownsRow base e size v n xs :=
 h.kept (vY hb none) (by cases v.ownBlock<;>simp)
theorem Hl{w w1:World}{base:Nat}{e:TypeId}{size n:Nat}{v:Value}{xs:List Value}(h:w.ownsRow base e size v n xs){row:Option Nat}(hg:w.grownBy w1 row)(hne:v.ownBlock=none\/v.ownBlock≠row):w1.ownsRow base e size v n xs:=h.kept hg hne
theorem Ho{w:World}{base n:Nat}{e:TypeId}{size:Nat}{v:Value}{xs:List Value}(h:w.ownsRow base e size v n xs):∃ A c,v=.slice A n c:=by
 rcases h.2 with⟨rfl,rfl⟩|⟨g,cap,cur,rfl,_⟩
 .exact⟨none,0,rfl⟩
 .exact⟨_,cap,rfl⟩
section
variable{P:Program}{ops:Array Oper}{rest:List Oper}{o:Oper}{a:Act}{Q:Exit->Act->World->Prop}
theorem AL{w0 W:World}(base:Nat)(hgd:o.guard=none)(s x:Operand)(t e:TypeId)(z:Value)(bytes:Nat)
  (ho:o.op=.call { callee:=.builtin .append,args:=#[s,x],argTypes:=#[t,t] })
  (ht:P.underlying t=some (.slice e)) (hinfo:(P.info? e).map (fun i=>(i.zero,i.size,i.bytes))=some (some z,1,bytes)) (hz:z.cells.size=1) (hb0:0 < bytes)
  (v:Value) (xs:List Value) (y:Value) (hs:a.eval s=v) (hx:a.eval x=.slice (some ⟨W.heap.size,0,none⟩) 1 1) (h1:y.oneCell'=true)
  (HO:W.ownsRow base e 1 v xs.length xs) (HB:Below base w0 W) (hbase:base<=W.heap.size) (hl:(xs.length+1) * bytes<=140737488355328)
  (h:∀ v1 w1,w1.ownsRow base e 1 v1 (xs ++ [y]).length (xs ++ [y])->Below base w0 w1->W.grownBy w1 v.ownBlock->(v1.ownBlock=v.ownBlock\/∃ b,v1.ownBlock=some b/\W.heap.size<=b)->wpList P ops Q rest (a.put o.dst v1) w1) :
  wpList P ops Q (o :: rest) a (W.alloc (.cells #[y] e)):=by
 obtain⟨i0,hi,hzz⟩:=Option.map_eq_some_iff.1 hinfo;simp only[Prod.mk.injEq] at hzz;obtain⟨hz0,hz1,hz2⟩:=hzz;have hlen:xs.length+1<=140737488355328:=Nat.le_trans (Nat.le_mul_of_pos_right _ hb0) hl
 refine wpList_append_own_at (W.alloc (.cells #[y] e)) hgd s x t ho base e i0 z 1 bytes ht hi hz0 hz1 hz2 hz (by omega) v xs.length xs hs (HO.alloc _) ⟨W.heap.size,0,none⟩ 1 1 [y] hx rfl
  (World.news_of_block (cs:=#[y]) (t:=e) (fr:=(0,0)) (heap_alloc_new W _)) (by simpa using h1) (by simp only[maxLen];omega) hl (by simp;omega) ?_
 intro v1 w1 hown hg _ hat;refine h v1 w1 (by simpa using hown) ((HB.alloc hbase _).grown hg (by simp;omega) (fR HO)) (World.grownBy.trans (World.grownBy_alloc W _ _) hg) ?_;rcases hat with hat|hat
 .exact .inl hat
 .exact .inr ⟨_,hat,by simp⟩
theorem tI{w0 W:World}(base:Nat)(hgd:o.guard=none)(s x:Operand)(t e:TypeId)(k:IntKind)(bytes:Nat)
  (ho:o.op=.call { callee:=.builtin .append,args:=#[s,x],argTypes:=#[t,t] })
  (ht:P.underlying t=some (.slice e)) (hinfo:(P.info? e).map (fun i=>(i.zero,i.size,i.bytes))=some (some (.int k 0),1,bytes)) (hb0:0 < bytes)
  (v:Value) (xs:List Int) (y:Int) (hs:a.eval s=v) (hx:a.eval x=.slice (some ⟨W.heap.size,0,none⟩) 1 1)
  (HO:W.ownsRow base e 1 v xs.length (jL k xs)) (HB:Below base w0 W) (hbase:base<=W.heap.size) (hl:(xs.length+1) * bytes<=140737488355328)
  (h:∀ v1 w1,w1.ownsRow base e 1 v1 (xs ++ [y]).length (jL k (xs ++ [y]))->Below base w0 w1->W.grownBy w1 v.ownBlock->(v1.ownBlock=v.ownBlock\/∃ b,v1.ownBlock=some b/\W.heap.size<=b)->wpList P ops Q rest (a.put o.dst v1) w1) :
  wpList P ops Q (o :: rest) a (W.alloc (.cells #[.int k y] e)) :=
 AL base hgd s x t e (.int k 0) bytes ho ht hinfo rfl hb0 v (jL k xs) (.int k y) hs hx rfl (by rw[oo];exact HO) HB hbase (by rw[oo];exact hl)
  fun v1 w1 hown hB hg hat=>h v1 w1 (by simpa [jL] using hown) hB hg hat
end
section
variable{P:Program}
end
theorem Na(W:World)(base:Nat)(e:TypeId)(k:IntKind)(xs:List Int)(hb:base<=W.heap.size)(hm:xs.length<=9223372036854775807) :
  (W.alloc (.cells (jL k xs).toArray e)).ownsRow base e 1 (.slice (some ⟨W.heap.size,0,none⟩) xs.length xs.length) xs.length (jL k xs):=by
 have h:=World.ownsRow_lit (base:=base) (e:=e) (size:=1) W (jL k xs).toArray xs.length hb (by simpa [maxLen] using hm) (by simp[jL])
 simpa using h
theorem tJ{W:World}{base g n cap:Nat}{e:TypeId}{k:IntKind}{xs:List Int}(h:W.ownsRow base e 1 (.slice (some ⟨g,0,none⟩) n cap) n (jL k xs))(i:Int)(h0:0<=i)(h1:i < n) :
  W.cell? ⟨g,i.toNat,none⟩=some (.int k (rd xs i))/\W.frozen? ⟨g,i.toNat,none⟩=false:=by
 have hl:xs.length=n:=by have:=h.1;simp[jL] at this;exact this
 constructor
 .have hc:=h.cells (g:=g) rfl i.toNat (.int k (rd xs i)) (by simp[jL,rd,List.getElem?_eq_getElem (show i.toNat < xs.length by omega),List.getD_eq_getElem?_getD])
  rwa [add_plain] at hc
 .rcases h.2 with⟨h',_⟩|⟨g',cap',cur,h',_,hh,_⟩
  .cases h'
  .have:g=g':=by injection h' with h';injection h' with h';injection h' with h'
   subst this;simp[World.frozen?,hh]
theorem zI{W:World}{base g n cap:Nat}{e:TypeId}{k:IntKind}{xs:List Int}(h:W.ownsRow base e 1 (.slice (some ⟨g,0,none⟩) n cap) n (jL k xs))(i x:Int) :
  (W.setCell ⟨g,i.toNat,none⟩ (.int k x)).ownsRow base e 1 (.slice (some ⟨g,0,none⟩) n cap) n (jL k (xs.set i.toNat x))/\W.grownBy (W.setCell ⟨g,i.toNat,none⟩ (.int k x)) (some g):=by
 have hs:=h.stored i.toNat (.int k x);have he:(jL k xs).set i.toNat (.int k x)=jL k (xs.set i.toNat x):=by simp[jL,List.map_set]
 rwa [he] at hs
section
variable{P:Program}{ops:Array Oper}{rest:List Oper}{o:Oper}{a:Act}{Q:Exit->Act->World->Prop}
end
def bytesOf(s:ByteArray):List Int:=s.data.toList.map fun b=>(b.toNat:Int)
theorem lJ(s:ByteArray):s.data.toList.length=s.size:=by rw[Array.length_toList];rfl
theorem ef(s:ByteArray):(bytesOf s).length=s.size:=by rw[bytesOf,List.length_map,lJ]
theorem gU(s:ByteArray)(i:Int):rd (bytesOf s) i=bt s i:=by
 unfold rd bt bytesOf;split
 .rename_i h
  have h':i.toNat < s.data.toList.length:=by rw[lJ];exact h
  simp[List.getD_eq_getElem?_getD,List.getElem?_eq_getElem h'];rfl
 .rename_i h
  have h':s.data.toList.length<=i.toNat:=by rw[lJ];omega
  simp[List.getD_eq_getElem?_getD,List.getElem?_eq_none h']
theorem f_{P:Program}(src dst e:TypeId){u:TypeDesc}(hs:P.underlying src=some u)(hd:P.underlying dst=some (.slice e))(he:P.underlying e=some (.int .u8))(s:ByteArray)(W:World) :
  (convert src dst (.string s)).run P W=.ok (.slice (some ⟨W.heap.size,0,none⟩) s.size (grownCap W s.size 0 e)) (Lib.bytesWorld W e s):=Lib.run_convert_string_bytes W src dst e s hs hd he
theorem oq(W:World)(e:TypeId)(s:ByteArray)(hs:s.size<=9223372036854775807):dZ (Lib.bytesWorld W e s) .u8 (some ⟨W.heap.size,0,none⟩) s.size (bytesOf s):=by
 refine⟨ef s,hs,fun _=>⟨_,rfl,fun j hj=>?_⟩⟩;rw[add_plain,Lib.bytesWorld_cell W e s j hj];have h':j < s.data.toList.length:=by rw[lJ];exact hj
 simp[bytesOf,List.getD_eq_getElem?_getD,List.getElem?_eq_getElem h']
theorem fE{B:Nat}{w W:World}(h:Below B w W)(hB:B<=W.heap.size)(e:TypeId)(s:ByteArray):Below B w (Lib.bytesWorld W e s) :=
 h.trans ⟨rfl,rfl,rfl,by rw[Lib.bytesWorld_size];omega,fun i hi=>Lib.bytesWorld_at_old W e s i (by omega)⟩
def iY{α:Type}(R:α->List Value->Prop)(size:Nat)(ps:List α)(cs:List Value):Prop :=
 cs.length=ps.length * size/\∀ j p,ps[j]? = some p->R p ((cs.drop (j * size)).take size)
theorem iY.none{α:Type}(R:α->List Value->Prop)(size:Nat):iY R size [] []:=⟨by simp,fun j p h=>by simp at h⟩
theorem iY.snoc{α:Type}{R:α->List Value->Prop}{size:Nat}{ps:List α}{cs c:List Value}{p:α}(h:iY R size ps cs)(hp:R p c)(hc:c.length=size):iY R size (ps ++ [p]) (cs ++ c):=by
 refine⟨by rw[List.length_append,h.1,hc,List.length_append,List.length_singleton,Nat.add_mul,Nat.one_mul],fun j q hq=>?_⟩;rcases Nat.lt_or_ge j ps.length with hj|hj
 .rw[List.getElem?_append_left hj] at hq;have h1:j * size+size<=cs.length:=by rw[h.1,<-Nat.succ_mul];exact Nat.mul_le_mul_right _ hj
  have h2:=h.2 j q hq;rw[List.drop_append_of_le_length (by omega),List.take_append_of_le_length (by rw[List.length_drop];omega)];exact h2
 .have hj':j=ps.length:=by
   have:=(List.getElem?_eq_some_iff.1 hq).1;rw[List.length_append,List.length_singleton] at this;omega
  subst hj';have hq':p=q:=by simpa using hq
  subst hq';rw[<-h.1,List.drop_left,<-hc,List.take_length];exact hp
theorem iY.p9{α:Type}{R R':α->List Value->Prop}{size:Nat}{ps:List α}{cs:List Value}(h:iY R size ps cs)(hR:∀ p c,R p c->R' p c):iY R' size ps cs:=⟨h.1,fun j p hj=>hR _ _ (h.2 j p hj)⟩
def eu{α:Type}(R:α->List Value->Prop)(size:Nat)(w:World)(A:Option Addr)(n:Nat)(ps:List α):Prop :=
 ps.length=n/\n<=9223372036854775807/\(0 < n->∃ ad,A=some ad/\∀ j p,ps[j]? = some p->∃ c,c.length=size/\R p c/\∀ i u,c[i]? = some u->w.cell? (ad.add (j * size+i))=some u)
theorem eu.WG{α:Type}{R:α->List Value->Prop}{size:Nat}{w:World}{A:Option Addr}{n:Nat}{ps:List α}(h:eu R size w A n ps)(d:α)(i:Int)(h0:0<=i)(h1:i < n) :
  ∃ ad c,A=some ad/\c.length=size/\R (ps.getD i.toNat d) c/\∀ j u,c[j]? = some u->w.cell? (ad.add (i.toNat * size+j))=some u:=by
 obtain⟨ad,e,hc⟩:=h.2.2 (by omega);have hl:i.toNat < ps.length:=by have:=h.1;omega
 obtain⟨c,hs,hr,hcell⟩:=hc i.toNat _ (List.getElem?_eq_getElem hl);refine⟨ad,c,e,hs,?_,hcell⟩;rw[List.getD_eq_getElem?_getD,List.getElem?_eq_getElem hl];exact hr
theorem eu.p9{α:Type}{R R':α->List Value->Prop}{size:Nat}{w w1:World}{A:Option Addr}{n:Nat}{ps:List α}(h:eu R size w A n ps)(hb:Below w.heap.size w w1)(hR:∀ p c,R p c->R' p c):eu R' size w1 A n ps :=
 ⟨h.1,h.2.1,fun hn=>by
  obtain⟨ad,e,hc⟩:=h.2.2 hn;refine⟨ad,e,fun j p hj=>?_⟩;obtain⟨c,hs,hr,hcell⟩:=hc j p hj;exact⟨c,hs,hR _ _ hr,fun i u hu=>bH hb (hcell i u hu)⟩⟩
theorem yT{α:Type}{R:α->List Value->Prop}{w:World}{base n size:Nat}{e:TypeId}{v:Value}{ps:List α}{cs:List Value}(h:w.ownsRow base e size v n cs)(hR:iY R size ps cs)(hn:ps.length=n) :
  ∃ A c,v=.slice A n c/\eu R size w A n ps:=by
 rcases Nat.eq_zero_or_pos n with h0|h0
 .rcases h.2 with⟨rfl,rfl⟩|⟨g,cap,cur,rfl,_⟩
  .exact⟨none,0,rfl,hn,by omega,fun hp=>absurd hp (by omega)⟩
  .exact⟨_,cap,rfl,hn,by omega,fun hp=>absurd hp (by omega)⟩
 .obtain⟨g,cap,rfl,_,_⟩:=h.form h0;have hm:n<=9223372036854775807:=by
   rcases h.2 with⟨_,h1⟩|⟨g',cap',cur,he,_,_,h1,h2,_⟩
   .omega
   .simp only[maxLen] at h2;omega
  refine⟨_,cap,rfl,hn,hm,fun _=>⟨_,rfl,fun j p hj=>⟨(cs.drop (j * size)).take size,?_,hR.2 j p hj,fun i u hu=>?_⟩⟩⟩
  .have hjl:=(List.getElem?_eq_some_iff.1 hj).1;have h1:j * size+size<=cs.length:=by rw[hR.1,<-Nat.succ_mul];exact Nat.mul_le_mul_right _ hjl
   rw[List.length_take,List.length_drop];omega
  .refine h.cells (g:=g) rfl _ u ?_;rw[List.getElem?_take] at hu;split at hu
   .rw[List.getElem?_drop] at hu;exact hu
   .cases hu
theorem bM(ad:Addr)(m j:Nat)(hj:0 < j):ad.add (m+j)=⟨(ad.add m).block,(ad.add m).off+j,none⟩:=by
 unfold Addr.add;by_cases hm:m=0
 .subst hm;simp[Nat.ne_of_gt hj]
 .simp[hm,Nat.add_assoc]
section
variable{P:Program}{ops:Array Oper}{rest:List Oper}{o:Oper}{a:Act}{Q:Exit->Act->World->Prop}
theorem cC{w0 W:World}(base:Nat)(hgd:o.guard=none)(s x:Operand)(t e:TypeId)(z:Value)(size bytes:Nat)
  (ho:o.op=.call { callee:=.builtin .append,args:=#[s,x],argTypes:=#[t,t] })
  (ht:P.underlying t=some (.slice e)) (hinfo:(P.info? e).map (fun i=>(i.zero,i.size,i.bytes))=some (some z,size,bytes)) (hz:z.cells.size=size) (hs0:0 < size) (hb0:0 < bytes)
  (v:Value) (n:Nat) (xs ys:List Value) (hs:a.eval s=v) (hx:a.eval x=.slice (some ⟨W.heap.size,0,none⟩) 1 1) (hys:ys.length=size) (h1:∀ u∈ys,u.oneCell'=true)
  (HO:W.ownsRow base e size v n xs) (HB:Below base w0 W) (hbase:base<=W.heap.size) (hl:(n+1) * bytes<=140737488355328)
  (h:∀ v1 w1,w1.ownsRow base e size v1 (n+1) (xs ++ ys)->Below base w0 w1->W.grownBy w1 v.ownBlock->(v1.ownBlock=v.ownBlock\/∃ b,v1.ownBlock=some b/\W.heap.size<=b)->wpList P ops Q rest (a.put o.dst v1) w1) :
  wpList P ops Q (o :: rest) a (W.alloc (.cells ys.toArray e)):=by
 obtain⟨i0,hi,hzz⟩:=Option.map_eq_some_iff.1 hinfo;simp only[Prod.mk.injEq] at hzz;obtain⟨hz0,hz1,hz2⟩:=hzz;have hlen:n+1<=140737488355328:=Nat.le_trans (Nat.le_mul_of_pos_right _ hb0) hl
 refine wpList_append_own_at (W.alloc (.cells ys.toArray e)) hgd s x t ho base e i0 z size bytes ht hi hz0 hz1 hz2 hz hs0 v n xs hs (HO.alloc _) ⟨W.heap.size,0,none⟩ 1 1 ys hx (by rw[hys];simp)
  (by simpa using World.news_of_block (cs:=ys.toArray) (t:=e) (fr:=(0,0)) (heap_alloc_new W (.cells ys.toArray e))) h1 (by simp only[maxLen];omega) hl (by simp;omega) ?_
 intro v1 w1 hown hg _ hat;refine h v1 w1 hown ((HB.alloc hbase _).grown hg (by simp;omega) (fR HO)) (World.grownBy.trans (World.grownBy_alloc W _ _) hg) ?_;rcases hat with hat|hat
 .exact .inl hat
 .exact .inr ⟨_,hat,by simp⟩
end
theorem AO{w:World}{base:Nat}{e t:TypeId}{size n g:Nat}{v:Value}{xs:List Value}{cs:Array Value}(h:w.ownsRow base e size v n xs)(hg:w.heap[g]? = some (.cells cs t (0,0)))(hne:e≠t):some g≠v.ownBlock:=by
 rcases h.2 with⟨rfl,_⟩|⟨g',cap,cur,rfl,_,hh,_⟩
 .simp[Value.ownBlock]
 .intro he;have:g=g':=by simpa [Value.ownBlock] using he
  subst this;rw[hg] at hh;injection hh with hh;injection hh with _ ht;exact hne ht.symm
theorem Gn{w:World}{g:Nat}{t:TypeId}{cs:Array Value}(h:w.heap[g]? = some (.cells cs t (0,0)))(i:Nat)(u:Value):(w.setCell ⟨g,i,none⟩ u).heap[g]? = some (.cells (cs.setIfInBounds i u) t (0,0)):=by
 simp[World.setCell,Array.getElem?_modify,h]
theorem cw{w:World}{g:Nat}{t:TypeId}{cs:Array Value}(h:w.heap[g]? = some (.cells cs t (0,0))){p:Addr}(hp:g≠p.block)(u:Value):(w.setCell p u).heap[g]? = some (.cells cs t (0,0)):=(Below.heap_setCell w p u g hp).trans h
theorem aY{w:World}{g:Nat}{o:Obj}(h:w.heap[g]? = some o):g < w.heap.size:=(Array.getElem?_eq_some_iff.1 h).1
theorem ak{w:World}{g:Nat}{t:TypeId}{cs:Array Value}(h:w.heap[g]? = some (.cells cs t (0,0)))(i:Nat):w.cell? ⟨g,i,none⟩=cs[i]?:=cell_of_row w g i cs t (0,0) h
theorem aB{w:World}{g:Nat}{t:TypeId}{cs:Array Value}(h:w.heap[g]? = some (.cells cs t (0,0)))(i:Nat):w.frozen? ⟨g,i,none⟩=false:=by simp[World.frozen?,h]
theorem cJ{w w1:World}{g:Nat}{o:Obj}{row:Option Nat}(h:w.heap[g]? = some o)(hg:w.grownBy w1 row)(hne:some g≠row):w1.heap[g]? = some o:=(hg.block g (aY h) hne).trans h
section
variable{P:Program}{ops:Array Oper}{o:Oper}{a:Act}{Q:Exit->Act->World->Prop}{K:Act->World->Prop}
theorem rI{w0 W:World}(base:Nat)(hw:Region.wanted o (yielded ops a.tmps)=true)(s x:Operand)(t e:TypeId)(z:Value)(size bytes:Nat)
  (ho:o.op=.call { callee:=.builtin .append,args:=#[s,x],argTypes:=#[t,t] })
  (ht:P.underlying t=some (.slice e)) (hinfo:(P.info? e).map (fun i=>(i.zero,i.size,i.bytes))=some (some z,size,bytes)) (hz:z.cells.size=size) (hs0:0 < size) (hb0:0 < bytes)
  (v:Value) (n:Nat) (xs ys:List Value) (hs:a.eval s=v) (hx:a.eval x=.slice (some ⟨W.heap.size,0,none⟩) 1 1) (hys:ys.length=size) (h1:∀ u∈ys,u.oneCell'=true)
  (HO:W.ownsRow base e size v n xs) (HB:Below base w0 W) (hbase:base<=W.heap.size) (hl:(n+1) * bytes<=140737488355328)
  (h:∀ v1 w1,w1.ownsRow base e size v1 (n+1) (xs ++ ys)->Below base w0 w1->W.grownBy w1 v.ownBlock->(v1.ownBlock=v.ownBlock\/∃ b,v1.ownBlock=some b/\W.heap.size<=b)->K (a.put o.dst v1) w1) :
  if Region.wanted o (yielded ops a.tmps)=true then Oper.wp P o a (W.alloc (.cells ys.toArray e)) K Q else K (a.put o.dst undef) (W.alloc (.cells ys.toArray e)):=by
 obtain⟨i0,hi,hzz⟩:=Option.map_eq_some_iff.1 hinfo;simp only[Prod.mk.injEq] at hzz;obtain⟨hz0,hz1,hz2⟩:=hzz;have hlen:n+1<=140737488355328:=Nat.le_trans (Nat.le_mul_of_pos_right _ hb0) hl;rw[if_pos hw]
 obtain⟨v1,w1,hr,hown,hg,_,hat⟩:=run_append_own_at (P:=P) (W.alloc (.cells ys.toArray e)) base t o.type e i0 z size bytes ht hi hz0 hz1 hz2 hz hs0 v n xs (HO.alloc _) ⟨W.heap.size,0,none⟩ 1 1 ys (by rw[hys];simp)
  (by simpa using World.news_of_block (cs:=ys.toArray) (t:=e) (fr:=(0,0)) (heap_alloc_new W (.cells ys.toArray e))) h1 (by simp only[maxLen];omega) hl (by simp;omega)
 unfold Oper.wp execOp;simp only[ho,resolve,invoke,builtin,Sem.run_bind,Sem.run_pure,Result.andThen_ok,List.map_toArray,List.map_cons,List.map_nil,hs,hx,hr];refine h v1 w1 hown ((HB.alloc hbase _).grown hg (by simp;omega) (fR HO)) (World.grownBy.trans (World.grownBy_alloc W _ _) hg) ?_;rcases hat with hat|hat
 .exact .inl hat
 .exact .inr ⟨_,hat,by simp⟩
end
theorem EB{w:World}{base base':Nat}{e:TypeId}{size n:Nat}{v:Value}{xs:List Value}(h:w.ownsRow base e size v n xs)(hb:base'<=base):w.ownsRow base' e size v n xs:=by
 obtain⟨h1,h2⟩:=h;refine⟨h1,?_⟩;rcases h2 with h2|⟨g,cap,cur,rfl,hg,r⟩
 .exact .inl h2
 .exact .inr ⟨g,cap,cur,rfl,Nat.le_trans hb hg,r⟩
section
variable{α:Type}{enc:α->Value}{d:α}
def vZ(d:α)(xs:List α)(i:Int):α:=xs.getD i.toNat d
def pI(enc:α->Value)(d:α)(w:World)(A:Option Addr)(n:Nat)(xs:List α):Prop :=
 xs.length=n/\n<=9223372036854775807/\(0 < n->∃ ad,A=some ad/\∀ j,j < n->w.cell? (ad.add j)=some (enc (xs.getD j d)))
theorem pI.at_{w:World}{A:Option Addr}{n:Nat}{xs:List α}(h:pI enc d w A n xs)(i:Int)(h0:0<=i)(h1:i < n):∃ ad,A=some ad/\w.cell? (ad.add i.toNat)=some (enc (vZ d xs i)):=by
 obtain⟨ad,e,hc⟩:=h.2.2 (by omega);exact⟨ad,e,hc _ (by omega)⟩
end
section
variable{α:Type}{P:Program}{ops:Array Oper}{rest:List Oper}{o:Oper}{a:Act}{Q:Exit->Act->World->Prop}
end
def rJ(v v':Value):Prop:=∀ k,v.ownBlock=some k->v'.ownBlock≠some k
theorem AP{v v':Value}(h:rJ v v'):rJ v' v:=fun k hk hk'=>h k hk' hk
theorem ne_nil(v':Value):rJ (.slice none 0 0) v':=fun k hk=>by simp[Value.ownBlock] at hk
theorem Nb(v:Value):rJ v (.slice none 0 0):=AP (ne_nil v)
theorem Hq{W:World}{v v1 v':Value}{base n size:Nat}{e:TypeId}{xs:List Value}(h:rJ v v')(hat:v1.ownBlock=v.ownBlock\/∃ b,v1.ownBlock=some b/\W.heap.size<=b)(ho:W.ownsRow base e size v' n xs):rJ v1 v':=by
 intro k hk hk';rcases hat with hat|⟨b,hb,hle⟩
 .exact h k (hat ▸ hk) hk'
 .have:=jW ho k hk';rw[hb] at hk;injection hk with hk;omega
theorem EC{W:World}{v v1 v':Value}{base n size:Nat}{e:TypeId}{xs:List Value}(h:rJ v' v)(hat:v1.ownBlock=v.ownBlock\/∃ b,v1.ownBlock=some b/\W.heap.size<=b)(ho:W.ownsRow base e size v' n xs):rJ v' v1:=AP (Hq (AP h) hat ho)
theorem aP{w:World}{g:Nat}{o:Obj}(h:w.heap[g]? = some o)(o':Obj):(w.alloc o').heap[g]? = some o:=(Below.heap_alloc w o' g (aY h)).trans h
theorem b_{w:World}{g:Nat}{o:Obj}(h:w.heap[g]? = some o):w.drew.heap[g]? = some o:=h
theorem bU{w:World}{g:Nat}{o:Obj}(h:w.heap[g]? = some o)(n:Nat):(w.drewN n).heap[g]? = some o:=h
theorem ay{w w1:World}{g:Nat}{o:Obj}(h:w.heap[g]? = some o)(hb:Below w.heap.size w w1):w1.heap[g]? = some o:=(hb.block g (aY h)).trans h
theorem aH(w:World)(o:Obj):(w.alloc o).heap[w.heap.size]? = some o:=heap_alloc_new w o
section
variable{P:Program}
theorem am8{fn:Func}{p u:Tmp}{ty:TypeId}(h:fn.results=#[.cell p ty,.tmp u])(tmps:Array Value)(w:World)(g:Nat)(t:TypeId)(cs:Array Value)(fr:Nat × Nat)(d:TypeDesc)
  (hp:tmps.getD p undef=.pointer (some ⟨g,0,none⟩)) (hg:w.heap[g]? = some (.cells cs t fr))
  (hu:P.underlying ty=some d) (hd:(match d with|.struct _|.array _ _=>true|_=>false)=true) (hi:(P.info? ty).map (·.size)=some cs.size) :
  (results fn tmps).run P w=.ok (.tuple #[.agg cs,tmps.getD u undef]) w:=by
 have hp':tmps[p]?.getD undef=.pointer (some ⟨g,0,none⟩):=by simpa using hp
 simp[results,h,hp',asAddr,run_loadVar_row w g t ty cs fr d hg hu hd hi]
end
theorem P0{w:World}{base n m c size:Nat}{e:TypeId}{A:Option Addr}{xs:List Value}(h:w.ownsRow base e size (.slice A m c) n xs):m<=c:=by
 rcases h.2 with⟨he,_⟩|⟨g,cap,cur,he,_,_,hnc,_⟩
 .injection he with _ h2 h3;omega
 .injection he with _ h2 h3;omega
def lY{α:Type}(R:α->List Value->Prop)(e:TypeId)(size:Nat)(w:World)(base:Nat)(v:Value)(ps:List α):Prop :=
 ∃ inner,w.ownsRow base e size v ps.length inner/\iY R size ps inner
section
variable{α:Type}{R R':α->List Value->Prop}{e:TypeId}{size:Nat}{w w1:World}{base:Nat}{v:Value}{ps:List α}
theorem lY.none_(R:α->List Value->Prop)(e:TypeId)(size:Nat)(w:World)(base:Nat):lY R e size w base (.slice none 0 0) []:=⟨[],Gm _ _ _ _,iY.none _ _⟩
theorem lY.p9(h:lY R e size w base v ps)(hR:∀ p c,R p c->R' p c):lY R' e size w base v ps:=by
 obtain⟨inner,ho,hr⟩:=h;exact⟨inner,ho,hr.p9 hR⟩
theorem lY.reads(h:lY R e size w base v ps):∃ A c,v=.slice A ps.length c/\ps.length<=c/\eu R size w A ps.length ps:=by
 obtain⟨inner,ho,hr⟩:=h;obtain⟨A,c,rfl,hrow⟩:=yT ho hr rfl;exact⟨A,c,rfl,P0 ho,hrow⟩
end
section
variable{P:Program}{ops:Array Oper}{rest:List Oper}{o:Oper}{a:Act}{Q:Exit->Act->World->Prop}{α:Type}{R:α->List Value->Prop}
end
section
variable{P:Program}{ops:Array Oper}{o:Oper}{a:Act}{Q:Exit->Act->World->Prop}{K:Act->World->Prop}{α:Type}{R:α->List Value->Prop}
end
theorem eu.P4{α:Type}{R:α->List Value->Prop}{size:Nat}{w:World}{ad:Addr}{n:Nat}{ps:List α}(h:eu R size w (some ad) n ps) :
  ∃ inner,iY R size ps inner/\∀ j u,inner[j]? = some u->w.cell? (ad.add j)=some u:=by
 have key:∀ m,m<=ps.length->∃ inner,iY R size (ps.take m) inner/\∀ j u,inner[j]? = some u->w.cell? (ad.add j)=some u:=by
  intro m
  induction m with
  | zero=>exact fun _=>⟨[],iY.none _ _,fun j u hu=>by simp at hu⟩
  | succ m ih =>
   intro hm;obtain⟨inner,hr,hc⟩:=ih (by omega);obtain⟨J1,he,hcell⟩:=h.2.2 (by have:=h.1;omega);injection he with he;subst he;obtain⟨c,hcl,hp,hcc⟩:=hcell m _ (List.getElem?_eq_getElem (show m < ps.length by omega));refine⟨inner ++ c,?_,fun j u hu=>?_⟩
   .rw[List.take_succ_eq_append_getElem (show m < ps.length by omega)];exact hr.snoc hp hcl
   .have hil:inner.length=m * size:=(by rw[hr.1,List.length_take,Nat.min_eq_left (by omega)]);rcases Nat.lt_or_ge j inner.length with hj|hj
    .rw[List.getElem?_append_left hj] at hu;exact hc j u hu
    .rw[List.getElem?_append_right hj] at hu;have:=hcc (j - inner.length) u hu
     rwa [hil,Nat.add_sub_cancel' (by omega)] at this
 obtain⟨inner,hr,hc⟩:=key ps.length (Nat.le_refl _);rw[List.take_length] at hr;exact⟨inner,hr,hc⟩
section
variable{α:Type}{P:Program}
end
section
variable{P:Program}{ops:Array Oper}{rest:List Oper}{o:Oper}{a:Act}{Q:Exit->Act->World->Prop}
end
structure Kd(α:Type) where
 sz:Nat
 E:List Nat
 K:World->α->List Value->Prop
 M:World->Nat->(Nat->Prop)->α->List Value->Prop
 qj:∀ {w x cs},K w x cs->cs.length=sz
 rK:∀ {w x cs},K w x cs->∀ u∈cs,u.oneCell'=true
 mU:∀ {w w1:World} {x cs},Below w.heap.size w w1->K w x cs->K w1 x cs
 jx:∀ {w base ok x cs},M w base ok x cs->K w x cs
 gV:∀ {w base ok ok' x cs},(∀ k,ok k->ok' k)->M w base ok x cs->M w base ok' x cs
 iT:∀ {w:World} {base ok x cs},M w base ok x cs->M w base (fun k=>ok k/\base<=k/\k < w.heap.size/\∃ q,q∈E/\∃ cells,w.heap[k]? = some (.cells cells q (0,0))) x cs
 jX:∀ {w w1:World} {base ok x cs},(∀ k,ok k->w1.heap[k]? = w.heap[k]?)->M w base ok x cs->M w1 base ok x cs
 mV:∀ {w base base' ok x cs},base'<=base->M w base ok x cs->M w base' ok x cs
theorem wh{w w1:World}{base:Nat}{e:TypeId}{size n:Nat}{v:Value}{xs:List Value}(h:w.ownsRow base e size v n xs)(hm:∀ k,v.ownBlock=some k->w1.heap[k]? = w.heap[k]?):w1.ownsRow base e size v n xs:=by
 obtain⟨h1,h2⟩:=h;refine⟨h1,?_⟩;rcases h2 with h2|⟨g,cap,cur,rfl,hg,hh,r⟩
 .exact .inl h2
 .exact .inr ⟨g,cap,cur,rfl,hg,(hm g (by simp[Value.ownBlock])).trans hh,r⟩
theorem eW{w:World}{base:Nat}{e:TypeId}{size n:Nat}{v:Value}{xs:List Value}(h:w.ownsRow base e size v n xs)(k:Nat)(hk:v.ownBlock=some k):∃ cells,w.heap[k]? = some (.cells cells e (0,0)):=by
 rcases h.2 with⟨rfl,_⟩|⟨g,cap,cur,rfl,hg,hh,r⟩
 .simp[Value.ownBlock] at hk
 .have:g=k:=by simpa [Value.ownBlock] using hk
  subst this;exact⟨cur,hh⟩
namespace Kd
def C{α:Type}(d:Kd α)(w:World)(A:Option Addr)(n:Nat)(xs:List α):Prop:=eu (d.K w) d.sz w A n xs
def R{α:Type}(d:Kd α)(e:Nat)(w:World)(base:Nat)(ok:Nat->Prop)(v:Value)(xs:List α):Prop :=
 (∀ k,v.ownBlock=some k->ok k)/\lY (d.M w base (fun k=>ok k/\some k≠v.ownBlock)) e d.sz w base v xs
section
variable{α:Type}{d:Kd α}{e:Nat}{w w1:World}{base:Nat}{ok ok':Nat->Prop}{v:Value}{xs:List α}
theorem aM{A:Option Addr}{n:Nat}(h:d.C w A n xs)(hb:Below w.heap.size w w1):d.C w1 A n xs:=eu.p9 h hb (fun _ _ hp=>d.mU hb hp)
theorem nO(d:Kd α)(e:Nat)(w:World)(base:Nat)(ok:Nat->Prop):d.R e w base ok (.slice none 0 0) []:=⟨fun k hk=>by simp[Value.ownBlock] at hk,lY.none_ _ _ _ _ _⟩
theorem fK(h:d.R e w base ok v xs)(hok:∀ k,ok k->ok' k):d.R e w base ok' v xs:=⟨fun k hk=>hok k (h.1 k hk),h.2.p9 (fun _ _ hp=>d.gV (fun k hk=>⟨hok k hk.1,hk.2⟩) hp)⟩
theorem eS(h:d.R e w base ok v xs):d.R e w base (fun k=>ok k/\base<=k/\k < w.heap.size/\∃ q,q∈e :: d.E/\∃ cells,w.heap[k]? = some (.cells cells q (0,0))) v xs:=by
 obtain⟨h0,inner,ho,hr⟩:=h;refine⟨fun k hk=>?_,inner,ho,hr.p9 (fun _ _ hp=>d.gV (fun k hk=>?_) (d.iT hp))⟩
 .obtain⟨cells,hc⟩:=eW ho k hk;exact⟨h0 k hk,fR ho k hk,jW ho k hk,e,List.mem_cons_self,cells,hc⟩
 .obtain⟨⟨h1,h2⟩,h3,h4,q,hq,hc⟩:=hk;exact⟨⟨h1,h3,h4,q,List.mem_cons_of_mem _ hq,hc⟩,h2⟩
theorem P5(h:d.R e w base ok v xs)(hm:∀ k,ok k->w1.heap[k]? = w.heap[k]?):d.R e w1 base ok v xs:=by
 obtain⟨h0,inner,ho,hr⟩:=h;exact⟨h0,inner,wh ho (fun k hk=>hm k (h0 k hk)),hr.p9 (fun _ _ hp=>d.jX (fun k hk=>hm k hk.1) hp)⟩
theorem fF{base':Nat}(h:d.R e w base ok v xs)(hb:base'<=base):d.R e w base' ok v xs:=by
 obtain⟨h0,inner,ho,hr⟩:=h;exact⟨h0,inner,EB ho hb,hr.p9 (fun _ _ hp=>d.mV hb hp)⟩
theorem qH(h:d.R e w base ok v xs)(hm:∀ k,ok k->k < w.heap.size->w1.heap[k]? = w.heap[k]?):d.R e w1 base ok v xs :=
 fK (P5 (eS h) (fun k hk=>hm k hk.1 hk.2.2.1)) (fun _ hk=>hk.1)
theorem P6{x:α}{cs:List Value}(h:d.M w base ok x cs)(hm:∀ k,ok k->k < w.heap.size->w1.heap[k]? = w.heap[k]?):d.M w1 base ok x cs :=
 d.gV (fun _ hk=>hk.1) (d.jX (fun k hk=>hm k hk.1 hk.2.2.1) (d.iT h))
theorem dL(h:d.R e w base ok v xs)(hb:Below w.heap.size w w1):d.R e w1 base ok v xs:=qH h (fun k _ hk=>hb.block k hk)
theorem Nc{x:α}{cs:List Value}(h:d.M w base ok x cs)(hb:Below w.heap.size w w1):d.M w1 base ok x cs:=P6 h (fun k _ hk=>hb.block k hk)
theorem Nd(h:d.R e w base ok v xs){row:Option Nat}(hg:w.grownBy w1 row)(hok:∀ k,ok k->some k≠row):d.R e w1 base ok v xs:=qH h (fun k ho hk=>hg.block k hk (hok k ho))
theorem ou(h:d.R e w base ok v xs){p:Addr}(hok:∀ k,ok k->k≠p.block)(u:Value):d.R e (w.setCell p u) base ok v xs:=qH h (fun k ho _=>Below.heap_setCell w p u k (hok k ho))
theorem fG(h:d.R e w base ok v xs):∃ A c,v=.slice A xs.length c/\xs.length<=c/\d.C w A xs.length xs:=by
 obtain⟨A,c,he,hl,hr⟩:=lY.reads h.2;exact⟨A,c,he,hl,hr.p9 (Below.refl _ _) (fun _ _ hp=>d.jx hp)⟩
theorem O4(h:d.R e w base ok v xs):∃ inner,w.ownsRow base e d.sz v xs.length inner:=by
 obtain⟨_,inner,ho,_⟩:=h;exact⟨inner,ho⟩
end
def scalar{α:Type}(enc:α->Value)(h1:∀ x,(enc x).oneCell'=true):Kd α where
 sz:=1
 E:=[]
 K:=fun _ x cs=>cs=[enc x]
 M:=fun _ _ _ x cs=>cs=[enc x]
 qj:=fun h=>by rw[h];rfl
 rK:=fun h u hu=>by
  rw[h] at hu;rw[List.mem_singleton.1 hu];exact h1 _
 mU:=fun _ h=>h
 jx:=fun h=>h
 gV:=fun _ h=>h
 iT:=fun h=>h
 jX:=fun _ h=>h
 mV:=fun _ h=>h
def int(k:IntKind):Kd Int:=scalar (Value.int k) (fun _=>rfl)
def bool:Kd Bool:=scalar Value.bool (fun _=>rfl)
def string:Kd ByteArray:=scalar Value.string (fun _=>rfl)
def pair{α β:Type}(a:Kd α)(b:Kd β):Kd (α × β) where
 sz:=a.sz+b.sz
 E:=a.E ++ b.E
 K:=fun w x cs=>∃ c0 c1,cs=c0 ++ c1/\a.K w x.1 c0/\b.K w x.2 c1
 M:=fun w base ok x cs=>∃ c0 c1,cs=c0 ++ c1/\a.M w base ok x.1 c0/\b.M w base ok x.2 c1
 qj:=by
  rintro w x cs ⟨c0,c1,rfl,h0,h1⟩;rw[List.length_append,a.qj h0,b.qj h1]
 rK:=by
  rintro w x cs ⟨c0,c1,rfl,h0,h1⟩ u hu;rcases List.mem_append.1 hu with hu|hu
  .exact a.rK h0 u hu
  .exact b.rK h1 u hu
 mU:=by
  rintro w w1 x cs hb ⟨c0,c1,rfl,h0,h1⟩;exact⟨c0,c1,rfl,a.mU hb h0,b.mU hb h1⟩
 jx:=by
  rintro w base ok x cs ⟨c0,c1,rfl,h0,h1⟩;exact⟨c0,c1,rfl,a.jx h0,b.jx h1⟩
 gV:=by
  rintro w base ok ok' x cs hok ⟨c0,c1,rfl,h0,h1⟩;exact⟨c0,c1,rfl,a.gV hok h0,b.gV hok h1⟩
 iT:=by
  rintro w base ok x cs ⟨c0,c1,rfl,h0,h1⟩;refine⟨c0,c1,rfl,a.gV ?_ (a.iT h0),b.gV ?_ (b.iT h1)⟩
  .rintro k ⟨h2,h3,h4,q,hq,hc⟩;exact⟨h2,h3,h4,q,List.mem_append_left _ hq,hc⟩
  .rintro k ⟨h2,h3,h4,q,hq,hc⟩;exact⟨h2,h3,h4,q,List.mem_append_right _ hq,hc⟩
 jX:=by
  rintro w w1 base ok x cs hm ⟨c0,c1,rfl,h0,h1⟩;exact⟨c0,c1,rfl,a.jX hm h0,b.jX hm h1⟩
 mV:=by
  rintro w base base' ok x cs hb ⟨c0,c1,rfl,h0,h1⟩;exact⟨c0,c1,rfl,a.mV hb h0,b.mV hb h1⟩
def Nf{α β:Type}(d:Kd α)(f:β->α):Kd β where
 sz:=d.sz
 E:=d.E
 K:=fun w x cs=>d.K w (f x) cs
 M:=fun w base ok x cs=>d.M w base ok (f x) cs
 qj:=d.qj
 rK:=d.rK
 mU:=d.mU
 jx:=d.jx
 gV:=d.gV
 iT:=d.iT
 jX:=d.jX
 mV:=d.mV
theorem uI{α:Type}{d:Kd α}{w:World}{A:Option Addr}{n:Nat}{xs:List α}(h:d.C w A n xs)(z:α)(i:Int)(h0:0<=i)(h1:i < n) :
  ∃ ad c,A=some ad/\c.length=d.sz/\d.K w (xs.getD i.toNat z) c/\∀ j u,c[j]? = some u->w.cell? (ad.add (i.toNat * d.sz+j))=some u:=eu.WG h z i h0 h1
theorem wj{α:Type}{d:Kd α}{e base:Nat}{ok uJ:Nat->Prop}{W w1:World}{v v1:Value}{xs:List α}{p:α}{inner cs:List Value}(h0:∀ k,v.ownBlock=some k->ok k)(hr:iY (d.M W base (fun k=>ok k/\some k≠v.ownBlock)) d.sz xs inner)(hp:d.M W base uJ p cs)(wk:∀ k,uJ k->ok k/\some k≠v.ownBlock)(hfresh:∀ k,W.heap.size<=k->ok k)
  (hown:w1.ownsRow base e d.sz v1 (xs.length+1) (inner ++ cs)) (hg:W.grownBy w1 v.ownBlock) (hat:v1.ownBlock=v.ownBlock\/∃ b,v1.ownBlock=some b/\W.heap.size<=b):d.R e w1 base ok v1 (xs ++ [p]):=by
 have hne:∀ k,some k≠v.ownBlock->k < W.heap.size->some k≠v1.ownBlock:=by
  intro k hk hlt;rcases hat with hat|⟨b,hb,hle⟩
  .rw[hat];exact hk
  .rw[hb];intro he;injection he with he;omega
 have step:∀ {q:α} {c:List Value} {o:Nat->Prop},d.M W base o q c->(∀ k,o k->ok k/\some k≠v.ownBlock)->d.M w1 base (fun k=>ok k/\some k≠v1.ownBlock) q c:=by
  intro q c o hq ho;have h1:=d.jX (w1:=w1) (fun k hk=>hg.block k hk.2.2.1 (ho k hk.1).2) (d.iT hq);exact d.gV (fun k hk=>⟨(ho k hk.1).1,hne k (ho k hk.1).2 hk.2.2.1⟩) h1
 refine⟨fun k hk=>?_,inner ++ cs,by rw[List.length_append,List.length_singleton];exact hown,?_⟩
 .rcases hat with hat|⟨b,hb,hle⟩
  .exact h0 k (hat ▸ hk)
  .rw[hb] at hk;injection hk with hk;exact hfresh k (by omega)
 .exact(hr.p9 (fun _ _ hq=>step hq (fun _ hk=>hk))).snoc (step hp wk) (d.qj (d.jx hp))
section
variable{P:Program}{ops:Array Oper}{rest:List Oper}{o:Oper}{a:Act}{Q:Exit->Act->World->Prop}{α:Type}
theorem gH(d:Kd α){w0 W:World}(base:Nat)(hgd:o.guard=none)(s x:Operand)(t e:TypeId)(z:Value)(bytes:Nat)
  (ho:o.op=.call { callee:=.builtin .append,args:=#[s,x],argTypes:=#[t,t] })
  (ht:P.underlying t=some (.slice e)) (hinfo:(P.info? e).map (fun i=>(i.zero,i.size,i.bytes))=some (some z,d.sz,bytes)) (hz:z.cells.size=d.sz) (hs0:0 < d.sz) (hb0:0 < bytes)
  (v:Value) (xs:List α) (p:α) (cs:List Value) (ok uJ:Nat->Prop) (hs:a.eval s=v) (hx:a.eval x=.slice (some ⟨W.heap.size,0,none⟩) 1 1) (hp:d.M W base uJ p cs) (wk:∀ k,uJ k->ok k/\some k≠v.ownBlock) (hfresh:∀ k,W.heap.size<=k->ok k)
  (HO:d.R e W base ok v xs) (HB:Below base w0 W) (hbase:base<=W.heap.size) (hl:(xs.length+1) * bytes<=140737488355328)
  (h:∀ v1 w1,d.R e w1 base ok v1 (xs ++ [p])->Below base w0 w1->W.grownBy w1 v.ownBlock->(v1.ownBlock=v.ownBlock\/∃ b,v1.ownBlock=some b/\W.heap.size<=b)->wpList P ops Q rest (a.put o.dst v1) w1) :
  wpList P ops Q (o :: rest) a (W.alloc (.cells cs.toArray e)):=by
 obtain⟨h0,inner,hown,hr⟩:=HO;refine cC base hgd s x t e z d.sz bytes ho ht hinfo hz hs0 hb0 v xs.length inner cs hs hx (d.qj (d.jx hp)) (d.rK (d.jx hp)) hown HB hbase hl ?_;intro v1 w1 hown1 hb1 hg1 AQ;exact h v1 w1 (wj h0 hr hp wk hfresh hown1 hg1 AQ) hb1 hg1 AQ
end
section
variable{P:Program}{ops:Array Oper}{o:Oper}{a:Act}{Q:Exit->Act->World->Prop}{Kc:Act->World->Prop}{α:Type}
theorem lZ(d:Kd α){w0 W:World}(base:Nat)(hw:Region.wanted o (yielded ops a.tmps)=true)(s x:Operand)(t e:TypeId)(z:Value)(bytes:Nat)
  (ho:o.op=.call { callee:=.builtin .append,args:=#[s,x],argTypes:=#[t,t] })
  (ht:P.underlying t=some (.slice e)) (hinfo:(P.info? e).map (fun i=>(i.zero,i.size,i.bytes))=some (some z,d.sz,bytes)) (hz:z.cells.size=d.sz) (hs0:0 < d.sz) (hb0:0 < bytes)
  (v:Value) (xs:List α) (p:α) (cs:List Value) (ok uJ:Nat->Prop) (hs:a.eval s=v) (hx:a.eval x=.slice (some ⟨W.heap.size,0,none⟩) 1 1) (hp:d.M W base uJ p cs) (wk:∀ k,uJ k->ok k/\some k≠v.ownBlock) (hfresh:∀ k,W.heap.size<=k->ok k)
  (HO:d.R e W base ok v xs) (HB:Below base w0 W) (hbase:base<=W.heap.size) (hl:(xs.length+1) * bytes<=140737488355328)
  (h:∀ v1 w1,d.R e w1 base ok v1 (xs ++ [p])->Below base w0 w1->W.grownBy w1 v.ownBlock->(v1.ownBlock=v.ownBlock\/∃ b,v1.ownBlock=some b/\W.heap.size<=b)->Kc (a.put o.dst v1) w1) :
  if Region.wanted o (yielded ops a.tmps)=true then Oper.wp P o a (W.alloc (.cells cs.toArray e)) Kc Q else Kc (a.put o.dst undef) (W.alloc (.cells cs.toArray e)):=by
 obtain⟨h0,inner,hown,hr⟩:=HO;refine rI base hw s x t e z d.sz bytes ho ht hinfo hz hs0 hb0 v xs.length inner cs hs hx (d.qj (d.jx hp)) (d.rK (d.jx hp)) hown HB hbase hl ?_;intro v1 w1 hown1 hb1 hg1 AQ;exact h v1 w1 (wj h0 hr hp wk hfresh hown1 hg1 AQ) hb1 hg1 AQ
end
theorem qI{α:Type}{enc:α->Value}{d:α}{h1:∀ x,(enc x).oneCell'=true}{w:World}{A:Option Addr}{n:Nat}{xs:List α}(h:(scalar enc h1).C w A n xs):pI enc d w A n xs:=by
 refine⟨h.1,h.2.1,fun hn=>?_⟩;obtain⟨ad,e,hc⟩:=h.2.2 hn;refine⟨ad,e,fun j hj=>?_⟩;have hl:j < xs.length:=by have:=h.1;omega
 obtain⟨c,_,hK,hcell⟩:=hc j _ (List.getElem?_eq_getElem hl);have hK':c=[enc xs[j]]:=hK;subst hK';have:=hcell 0 _ rfl
 simpa [scalar,List.getD_eq_getElem?_getD,List.getElem?_eq_getElem hl] using this
end Kd
namespace Kd
section
variable{α:Type}{F:Kd α->Kd α}{sz:Nat}{E:List Nat}
end
end Kd
namespace Kd
end Kd
namespace Kd
section
variable{α β:Type}{d:Kd α}{d':Kd β}{e e':Nat}{w w1 W:World}{base b b':Nat}{ok ok' Y1 Y2:Nat->Prop}{v u:Value}{xs:List α}{ys:List β}
theorem J2(d:Kd α)(w:World):d.C w none ([]:List α).length []:=⟨rfl,by simp,fun h=>absurd h (Nat.lt_irrefl 0)⟩
theorem Cv{A:Option Addr}{n c:Nat}(h:d.R e w base ok (.slice A n c) xs):n=xs.length/\n<=c/\d.C w A xs.length xs:=by
 obtain⟨A',c',he,hl,hr⟩:=fG h;injection he with h1 h2 h3;subst h1;exact⟨h2,by omega,hr⟩
theorem ED(h:d.R e w base ok v xs):∀ k,v.ownBlock=some k->k < w.heap.size:=by
 obtain⟨inner,ho⟩:=O4 h;exact jW ho
theorem P7(h:d.R e w base ok v xs):∀ k,v.ownBlock=some k->base<=k:=by
 obtain⟨inner,ho⟩:=O4 h;exact fR ho
theorem am9(h:d.R e W b ok u xs)(hv:d'.R e' W b' ok' v ys)(ht:∀ q,q∈e :: d.E->q≠e')(hg:W.grownBy w1 v.ownBlock):d.R e w1 b ok u xs:=by
 obtain⟨inner,ho⟩:=O4 hv;refine fK (P5 (eS h) (fun k hk=>hg.block k hk.2.2.1 (fun he=>?_))) (fun _ hk=>hk.1);obtain⟨_,_,_,q,hq,cells,hc⟩:=hk;obtain⟨cells',hc'⟩:=eW ho k he.symm;rw[hc] at hc';injection hc' with hc';injection hc' with _ hc';exact ht q hq hc'
end
section
variable{w W:World}{A:Option Addr}{n:Nat}
theorem J3{k:IntKind}{xs:List Int}(h:(Kd.int k).C w A n xs)(i:Int)(h0:0<=i)(h1:i < n):∃ ad,A=some ad/\w.cell? (ad.add i.toNat)=some (.int k (rd xs i)) :=
 pI.at_ (qI (enc:=Value.int k) (d:=(0:Int)) (h1:=fun _=>rfl) h) i h0 h1
theorem Gp{xs:List Bool}(h:Kd.bool.C w A n xs)(i:Int)(h0:0<=i)(h1:i < n):∃ ad,A=some ad/\w.cell? (ad.add i.toNat)=some (.bool (vZ false xs i)) :=
 pI.at_ (qI (enc:=Value.bool) (d:=false) (h1:=fun _=>rfl) h) i h0 h1
theorem zJ{xs:List ByteArray}(h:Kd.string.C w A n xs)(i:Int)(h0:0<=i)(h1:i < n):∃ ad,A=some ad/\w.cell? (ad.add i.toNat)=some (.string (vZ ByteArray.empty xs i)) :=
 pI.at_ (qI (enc:=Value.string) (d:=ByteArray.empty) (h1:=fun _=>rfl) h) i h0 h1
variable{α:Type}{enc:α->Value}{h1:∀ x,(enc x).oneCell'=true}{e base g cap:Nat}{ok:Nat->Prop}{xs:List α}
end
section
variable{P:Program}{ops:Array Oper}{rest:List Oper}{o:Oper}{a:Act}{Q:Exit->Act->World->Prop}
theorem zK{W w1:World}{v:Value}(hgd:o.guard=none)(hrun:(execOp a.eval o).run P W=.ok (.value v) w1)(h:wpList P ops Q rest (a.put o.dst v) w1):wpList P ops Q (o :: rest) a W:=by
 refine wpList_plain hgd fun K hK=>?_
 unfold Oper.wp;rw[hrun];exact hK _ _ h
variable{α:Type}
theorem O5(d:Kd α){w0 W:World}(base e:Nat)(hgd:o.guard=none){N:Tmp}(_hd:o.dst=some N){xs:List α}{inner:List Value}{ok uJ:Nat->Prop}
  (hrun:(execOp a.eval o).run P W=.ok (.value (.slice (some ⟨W.heap.size,0,none⟩) xs.length xs.length)) (W.alloc (.cells inner.toArray e)))
  (hrep:iY (d.M W base uJ) d.sz xs inner) (hok:∀ k,uJ k->ok k) (hfresh:ok W.heap.size) (HB:Below base w0 W) (hbase:base<=W.heap.size) (hm:xs.length<=9223372036854775807)
  (h:∀ v1 w1,d.R e w1 base ok v1 xs->Below base w0 w1->W.grownBy w1 none->(∃ b,v1.ownBlock=some b/\W.heap.size<=b)->wpList P ops Q rest (a.put o.dst v1) w1):wpList P ops Q (o :: rest) a W:=by
 refine zK hgd hrun (h _ _ ⟨fun k hk=>?_,inner,?_,?_⟩ (HB.alloc hbase _) (World.grownBy_alloc W _ none) ⟨W.heap.size,by simp[Value.ownBlock],Nat.le_refl _⟩)
 .have:W.heap.size=k:=by simpa [Value.ownBlock] using hk
  subst this;exact hfresh
 .have h2:=World.ownsRow_lit (base:=base) (e:=e) (size:=d.sz) W inner.toArray xs.length hbase (by simpa [maxLen] using hm) (by simpa using hrep.1)
  simpa using h2
 .refine hrep.p9 (fun p c hp=>d.gV (fun k hk=>⟨hok k hk.1,fun he=>?_⟩) (Nc (d.iT hp) (aF (Below.refl _ _) _)));have h3:k=W.heap.size:=by simpa [Value.ownBlock] using he
  have:=hk.2.2.1;omega
end
end Kd
section
variable{P:Program}
theorem J4(t e:TypeId)(kh:IntKind){i:TypeInfo}(ht:P.underlying t=some (.slice e))(hi:P.info? e=some i)(A:Option Addr)(n c:Nat)(j:Int)(h0:0<=j)(hm:j<=n)(hc:n<=c) :
  ∀ W:World,(Instr.slice t (.slice A n c) none (some (.int kh j)) none).run P W=.ok (.slice A j.toNat c) W:=by
 intro W;have hel:P.elem t=e:=by simp[Program.elem,ht]
 have hu:P.underlying t=some (.slice (P.elem t)):=by rw[hel];exact ht
 have ha:(A.map fun x=>x.add 0)=A:=by cases A<;>simp[Addr.add]
 rw[run_slice_h W t A n c hu kh j h0 (by omega),hel];simp[sizeOf,typeInfo,hi,sliced,Result.andThen,ha]
theorem Cw(t e:TypeId)(kl:IntKind){i:TypeInfo}(ht:P.underlying t=some (.slice e))(hi:P.info? e=some i)(size:Nat)(hsz:i.size=size)(A:Option Addr)(n c:Nat)(j:Int)(h0:0<=j)(hm:j<=n) :
  ∀ W:World,(Instr.slice t (.slice A n c) (some (.int kl j)) none none).run P W=.ok (.slice (if c=j.toNat then A else A.map (·.add (j.toNat * size))) (n - j.toNat) (c - j.toNat)) W:=by
 intro W;have hel:P.elem t=e:=by simp[Program.elem,ht]
 have hu:P.underlying t=some (.slice (P.elem t)):=by rw[hel];exact ht
 rw[run_slice_l W t A n c hu kl j h0 hm,hel];simp[sizeOf,typeInfo,hi,hsz,sliced,Result.andThen]
end
section
variable{w w1:World}{base n size:Nat}{e:TypeId}{v:Value}{xs:List Value}
theorem rL{g:Nat}:∀ (vs:List Value) (o:Nat) {w:World} (k:Nat),k≠g->(w.setCells g o vs).heap[k]? = w.heap[k]?
 | [],_,_,_,_=>rfl
 | v :: r,o,w,k,hk=>by
  rw[World.setCells,rL r (o+1) k hk];exact Below.heap_setCell w ⟨g,o,none⟩ v k hk
theorem ql(g:Nat):∀ (vs:List Value) (o:Nat) (w:World),(w.setCells g o vs).os=w.os/\(w.setCells g o vs).tape=w.tape/\(w.setCells g o vs).output=w.output/\(w.setCells g o vs).heap.size=w.heap.size
 | [],_,_=>⟨rfl,rfl,rfl,rfl⟩
 | v :: r,o,w=>by
  obtain⟨h1,h2,h3,h4⟩:=ql g r (o+1) (w.setCell ⟨g,o,none⟩ v);rw[World.setCells];exact⟨h1,h2,h3,by rw[h4];simp[World.setCell]⟩
theorem rM{g:Nat}{e:TypeId}:∀ (vs:List Value) (o:Nat) (w:World) (cur:Array Value),w.heap[g]? = some (.cells cur e (0,0))->o+vs.length<=cur.size ->
  ∃ cur',(w.setCells g o vs).heap[g]? = some (.cells cur' e (0,0))/\cur'.size=cur.size/\cur'.toList=cur.toList.take o ++ vs ++ cur.toList.drop (o+vs.length)
 | [],o,w,cur,h,_=>⟨cur,h,rfl,by simp⟩
 | v :: r,o,w,cur,h,hl=>by
  have h2:=Gn h o v;simp only[List.length_cons] at hl;obtain⟨cur',h3,h4,h5⟩:=rM r (o+1) (w.setCell ⟨g,o,none⟩ v) _ h2 (by simp;omega);refine⟨cur',h3,by rw[h4];simp,?_⟩;rw[h5,Array.toList_setIfInBounds];have ho:o < cur.toList.length:=by rw[Array.length_toList];omega
  rw[List.take_set,List.drop_set_of_lt (by omega)];simp only[List.length_cons];rw[show o+1+r.length=o+(r.length+1) by omega]
  congr 1
  rw[List.take_succ_eq_append_getElem ho,List.set_append_right _ _ (by rw[List.length_take];omega)];have ho':o < cur.size:=by omega
  simp[Nat.min_eq_left (Nat.le_of_lt ho')]
end
section
variable{P:Program}
end
namespace Kd
section
variable{α:Type}{d:Kd α}{e:Nat}{w w1 W:World}{base:Nat}{ok ok':Nat->Prop}{v:Value}{xs:List α}
end
section
variable{P:Program}{ops:Array Oper}{rest:List Oper}{o:Oper}{a:Act}{Q':Exit->Act->World->Prop}{Kc:Act->World->Prop}{α:Type}
end
end Kd
namespace Kd
section
variable{α:Type}{d:Kd α}{e e':Nat}{w w1 W:World}{base:Nat}{ok:Nat->Prop}{u v:Value}{xs:List α}
end
end Kd
theorem rN{α:Type}(a seg:List α)(o:Nat)(h:o+seg.length<=a.length)(q:Nat) :
  (a.take o ++ seg ++ a.drop (o+seg.length))[q]? = if q < o then a[q]? else if q < o+seg.length then seg[q - o]? else a[q]?:=by
 have hl:(a.take o).length=o:=by rw[List.length_take];omega
 rw[List.append_assoc];by_cases h1:q < o
 .rw[if_pos h1,List.getElem?_append_left (by omega),List.getElem?_take,if_pos h1]
 .rw[if_neg h1,List.getElem?_append_right (by omega),hl];by_cases h2:q < o+seg.length
  .rw[if_pos h2,List.getElem?_append_left (by omega)]
  .rw[if_neg h2,List.getElem?_append_right (by omega),List.getElem?_drop]
   congr 1
   omega
namespace Kd
section
variable{α:Type}{d:Kd α}{e base g n cap:Nat}{ok uJ:Nat->Prop}{W:World}{xs:List α}
theorem EF(h:d.R e W base ok (.slice (some ⟨g,0,none⟩) n cap) xs)(z:α)(i:Int)(h0:0<=i)(h1:i < n) :
  ∃ c,c.length=d.sz/\d.M W base (fun k=>ok k/\k≠g) (xs.getD i.toNat z) c/\(∀ j u,c[j]? = some u->W.cell? ⟨g,i.toNat * d.sz+j,none⟩=some u)/\∀ j,W.frozen? ⟨g,i.toNat * d.sz+j,none⟩=false:=by
 obtain⟨hn,hnc,hC⟩:=Cv h;obtain⟨_,inner,ho,hr⟩:=h;have hil:i.toNat < xs.length:=by omega
 have P8:i.toNat * d.sz+d.sz<=inner.length:=by rw[hr.1,<-Nat.succ_mul];exact Nat.mul_le_mul_right _ hil
 have hM:=hr.2 i.toNat _ (List.getElem?_eq_getElem hil);refine⟨(inner.drop (i.toNat * d.sz)).take d.sz,by rw[List.length_take,List.length_drop];omega,?_,fun j u hu=>?_,fun j=>?_⟩
 .rw[List.getD_eq_getElem?_getD,List.getElem?_eq_getElem hil];exact d.gV (fun k hk=>⟨hk.1,fun he=>hk.2 (by rw[he];simp[Value.ownBlock])⟩) hM
 .rw[List.getElem?_take] at hu;split at hu
  .rw[List.getElem?_drop] at hu;have:=ho.cells (g:=g) (by simp[Value.ownBlock]) _ u hu
   rwa [add_plain] at this
  .cases hu
 .obtain⟨cells,hc⟩:=eW ho g (by simp[Value.ownBlock]);exact aB hc _
theorem O6(h:d.R e W base ok (.slice (some ⟨g,0,none⟩) n cap) xs)(i:Int)(h0:0<=i)(h1:i < n){c seg:List Value}{j:Nat}(hcl:c.length=d.sz)(hcc:∀ j u,c[j]? = some u->W.cell? ⟨g,i.toNat * d.sz+j,none⟩=some u)
  (hj:j+seg.length<=d.sz) {x':α} (hM:d.M W base uJ x' (c.take j ++ seg ++ c.drop (j+seg.length))) (wk:∀ k,uJ k->ok k/\k≠g) :
  d.R e (W.setCells g (i.toNat * d.sz+j) seg) base ok (.slice (some ⟨g,0,none⟩) n cap) (xs.set i.toNat x')/\W.grownBy (W.setCells g (i.toNat * d.sz+j) seg) (some g):=by
 obtain⟨hn,hnc,_⟩:=Cv h;obtain⟨hok,inner,ho,hr⟩:=h;have hil:i.toNat < xs.length:=by omega
 have P8:i.toNat * d.sz+d.sz<=inner.length:=by rw[hr.1,<-Nat.succ_mul];exact Nat.mul_le_mul_right _ hil
 have hin:inner.length=n * d.sz:=by rw[hr.1,hn]
 obtain⟨ho1,ho2⟩:=ho;rcases ho2 with⟨hv,_⟩|⟨g',cap',cur,hv,hb,hh,aa0,hcm,hcs,ht⟩
 .cases hv
 injection hv with ha _ hc;injection ha with ha;injection ha with hg;subst hg;subst hc;have hfit:i.toNat * d.sz+j+seg.length<=cur.size:=by
  have:n * d.sz<=cap * d.sz:=Nat.mul_le_mul_right _ hnc;omega
 obtain⟨cur',h3,h4,h5⟩:=rM seg (i.toNat * d.sz+j) W cur hh hfit;obtain⟨s1,s2,s3,s4⟩:=ql g seg (i.toNat * d.sz+j) W;have Hr:∀ k,k≠g->(W.setCells g (i.toNat * d.sz+j) seg).heap[k]? = W.heap[k]?:=fun k hk=>rL seg _ k hk
 have hcin:∀ q,q < d.sz->c[q]? = inner[i.toNat * d.sz+q]?:=by
  intro q hq;have hq':q < c.length:=by omega
  have h6:=hcc q _ (List.getElem?_eq_getElem hq');rw[cell_of_row W g _ cur e (0,0) hh] at h6;rw[List.getElem?_eq_getElem hq',<-h6,<-ht,List.getElem?_take,if_pos (by rw[<-hn];omega),Array.getElem?_toList]
 refine⟨⟨hok,inner.take (i.toNat * d.sz+j) ++ seg ++ inner.drop (i.toNat * d.sz+j+seg.length),⟨?_,.inr ⟨g,cap,cur',by rw[List.length_set,hn],hb,h3,by rw[List.length_set,<-hn];exact hnc,hcm,by rw[h4,hcs],?_⟩⟩,?_⟩,
  ⟨s1,s2,s3,by rw[s4];exact Nat.le_refl _,fun k _ hk=>Hr k (fun he=>hk (by rw[he]))⟩⟩
 .rw[List.length_set];simp only[List.length_append,List.length_take,List.length_drop];rw[hr.1] at P8 ⊢;omega
 .rw[List.length_set,<-hn];apply List.ext_getElem?;intro q;rw[List.getElem?_take,h5];rw[rN cur.toList seg (i.toNat * d.sz+j) (by rw[Array.length_toList];omega) q,rN inner seg (i.toNat * d.sz+j) (by omega) q];have hcur:∀ q,q < n * d.sz->cur.toList[q]? = inner[q]?:=by
   intro q hq;rw[<-ht,List.getElem?_take,if_pos (by rw[<-hn];exact hq)]
  by_cases hq:q < n * d.sz
  .rw[if_pos hq,hcur q hq]
  .rw[if_neg hq,if_neg (by omega),if_neg (by omega),List.getElem?_eq_none (by omega)]
 .refine⟨?_,fun m p hm=>?_⟩
  .rw[List.length_set];simp only[List.length_append,List.length_take,List.length_drop];rw[hr.1] at P8 ⊢;omega
  .have hml:m < xs.length:=by
    have:=(List.getElem?_eq_some_iff.1 hm).1
    rwa [List.length_set] at this
   have Y3:m * d.sz+d.sz<=inner.length:=by rw[hr.1,<-Nat.succ_mul];exact Nat.mul_le_mul_right _ hml
   have hgo:some g=(Value.slice (some ⟨g,0,none⟩) n cap).ownBlock:=by simp[Value.ownBlock]
   by_cases Ng:m=i.toNat
   .subst Ng;rw[List.getElem?_set_self (by omega)] at hm;injection hm with hm;subst hm;have hcells:((inner.take (i.toNat * d.sz+j) ++ seg ++ inner.drop (i.toNat * d.sz+j+seg.length)).drop (i.toNat * d.sz)).take d.sz=c.take j ++ seg ++ c.drop (j+seg.length):=by
     apply List.ext_getElem?;intro q;rw[List.getElem?_take,List.getElem?_drop,rN inner seg _ (by omega),rN c seg j (by omega) q];by_cases hq:q < d.sz
     .rw[if_pos hq,hcin q hq];by_cases hq1:q < j
      .rw[if_pos (by omega),if_pos hq1]
      .rw[if_neg (by omega),if_neg hq1];by_cases hq2:q < j+seg.length
       .rw[if_pos (by omega),if_pos hq2]
        congr 1
        omega
       .rw[if_neg (by omega),if_neg hq2]
     .rw[if_neg hq,if_neg (by omega),if_neg (by omega),List.getElem?_eq_none (by omega)]
    rw[hcells];refine d.gV (fun k hk=>?_) (d.jX (w1:=W.setCells g (i.toNat * d.sz+j) seg) (fun k hk=>Hr k (wk k hk).2) hM);exact⟨(wk k hk).1,fun he=>(wk k hk).2 (by rw[<-hgo] at he;injection he)⟩
   .rw[List.getElem?_set_ne (by omega)] at hm;have hold:=hr.2 m p hm;have hcells:((inner.take (i.toNat * d.sz+j) ++ seg ++ inner.drop (i.toNat * d.sz+j+seg.length)).drop (m * d.sz)).take d.sz=(inner.drop (m * d.sz)).take d.sz:=by
     apply List.ext_getElem?;intro q;rw[List.getElem?_take,List.getElem?_take,List.getElem?_drop,List.getElem?_drop,rN inner seg _ (by omega)];by_cases hq:q < d.sz
     .rw[if_pos hq,if_pos hq];rcases Nat.lt_or_gt_of_ne Ng with hlt|hgt
      .have:m * d.sz+d.sz<=i.toNat * d.sz:=by rw[<-Nat.succ_mul];exact Nat.mul_le_mul_right _ hlt
       rw[if_pos (by omega)]
      .have:i.toNat * d.sz+d.sz<=m * d.sz:=by rw[<-Nat.succ_mul];exact Nat.mul_le_mul_right _ hgt
       rw[if_neg (by omega),if_neg (by omega)]
     .rw[if_neg hq,if_neg hq]
    rw[hcells];refine d.jX (fun k hk=>Hr k (fun he=>hk.2 (by rw[he];exact hgo))) hold
end
end Kd
namespace Kd
section
variable{α:Type}{F:Kd α->Kd α}{sz:Nat}{E:List Nat}
end
end Kd
namespace Kd
theorem Cx{α:Type}{R:α->List Value->Prop}{size:Nat}{ps qs:List α}{cs ds:List Value}(h:iY R size ps cs)(h':iY R size qs ds):iY R size (ps ++ qs) (cs ++ ds):=by
 refine⟨by rw[List.length_append,List.length_append,h.1,h'.1,Nat.add_mul],fun j p hj=>?_⟩;rcases Nat.lt_or_ge j ps.length with hlt|hge
 .rw[List.getElem?_append_left hlt] at hj;have hle:j * size+size<=cs.length:=by rw[h.1,<-Nat.succ_mul];exact Nat.mul_le_mul_right _ hlt
  rw[List.drop_append_of_le_length (by omega),List.take_append_of_le_length (by rw[List.length_drop];omega)];exact h.2 j p hj
 .rw[List.getElem?_append_right hge] at hj;have h2:=h'.2 (j - ps.length) p hj;have hle:ps.length * size<=j * size:=Nat.mul_le_mul_right _ hge;rw[List.drop_append,List.drop_eq_nil_of_le (by rw[h.1];exact hle),List.nil_append,h.1,<-Nat.sub_mul];exact h2
section
variable{P:Program}{ops:Array Oper}{rest:List Oper}{o:Oper}{a:Act}{Q:Exit->Act->World->Prop}{α:Type}
theorem ac9(d:Kd α){Rr:α->List Value->Prop}{w0 W:World}(base:Nat)(hgd:o.guard=none)(s x:Operand)(t e:TypeId)(z:Value)(bytes:Nat)
  (ho:o.op=.call { callee:=.builtin .append,args:=#[s,x],argTypes:=#[t,t] })
  (ht:P.underlying t=some (.slice e)) (hinfo:(P.info? e).map (fun i=>(i.zero,i.size,i.bytes))=some (some z,d.sz,bytes)) (hz:z.cells.size=d.sz) (hs0:0 < d.sz) (hb0:0 < bytes)
  (v:Value) (xs ys:List α) (A:Option Addr) (m c:Nat) (ok uJ:Nat->Prop) (hs:a.eval s=v) (hx:a.eval x=.slice A m c)
  (HO:d.R e W base ok v xs) (HR:eu Rr d.sz W A m ys) (hKM:∀ x cs,Rr x cs->d.M W base uJ x cs) (wk:∀ k,uJ k->ok k/\some k≠v.ownBlock) (hfresh:∀ k,W.heap.size<=k->ok k)
  (HB:Below base w0 W) (hbase:base<=W.heap.size) (hl:(xs.length+m) * bytes<=140737488355328)
  (h:∀ v1 w1,d.R e w1 base ok v1 (xs ++ ys)->Below base w0 w1->W.grownBy w1 v.ownBlock->(v1.ownBlock=v.ownBlock\/∃ b,v1.ownBlock=some b/\W.heap.size<=b)->wpList P ops Q rest (a.put o.dst v1) w1) :
  wpList P ops Q (o :: rest) a W:=by
 obtain⟨i0,hi,hzz⟩:=Option.map_eq_some_iff.1 hinfo;simp only[Prod.mk.injEq] at hzz;obtain⟨hz0,hz1,hz2⟩:=hzz;have hm:ys.length=m:=HR.1;have hlen:xs.length+m<=140737488355328:=Nat.le_trans (Nat.le_mul_of_pos_right _ hb0) hl;obtain⟨hok,inner,hown,hr⟩:=HO;have hrun:∃ v1 w1,(Builtin.append_ #[t,t] o.type #[v,.slice A m c]).run P W=.ok v1 w1/\d.R e w1 base ok v1 (xs ++ ys)/\W.grownBy w1 v.ownBlock/\(v1.ownBlock=v.ownBlock\/∃ b,v1.ownBlock=some b/\W.heap.size<=b):=by
  rcases A with _|ad
  .have h0:m=0:=by
    rcases Nat.eq_zero_or_pos m with h0|h0
    .exact h0
    .obtain⟨ad,h,_⟩:=HR.2.2 h0;cases h
   subst h0;obtain rfl:ys=[]:=List.eq_nil_of_length_eq_zero hm;refine⟨v,W,?_,by rw[List.append_nil];exact⟨hok,inner,hown,hr⟩,World.grownBy.refl W _,.inl rfl⟩;rcases hown.2 with⟨rfl,hn⟩|⟨g,cap,cur,rfl,_,_,hnc,_⟩
   .simp[Builtin.append_,run_underlying ht,sizeOf,typeInfo,hi,Builtin.lenOf,Builtin.firstCells]
   .simp[Builtin.append_,run_underlying ht,sizeOf,typeInfo,hi,Builtin.lenOf,Builtin.firstCells,hnc,storeCells]
  .obtain⟨news,hnr,hnc⟩:=eu.P4 HR;have U2:iY (d.M W base uJ) d.sz ys news:=hnr.p9 (fun p c hp=>hKM p c hp);have hone:∀ u∈news,u.oneCell'=true:=by
    intro u hu;obtain⟨q,hq,rfl⟩:=List.mem_iff_getElem.1 hu;have hql:q / d.sz < ys.length:=by
     rw[Nat.div_lt_iff_lt_mul hs0];rw[<-U2.1];exact hq
    have hc:=U2.2 (q / d.sz) _ (List.getElem?_eq_getElem hql);refine d.rK (d.jx hc) _ ?_;rw[List.mem_iff_getElem?];refine⟨q % d.sz,?_⟩;rw[List.getElem?_take,if_pos (Nat.mod_lt _ hs0),List.getElem?_drop,Nat.mul_comm,Nat.div_add_mod,List.getElem?_eq_getElem hq]
   obtain⟨v1,w1,hrun,h2,hg,_,hat⟩:=run_append_own_at (P:=P) W base t o.type e i0 z d.sz bytes ht hi hz0 hz1 hz2 hz hs0 v xs.length inner hown ad m c news (by rw[U2.1,hm]) hnc hone (by simp only[maxLen];omega) hl hbase;have hat':v1.ownBlock=v.ownBlock\/∃ b,v1.ownBlock=some b/\W.heap.size<=b:=by
    rcases hat with hat|hat
    .exact .inl hat
    .exact .inr ⟨_,hat,Nat.le_refl _⟩
   have hne:∀ k,some k≠v.ownBlock->k < W.heap.size->some k≠v1.ownBlock:=by
    intro k hk hlt;rcases hat' with hat|⟨b,hb,hle⟩
    .rw[hat];exact hk
    .rw[hb];intro he;injection he with he;omega
   have step:∀ {q:α} {c:List Value} {o:Nat->Prop},d.M W base o q c->(∀ k,o k->ok k/\some k≠v.ownBlock)->d.M w1 base (fun k=>ok k/\some k≠v1.ownBlock) q c:=by
    intro q c o hq ho;have h1:=d.jX (w1:=w1) (fun k hk=>hg.block k hk.2.2.1 (ho k hk.1).2) (d.iT hq);exact d.gV (fun k hk=>⟨(ho k hk.1).1,hne k (ho k hk.1).2 hk.2.2.1⟩) h1
   refine⟨v1,w1,hrun,⟨fun k hk=>?_,inner ++ news,by rw[List.length_append,hm];exact h2,Cx (hr.p9 (fun _ _ hq=>step hq (fun _ hk=>hk))) (U2.p9 (fun _ _ hq=>step hq wk))⟩,hg,hat'⟩;rcases hat' with hat|⟨b,hb,hle⟩
   .exact hok k (hat ▸ hk)
   .rw[hb] at hk;injection hk with hk;exact hfresh k (by omega)
 obtain⟨v1,w1,hr1,h1,hg,hat⟩:=hrun;refine wpList_plain hgd fun K hK=>?_
 unfold Oper.wp execOp;simp only[ho,resolve,invoke,builtin,Sem.run_bind,Sem.run_pure,Result.andThen_ok,List.map_toArray,List.map_cons,List.map_nil,hs,hx,hr1];exact hK _ _ (h v1 w1 h1 (HB.grown hg hbase (fR hown)) hg hat)
end
end Kd
namespace Kd
section
variable{P:Program}{ops:Array Oper}{rest:List Oper}{o:Oper}{a:Act}{Q:Exit->Act->World->Prop}{α:Type}
end
end Kd
theorem add_add(a:Addr)(i j:Nat):(a.add i).add j=a.add (i+j):=by
 unfold Addr.add;by_cases h1:i=0<;>by_cases h2:j=0<;>simp[h1,h2,Nat.add_assoc]
namespace Kd
section
variable{α:Type}{k:Kd α}{w:World}{A:Option Addr}{xs:List α}{m c:Nat}
theorem AR(h:k.C w A xs.length xs)(hm:m<=xs.length):k.C w A (xs.take m).length (xs.take m):=by
 have hl:(xs.take m).length=m:=by rw[List.length_take];omega
 refine⟨rfl,by rw[hl];have:=h.2.1;omega,fun hp=>?_⟩;obtain⟨ad,e,hc⟩:=h.2.2 (by omega);refine⟨ad,e,fun j p hj=>hc j p ?_⟩;rw[List.getElem?_take] at hj;split at hj
 .exact hj
 .cases hj
theorem mW(h:k.C w A xs.length xs)(hm:m<=xs.length)(hc:xs.length<=c):k.C w (if c=m then A else A.map (·.add (m * k.sz))) (xs.drop m).length (xs.drop m):=by
 have hl:(xs.drop m).length=xs.length - m:=List.length_drop;refine⟨rfl,by rw[hl];have:=h.2.1;omega,fun hp=>?_⟩;rw[hl] at hp;obtain⟨ad,rfl,hcell⟩:=h.2.2 (by omega);rw[if_neg (by omega)];refine⟨ad.add (m * k.sz),rfl,fun j p hj=>?_⟩;rw[List.getElem?_drop] at hj;obtain⟨cs,h1,h2,h3⟩:=hcell (m+j) p hj;refine⟨cs,h1,h2,fun i u hu=>?_⟩;rw[add_add,show m * k.sz+(j * k.sz+i)=(m+j) * k.sz+i by rw[Nat.add_mul];omega];exact h3 i u hu
theorem SJ{lo hi:Nat}(h:k.C w A xs.length xs)(h1:lo<=hi)(h2:hi<=xs.length)(hc:xs.length<=c):k.C w (if c=lo then A else A.map (·.add (lo * k.sz))) ((xs.take hi).drop lo).length ((xs.take hi).drop lo):=by
 have hl:(xs.take hi).length=hi:=by rw[List.length_take];omega
 exact mW (AR h h2) (by omega) (by omega)
end
end Kd
section
variable{P:Program}
theorem Nh(t e:TypeId)(kl kh:IntKind){i:TypeInfo}(ht:P.underlying t=some (.slice e))(hi:P.info? e=some i)(size:Nat)(hsz:i.size=size)(A:Option Addr)(n c:Nat)(lo hi':Int)(h0:0<=lo)(h1:lo<=hi')(h2:hi'<=n)(hc:n<=c) :
  ∀ W:World,(Instr.slice t (.slice A n c) (some (.int kl lo)) (some (.int kh hi')) none).run P W=.ok (.slice (if c=lo.toNat then A else A.map (·.add (lo.toNat * size))) (hi'.toNat - lo.toNat) (c - lo.toNat)) W:=by
 intro W;have hel:P.elem t=e:=by simp[Program.elem,ht]
 have hu:P.underlying t=some (.slice (P.elem t)):=by rw[hel];exact ht
 rw[run_slice_lh W t A n c hu kl kh lo hi' h0 h1 (by omega),hel];simp[sizeOf,typeInfo,hi,hsz,sliced,Result.andThen]
end
theorem iU{P:Program}{w:World}{src dst e:TypeId}{A:Option Addr}{n c:Nat}{xs:List Int}(hs:P.underlying src=some (.slice e))(he:P.underlying e=some (.int .u8))(hd:P.underlying dst=some .string)
  (h:dZ w .u8 A n xs):(convert src dst (.slice A n c)).run P w=.ok (.string (strOfNums xs)) w:=by
 have hn:xs.length=n:=h.1;rcases A with _|ad
 .have h0:n=0:=by
   rcases Nat.eq_zero_or_pos n with h0|h0
   .exact h0
   .obtain⟨ad,h',_⟩:=h.2.2 h0;cases h'
  subst h0;obtain rfl:xs=[]:=List.eq_nil_of_length_eq_zero hn;exact run_convert_bytes_nil w src e hs he 0 c dst hd
 .have hl:(loadCells ad n).run P w=.ok (xs.map (Value.int .u8)).toArray w:=by
   have:=run_loadCells_list (P:=P) w ad (xs.map (Value.int .u8)) (fun j v hj=>by
    have hjl:j < xs.length:=by
     rcases Nat.lt_or_ge j xs.length with h'|h'
     .exact h'
     .rw[List.getElem?_eq_none (by rw[List.length_map];exact h')] at hj;cases hj
    obtain⟨J1,he',hc⟩:=h.2.2 (by omega);injection he' with he';subst he';rw[hc j (by omega)];rw[List.getElem?_map,List.getElem?_eq_getElem hjl] at hj;simp at hj;subst hj;simp[List.getD_eq_getElem?_getD,List.getElem?_eq_getElem hjl])
   simpa [hn] using this
  rw[run_convert_bytes_string w src dst e _ n c hs he hd,run_bytesToString w ad n c xs hl,foldl_push_bytes];simp[strOfNums,ByteArray.empty,ByteArray.emptyWithCapacity];rfl
theorem cD{w W:World}(h:Below w.heap.size w W):w.heap.size<=W.heap.size:=h.size
theorem cF{w W w2:World}(h:Below w.heap.size w W)(k:Below W.heap.size W w2):Below w.heap.size w w2:=EA h h.size k
theorem bN{w W:World}{g j:Nat}{v:Value}(h:Below w.heap.size w W)(hg:w.heap.size<=g):Below w.heap.size w (W.setCell ⟨g,j,none⟩ v):=h.setCell hg _
theorem tK(a:Addr)(i:Nat):(a.add i).block=a.block:=by unfold Addr.add;split<;>rfl
theorem aN{w:World}{g:Nat}{t:TypeId}{cs cs':Array Value}(h:w.heap[g]? = some (.cells cs t (0,0)))(i:Nat)(u:Value)(e:cs.setIfInBounds i u=cs'):(w.setCell ⟨g,i,none⟩ u).heap[g]? = some (.cells cs' t (0,0)):=e ▸ Gn h i u
namespace Kd
section
variable{α β:Type}{d:Kd α}{d':Kd β}{e e' base base' n:Nat}{ok ok':Nat->Prop}{w W w1 W1:World}{v u:Value}{xs:List α}{ys:List β}{A:Option Addr}{c:Nat}
end
section
variable{α:Type}{enc:α->Value}{h1:∀ x,(enc x).oneCell'=true}{w W:World}{A:Option Addr}{n g:Nat}{xs:List α}
end
end Kd
namespace Kd
section
variable{α:Type}{d:Kd α}{e base g:Nat}{ok:Nat->Prop}{w w1:World}{v:Value}{xs:List α}{o:Obj}
end
end Kd
section
variable{P:Program}{ops:Array Oper}{rest:List Oper}{o:Oper}{a:Act}{Q:Exit->Act->World->Prop}
theorem cK{W:World}(hgd:o.guard=none){N:Tmp}(_hd:o.dst=some N){cs:Array Value}{t:TypeId}
  (hrun:(execOp a.eval o).run P W=.ok (.value (.pointer (some ⟨W.heap.size,0,none⟩))) (W.alloc (.cells cs t (0,0))))
  (h:∀ g,g=W.heap.size->∀ w1,w1.heap[g]? = some (.cells cs t (0,0))->Below W.heap.size W w1->wpList P ops Q rest (a.put o.dst (.pointer (some ⟨g,0,none⟩))) w1):wpList P ops Q (o :: rest) a W :=
 Kd.zK hgd hrun (h _ rfl _ (aH W _) (aF (Below.refl _ _) _))
end
namespace Kd
section
variable{α:Type}{enc:α->Value}{h1:∀ x,(enc x).oneCell'=true}{e base g n cap:Nat}{ok:Nat->Prop}{W:World}{xs:List α}
end
end Kd
section
variable{P:Program}{ops:Array Oper}{rest:List Oper}{o:Oper}{a:Act}{Q:Exit->Act->World->Prop}
end
namespace Kd
section
variable{α:Type}{enc:α->Value}{h1:∀ x,(enc x).oneCell'=true}{e base g n cap:Nat}{ok:Nat->Prop}{W:World}{xs:List α}
end
end Kd
section
variable{P:Program}{ops:Array Oper}{rest:List Oper}{o:Oper}{a:Act}{Q:Exit->Act->World->Prop}{W:World}
theorem aS{N:Tmp}(_hN:o.dst=some N)(h:wpList P ops Q (o :: rest) a W):wpList P ops Q (o :: rest) a W:=h
end
section
variable{P:Program}{ops:Array Oper}{o:Oper}{a:Act}{Q:Exit->Act->World->Prop}{Kc:Act->World->Prop}
namespace Kd
variable{α:Type}
theorem kR(d:Kd α){Rr:α->List Value->Prop}{w0 W:World}(base:Nat)(hw:Region.wanted o (yielded ops a.tmps)=true)(s x:Operand)(t e:TypeId)(z:Value)(bytes:Nat)
  (ho:o.op=.call { callee:=.builtin .append,args:=#[s,x],argTypes:=#[t,t] })
  (ht:P.underlying t=some (.slice e)) (hinfo:(P.info? e).map (fun i=>(i.zero,i.size,i.bytes))=some (some z,d.sz,bytes)) (hz:z.cells.size=d.sz) (hs0:0 < d.sz) (hb0:0 < bytes)
  (v:Value) (xs ys:List α) (A:Option Addr) (m c:Nat) (ok uJ:Nat->Prop) (hs:a.eval s=v) (hx:a.eval x=.slice A m c)
  (HO:d.R e W base ok v xs) (HR:eu Rr d.sz W A m ys) (hKM:∀ x cs,Rr x cs->d.M W base uJ x cs) (wk:∀ k,uJ k->ok k/\some k≠v.ownBlock) (hfresh:∀ k,W.heap.size<=k->ok k)
  (HB:Below base w0 W) (hbase:base<=W.heap.size) (hl:(xs.length+m) * bytes<=140737488355328)
  (h:∀ v1 w1,d.R e w1 base ok v1 (xs ++ ys)->Below base w0 w1->W.grownBy w1 v.ownBlock->(v1.ownBlock=v.ownBlock\/∃ b,v1.ownBlock=some b/\W.heap.size<=b)->Kc (a.put o.dst v1) w1) :
  if Region.wanted o (yielded ops a.tmps)=true then Oper.wp P o a W Kc Q else Kc (a.put o.dst undef) W:=by
 obtain⟨i0,hi,hzz⟩:=Option.map_eq_some_iff.1 hinfo;simp only[Prod.mk.injEq] at hzz;obtain⟨hz0,hz1,hz2⟩:=hzz;have hm:ys.length=m:=HR.1;have hlen:xs.length+m<=140737488355328:=Nat.le_trans (Nat.le_mul_of_pos_right _ hb0) hl;obtain⟨hok,inner,hown,hr⟩:=HO;have hrun:∃ v1 w1,(Builtin.append_ #[t,t] o.type #[v,.slice A m c]).run P W=.ok v1 w1/\d.R e w1 base ok v1 (xs ++ ys)/\W.grownBy w1 v.ownBlock/\(v1.ownBlock=v.ownBlock\/∃ b,v1.ownBlock=some b/\W.heap.size<=b):=by
  rcases A with _|ad
  .have h0:m=0:=by
    rcases Nat.eq_zero_or_pos m with h0|h0
    .exact h0
    .obtain⟨ad,h,_⟩:=HR.2.2 h0;cases h
   subst h0;obtain rfl:ys=[]:=List.eq_nil_of_length_eq_zero hm;refine⟨v,W,?_,by rw[List.append_nil];exact⟨hok,inner,hown,hr⟩,World.grownBy.refl W _,.inl rfl⟩;rcases hown.2 with⟨rfl,hn⟩|⟨g,cap,cur,rfl,_,_,hnc,_⟩
   .simp[Builtin.append_,run_underlying ht,sizeOf,typeInfo,hi,Builtin.lenOf,Builtin.firstCells]
   .simp[Builtin.append_,run_underlying ht,sizeOf,typeInfo,hi,Builtin.lenOf,Builtin.firstCells,hnc,storeCells]
  .obtain⟨news,hnr,hnc⟩:=eu.P4 HR;have U2:iY (d.M W base uJ) d.sz ys news:=hnr.p9 (fun p c hp=>hKM p c hp);have hone:∀ u∈news,u.oneCell'=true:=by
    intro u hu;obtain⟨q,hq,rfl⟩:=List.mem_iff_getElem.1 hu;have hql:q / d.sz < ys.length:=by
     rw[Nat.div_lt_iff_lt_mul hs0];rw[<-U2.1];exact hq
    have hc:=U2.2 (q / d.sz) _ (List.getElem?_eq_getElem hql);refine d.rK (d.jx hc) _ ?_;rw[List.mem_iff_getElem?];refine⟨q % d.sz,?_⟩;rw[List.getElem?_take,if_pos (Nat.mod_lt _ hs0),List.getElem?_drop,Nat.mul_comm,Nat.div_add_mod,List.getElem?_eq_getElem hq]
   obtain⟨v1,w1,hrun,h2,hg,_,hat⟩:=run_append_own_at (P:=P) W base t o.type e i0 z d.sz bytes ht hi hz0 hz1 hz2 hz hs0 v xs.length inner hown ad m c news (by rw[U2.1,hm]) hnc hone (by simp only[maxLen];omega) hl hbase;have hat':v1.ownBlock=v.ownBlock\/∃ b,v1.ownBlock=some b/\W.heap.size<=b:=by
    rcases hat with hat|hat
    .exact .inl hat
    .exact .inr ⟨_,hat,Nat.le_refl _⟩
   have hne:∀ k,some k≠v.ownBlock->k < W.heap.size->some k≠v1.ownBlock:=by
    intro k hk hlt;rcases hat' with hat|⟨b,hb,hle⟩
    .rw[hat];exact hk
    .rw[hb];intro he;injection he with he;omega
   have step:∀ {q:α} {c:List Value} {o:Nat->Prop},d.M W base o q c->(∀ k,o k->ok k/\some k≠v.ownBlock)->d.M w1 base (fun k=>ok k/\some k≠v1.ownBlock) q c:=by
    intro q c o hq ho;have h1:=d.jX (w1:=w1) (fun k hk=>hg.block k hk.2.2.1 (ho k hk.1).2) (d.iT hq);exact d.gV (fun k hk=>⟨(ho k hk.1).1,hne k (ho k hk.1).2 hk.2.2.1⟩) h1
   refine⟨v1,w1,hrun,⟨fun k hk=>?_,inner ++ news,by rw[List.length_append,hm];exact h2,Cx (hr.p9 (fun _ _ hq=>step hq (fun _ hk=>hk))) (U2.p9 (fun _ _ hq=>step hq wk))⟩,hg,hat'⟩;rcases hat' with hat|⟨b,hb,hle⟩
   .exact hok k (hat ▸ hk)
   .rw[hb] at hk;injection hk with hk;exact hfresh k (by omega)
 obtain⟨v1,w1,hr1,h1,hg,hat⟩:=hrun;rw[if_pos hw];unfold Oper.wp execOp;simp only[ho,resolve,invoke,builtin,Sem.run_bind,Sem.run_pure,Result.andThen_ok,List.map_toArray,List.map_cons,List.map_nil,hs,hx,hr1];exact h v1 w1 h1 (HB.grown hg hbase (fR hown)) hg hat
end Kd
end
inductive ah8 (P:Program) (tmps:Array Value) (w:World):List ResultVar->List Value->Prop where
 | nil:ah8 P tmps w [] []
 | tmp {u:Tmp} {rs:List ResultVar} {vs:List Value} (h:ah8 P tmps w rs vs):ah8 P tmps w (.tmp u :: rs) (tmps.getD u undef :: vs)
 | cell {p:Tmp} {ty:TypeId} {rs:List ResultVar} {vs:List Value} (g:Nat) (t:TypeId) (cs:Array Value) (fr:Nat × Nat) (d:TypeDesc)
   (hp:tmps.getD p undef=.pointer (some ⟨g,0,none⟩)) (hg:w.heap[g]? = some (.cells cs t fr))
   (hu:P.underlying ty=some d) (hd:(match d with|.struct _|.array _ _=>true|_=>false)=true) (hi:(P.info? ty).map (·.size)=some cs.size)
   (h:ah8 P tmps w rs vs):ah8 P tmps w (.cell p ty :: rs) (.agg cs :: vs)
section
variable{P:Program}{tmps:Array Value}{w:World}
theorem ak1{rs:List ResultVar}{vs:List Value}(hv:ah8 P tmps w rs vs)(f:ResultVar->Sem Value)(hf:∀ u,f (.tmp u)=pure (tmps.getD u undef))(hc:∀ a t,f (.cell a t)=(do loadVar t (<-asAddr (tmps.getD a undef)))) :
  (rs.mapM f).run P w=.ok vs w:=by
 induction hv with
 | nil=>simp
 | tmp h ih=>simp[List.mapM_cons,hf,ih]
 | cell g t cs fr d hp hg hu hd hi h ih =>
  rw[List.mapM_cons,hc,hp];simp[asAddr,run_loadVar_row w g t _ cs fr d hg hu hd hi,ih]
theorem ae9{fn:Func}{rs:List ResultVar}{vs:List Value}(h:fn.results=rs.toArray)(hl:vs.length≠1)(hv:ah8 P tmps w rs vs):(results fn tmps).run P w=.ok (.tuple vs.toArray) w:=by
 unfold results;rw[h,List.mapM_toArray];simp only[Sem.run_bind,Sem.run_map];rw[ak1 hv]
 .simp[hl]
 .intro u;rfl
 .intro a t;rfl
end
namespace Kd
section
variable{P:Program}{α:Type}
end
section
variable{P:Program}{ops:Array Oper}{rest:List Oper}{o:Oper}{a:Act}{Q:Exit->Act->World->Prop}{Kc:Act->World->Prop}{α:Type}
end
end Kd
end Go.Proofs.YtcaallkkeighdaaGreatDoor.aD
