/- Looks that are nil, or that nobody made; no further condition. -/
import Derived.Test.YtmggbbeecmjalaaS13
namespace Go.Proofs.Ytmggbbeecmjalaa.P
open Go.RowKit Go.Proofs.YtmggbbeecmjalaaW.PrintWords Go.Proofs.YtmggbbeecmjalaaW.PrintLast Go.Proofs.YtmggbbeecmjalaaW.PrintMore
attribute [local go_sem] max2_int min2_int max_two min_two
set_option linter.unusedVariables false
set_option linter.unusedSimpArgs false


/-- looks that are none, in each world that follows -/
def Unmade (w : World) (p : Value) : Prop := ∀ W, Below w.heap.size w W → Calls Try.prog 31 #[p] W fun e W' => e = .returned (.bool true) ∧ W' = W
theorem unmade_nil (w : World) : Unmade w (.pointer none) := fun W _ => none_nil W
theorem unmade_blk {w : World} {g : Nat} {cs : Array Value} {t : Nat} (h : w.heap[g]? = some (.cells cs t (0, 0))) (h0 : cs[0]? = some (.bool false)) : Unmade w (.pointer (some ⟨g, 0, none⟩)) :=
  fun W hb => none_unmade ((blk_cell (blk_below h hb) 0).trans h0)
theorem Unmade.below {w W : World} {p : Value} (h : Unmade w p) (hb : Below w.heap.size w W) : Unmade W p := fun W' hb' => h W' (hb.trans (hb'.mono hb.size))
set_option maxHeartbeats 8000000 in
set_option maxRecDepth 100000 in
theorem len_none {w : World} {p : Value} (hn : Unmade w p) :
    Calls Try.prog 24 #[p] w fun e w' => e = .returned (.int .i64 0) ∧ Below w.heap.size w w' := by
  have HB := Aside0.mk (Below.refl w.heap.size w)
  have hN := Aside0.mk hn
  clear hn
  go_enter Try.func24, Try.ntmps24
  go_wp2_with (first | (go_at_call 31; go_loud (refine (hN.out _ HB.out).mono ?_; rintro e w9 ⟨rfl, q_⟩; replace q_ := q_.symm; subst q_)))
  go_ret
  exact ⟨rfl, HB.out⟩
set_option maxHeartbeats 8000000 in
set_option maxRecDepth 100000 in
theorem slice_none {w : World} {p : Value} (hn : Unmade w p) (x y : Int) :
    Calls Try.prog 20 #[p, .int .i64 x, .int .i64 y] w fun e w' => e = .returned (.tuple #[.slice none 0 0, .int .i64 1]) ∧ Below w.heap.size w w' := by
  have HB := Aside0.mk (Below.refl w.heap.size w)
  have hN := Aside0.mk hn
  clear hn
  go_enter Try.func20, Try.ntmps20
  go_wp2_with (first | (go_at_call 31; go_loud (refine (hN.out _ HB.out).mono ?_; rintro e w9 ⟨rfl, q_⟩; replace q_ := q_.symm; subst q_)))
  go_ret2
  exact ⟨rfl, HB.out⟩
set_option maxHeartbeats 8000000 in
set_option maxRecDepth 100000 in
theorem insert_none {w : World} {p : Value} (hn : Unmade w p) (x y : Int) :
    Calls Try.prog 21 #[p, .int .i64 x, .int .i64 y] w fun e w' => e = .returned (.int .i64 1) ∧ Below w.heap.size w w' := by
  have HB := Aside0.mk (Below.refl w.heap.size w)
  have hN := Aside0.mk hn
  clear hn
  go_enter Try.func21, Try.ntmps21
  go_wp2_with (first | (go_at_call 31; go_loud (refine (hN.out _ HB.out).mono ?_; rintro e w9 ⟨rfl, q_⟩; replace q_ := q_.symm; subst q_)))
  go_ret
  exact ⟨rfl, HB.out⟩
set_option maxHeartbeats 8000000 in
set_option maxRecDepth 100000 in
theorem delete_none {w : World} {p : Value} (hn : Unmade w p) (x y : Int) :
    Calls Try.prog 22 #[p, .int .i64 x, .int .i64 y] w fun e w' => e = .returned (.int .i64 1) ∧ Below w.heap.size w w' := by
  have HB := Aside0.mk (Below.refl w.heap.size w)
  have hN := Aside0.mk hn
  clear hn
  go_enter Try.func22, Try.ntmps22
  go_wp2_with (first | (go_at_call 31; go_loud (refine (hN.out _ HB.out).mono ?_; rintro e w9 ⟨rfl, q_⟩; replace q_ := q_.symm; subst q_)))
  go_ret
  exact ⟨rfl, HB.out⟩
set_option maxHeartbeats 8000000 in
set_option maxRecDepth 100000 in
theorem set_none {w : World} {p : Value} (hn : Unmade w p) (x y a b d : Int) :
    Calls Try.prog 23 #[p, .int .i64 x, .int .i64 y, .agg #[.int .i64 a, .int .i64 b, .int .i64 d]] w fun e w' => e = .returned (.int .i64 1) ∧ Below w.heap.size w w' := by
  have HB := Aside0.mk (Below.refl w.heap.size w)
  have hN := Aside0.mk hn
  clear hn
  go_enter Try.func23, Try.ntmps23
  go_wp2_with (first | ((with_reducible refine gate_dst (N := 7) rfl ?_); go_loud (refine box_event ?hg (N := 7) ?hd (cs := #[.int .i64 a, .int .i64 b, .int .i64 d]) (t := 28) ?hr ?_; (case hd => rfl); (case hg => rfl); (case hr => first | (go_simp; done) | (go_simp; rfl)); intro gb0 hg0 w0 hx0 hb0; have HB := Aside0.mk (HB.out.trans (hb0.mono HB.out.size)); clear hx0 hb0 hg0)) | (go_at_call 31; go_loud (refine (hN.out _ HB.out).mono ?_; rintro e w9 ⟨rfl, q_⟩; replace q_ := q_.symm; subst q_)))
  go_ret
  exact ⟨rfl, HB.out⟩
set_option maxHeartbeats 8000000 in
set_option maxRecDepth 100000 in
theorem clone_none {w : World} {p : Value} (hn : Unmade w p) :
    Calls Try.prog 15 #[p] w fun e w' => e = .returned (.pointer none) ∧ Below w.heap.size w w' := by
  have HB := Aside0.mk (Below.refl w.heap.size w)
  have hN := Aside0.mk hn
  clear hn
  go_enter Try.func15, Try.ntmps15
  go_wp2_with (first | (go_at_call 31; go_loud (refine (hN.out _ HB.out).mono ?_; rintro e w9 ⟨rfl, q_⟩; replace q_ := q_.symm; subst q_)))
  go_ret
  exact ⟨rfl, HB.out⟩
set_option maxHeartbeats 8000000 in
set_option maxRecDepth 100000 in
theorem at_none {w : World} {p : Value} (hn : Unmade w p) (x : Int) :
    Calls Try.prog 19 #[p, .int .i64 x] w fun e w' => e = .returned (.tuple #[.agg #[.int .i64 0, .int .i64 0, .int .i64 0], .int .i64 1]) ∧ Below w.heap.size w w' := by
  have HB := Aside0.mk (Below.refl w.heap.size w)
  have hN := Aside0.mk hn
  clear hn
  go_enter Try.func19, Try.ntmps19
  go_wp2_with (first | ((with_reducible refine gate_dst (N := 4) rfl ?_); go_loud (refine box_event ?hg (N := 4) ?hd (cs := #[.int .i64 0, .int .i64 0, .int .i64 0]) (t := 28) ?hr ?_; (case hd => rfl); (case hg => rfl); (case hr => first | (go_simp; done) | (go_simp; rfl)); intro gb0 hg0 w0 hx0 hb0; have HX0 := Aside0.mk hx0; have HGE := Aside0.mk (show w.heap.size ≤ gb0 from Nat.le_of_eq hg0.symm); have HB := Aside0.mk (HB.out.trans (hb0.mono HB.out.size)); have hz0 := (blk_cell hx0 0).trans rfl; have hz1 := (blk_cell hx0 1).trans rfl; have hz2 := (blk_cell hx0 2).trans rfl; have hf0 := blk_frozen hx0 0; have hf1 := blk_frozen hx0 1; have hf2 := blk_frozen hx0 2; clear hx0 hb0 hg0)) | (go_at_call 31; go_loud (refine (hN.out _ HB.out).mono ?_; rintro e w9 ⟨rfl, q_⟩; replace q_ := q_.symm; subst q_)))
  refine bodyPost_ret (results_ct rfl _ _ gb0 28 #[.int .i64 0, .int .i64 0, .int .i64 0] (0, 0) _ rfl (by (with_reducible repeat (first | refine blk_drewN ?_ _ | refine blk_drew ?_)); refine blk_put (cs := #[.int .i64 0, .int .i64 0, .int .i64 0]) ?_ 2 _ rfl; (with_reducible repeat (first | refine blk_drewN ?_ _ | refine blk_drew ?_)); refine blk_put (cs := #[.int .i64 0, .int .i64 0, .int .i64 0]) ?_ 1 _ rfl; (with_reducible repeat (first | refine blk_drewN ?_ _ | refine blk_drew ?_)); refine blk_put (cs := #[.int .i64 0, .int .i64 0, .int .i64 0]) ?_ 0 _ rfl; (with_reducible repeat (first | refine blk_drewN ?_ _ | refine blk_drew ?_)); exact HX0.out) Try.underlying28 rfl (by kernel_rfl)) rfl ?_
  exact ⟨rfl, (by repeat (first | exact HB.out | apply pw_below_drewN | apply below_drew1 | refine below_set ?_ HGE.out))⟩
end Go.Proofs.Ytmggbbeecmjalaa.P
