/- cluster.Bound answers as the plain function of the spec: for every text and place. -/
import Derived.RangeFuncBox
import Derived.Outline
import Derived.Test.YtgohmckmekijiaaStart
namespace Go.Proofs.Ytgohmckmekijiaa.PAll
open Go.RowKit Go.Shelf Go.Proofs.YtgohmckmekijiaaW.PrintWords Go.Proofs.YtgohmckmekijiaaW.PrintLast Go.Proofs.YtgohmckmekijiaaW.PrintMore
attribute [local go_sem] Oper.semAt_some
set_option linter.unusedVariables false
set_option linter.unusedSimpArgs false

theorem boundIn_no (a : Int) : ∀ l : List S28, (∀ c ∈ l, c.f0 ≠ a) → boundIn a l = false
  | [], _ => rfl
  | c :: l, h => by
    have hc := h c (by simp)
    simp only [boundIn]
    rw [if_neg hc]
    exact boundIn_no a l (fun d hd => h d (by simp [hd]))
theorem boundIn_hit (a : Int) : ∀ l : List S28, (∃ c ∈ l, c.f0 = a) → boundIn a l = true
  | [], h => by obtain ⟨_, h, _⟩ := h; cases h
  | c :: l, h => by
    simp only [boundIn]
    split
    · rfl
    · rename_i hc
      obtain ⟨d, hd, e⟩ := h
      rcases List.mem_cons.1 hd with rfl | hd
      · exact absurd e hc
      · exact boundIn_hit a l ⟨d, hd, e⟩
theorem two (w w1 : World) (v1 v2 : Value) (t1 t2 : TypeId) (hb : Below ((w.alloc (.cells #[v1] t1)).alloc (.cells #[v2] t2)).heap.size ((w.alloc (.cells #[v1] t1)).alloc (.cells #[v2] t2)) w1) :
    Boxed w1 w.heap.size t1 v1 ∧ Boxed w1 (w.heap.size + 1) t2 v2 ∧ w.heap.size + 1 + 1 ≤ w1.heap.size ∧ Below w.heap.size w w1 := by
  have x1 := (Boxed.new w t1 v1).alloc (.cells #[v2] t2)
  have x2 := Boxed.new (w.alloc (.cells #[v1] t1)) t2 v2
  have hs := hb.size
  simp only [World.size_alloc] at x2 hs
  refine ⟨blain x1 hb (by simp; omega), blain x2 hb (by simp), hs, ?_⟩
  have hB0 : Below w.heap.size w ((w.alloc (.cells #[v1] t1)).alloc (.cells #[v2] t2)) := ((Below.refl _ w).alloc (Nat.le_refl _) _).alloc (by simp) _
  exact hB0.trans (hb.mono (by simp; omega))

set_option maxRecDepth 100000 in
set_option maxHeartbeats 2000000 in
theorem bound_in (s : ByteArray) (a : Int) (hw : wrongOf s = 0) (h0 : 0 ≤ a) (h1 : a ≤ s.size) (w : World) : Calls Try.prog 18 #[.string s, .int .i64 a] w fun e w' => e = .returned (.bool (boundIn a (clus s) || decide (a = (s.size : Int)))) ∧ Below w.heap.size w w' := by
  have b0 : (wrongOf s != 0) = false := by rw [hw]; rfl
  have b1 : decide (a < 0) = false := decide_eq_false (by omega)
  have b2 : decide ((s.size : Int) < a) = false := decide_eq_false (by omega)
  have H1 := Aside0.mk h1
  have H0 := Aside0.mk h0
  clear h0 h1
  refine (callsIn_wide (n := 5)).1 ?_
  refine callsIn_of_wp_marks Try.func18 rfl trivial ?_ rfl
  simp only [Try.ntmps18, List.size_toArray, List.length_cons, List.length_nil, Nat.reduceAdd, Nat.reduceSub, Array.replicate_succ, Array.replicate_zero, List.push_toArray, List.append_toArray, List.nil_append, List.cons_append]
  refine wpIn_wide.2 ?_
  go_wp2_with (first | (go_at_call 22; refine (wrong_calls s _).mono ?_; rintro e w1 ⟨rfl, hb⟩; obtain ⟨x1, x2, hsz, hB⟩ := two w w1 _ _ _ _ hb; clear hb; have c1 := x1.cell; have c2 := x2.cell) | (go_at_call 23; refine (each_calls s _).mono ?_; rintro e w2 ⟨rfl, rfl⟩))
  have hB1 : Below w.heap.size w (w1.alloc (.cells #[.string s] 9)) := hB.alloc hB.size _
  have bT := Boxed.new w1 9 (.string s)
  have y1 := x1.alloc (.cells #[.string s] 9)
  have y2 := x2.alloc (.cells #[.string s] 9)
  have hsz2 : (w1.alloc (.cells #[.string s] 9)).heap.size = w1.heap.size + 1 := by simp
  obtain ⟨W0, hW0⟩ : ∃ W0, w1.alloc (.cells #[.string s] 9) = W0 := ⟨_, rfl⟩
  rw [hW0] at hB1 bT y1 y2 hsz2 ⊢
  clear hW0 c1 c2 x1 x2 hB
  refine (wpIn_wide (n := 5)).1 ?_
  refine wpIn_rangeFunc_ownH rfl (by omega) (gf := 30) (lb := #[.pointer (some ⟨w1.heap.size, 0, none⟩)]) rfl trivial (enters_of Try.func30 (by kernel_rfl) rfl)
    (each_stops s (wrong_size s hw) (5 - 1) (by omega) w1.heap.size W0 (by omega) rho0 (fun _ _ _ => rfl) (fun _ e => by cases e) bT.cell)
    Kc.trans (fun W l o o' hl ho hc _ => Kc.putObj W l o o' hl (by omega) ho hc rfl (fun _ e => by cases e)) (Below.refl _ _) (fun _ => rfl)
    (fun pre W => ((((∀ c ∈ pre, c.f0 ≠ a) ∧ Boxed W w.heap.size 3 (.int .i64 a)) ∧ Boxed W (w.heap.size + 1) 4 (.bool false)) ∧ Boxed W w1.heap.size 9 (.string s)) ∧ Below w.heap.size w W)
    (fun c pre W => ((c = .ret ∧ ∃ x ∈ pre, x.f0 = a) ∧ Boxed W (w.heap.size + 1) 4 (.bool true)) ∧ Below w.heap.size w W)
    (OwnFrom.and (OwnFrom.and (OwnFrom.and (OwnFrom.and (ownFrom_pure _ _) (Own.from (boxed_own _ _ _) _)) (Own.from (boxed_own _ _ _) _)) (Own.from (boxed_own _ _ _) _)) (ownFrom_below (Nat.le_refl _) (by omega)))
    (fun c => OwnFrom.and (OwnFrom.and (ownFrom_pure _ _) (Own.from (boxed_own _ _ _) _)) (ownFrom_below (Nat.le_refl _) (by omega)))
    ⟨⟨⟨⟨by simp, y1⟩, y2⟩, bT⟩, hB1⟩
    (fun x a' W => ∃ Bx, w.heap.size + 1 < Bx ∧ W.heap[Bx]? = some (.cells #[.int .i64 x.f0, .int .i64 x.f1, .int .i64 x.f2] 28 (0, 0)) ∧ a' = { tmps := #[.string s, .int .i64 a, undef, .pointer (some ⟨w.heap.size, 0, none⟩), .pointer (some ⟨w.heap.size + 1, 0, none⟩), .pointer (some ⟨Bx, 0, none⟩), .string s, .int .i64 0, .bool false, .bool false, .int .i64 a, .bool false, .bool false, .bool false, .int .i64 a, .string s, .int .i64 s.size, .bool false, .bool false, .string s, .func (.func 30) #[] #[.pointer (some ⟨w1.heap.size, 0, none⟩)], .agg #[.int .i64 x.f0, .int .i64 x.f1, .int .i64 x.f2], undef, undef, undef, undef, undef, undef, undef, undef], defers := [] })
    (fun x a' _ X Y row hs hg hr => by
      obtain ⟨Bx, e1, e2, e3⟩ := hs
      refine ⟨Bx, e1, (hg.block Bx (Array.getElem?_eq_some_iff.1 e2).1 (fun e => ?_)).trans e2, e3⟩
      obtain ⟨_, o, ho, hoc⟩ := hr Bx e.symm
      rw [e2] at ho
      cases ho
      cases hoc)
    ?assign ?body ?done ?stop
  case assign =>
    rintro l pre x W K ⟨⟨⟨⟨hp, z1⟩, z2⟩, zT⟩, hB2⟩ hK
    gi_wp2
    exact hK _ _ ((KeepsOthers.alloc _ _).from _) (Kc.none (World.grownBy_alloc W _ none) zT.lt (by simp) (fun _ e => by cases e)) ⟨⟨⟨⟨hp, z1.alloc _⟩, z2.alloc _⟩, zT.alloc _⟩, hB2.alloc hB2.size _⟩ ⟨W.heap.size, z2.lt, blk_new _ _, rfl⟩
  case body =>
    rintro l pre x a' W hl ⟨r, hr⟩ ⟨⟨⟨⟨hp, z1⟩, z2⟩, zT⟩, hB2⟩ ⟨Bx, hBx, bX, rfl⟩ hlt
    have c1 := z1.cell
    have k0 : W.cell? ⟨Bx, 0, none⟩ = some (.int .i64 x.f0) := (blk_cell bX 0).trans rfl
    have c2 := z2.cell
    have f2 := z2.frozen
    gi_wp2
    · rename_i hxy
      have hxa : x.f0 = a := eq_of_beq hxy
      exact ⟨(KeepsOthers.setCell _ _ _).from _, ⟨⟨rfl, x, by simp, hxa⟩, z2.set _⟩, hB2.setCell (p := ⟨w.heap.size + 1, 0, none⟩) (by simp) _⟩
    · rename_i hxy
      have hxa : x.f0 ≠ a := fun e => by simp [e] at hxy
      exact ⟨KeepsFrom.refl _ _, Kc.refl (fun _ e => by cases e), ⟨⟨⟨fun c hc => (List.mem_append.1 hc).elim (hp c) (fun e => by simp at e; rw [e]; exact hxa), z1⟩, z2⟩, zT⟩, hB2⟩
  case done =>
    rintro D ys W hD rfl ⟨⟨⟨⟨hp, z1⟩, z2⟩, zT⟩, hB2⟩ hK
    have c1 := z1.cell
    have c2 := z2.cell
    have f2 := z2.frozen
    go_wp2
    have hK' := (KeepsOthers.setCell W ⟨w.heap.size + 1, 0, none⟩ (.bool (a == s.size))).same D _ hK rfl
    refine ⟨by simp, .inl ⟨_, _, rfl, run_takeDeferred hK', ?_⟩⟩
    have q2 := cell_kept (z2.set (.bool (a == s.size))).cell (grownBy_putObj' _ D (.deferred none)) (fun r e => by cases e; exact ⟨_, hK', rfl⟩)
    refine ⟨.bool (a == s.size), ?_, by rw [boundIn_no a _ hp]; rfl, (hB2.setCell (p := ⟨w.heap.size + 1, 0, none⟩) (by simp) _).trans (belowK_b (w := w) (Nat.le_refl _) _ D _ _ (by omega) hK' rfl rfl)⟩
    simp [results, Try.f18, go_sem, q2]
  case stop =>
    rintro D c pre W hD hpre ⟨⟨⟨rfl, x, hx, hxa⟩, z2⟩, hB2⟩ hK
    have c2 := z2.cell
    gi_wp2
    refine ⟨by simp, .inl ⟨_, _, rfl, run_takeDeferred hK, ?_⟩⟩
    have q2 := cell_kept z2.cell (grownBy_putObj' _ D (.deferred none)) (fun r e => by cases e; exact ⟨_, hK, rfl⟩)
    refine ⟨.bool true, ?_, by rw [boundIn_hit a _ ⟨x, hpre.subset hx, hxa⟩]; rfl, hB2.trans (belowK_b (w := w) (Nat.le_refl _) W D _ _ (by omega) hK rfl rfl)⟩
    simp [results, Try.f18, go_sem, q2]

set_option maxHeartbeats 1000000 in
theorem cluster_Bound.calls (k : Nat) (a0 : ByteArray) (a1 : Int) (r : Bool) (w : World) (h : cluster_Bound.f k a0 a1 = some r) :
    Calls Try.prog 18 #[.string a0, .int .i64 a1] w fun e w' => e = .returned (.bool r) ∧ Below w.heap.size w w' := by
  obtain rfl : boundOf a0 a1 = r := Option.some.inj h
  clear h
  by_cases hw : wrongOf a0 = 0
  · by_cases h1 : 0 ≤ a1 ∧ a1 ≤ (a0.size : Int)
    · have e : boundOf a0 a1 = (boundIn a1 (clus a0) || decide (a1 = (a0.size : Int))) := by unfold boundOf; rw [if_neg (by omega)]
      rw [e]
      exact bound_in a0 a1 hw h1.1 h1.2 w
    · have HE := Aside0.mk (show boundOf a0 a1 = false by unfold boundOf; rw [if_pos (by omega)])
      have b0 : (wrongOf a0 != 0) = false := by rw [hw]; rfl
      by_cases h2 : a1 < 0
      · have b1 : decide (a1 < 0) = true := decide_eq_true h2
        clear h1
        go_enter Try.func18, Try.ntmps18
        go_wp2_with (go_at_call 22; refine (wrong_calls a0 _).mono ?_; rintro e w1 ⟨rfl, hb⟩; obtain ⟨x1, x2, hsz, hB⟩ := two w w1 _ _ _ _ hb; clear hb; have c1 := x1.cell; have c2 := x2.cell; have f2 := x2.frozen)
        have q2 := (x2.set (.bool false)).cell
        refine bodyPost_ret (v := .bool false) (by simp [results, Try.f18, go_sem, q2]) rfl ?_
        exact ⟨by rw [HE.out], hB.setCell (p := ⟨w.heap.size + 1, 0, none⟩) (by simp) _⟩
      · have b1 : decide (a1 < 0) = false := decide_eq_false h2
        have b2 : decide ((a0.size : Int) < a1) = true := decide_eq_true (by omega)
        clear h1
        go_enter Try.func18, Try.ntmps18
        go_wp2_with (go_at_call 22; refine (wrong_calls a0 _).mono ?_; rintro e w1 ⟨rfl, hb⟩; obtain ⟨x1, x2, hsz, hB⟩ := two w w1 _ _ _ _ hb; clear hb; have c1 := x1.cell; have c2 := x2.cell; have f2 := x2.frozen)
        have q2 := (x2.set (.bool false)).cell
        refine bodyPost_ret (v := .bool false) (by simp [results, Try.f18, go_sem, q2]) rfl ?_
        exact ⟨by rw [HE.out], hB.setCell (p := ⟨w.heap.size + 1, 0, none⟩) (by simp) _⟩
  · have HE := Aside0.mk (show boundOf a0 a1 = false by unfold boundOf; rw [if_pos (.inl hw)])
    have b0 : (wrongOf a0 != 0) = true := by simp [hw]
    go_enter Try.func18, Try.ntmps18
    go_wp2_with (go_at_call 22; refine (wrong_calls a0 _).mono ?_; rintro e w1 ⟨rfl, hb⟩; obtain ⟨x1, x2, hsz, hB⟩ := two w w1 _ _ _ _ hb; clear hb; have c1 := x1.cell; have c2 := x2.cell; have f2 := x2.frozen)
    have q2 := (x2.set (.bool false)).cell
    refine bodyPost_ret (v := .bool false) (by simp [results, Try.f18, go_sem, q2]) rfl ?_
    exact ⟨by rw [HE.out], hB.setCell (p := ⟨w.heap.size + 1, 0, none⟩) (by simp) _⟩
end Go.Proofs.Ytgohmckmekijiaa.PAll
