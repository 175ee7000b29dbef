/- cluster.Prev answers as the plain function of the spec: for every text and place. -/
import Derived.RangeFuncBox
import Derived.Outline
import Derived.Test.YtgohmckmekijiaaStart
namespace Go.Proofs.Ytgohmckmekijiaa.PAll
open Go.RowKit Go.Shelf Go.Proofs.YtgohmckmekijiaaW.PrintWords Go.Proofs.YtgohmckmekijiaaW.PrintLast Go.Proofs.YtgohmckmekijiaaW.PrintMore
attribute [local go_sem] Oper.semAt_some
set_option linter.unusedVariables false
set_option linter.unusedSimpArgs false

theorem prevIn_snoc (a : Int) (x : S28) : ∀ (l : List S28) (b : Int), prevIn a b (l ++ [x]) = if x.f0 < a then x.f0 else prevIn a b l
  | [], b => rfl
  | c :: l, b => by simp only [List.cons_append, prevIn]; exact prevIn_snoc a x l _
theorem place_wrong' (s : ByteArray) (a : Int) (h : placeOf s a = 0) : wrongOf s = 0 := by
  unfold placeOf at h
  split at h
  · assumption
  · exact h

theorem kcSet {n₁ Bn B : Nat} (W : World) (v : Value) (_ : Bn = Bn) (hT : Bn < W.heap.size) (hne : B ≠ Bn) (hB : B < n₁) : Kc rho0 n₁ Bn W (W.setCell ⟨B, 0, none⟩ v) :=
  Kc.none (grownBy_setCell' W B v) hT (fun e => hne (by cases e; rfl)) (fun r e => by cases e; exact hB)

set_option maxRecDepth 100000 in
set_option maxHeartbeats 2000000 in
theorem prev_in (s : ByteArray) (a : Int) (hw : placeOf s a = 0) (w : World) : Calls Try.prog 16 #[.string s, .int .i64 a] w fun e w' => e = .returned (.tuple #[.int .i64 (prevIn a 0 (clus s)), .int .i64 0]) ∧ Below w.heap.size w w' := by
  have b0 : (placeOf s a != 0) = false := by rw [hw]; rfl
  have hW := place_wrong' s a hw
  have sz : s.size ≤ 4096 := wrong_size s hW
  refine (callsIn_wide (n := 5)).1 ?_
  refine callsIn_of_wp_marks Try.func16 rfl trivial ?_ rfl
  simp only [Try.ntmps16, List.size_toArray, List.length_cons, List.length_nil, Nat.reduceAdd, Nat.reduceSub, Array.replicate_succ, Array.replicate_zero, List.push_toArray, List.append_toArray, List.nil_append, List.cons_append]
  refine wpIn_wide.2 ?_
  go_wp2_with (first | (go_at_call 27; refine (place_calls s a _).mono ?_; rintro e w1 ⟨rfl, hb⟩; have x1 := (blain (Boxed.new w 3 (.int .i64 a)) hb (by simp)); have hsz := hb.size; simp only [World.size_alloc] at hsz; have hB := (((Below.refl _ w).alloc (Nat.le_refl _) (.cells #[.int .i64 a] 3)).trans (hb.mono (by simp))); clear hb; have c1 := x1.cell) | (go_at_call 23; refine (each_calls s _).mono ?_; rintro e w2 ⟨rfl, rfl⟩))
  have hB1 : Below w.heap.size w ((w1.alloc (.cells #[.int .i64 0] 3)).alloc (.cells #[.string s] 9)) := (hB.alloc hB.size _).alloc (by have := hB.size; simp; omega) _
  have bT := Boxed.new (w1.alloc (.cells #[.int .i64 0] 3)) 9 (.string s)
  have y1 := (x1.alloc (.cells #[.int .i64 0] 3)).alloc (.cells #[.string s] 9)
  have y2 := (Boxed.new w1 3 (.int .i64 0)).alloc (.cells #[.string s] 9)
  have hsz2 : ((w1.alloc (.cells #[.int .i64 0] 3)).alloc (.cells #[.string s] 9)).heap.size = w1.heap.size + 1 + 1 := by simp
  simp only [World.size_alloc] at bT
  obtain ⟨W0, hW0⟩ : ∃ W0, (w1.alloc (.cells #[.int .i64 0] 3)).alloc (.cells #[.string s] 9) = W0 := ⟨_, rfl⟩
  rw [hW0] at hB1 bT y1 y2 hsz2 ⊢
  clear hW0 c1 x1 hB
  refine (wpIn_wide (n := 5)).1 ?_
  refine wpIn_rangeFunc_ownH rfl (by omega) (gf := 30) (lb := #[.pointer (some ⟨w1.heap.size + 1, 0, none⟩)]) rfl trivial (enters_of Try.func30 (by kernel_rfl) rfl)
    (each_stops s sz (5 - 1) (by omega) (w1.heap.size + 1) W0 (by omega) rho0 (fun _ _ _ => rfl) (fun _ e => by cases e) bT.cell)
    Kc.trans (fun W l o o' hl ho hc _ => Kc.putObj W l o o' hl (by omega) ho hc rfl (fun _ e => by cases e)) (Below.refl _ _) (fun _ => rfl)
    (fun pre W => ((Boxed W w.heap.size 3 (.int .i64 a) ∧ Boxed W w1.heap.size 3 (.int .i64 (prevIn a 0 pre))) ∧ Boxed W (w1.heap.size + 1) 9 (.string s)) ∧ Below w.heap.size w W)
    (fun _ _ _ => False)
    (OwnFrom.and (OwnFrom.and (OwnFrom.and (Own.from (boxed_own _ _ _) _) (Own.from (boxed_own _ _ (fun pre => Value.int .i64 (prevIn a 0 pre))) _)) (Own.from (boxed_own _ _ _) _)) (ownFrom_below (Nat.le_refl _) (by omega)))
    (fun _ _ _ _ _ hs _ _ => hs)
    ⟨⟨⟨y1, y2⟩, bT⟩, hB1⟩
    (fun x a' W => ∃ Bx, w1.heap.size + 1 < Bx ∧ W.heap[Bx]? = some (.cells #[.int .i64 x.f0, .int .i64 x.f1, .int .i64 x.f2] 28 (0, 0)) ∧ a' = { tmps := #[.string s, .int .i64 a, undef, .pointer (some ⟨w.heap.size, 0, none⟩), .int .i64 0, .int .i64 0, .int .i64 0, .pointer (some ⟨w1.heap.size, 0, none⟩), .pointer (some ⟨Bx, 0, none⟩), .string s, .int .i64 a, .int .i64 0, .int .i64 0, .bool false, undef, .string s, .func (.func 30) #[] #[.pointer (some ⟨w1.heap.size + 1, 0, none⟩)], .agg #[.int .i64 x.f0, .int .i64 x.f1, .int .i64 x.f2], undef, undef, undef, undef, undef, undef, undef], defers := [] })
    (fun x a' _ X Y row hs hg hr => by
      obtain ⟨Bx, e1, e2, e3⟩ := hs
      refine ⟨Bx, e1, (hg.block Bx (Array.getElem?_eq_some_iff.1 e2).1 (fun e => ?_)).trans e2, e3⟩
      obtain ⟨_, o, ho, hoc⟩ := hr Bx e.symm
      rw [e2] at ho
      cases ho
      cases hoc)
    ?assign ?body ?done ?stop
  case assign =>
    rintro l pre x W K ⟨⟨⟨z1, z2⟩, zT⟩, hB2⟩ hK
    gi_wp2
    exact hK _ _ ((KeepsOthers.alloc _ _).from _) (Kc.none (World.grownBy_alloc W _ none) zT.lt (by simp) (fun _ e => by cases e)) ⟨⟨⟨z1.alloc _, z2.alloc _⟩, zT.alloc _⟩, hB2.alloc hB2.size _⟩ ⟨W.heap.size, zT.lt, blk_new _ _, rfl⟩
  case body =>
    rintro l pre x a' W hl ⟨r, hr⟩ ⟨⟨⟨z1, z2⟩, zT⟩, hB2⟩ ⟨Bx, hBx, bX, rfl⟩ hlt
    have c1 := z1.cell
    have k0 : W.cell? ⟨Bx, 0, none⟩ = some (.int .i64 x.f0) := (blk_cell bX 0).trans rfl
    have c2 := z2.cell
    have f2 := z2.frozen
    gi_wp2
    · have hxa : x.f0 < a := by assumption
      refine ⟨(KeepsOthers.setCell _ _ _).from _, kcSet W _ rfl zT.lt (by omega) (by have := z2.lt; omega), ⟨⟨z1.other (by omega) _, ?_⟩, zT.other (by omega) _⟩, hB2.setCell (p := ⟨w1.heap.size, 0, none⟩) (by simp; omega) _⟩
      rw [prevIn_snoc, if_pos hxa]
      exact z2.set _
    · have hxa : a ≤ x.f0 := by assumption
      refine ⟨KeepsFrom.refl _ _, Kc.refl (fun _ e => by cases e), ⟨⟨z1, ?_⟩, zT⟩, hB2⟩
      rw [prevIn_snoc, if_neg (by omega)]
      exact z2
  case done =>
    rintro D ys W hD rfl ⟨⟨⟨z1, z2⟩, zT⟩, hB2⟩ hK
    have c2 := z2.cell
    go_wp2
    refine ⟨by simp, .inl ⟨_, _, rfl, run_takeDeferred hK, ?_⟩⟩
    exact ⟨_, results_tmp2 rfl _ _ _, rfl, hB2.trans (belowK_b (w := w) (Nat.le_refl _) W D _ _ (by omega) hK rfl rfl)⟩
  case stop =>
    rintro D c pre W hD hpre h hK
    exact h.elim

set_option maxHeartbeats 1000000 in
theorem cluster_Prev.calls (k : Nat) (a0 : ByteArray) (a1 : Int) (r1 : Int) (r2 : Int) (w : World) (h : cluster_Prev.f k a0 a1 = some (r1, r2)) :
    Calls Try.prog 16 #[.string a0, .int .i64 a1] w fun e w' => e = .returned (.tuple #[.int .i64 r1, .int .i64 r2]) ∧ Below w.heap.size w w' := by
  obtain ⟨rfl, rfl⟩ : (prevOf a0 a1).1 = r1 ∧ (prevOf a0 a1).2 = r2 := by
    have : prevOf a0 a1 = (r1, r2) := Option.some.inj h
    rw [this]; exact ⟨rfl, rfl⟩
  clear h
  by_cases hw : placeOf a0 a1 = 0
  · have e : prevOf a0 a1 = (prevIn a1 0 (clus a0), 0) := by unfold prevOf; rw [if_neg (by simp [hw])]
    rw [e]
    exact prev_in a0 a1 hw w
  · have HE := Aside0.mk (show prevOf a0 a1 = (0, placeOf a0 a1) by unfold prevOf; rw [if_pos hw])
    have b0 : (placeOf a0 a1 != 0) = true := by simp [hw]
    go_enter Try.func16, Try.ntmps16
    go_wp2_with (go_at_call 27; refine (place_calls a0 a1 _).mono ?_; rintro e w1 ⟨rfl, hb⟩; have hB := (((Below.refl _ w).alloc (Nat.le_refl _) (.cells #[.int .i64 a1] 3)).trans (hb.mono (by simp))); clear hb)
    go_ret2
    exact ⟨by rw [HE.out]; rfl, hB⟩
end Go.Proofs.Ytgohmckmekijiaa.PAll
