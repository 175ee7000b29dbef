/- Sections: quireref05.Check, where all numbers may be. -/
import Derived.Test.YthpmchbbfbbakaaS4a
namespace Go.Proofs.Ythpmchbbfbbakaa.Sec
open Go.RowKit Go.Proofs.YthpmchbbfbbakaaW.PrintWords Go.Proofs.YthpmchbbfbbakaaW.PrintLast Go.Proofs.YthpmchbbfbbakaaW.PrintMore
open PSectionTells
set_option linter.unusedVariables false
set_option linter.unusedSimpArgs false

theorem long3 (s : Sec) (h : 100 < s.h0.size ∨ 100 < s.f0.size ∨ 100 < s.h1.size ∨ 100 < s.f1.size ∨ 100 < s.h2.size ∨ 100 < s.f2.size) : textsOf s.texts = 3 := by
  have : longL s.texts = true := by
    unfold Sec.texts
    simp only [longL]
    by_cases e0 : 100 < s.h0.size
    · rw [if_pos e0]
    rw [if_neg e0]
    by_cases e1 : 100 < s.h1.size
    · rw [if_pos e1]
    rw [if_neg e1]
    by_cases e2 : 100 < s.h2.size
    · rw [if_pos e2]
    rw [if_neg e2]
    by_cases e3 : 100 < s.f0.size
    · rw [if_pos e3]
    rw [if_neg e3]
    by_cases e4 : 100 < s.f1.size
    · rw [if_pos e4]
    rw [if_neg e4, if_pos (by omega)]
  unfold textsOf
  rw [if_pos this]
theorem bad4 (s : Sec) (hl : longL s.texts = false) (h : ¬ (okB s.h0 = true ∧ okB s.f0 = true ∧ okB s.h1 = true ∧ okB s.f1 = true ∧ okB s.h2 = true ∧ okB s.f2 = true)) : textsOf s.texts = 4 := by
  have : badL s.texts = true := by
    unfold Sec.texts
    simp only [badL]
    by_cases e0 : okB s.h0 = true
    · by_cases e1 : okB s.h1 = true
      · by_cases e2 : okB s.h2 = true
        · by_cases e3 : okB s.f0 = true
          · by_cases e4 : okB s.f1 = true
            · by_cases e5 : okB s.f2 = true
              · exact absurd ⟨e0, e3, e1, e4, e2, e5⟩ h
              · simp [e0, e1, e2, e3, e4, e5]
            · simp [e0, e1, e2, e3, e4]
          · simp [e0, e1, e2, e3]
        · simp [e0, e1, e2]
      · simp [e0, e1]
    · simp [e0]
  unfold textsOf
  rw [if_neg (by rw [hl]; decide), if_pos this]
theorem bad_no (s : Sec) (hl : longL s.texts = false) (e0 : okB s.h0 = true) (e1 : okB s.f0 = true) (e2 : okB s.h1 = true) (e3 : okB s.f1 = true) (e4 : okB s.h2 = true) (e5 : okB s.f2 = true) : textsOf s.texts = 0 := by
  have : badL s.texts = false := by
    unfold Sec.texts
    simp [badL, e0, e1, e2, e3, e4, e5]
  unfold textsOf
  rw [if_neg (by rw [hl]; decide), if_neg (by rw [this]; decide)]
theorem drawnN {W w : World} {b : Nat} {n : Nat} (h : Below b W w) : Below b W (w.drewN n) := pw_below_drewN h n
theorem long_no (s : Sec) (z0 : s.h0.size ≤ 100) (z1 : s.f0.size ≤ 100) (z2 : s.h1.size ≤ 100) (z3 : s.f1.size ≤ 100) (z4 : s.h2.size ≤ 100) (z5 : s.f2.size ≤ 100) : longL s.texts = false := by
  unfold Sec.texts
  simp only [longL]
  rw [if_neg (by omega), if_neg (by omega), if_neg (by omega), if_neg (by omega), if_neg (by omega), if_neg (by omega)]

set_option maxRecDepth 100000 in
set_option maxHeartbeats 8000000 in
theorem rcheck_a (s : Sec) (hl : Long s) (ha : Args s) (t1 : wideOf s < 10) (W : World) : Calls Try.prog 18 #[s.v] W fun e W' => e = .returned (.int .i64 (chk s)) ∧ Below W.heap.size W W' := by
  have hchk : chk s = tail s := by rw [chk_eq, if_pos hl, if_pos ha]
  have l_top : decide (s.top < 0) = false := decide_eq_false (by unfold Long at hl; unfold Args at ha; omega)
  have g_top : decide (4095 < s.top) = false := decide_eq_false (by unfold Long at hl; unfold Args at ha; omega)
  have l_bottom : decide (s.bottom < 0) = false := decide_eq_false (by unfold Long at hl; unfold Args at ha; omega)
  have g_bottom : decide (4095 < s.bottom) = false := decide_eq_false (by unfold Long at hl; unfold Args at ha; omega)
  have l_inner : decide (s.inner < 0) = false := decide_eq_false (by unfold Long at hl; unfold Args at ha; omega)
  have g_inner : decide (4095 < s.inner) = false := decide_eq_false (by unfold Long at hl; unfold Args at ha; omega)
  have l_outer : decide (s.outer < 0) = false := decide_eq_false (by unfold Long at hl; unfold Args at ha; omega)
  have g_outer : decide (4095 < s.outer) = false := decide_eq_false (by unfold Long at hl; unfold Args at ha; omega)
  have l_gap : decide (s.gap < 0) = false := decide_eq_false (by unfold Long at hl; unfold Args at ha; omega)
  have g_gap : decide (4095 < s.gap) = false := decide_eq_false (by unfold Long at hl; unfold Args at ha; omega)
  have l_w : decide (s.w < 1) = false := decide_eq_false (by unfold Long at hl; unfold Args at ha; omega)
  have g_w : decide (4095 < s.w) = false := decide_eq_false (by unfold Long at hl; unfold Args at ha; omega)
  have l_h : decide (s.h < 1) = false := decide_eq_false (by unfold Long at hl; unfold Args at ha; omega)
  have g_h : decide (4095 < s.h) = false := decide_eq_false (by unfold Long at hl; unfold Args at ha; omega)
  have l_cols : decide (s.cols < 1) = false := decide_eq_false (by unfold Long at hl; unfold Args at ha; omega)
  have g_cols : decide (8 < s.cols) = false := decide_eq_false (by unfold Long at hl; unfold Args at ha; omega)
  have l_start : decide (s.start < 0) = false := decide_eq_false (by unfold Long at hl; unfold Args at ha; omega)
  have g_start : decide (2 < s.start) = false := decide_eq_false (by unfold Long at hl; unfold Args at ha; omega)
  have l_balance : decide (s.balance < 0) = false := decide_eq_false (by unfold Long at hl; unfold Args at ha; omega)
  have g_balance : decide (1 < s.balance) = false := decide_eq_false (by unfold Long at hl; unfold Args at ha; omega)
  have l_mirror : decide (s.mirror < 0) = false := decide_eq_false (by unfold Long at hl; unfold Args at ha; omega)
  have g_mirror : decide (1 < s.mirror) = false := decide_eq_false (by unfold Long at hl; unfold Args at ha; omega)
  have d1 : decide (wrap64 (wrap64 (wrap64 (s.w - s.inner) - s.outer) - wrap64 (wrap64 (s.cols - 1) * s.gap)) < wrap64 (10 * s.cols)) = true := decide_eq_true ((wide_iff hl ha).1 t1)
  have HF : Aside0 (chk s = 5) := ⟨by rw [hchk]; exact if_pos (.inl t1)⟩
  clear hl ha t1 hchk
  dsimp only [Sec.v, Sec.cs]
  go_enter Try.func18, Try.ntmps18
  go_wp2
  have hB1 : Below W.heap.size W ((W.alloc (.cells s.cs 24)).alloc (.cells #[.int .i64 s.top, .int .i64 s.bottom, .int .i64 s.inner, .int .i64 s.outer, .int .i64 s.gap] 3)) := ((Below.refl _ W).alloc (Nat.le_refl _) _).alloc (by simp) _
  have hS := blk_alloc (blk_new W (.cells s.cs 24)) (.cells #[.int .i64 s.top, .int .i64 s.bottom, .int .i64 s.inner, .int .i64 s.outer, .int .i64 s.gap] 3)
  have hR := blk_new (W.alloc (.cells s.cs 24)) (.cells #[.int .i64 s.top, .int .i64 s.bottom, .int .i64 s.inner, .int .i64 s.outer, .int .i64 s.gap] 3)
  obtain ⟨W0, hW0⟩ : ∃ W0, ((W.alloc (.cells s.cs 24)).alloc (.cells #[.int .i64 s.top, .int .i64 s.bottom, .int .i64 s.inner, .int .i64 s.outer, .int .i64 s.gap] 3)) = W0 := ⟨_, rfl⟩
  rw [hW0] at hB1 hS hR
  have hGoal := hW0
  simp only [Sec.cs] at hGoal
  rw [hGoal]
  clear hW0 hGoal
  simp only [World.size_alloc] at hR
  have r0 := blk_cell hR 0
  have r1 := blk_cell hR 1
  have r2 := blk_cell hR 2
  have r3 := blk_cell hR 3
  have r4 := blk_cell hR 4
  have HS := Aside0.mk hS
  have HB := Aside0.mk hB1
  obtain ⟨a0, a1, a2, a3, a4, a5, a6, a7, a8, a9, a10, a11, a12, a13, a14, a15, a16⟩ := sec_cells hS
  clear hR hS hB1
  simp only [List.getElem?_toArray, List.getElem?_cons_zero, List.getElem?_cons_succ] at r0 r1 r2 r3 r4
  refine wp_loop_rounds 6 ?_
  repeat any_goals (rw [rounds_succ]; go_wp2_with (go_at_call 33; refine (rhigh_calls s _).mono ?_; rintro e w2 ⟨rfl, hb⟩; have hS3 := Aside0.mk (blk_below HS.out hb); have hB3 := Aside0.mk (HB.out.trans (hb.mono HB.out.size)); clear hb; obtain ⟨c0, c1, c2, c3, c4, c5, c6, c7, c8, c9, c10, c11, c12, c13, c14, c15, c16⟩ := sec_cells hS3.out))
  go_ret
  exact ⟨by show Ending.returned (.int .i64 5) = _; rw [HF.out], HB.out⟩

set_option maxRecDepth 100000 in
set_option maxHeartbeats 8000000 in
theorem rcheck_b (s : Sec) (hl : Long s) (ha : Args s) (t1 : ¬ wideOf s < 10) (t2 : highOf s < 20) (W : World) : Calls Try.prog 18 #[s.v] W fun e W' => e = .returned (.int .i64 (chk s)) ∧ Below W.heap.size W W' := by
  have hchk : chk s = tail s := by rw [chk_eq, if_pos hl, if_pos ha]
  have l_top : decide (s.top < 0) = false := decide_eq_false (by unfold Long at hl; unfold Args at ha; omega)
  have g_top : decide (4095 < s.top) = false := decide_eq_false (by unfold Long at hl; unfold Args at ha; omega)
  have l_bottom : decide (s.bottom < 0) = false := decide_eq_false (by unfold Long at hl; unfold Args at ha; omega)
  have g_bottom : decide (4095 < s.bottom) = false := decide_eq_false (by unfold Long at hl; unfold Args at ha; omega)
  have l_inner : decide (s.inner < 0) = false := decide_eq_false (by unfold Long at hl; unfold Args at ha; omega)
  have g_inner : decide (4095 < s.inner) = false := decide_eq_false (by unfold Long at hl; unfold Args at ha; omega)
  have l_outer : decide (s.outer < 0) = false := decide_eq_false (by unfold Long at hl; unfold Args at ha; omega)
  have g_outer : decide (4095 < s.outer) = false := decide_eq_false (by unfold Long at hl; unfold Args at ha; omega)
  have l_gap : decide (s.gap < 0) = false := decide_eq_false (by unfold Long at hl; unfold Args at ha; omega)
  have g_gap : decide (4095 < s.gap) = false := decide_eq_false (by unfold Long at hl; unfold Args at ha; omega)
  have l_w : decide (s.w < 1) = false := decide_eq_false (by unfold Long at hl; unfold Args at ha; omega)
  have g_w : decide (4095 < s.w) = false := decide_eq_false (by unfold Long at hl; unfold Args at ha; omega)
  have l_h : decide (s.h < 1) = false := decide_eq_false (by unfold Long at hl; unfold Args at ha; omega)
  have g_h : decide (4095 < s.h) = false := decide_eq_false (by unfold Long at hl; unfold Args at ha; omega)
  have l_cols : decide (s.cols < 1) = false := decide_eq_false (by unfold Long at hl; unfold Args at ha; omega)
  have g_cols : decide (8 < s.cols) = false := decide_eq_false (by unfold Long at hl; unfold Args at ha; omega)
  have l_start : decide (s.start < 0) = false := decide_eq_false (by unfold Long at hl; unfold Args at ha; omega)
  have g_start : decide (2 < s.start) = false := decide_eq_false (by unfold Long at hl; unfold Args at ha; omega)
  have l_balance : decide (s.balance < 0) = false := decide_eq_false (by unfold Long at hl; unfold Args at ha; omega)
  have g_balance : decide (1 < s.balance) = false := decide_eq_false (by unfold Long at hl; unfold Args at ha; omega)
  have l_mirror : decide (s.mirror < 0) = false := decide_eq_false (by unfold Long at hl; unfold Args at ha; omega)
  have g_mirror : decide (1 < s.mirror) = false := decide_eq_false (by unfold Long at hl; unfold Args at ha; omega)
  have d1 : decide (wrap64 (wrap64 (wrap64 (s.w - s.inner) - s.outer) - wrap64 (wrap64 (s.cols - 1) * s.gap)) < wrap64 (10 * s.cols)) = false := decide_eq_false (fun q => t1 ((wide_iff hl ha).2 q))
  have d2 : decide (highOf s < 20) = true := decide_eq_true t2
  have HF : Aside0 (chk s = 5) := ⟨by rw [hchk]; exact if_pos (.inr t2)⟩
  clear hl ha t1 t2 hchk
  dsimp only [Sec.v, Sec.cs]
  go_enter Try.func18, Try.ntmps18
  go_wp2
  have hB1 : Below W.heap.size W ((W.alloc (.cells s.cs 24)).alloc (.cells #[.int .i64 s.top, .int .i64 s.bottom, .int .i64 s.inner, .int .i64 s.outer, .int .i64 s.gap] 3)) := ((Below.refl _ W).alloc (Nat.le_refl _) _).alloc (by simp) _
  have hS := blk_alloc (blk_new W (.cells s.cs 24)) (.cells #[.int .i64 s.top, .int .i64 s.bottom, .int .i64 s.inner, .int .i64 s.outer, .int .i64 s.gap] 3)
  have hR := blk_new (W.alloc (.cells s.cs 24)) (.cells #[.int .i64 s.top, .int .i64 s.bottom, .int .i64 s.inner, .int .i64 s.outer, .int .i64 s.gap] 3)
  obtain ⟨W0, hW0⟩ : ∃ W0, ((W.alloc (.cells s.cs 24)).alloc (.cells #[.int .i64 s.top, .int .i64 s.bottom, .int .i64 s.inner, .int .i64 s.outer, .int .i64 s.gap] 3)) = W0 := ⟨_, rfl⟩
  rw [hW0] at hB1 hS hR
  have hGoal := hW0
  simp only [Sec.cs] at hGoal
  rw [hGoal]
  clear hW0 hGoal
  simp only [World.size_alloc] at hR
  have r0 := blk_cell hR 0
  have r1 := blk_cell hR 1
  have r2 := blk_cell hR 2
  have r3 := blk_cell hR 3
  have r4 := blk_cell hR 4
  have HS := Aside0.mk hS
  have HB := Aside0.mk hB1
  obtain ⟨a0, a1, a2, a3, a4, a5, a6, a7, a8, a9, a10, a11, a12, a13, a14, a15, a16⟩ := sec_cells hS
  clear hR hS hB1
  simp only [List.getElem?_toArray, List.getElem?_cons_zero, List.getElem?_cons_succ] at r0 r1 r2 r3 r4
  refine wp_loop_rounds 6 ?_
  repeat any_goals (rw [rounds_succ]; go_wp2_with (go_at_call 33; refine (rhigh_calls s _).mono ?_; rintro e w2 ⟨rfl, hb⟩; have hS3 := Aside0.mk (blk_below HS.out hb); have hB3 := Aside0.mk (HB.out.trans (hb.mono HB.out.size)); clear hb; obtain ⟨c0, c1, c2, c3, c4, c5, c6, c7, c8, c9, c10, c11, c12, c13, c14, c15, c16⟩ := sec_cells hS3.out))
  go_ret
  exact ⟨by show Ending.returned (.int .i64 5) = _; rw [HF.out], hB3.out⟩

set_option maxRecDepth 100000 in
set_option maxHeartbeats 8000000 in
theorem rcheck_c (s : Sec) (hl : Long s) (ha : Args s) (t1 : ¬ wideOf s < 10) (t2 : ¬ highOf s < 20) (W : World) : Calls Try.prog 18 #[s.v] W fun e W' => e = .returned (.int .i64 (chk s)) ∧ Below W.heap.size W W' := by
  have hchk : chk s = tail s := by rw [chk_eq, if_pos hl, if_pos ha]
  have l_top : decide (s.top < 0) = false := decide_eq_false (by unfold Long at hl; unfold Args at ha; omega)
  have g_top : decide (4095 < s.top) = false := decide_eq_false (by unfold Long at hl; unfold Args at ha; omega)
  have l_bottom : decide (s.bottom < 0) = false := decide_eq_false (by unfold Long at hl; unfold Args at ha; omega)
  have g_bottom : decide (4095 < s.bottom) = false := decide_eq_false (by unfold Long at hl; unfold Args at ha; omega)
  have l_inner : decide (s.inner < 0) = false := decide_eq_false (by unfold Long at hl; unfold Args at ha; omega)
  have g_inner : decide (4095 < s.inner) = false := decide_eq_false (by unfold Long at hl; unfold Args at ha; omega)
  have l_outer : decide (s.outer < 0) = false := decide_eq_false (by unfold Long at hl; unfold Args at ha; omega)
  have g_outer : decide (4095 < s.outer) = false := decide_eq_false (by unfold Long at hl; unfold Args at ha; omega)
  have l_gap : decide (s.gap < 0) = false := decide_eq_false (by unfold Long at hl; unfold Args at ha; omega)
  have g_gap : decide (4095 < s.gap) = false := decide_eq_false (by unfold Long at hl; unfold Args at ha; omega)
  have l_w : decide (s.w < 1) = false := decide_eq_false (by unfold Long at hl; unfold Args at ha; omega)
  have g_w : decide (4095 < s.w) = false := decide_eq_false (by unfold Long at hl; unfold Args at ha; omega)
  have l_h : decide (s.h < 1) = false := decide_eq_false (by unfold Long at hl; unfold Args at ha; omega)
  have g_h : decide (4095 < s.h) = false := decide_eq_false (by unfold Long at hl; unfold Args at ha; omega)
  have l_cols : decide (s.cols < 1) = false := decide_eq_false (by unfold Long at hl; unfold Args at ha; omega)
  have g_cols : decide (8 < s.cols) = false := decide_eq_false (by unfold Long at hl; unfold Args at ha; omega)
  have l_start : decide (s.start < 0) = false := decide_eq_false (by unfold Long at hl; unfold Args at ha; omega)
  have g_start : decide (2 < s.start) = false := decide_eq_false (by unfold Long at hl; unfold Args at ha; omega)
  have l_balance : decide (s.balance < 0) = false := decide_eq_false (by unfold Long at hl; unfold Args at ha; omega)
  have g_balance : decide (1 < s.balance) = false := decide_eq_false (by unfold Long at hl; unfold Args at ha; omega)
  have l_mirror : decide (s.mirror < 0) = false := decide_eq_false (by unfold Long at hl; unfold Args at ha; omega)
  have g_mirror : decide (1 < s.mirror) = false := decide_eq_false (by unfold Long at hl; unfold Args at ha; omega)
  have d1 : decide (wrap64 (wrap64 (wrap64 (s.w - s.inner) - s.outer) - wrap64 (wrap64 (s.cols - 1) * s.gap)) < wrap64 (10 * s.cols)) = false := decide_eq_false (fun q => t1 ((wide_iff hl ha).2 q))
  have d2 : decide (highOf s < 20) = false := decide_eq_false t2
  have HF : Aside0 (chk s = textsOf s.texts) := ⟨by rw [hchk]; exact if_neg (fun q => q.elim t1 t2)⟩
  clear hl ha t1 t2 hchk
  dsimp only [Sec.v, Sec.cs]
  go_enter Try.func18, Try.ntmps18
  go_wp2
  have hB1 : Below W.heap.size W ((W.alloc (.cells s.cs 24)).alloc (.cells #[.int .i64 s.top, .int .i64 s.bottom, .int .i64 s.inner, .int .i64 s.outer, .int .i64 s.gap] 3)) := ((Below.refl _ W).alloc (Nat.le_refl _) _).alloc (by simp) _
  have hS := blk_alloc (blk_new W (.cells s.cs 24)) (.cells #[.int .i64 s.top, .int .i64 s.bottom, .int .i64 s.inner, .int .i64 s.outer, .int .i64 s.gap] 3)
  have hR := blk_new (W.alloc (.cells s.cs 24)) (.cells #[.int .i64 s.top, .int .i64 s.bottom, .int .i64 s.inner, .int .i64 s.outer, .int .i64 s.gap] 3)
  obtain ⟨W0, hW0⟩ : ∃ W0, ((W.alloc (.cells s.cs 24)).alloc (.cells #[.int .i64 s.top, .int .i64 s.bottom, .int .i64 s.inner, .int .i64 s.outer, .int .i64 s.gap] 3)) = W0 := ⟨_, rfl⟩
  rw [hW0] at hB1 hS hR
  have hGoal := hW0
  simp only [Sec.cs] at hGoal
  rw [hGoal]
  clear hW0 hGoal
  simp only [World.size_alloc] at hR
  have r0 := blk_cell hR 0
  have r1 := blk_cell hR 1
  have r2 := blk_cell hR 2
  have r3 := blk_cell hR 3
  have r4 := blk_cell hR 4
  have HS := Aside0.mk hS
  have HB := Aside0.mk hB1
  obtain ⟨a0, a1, a2, a3, a4, a5, a6, a7, a8, a9, a10, a11, a12, a13, a14, a15, a16⟩ := sec_cells hS
  clear hR hS hB1
  simp only [List.getElem?_toArray, List.getElem?_cons_zero, List.getElem?_cons_succ] at r0 r1 r2 r3 r4
  refine wp_loop_rounds 6 ?_
  repeat any_goals (rw [rounds_succ]; go_wp2_with (go_at_call 33; refine (rhigh_calls s _).mono ?_; rintro e w2 ⟨rfl, hb⟩; have hS3 := Aside0.mk (blk_below HS.out hb); have hB3 := Aside0.mk (HB.out.trans (hb.mono HB.out.size)); clear hb; obtain ⟨c0, c1, c2, c3, c4, c5, c6, c7, c8, c9, c10, c11, c12, c13, c14, c15, c16⟩ := sec_cells hS3.out))
  clear a0 a1 a2 a3 a4 a5 a6 a7 a8 a9 a10 a11 a12 a13 a14 a15 a16 r0 r1 r2 r3 r4
  have dg : ∀ b : ByteArray, 100 < b.size → Aside0 (decide (100 < (b.size : Int)) = true) := fun b h => ⟨decide_eq_true (by omega)⟩
  have dl : ∀ b : ByteArray, ¬ 100 < b.size → Aside0 (decide (100 < (b.size : Int)) = false) := fun b h => ⟨decide_eq_false (by omega)⟩
  by_cases p0 : 100 < s.h0.size
  · have HT : Aside0 (textsOf s.texts = 3) := ⟨long3 s (by omega)⟩
    have x0 := (dg s.h0 p0).out
    clear dg dl p0
    as_aux_lemma =>
      refine wp_loop_rounds 4 ?_
      repeat any_goals (rw [rounds_succ]; go_wp2)
      go_ret
      exact ⟨by show Ending.returned (.int .i64 3) = _; rw [HF.out, HT.out], hB3.out⟩
  by_cases p1 : 100 < s.f0.size
  · have HT : Aside0 (textsOf s.texts = 3) := ⟨long3 s (by omega)⟩
    have x0 := (dl s.h0 p0).out
    have x1 := (dg s.f0 p1).out
    clear dg dl p0 p1
    as_aux_lemma =>
      refine wp_loop_rounds 4 ?_
      repeat any_goals (rw [rounds_succ]; go_wp2)
      go_ret
      exact ⟨by show Ending.returned (.int .i64 3) = _; rw [HF.out, HT.out], hB3.out⟩
  by_cases p2 : 100 < s.h1.size
  · have HT : Aside0 (textsOf s.texts = 3) := ⟨long3 s (by omega)⟩
    have x0 := (dl s.h0 p0).out
    have x1 := (dl s.f0 p1).out
    have x2 := (dg s.h1 p2).out
    clear dg dl p0 p1 p2
    as_aux_lemma =>
      refine wp_loop_rounds 4 ?_
      repeat any_goals (rw [rounds_succ]; go_wp2)
      go_ret
      exact ⟨by show Ending.returned (.int .i64 3) = _; rw [HF.out, HT.out], hB3.out⟩
  by_cases p3 : 100 < s.f1.size
  · have HT : Aside0 (textsOf s.texts = 3) := ⟨long3 s (by omega)⟩
    have x0 := (dl s.h0 p0).out
    have x1 := (dl s.f0 p1).out
    have x2 := (dl s.h1 p2).out
    have x3 := (dg s.f1 p3).out
    clear dg dl p0 p1 p2 p3
    as_aux_lemma =>
      refine wp_loop_rounds 4 ?_
      repeat any_goals (rw [rounds_succ]; go_wp2)
      go_ret
      exact ⟨by show Ending.returned (.int .i64 3) = _; rw [HF.out, HT.out], hB3.out⟩
  by_cases p4 : 100 < s.h2.size
  · have HT : Aside0 (textsOf s.texts = 3) := ⟨long3 s (by omega)⟩
    have x0 := (dl s.h0 p0).out
    have x1 := (dl s.f0 p1).out
    have x2 := (dl s.h1 p2).out
    have x3 := (dl s.f1 p3).out
    have x4 := (dg s.h2 p4).out
    clear dg dl p0 p1 p2 p3 p4
    as_aux_lemma =>
      refine wp_loop_rounds 4 ?_
      repeat any_goals (rw [rounds_succ]; go_wp2)
      go_ret
      exact ⟨by show Ending.returned (.int .i64 3) = _; rw [HF.out, HT.out], hB3.out⟩
  by_cases p5 : 100 < s.f2.size
  · have HT : Aside0 (textsOf s.texts = 3) := ⟨long3 s (by omega)⟩
    have x0 := (dl s.h0 p0).out
    have x1 := (dl s.f0 p1).out
    have x2 := (dl s.h1 p2).out
    have x3 := (dl s.f1 p3).out
    have x4 := (dl s.h2 p4).out
    have x5 := (dg s.f2 p5).out
    clear dg dl p0 p1 p2 p3 p4 p5
    as_aux_lemma =>
      refine wp_loop_rounds 4 ?_
      repeat any_goals (rw [rounds_succ]; go_wp2)
      go_ret
      exact ⟨by show Ending.returned (.int .i64 3) = _; rw [HF.out, HT.out], hB3.out⟩
  have x0 := (dl s.h0 p0).out
  have x1 := (dl s.f0 p1).out
  have x2 := (dl s.h1 p2).out
  have x3 := (dl s.f1 p3).out
  have x4 := (dl s.h2 p4).out
  have x5 := (dl s.f2 p5).out
  have z0 : Aside0 (s.h0.size ≤ 100) := ⟨by omega⟩
  have z1 : Aside0 (s.f0.size ≤ 100) := ⟨by omega⟩
  have z2 : Aside0 (s.h1.size ≤ 100) := ⟨by omega⟩
  have z3 : Aside0 (s.f1.size ≤ 100) := ⟨by omega⟩
  have z4 : Aside0 (s.h2.size ≤ 100) := ⟨by omega⟩
  have z5 : Aside0 (s.f2.size ≤ 100) := ⟨by omega⟩
  have HL : Aside0 (longL s.texts = false) := ⟨long_no s z0.out z1.out z2.out z3.out z4.out z5.out⟩
  clear dg dl p0 p1 p2 p3 p4 p5
  refine wp_loop_rounds 4 ?_
  repeat any_goals (rw [rounds_succ]; go_wp2)
  by_cases q0 : okB s.h0 = true
  case neg =>
    have y0 : okB s.h0 = false := Bool.eq_false_iff.mpr q0
    have HT : Aside0 (textsOf s.texts = 4) := ⟨bad4 s HL.out (fun h => q0 (by obtain ⟨h0, h1, h2, h3, h4, h5⟩ := h; assumption))⟩
    clear q0
    as_aux_lemma =>
      refine wp_loop_rounds 4 ?_
      repeat any_goals (rw [rounds_succ]; go_wp2_with (go_at_call 34; refine (bytes_calls _ (by first | exact z0.out | exact z1.out | exact z2.out | exact z3.out | exact z4.out | exact z5.out) _).mono ?_; rintro e w4 ⟨rfl, ⟨nd, rfl⟩⟩))
      go_ret
      exact ⟨by show Ending.returned (.int .i64 4) = _; rw [HF.out, HT.out], by have := hB3.out; exact drawnN this⟩
  by_cases q1 : okB s.f0 = true
  case neg =>
    have y1 : okB s.f0 = false := Bool.eq_false_iff.mpr q1
    have HT : Aside0 (textsOf s.texts = 4) := ⟨bad4 s HL.out (fun h => q1 (by obtain ⟨h0, h1, h2, h3, h4, h5⟩ := h; assumption))⟩
    clear q1
    as_aux_lemma =>
      refine wp_loop_rounds 4 ?_
      repeat any_goals (rw [rounds_succ]; go_wp2_with (go_at_call 34; refine (bytes_calls _ (by first | exact z0.out | exact z1.out | exact z2.out | exact z3.out | exact z4.out | exact z5.out) _).mono ?_; rintro e w4 ⟨rfl, ⟨nd, rfl⟩⟩))
      go_ret
      exact ⟨by show Ending.returned (.int .i64 4) = _; rw [HF.out, HT.out], by have := hB3.out; exact drawnN this⟩
  by_cases q2 : okB s.h1 = true
  case neg =>
    have y2 : okB s.h1 = false := Bool.eq_false_iff.mpr q2
    have HT : Aside0 (textsOf s.texts = 4) := ⟨bad4 s HL.out (fun h => q2 (by obtain ⟨h0, h1, h2, h3, h4, h5⟩ := h; assumption))⟩
    clear q2
    as_aux_lemma =>
      refine wp_loop_rounds 4 ?_
      repeat any_goals (rw [rounds_succ]; go_wp2_with (go_at_call 34; refine (bytes_calls _ (by first | exact z0.out | exact z1.out | exact z2.out | exact z3.out | exact z4.out | exact z5.out) _).mono ?_; rintro e w4 ⟨rfl, ⟨nd, rfl⟩⟩))
      go_ret
      exact ⟨by show Ending.returned (.int .i64 4) = _; rw [HF.out, HT.out], by have := hB3.out; exact drawnN this⟩
  by_cases q3 : okB s.f1 = true
  case neg =>
    have y3 : okB s.f1 = false := Bool.eq_false_iff.mpr q3
    have HT : Aside0 (textsOf s.texts = 4) := ⟨bad4 s HL.out (fun h => q3 (by obtain ⟨h0, h1, h2, h3, h4, h5⟩ := h; assumption))⟩
    clear q3
    as_aux_lemma =>
      refine wp_loop_rounds 4 ?_
      repeat any_goals (rw [rounds_succ]; go_wp2_with (go_at_call 34; refine (bytes_calls _ (by first | exact z0.out | exact z1.out | exact z2.out | exact z3.out | exact z4.out | exact z5.out) _).mono ?_; rintro e w4 ⟨rfl, ⟨nd, rfl⟩⟩))
      go_ret
      exact ⟨by show Ending.returned (.int .i64 4) = _; rw [HF.out, HT.out], by have := hB3.out; exact drawnN this⟩
  by_cases q4 : okB s.h2 = true
  case neg =>
    have y4 : okB s.h2 = false := Bool.eq_false_iff.mpr q4
    have HT : Aside0 (textsOf s.texts = 4) := ⟨bad4 s HL.out (fun h => q4 (by obtain ⟨h0, h1, h2, h3, h4, h5⟩ := h; assumption))⟩
    clear q4
    as_aux_lemma =>
      refine wp_loop_rounds 4 ?_
      repeat any_goals (rw [rounds_succ]; go_wp2_with (go_at_call 34; refine (bytes_calls _ (by first | exact z0.out | exact z1.out | exact z2.out | exact z3.out | exact z4.out | exact z5.out) _).mono ?_; rintro e w4 ⟨rfl, ⟨nd, rfl⟩⟩))
      go_ret
      exact ⟨by show Ending.returned (.int .i64 4) = _; rw [HF.out, HT.out], by have := hB3.out; exact drawnN this⟩
  by_cases q5 : okB s.f2 = true
  case neg =>
    have y5 : okB s.f2 = false := Bool.eq_false_iff.mpr q5
    have HT : Aside0 (textsOf s.texts = 4) := ⟨bad4 s HL.out (fun h => q5 (by obtain ⟨h0, h1, h2, h3, h4, h5⟩ := h; assumption))⟩
    clear q5
    as_aux_lemma =>
      refine wp_loop_rounds 4 ?_
      repeat any_goals (rw [rounds_succ]; go_wp2_with (go_at_call 34; refine (bytes_calls _ (by first | exact z0.out | exact z1.out | exact z2.out | exact z3.out | exact z4.out | exact z5.out) _).mono ?_; rintro e w4 ⟨rfl, ⟨nd, rfl⟩⟩))
      go_ret
      exact ⟨by show Ending.returned (.int .i64 4) = _; rw [HF.out, HT.out], by have := hB3.out; exact drawnN this⟩
  have HT : Aside0 (textsOf s.texts = 0) := ⟨bad_no s HL.out q0 q1 q2 q3 q4 q5⟩
  as_aux_lemma =>
    refine wp_loop_rounds 4 ?_
    repeat any_goals (rw [rounds_succ]; go_wp2_with (go_at_call 34; refine (bytes_calls _ (by first | exact z0.out | exact z1.out | exact z2.out | exact z3.out | exact z4.out | exact z5.out) _).mono ?_; rintro e w4 ⟨rfl, ⟨nd, rfl⟩⟩))
    go_ret
    exact ⟨by show Ending.returned (.int .i64 0) = _; rw [HF.out, HT.out], by have := hB3.out; exact drawnN this⟩
end Go.Proofs.Ythpmchbbfbbakaa.Sec
