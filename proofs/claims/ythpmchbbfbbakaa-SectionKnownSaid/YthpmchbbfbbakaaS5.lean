/- Sections: quireref05.Check answers chk: for every section. -/
import Derived.Test.YthpmchbbfbbakaaS4
namespace Go.Proofs.Ythpmchbbfbbakaa.Sec
open Go.RowKit Go.Proofs.YthpmchbbfbbakaaW.PrintWords Go.Proofs.YthpmchbbfbbakaaW.PrintLast Go.Proofs.YthpmchbbfbbakaaW.PrintMore
open PSectionTells
set_option linter.unusedVariables false
set_option linter.unusedSimpArgs false

theorem chk5 (s : Sec) (h : ¬ Long s) : chk s = 5 := by rw [chk_eq, if_neg h]
theorem chk2 (s : Sec) (h : Long s) (h2 : ¬ Args s) : chk s = 2 := by rw [chk_eq, if_pos h, if_neg h2]

set_option maxRecDepth 100000 in
set_option maxHeartbeats 8000000 in
theorem rcheck_d (s : Sec) (hno : Aside0 (¬ (Long s ∧ Args s))) (W : World) : Calls Try.prog 18 #[s.v] W fun e W' => e = .returned (.int .i64 (chk s)) ∧ Below W.heap.size W W' := by
  dsimp only [Sec.v, Sec.cs]
  go_enter Try.func18, Try.ntmps18
  go_wp2
  have hB1 : Below W.heap.size W ((W.alloc (.cells s.cs 24)).alloc (.cells #[.int .i64 s.top, .int .i64 s.bottom, .int .i64 s.inner, .int .i64 s.outer, .int .i64 s.gap] 3)) := ((Below.refl _ W).alloc (Nat.le_refl _) _).alloc (by simp) _
  have hS := blk_alloc (blk_new W (.cells s.cs 24)) (.cells #[.int .i64 s.top, .int .i64 s.bottom, .int .i64 s.inner, .int .i64 s.outer, .int .i64 s.gap] 3)
  have hR := blk_new (W.alloc (.cells s.cs 24)) (.cells #[.int .i64 s.top, .int .i64 s.bottom, .int .i64 s.inner, .int .i64 s.outer, .int .i64 s.gap] 3)
  obtain ⟨W0, hW0⟩ : ∃ W0, ((W.alloc (.cells s.cs 24)).alloc (.cells #[.int .i64 s.top, .int .i64 s.bottom, .int .i64 s.inner, .int .i64 s.outer, .int .i64 s.gap] 3)) = W0 := ⟨_, rfl⟩
  rw [hW0] at hB1 hS hR
  have hGoal := hW0
  simp only [Sec.cs] at hGoal
  rw [hGoal]
  clear hW0 hGoal
  simp only [World.size_alloc] at hR
  have r0 := blk_cell hR 0
  have r1 := blk_cell hR 1
  have r2 := blk_cell hR 2
  have r3 := blk_cell hR 3
  have r4 := blk_cell hR 4
  have HS := Aside0.mk hS
  have HB := Aside0.mk hB1
  obtain ⟨a0, a1, a2, a3, a4, a5, a6, a7, a8, a9, a10, a11, a12, a13, a14, a15, a16⟩ := sec_cells hS
  clear hR hS hB1
  simp only [List.getElem?_toArray, List.getElem?_cons_zero, List.getElem?_cons_succ] at r0 r1 r2 r3 r4
  refine wp_loop_rounds 6 ?_
  repeat any_goals (rw [rounds_succ]; go_wp2_with (go_at_call 33; refine (rhigh_calls s _).mono ?_; exact fun _ _ _ => (hno.out ⟨by unfold Long; omega, by unfold Args; omega⟩).elim))
  all_goals (first
    | (exfalso; exact hno.out ⟨by unfold Long; omega, by unfold Args; omega⟩)
    | (have HF : Aside0 (chk s = 5) := ⟨chk5 s (by unfold Long; omega)⟩
       go_ret
       exact ⟨by show Ending.returned (.int .i64 5) = _; rw [HF.out], HB.out⟩)
    | (have HF : Aside0 (chk s = 2) := ⟨chk2 s (by unfold Long; omega) (by unfold Args; omega)⟩
       go_ret
       exact ⟨by show Ending.returned (.int .i64 2) = _; rw [HF.out], HB.out⟩))

theorem rcheck_calls (s : Sec) (W : World) : Calls Try.prog 18 #[s.v] W fun e W' => e = .returned (.int .i64 (chk s)) ∧ Below W.heap.size W W' := by
  by_cases h : Long s ∧ Args s
  · by_cases t1 : wideOf s < 10
    · exact rcheck_a s h.1 h.2 t1 W
    · by_cases t2 : highOf s < 20
      · exact rcheck_b s h.1 h.2 t1 t2 W
      · exact rcheck_c s h.1 h.2 t1 t2 W
  · exact rcheck_d s ⟨h⟩ W
end Go.Proofs.Ythpmchbbfbbakaa.Sec
