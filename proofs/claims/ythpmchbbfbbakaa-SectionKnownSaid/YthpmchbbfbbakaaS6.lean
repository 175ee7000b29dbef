/- Sections: pages; where a section begins; which variant a page has. -/
import Derived.Test.YthpmchbbfbbakaaS5
namespace Go.Proofs.Ythpmchbbfbbakaa.Sec
open Go.RowKit Go.Proofs.YthpmchbbfbbakaaW.PrintWords Go.Proofs.YthpmchbbfbbakaaW.PrintLast Go.Proofs.YthpmchbbfbbakaaW.PrintMore
open PSectionTells
set_option linter.unusedVariables false
set_option linter.unusedSimpArgs false

def pageOf (s : Sec) (n least : Int) : Int := if chk s ≠ 0 then chk s else if n < least ∨ 4096 < n then 5 else 0

set_option maxHeartbeats 2000000 in
theorem page_calls (s : Sec) (n least : Int) (W : World) : Calls Try.prog 27 #[s.v, .int .i64 n, .int .i64 least] W fun e W' => e = .returned (.int .i64 (pageOf s n least)) ∧ Below W.heap.size W W' := by
  have hB := fun (w1 : World) (hb : Below (W.alloc (.cells s.cs 24)).heap.size (W.alloc (.cells s.cs 24)) w1) => (((Below.refl _ W).alloc (Nat.le_refl _) (.cells s.cs 24)).trans (hb.mono (by simp)))
  dsimp only [Sec.v]
  by_cases h : chk s = 0
  · have b0 : (chk s != 0) = false := by rw [h]; rfl
    by_cases h1 : n < least
    · have HF : Aside0 (pageOf s n least = 5) := ⟨by unfold pageOf; rw [if_neg (fun q => q h), if_pos (.inl h1)]⟩
      have d1 : decide (n < least) = true := decide_eq_true h1
      clear h h1
      go_enter Try.func27, Try.ntmps27
      go_wp2_with (go_at_call 17; refine (check_calls s _).mono ?_; rintro e w1 ⟨rfl, hb⟩)
      go_ret
      exact ⟨by show Ending.returned (.int .i64 5) = _; rw [HF.out], hB _ hb⟩
    · have d1 : decide (n < least) = false := decide_eq_false h1
      by_cases h2 : 4096 < n
      · have HF : Aside0 (pageOf s n least = 5) := ⟨by unfold pageOf; rw [if_neg (fun q => q h), if_pos (.inr h2)]⟩
        have d2 : decide (4096 < n) = true := decide_eq_true h2
        clear h h1 h2
        go_enter Try.func27, Try.ntmps27
        go_wp2_with (go_at_call 17; refine (check_calls s _).mono ?_; rintro e w1 ⟨rfl, hb⟩)
        go_ret
        exact ⟨by show Ending.returned (.int .i64 5) = _; rw [HF.out], hB _ hb⟩
      · have HF : Aside0 (pageOf s n least = 0) := ⟨by unfold pageOf; rw [if_neg (fun q => q h), if_neg (fun q => q.elim h1 h2)]⟩
        have d2 : decide (4096 < n) = false := decide_eq_false h2
        clear h h1 h2
        go_enter Try.func27, Try.ntmps27
        go_wp2_with (go_at_call 17; refine (check_calls s _).mono ?_; rintro e w1 ⟨rfl, hb⟩)
        go_ret
        exact ⟨by show Ending.returned (.int .i64 0) = _; rw [HF.out], hB _ hb⟩
  · have b0 : (chk s != 0) = true := by simp [h]
    have HF : Aside0 (pageOf s n least = chk s) := ⟨by unfold pageOf; rw [if_pos h]⟩
    clear h
    go_enter Try.func27, Try.ntmps27
    go_wp2_with (go_at_call 17; refine (check_calls s _).mono ?_; rintro e w1 ⟨rfl, hb⟩)
    go_ret
    exact ⟨by show Ending.returned (.int .i64 (chk s)) = _; rw [HF.out], hB _ hb⟩
set_option maxHeartbeats 2000000 in
theorem rpage_calls (s : Sec) (n least : Int) (W : World) : Calls Try.prog 11 #[s.v, .int .i64 n, .int .i64 least] W fun e W' => e = .returned (.int .i64 (pageOf s n least)) ∧ Below W.heap.size W W' := by
  have hB := fun (w1 : World) (hb : Below (W.alloc (.cells s.cs 24)).heap.size (W.alloc (.cells s.cs 24)) w1) => (((Below.refl _ W).alloc (Nat.le_refl _) (.cells s.cs 24)).trans (hb.mono (by simp)))
  dsimp only [Sec.v]
  by_cases h : chk s = 0
  · have b0 : (chk s == 0) = true := beq_iff_eq.mpr h
    have H0 := Aside0.mk h
    by_cases h1 : n < least
    · have HF : Aside0 (pageOf s n least = 5) := ⟨by unfold pageOf; rw [if_neg (fun q => q h), if_pos (.inl h1)]⟩
      have d1 : decide (n < least) = true := decide_eq_true h1
      clear h h1
      go_enter Try.func11, Try.ntmps11
      go_wp2_with (go_at_call 18; refine (rcheck_calls s _).mono ?_; rintro e w1 ⟨rfl, hb⟩)
      go_ret
      exact ⟨by show Ending.returned (.int .i64 5) = _; rw [HF.out], hB _ hb⟩
    · have d1 : decide (n < least) = false := decide_eq_false h1
      by_cases h2 : 4096 < n
      · have HF : Aside0 (pageOf s n least = 5) := ⟨by unfold pageOf; rw [if_neg (fun q => q h), if_pos (.inr h2)]⟩
        have d2 : decide (4096 < n) = true := decide_eq_true h2
        clear h h1 h2
        go_enter Try.func11, Try.ntmps11
        go_wp2_with (go_at_call 18; refine (rcheck_calls s _).mono ?_; rintro e w1 ⟨rfl, hb⟩)
        go_ret
        exact ⟨by show Ending.returned (.int .i64 5) = _; rw [HF.out], hB _ hb⟩
      · have HF : Aside0 (pageOf s n least = 0) := ⟨by unfold pageOf; rw [if_neg (fun q => q h), if_neg (fun q => q.elim h1 h2)]⟩
        have d2 : decide (4096 < n) = false := decide_eq_false h2
        clear h h1 h2
        go_enter Try.func11, Try.ntmps11
        go_wp2_with (go_at_call 18; refine (rcheck_calls s _).mono ?_; rintro e w1 ⟨rfl, hb⟩)
        go_ret
        exact ⟨by show Ending.returned (.int .i64 (chk s)) = _; rw [HF.out, H0.out], hB _ hb⟩
  · have b0 : (chk s == 0) = false := beq_eq_false_iff_ne.mpr h
    have HF : Aside0 (pageOf s n least = chk s) := ⟨by unfold pageOf; rw [if_pos h]⟩
    clear h
    go_enter Try.func11, Try.ntmps11
    go_wp2_with (go_at_call 18; refine (rcheck_calls s _).mono ?_; rintro e w1 ⟨rfl, hb⟩)
    go_ret
    exact ⟨by show Ending.returned (.int .i64 (chk s)) = _; rw [HF.out], hB _ hb⟩
end Go.Proofs.Ythpmchbbfbbakaa.Sec
