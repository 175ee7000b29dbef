/- Sections: Begin and Variant. -/
import Derived.Test.YthpmchbbfbbakaaS6
namespace Go.Proofs.Ythpmchbbfbbakaa.Sec
open Go.RowKit Go.Proofs.YthpmchbbfbbakaaW.PrintWords Go.Proofs.YthpmchbbfbbakaaW.PrintLast Go.Proofs.YthpmchbbfbbakaaW.PrintMore
open PSectionTells
set_option linter.unusedVariables false
set_option linter.unusedSimpArgs false

set_option maxHeartbeats 2000000 in
theorem begin_calls (s : Sec) (n : Int) (W : World) : Calls Try.prog 9 #[s.v, .int .i64 n] W fun e W' => e = .returned (.tuple #[.int .i64 (if pageOf s n 0 ≠ 0 then 0 else beginOf s n), .int .i64 (pageOf s n 0)]) ∧ Below W.heap.size W W' := by
  have hB := fun (w1 : World) (hb : Below (W.alloc (.cells s.cs 24)).heap.size (W.alloc (.cells s.cs 24)) w1) => (((Below.refl _ W).alloc (Nat.le_refl _) (.cells s.cs 24)).trans (hb.mono (by simp)))
  have hN := blk_new W (.cells s.cs 24)
  dsimp only [Sec.v]
  by_cases h : pageOf s n 0 = 0
  · have b0 : (pageOf s n 0 != 0) = false := by rw [h]; rfl
    rw [if_neg (fun q => q h)]
    have H0 := Aside0.mk h
    clear h
    have HN := Aside0.mk hN
    clear hN
    go_enter Try.func9, Try.ntmps9
    go_wp2_with (go_at_call 27; refine (page_calls s n 0 _).mono ?_; rintro e w1 ⟨rfl, hb⟩; obtain ⟨c0, c1, c2, c3, c4, c5, c6, c7, c8, c9, c10, c11, c12, c13, c14, c15, c16⟩ := sec_cells (blk_below HN.out hb))
    all_goals go_ret2
    all_goals refine ⟨?_, hB _ hb⟩
    all_goals rw [H0.out]
    all_goals (unfold beginOf; simp_all)
  · have b0 : (pageOf s n 0 != 0) = true := by simp [h]
    rw [if_pos h]
    clear h hN
    go_enter Try.func9, Try.ntmps9
    go_wp2_with (go_at_call 27; refine (page_calls s n 0 _).mono ?_; rintro e w1 ⟨rfl, hb⟩)
    go_ret2
    exact ⟨rfl, hB _ hb⟩
def variantOf (s : Sec) (n : Int) (first : Bool) : Int := if first = true ∧ (s.h0.toList ≠ [] ∨ s.f0.toList ≠ []) then 0 else if Int.tmod n 2 = 1 then 1 else 2
theorem variant_of (s : Sec) (n : Int) (first : Bool) : ∃ b0 b1 m : Bool, s.h0.toList.isEmpty = b0 ∧ s.f0.toList.isEmpty = b1 ∧ (Int.tmod n 2 == 1) = m ∧ variantOf s n first = if first && (!b0 || !b1) then 0 else if m then 1 else 2 := by
  refine ⟨_, _, _, rfl, rfl, rfl, ?_⟩
  have key : (first && (!s.h0.toList.isEmpty || !s.f0.toList.isEmpty)) = true ↔ first = true ∧ (s.h0.toList ≠ [] ∨ s.f0.toList ≠ []) := by simp
  have key2 : (Int.tmod n 2 == 1) = true ↔ Int.tmod n 2 = 1 := by simp
  unfold variantOf
  simp only [key, key2]
set_option maxHeartbeats 2000000 in
theorem rvariant_calls (s : Sec) (n : Int) (first : Bool) (W : World) : Calls Try.prog 13 #[s.v, .int .i64 n, .bool first] W fun e W' => e = .returned (.int .i64 (variantOf s n first)) ∧ Below W.heap.size W W' := by
  dsimp only [Sec.v, Sec.cs]
  obtain ⟨b0, b1, m, e0, e1, e2, hv⟩ := variant_of s n first
  rw [hv]
  clear hv
  cases first <;> cases b0 <;> cases b1 <;> cases m <;> (go_enter Try.func13, Try.ntmps13; go_wp2)
  all_goals go_ret
  all_goals exact ⟨rfl, (Below.refl _ W).alloc (Nat.le_refl _) _⟩
set_option maxHeartbeats 4000000 in
theorem variant_calls (s : Sec) (n : Int) (first : Bool) (W : World) : Calls Try.prog 10 #[s.v, .int .i64 n, .bool first] W fun e W' => e = .returned (.tuple #[.int .i64 (if pageOf s n 1 ≠ 0 then 0 else variantOf s n first), .int .i64 (pageOf s n 1)]) ∧ Below W.heap.size W W' := by
  have hB := fun (w1 : World) (hb : Below (W.alloc (.cells s.cs 24)).heap.size (W.alloc (.cells s.cs 24)) w1) => (((Below.refl _ W).alloc (Nat.le_refl _) (.cells s.cs 24)).trans (hb.mono (by simp)))
  have hN := blk_new W (.cells s.cs 24)
  dsimp only [Sec.v]
  by_cases h : pageOf s n 1 = 0
  · have b0 : (pageOf s n 1 != 0) = false := by rw [h]; rfl
    rw [if_neg (fun q => q h)]
    have H0 := Aside0.mk h
    clear h
    have HN := Aside0.mk hN
    clear hN
    obtain ⟨b1, b2, m, e0, e1, e2, hv⟩ := variant_of s n first
    rw [hv, H0.out]
    clear hv
    cases first <;> cases b1 <;> cases b2 <;> cases m <;> (go_enter Try.func10, Try.ntmps10; go_wp2_with (go_at_call 27; refine (page_calls s n 1 _).mono ?_; rintro e w1 ⟨rfl, hb⟩; obtain ⟨c0, c1, c2, c3, c4, c5, c6, c7, c8, c9, c10, c11, c12, c13, c14, c15, c16⟩ := sec_cells (blk_below HN.out hb)))
    all_goals go_ret2
    all_goals exact ⟨rfl, hB _ hb⟩
  · have b0 : (pageOf s n 1 != 0) = true := by simp [h]
    rw [if_pos h]
    clear h hN
    go_enter Try.func10, Try.ntmps10
    go_wp2_with (go_at_call 27; refine (page_calls s n 1 _).mono ?_; rintro e w1 ⟨rfl, hb⟩)
    go_ret2
    exact ⟨rfl, hB _ hb⟩
end Go.Proofs.Ythpmchbbfbbakaa.Sec
