/- The walk of the reference's New; no further condition. -/
import Derived.Test.YtmggbbeecmjalaaR0
import Derived.Deep.RegionLaw
namespace Go.Proofs.Ytmggbbeecmjalaa.P
open Go.RowKit Go.Proofs.YtmggbbeecmjalaaW.PrintWords Go.Proofs.YtmggbbeecmjalaaW.PrintLast Go.Proofs.YtmggbbeecmjalaaW.PrintMore
attribute [local go_sem] max2_int min2_int max_two min_two
set_option linter.unusedVariables false
set_option linter.unusedSimpArgs false


/-- what the reference's New answers -/
def RNewAns (x : Int) (c : S28) (B : Nat) (e : Ending) (w' : World) : Prop :=
  if newE x c = 0 then ∃ g, e = .returned (.tuple #[.pointer (some ⟨g, 0, none⟩), .int .i64 0]) ∧ B ≤ g ∧ St65 w' g (List.replicate x.toNat c) c
  else e = .returned (.tuple #[.pointer none, .int .i64 (newE x c)])
set_option maxHeartbeats 8000000 in
set_option maxRecDepth 100000 in
theorem rnew_calls (x : Int) (c : S28) (w : World) :
    Calls Try.prog 12 #[.int .i64 x, .agg #[.int .i64 c.f0, .int .i64 c.f1, .int .i64 c.f2]] w fun e w' => Below w.heap.size w w' ∧ RNewAns x c w.heap.size e w' := by
  by_cases hm : okC c = true
  · have HM := Aside0.mk hm
    by_cases h1 : x < 0
    · have d1 : decide (x < 0) = true := decide_eq_true h1
      have HE := Aside0.mk (show newE x c = 5 by unfold newE; rw [if_pos hm, if_pos h1])
      clear hm h1
      as_aux_lemma =>
        go_enter Try.func12, Try.ntmps12
        go_wp2_with (first | ((with_reducible refine gate_dst (N := 3) rfl ?_); go_loud (refine box_event ?hg (N := 3) ?hd (cs := #[.int .i64 c.f0, .int .i64 c.f1, .int .i64 c.f2]) (t := 28) ?hr ?_; (case hd => rfl); (case hg => rfl); (case hr => first | (go_simp; done) | (go_simp; rfl)); intro gb0 hg0 w0 hx0 hb0; have HX0 := Aside0.mk hx0; have HB0 := Aside0.mk hb0; have hz0 := (blk_cell HX0.out 0).trans rfl; have hz1 := (blk_cell HX0.out 1).trans rfl; have hz2 := (blk_cell HX0.out 2).trans rfl; clear hx0 hb0 hg0)) | (go_at_call 14; go_loud (refine (rmay_c c _).mono ?_; rintro e w1 ⟨rfl, hb1⟩; have HB0 := Aside0.mk (HB0.out.trans (hb1.mono HB0.out.size)); have HX0 := Aside0.mk (blk_below HX0.out hb1); have hz0 := (blk_cell HX0.out 0).trans rfl; have hz1 := (blk_cell HX0.out 1).trans rfl; have hz2 := (blk_cell HX0.out 2).trans rfl; clear hb1; rw [HM.out])))
        go_ret2
        exact ⟨HB0.out, by unfold RNewAns; rw [if_neg (by rw [HE.out]; decide), HE.out]; rfl⟩
    · have d1 : decide (x < 0) = false := decide_eq_false h1
      by_cases h2 : 4096 < x
      · have d2 : decide (4096 < x) = true := decide_eq_true h2
        have HE := Aside0.mk (show newE x c = 8 by unfold newE; rw [if_pos hm, if_neg h1, if_pos h2])
        clear hm h1 h2
        as_aux_lemma =>
          go_enter Try.func12, Try.ntmps12
          go_wp2_with (first | ((with_reducible refine gate_dst (N := 3) rfl ?_); go_loud (refine box_event ?hg (N := 3) ?hd (cs := #[.int .i64 c.f0, .int .i64 c.f1, .int .i64 c.f2]) (t := 28) ?hr ?_; (case hd => rfl); (case hg => rfl); (case hr => first | (go_simp; done) | (go_simp; rfl)); intro gb0 hg0 w0 hx0 hb0; have HX0 := Aside0.mk hx0; have HB0 := Aside0.mk hb0; have hz0 := (blk_cell HX0.out 0).trans rfl; have hz1 := (blk_cell HX0.out 1).trans rfl; have hz2 := (blk_cell HX0.out 2).trans rfl; clear hx0 hb0 hg0)) | (go_at_call 14; go_loud (refine (rmay_c c _).mono ?_; rintro e w1 ⟨rfl, hb1⟩; have HB0 := Aside0.mk (HB0.out.trans (hb1.mono HB0.out.size)); have HX0 := Aside0.mk (blk_below HX0.out hb1); have hz0 := (blk_cell HX0.out 0).trans rfl; have hz1 := (blk_cell HX0.out 1).trans rfl; have hz2 := (blk_cell HX0.out 2).trans rfl; clear hb1; rw [HM.out])))
          go_ret2
          exact ⟨HB0.out, by unfold RNewAns; rw [if_neg (by rw [HE.out]; decide), HE.out]; rfl⟩
      · have d2 : decide (4096 < x) = false := decide_eq_false h2
        have HE := Aside0.mk (show newE x c = 0 by unfold newE; rw [if_pos hm, if_neg h1, if_neg h2])
        have HV := Aside0.mk (show 0 ≤ x ∧ x ≤ 4096 by omega)
        clear hm h1 h2
        go_enter Try.func12, Try.ntmps12
        go_wp2_with (first | ((with_reducible refine gate_dst (N := 3) rfl ?_); go_loud (refine box_event ?hg (N := 3) ?hd (cs := #[.int .i64 c.f0, .int .i64 c.f1, .int .i64 c.f2]) (t := 28) ?hr ?_; (case hd => rfl); (case hg => rfl); (case hr => first | (go_simp; done) | (go_simp; rfl)); intro gb0 hg0 w0 hx0 hb0; have HX0 := Aside0.mk hx0; have HB0 := Aside0.mk hb0; have hz0 := (blk_cell HX0.out 0).trans rfl; have hz1 := (blk_cell HX0.out 1).trans rfl; have hz2 := (blk_cell HX0.out 2).trans rfl; clear hx0 hb0 hg0)) | (go_at_call 14; go_loud (refine (rmay_c c _).mono ?_; rintro e w1 ⟨rfl, hb1⟩; have HB0 := Aside0.mk (HB0.out.trans (hb1.mono HB0.out.size)); have HX0 := Aside0.mk (blk_below HX0.out hb1); have hz0 := (blk_cell HX0.out 0).trans rfl; have hz1 := (blk_cell HX0.out 1).trans rfl; have hz2 := (blk_cell HX0.out 2).trans rfl; clear hb1; rw [HM.out])) | ((with_reducible refine gate_dst (N := 17) rfl ?_); go_loud (refine box_event ?hg (N := 17) ?hd (cs := #[.slice none 0 0, .int .i64 c.f0, .int .i64 c.f1, .int .i64 c.f2]) (t := 65) ?hr ?_; (case hd => rfl); (case hg => rfl); (case hr => first | (go_simp; done) | (go_simp; rfl)); intro gb1 hg1 w1 hx1 hb1; have HGE := Aside0.mk (show w.heap.size ≤ gb1 from hg1 ▸ HB0.out.size); have HX1 := Aside0.mk hx1; have HB0 := Aside0.mk (HB0.out.trans (hb1.mono HB0.out.size)); have HX0 := Aside0.mk (blk_below HX0.out hb1); clear hx1 hb1 hg1)))
        go_loopw [7] (fun v7 wr => ∃ (y : Int) (i : Nat), v7 = .int .i64 y ∧ Aside0 (y = (i : Int)) ∧ Aside0 ((i : Int) ≤ x) ∧ Aside0 (wr.heap[gb0]? = some (.cells #[.int .i64 c.f0, .int .i64 c.f1, .int .i64 c.f2] 28 (0, 0))) ∧ Aside0 (∃ v, wr.heap[gb1]? = some (.cells #[v, .int .i64 c.f0, .int .i64 c.f1, .int .i64 c.f2] 65 (0, 0)) ∧ Kd.R k28 28 wr 0 (fun k => k ≠ gb0 ∧ w.heap.size ≤ k) v (List.replicate i c)) ∧ Aside0 (Below w.heap.size w wr)) (fun v7 _ => x.toNat - (intOf v7).toNat)
        case atStart => exact ⟨0, 0, rfl, ⟨rfl⟩, ⟨by have := HV.out; omega⟩, HX0, ⟨_, HX1.out, Kd.R_nil _ _ _ _ _⟩, HB0⟩
        case round =>
          clear HX0 HX1 HB0 hz0 hz1 hz2
          obtain ⟨y, i, rfl, hy, hi, HX0, HV1, HB⟩ := hrel
          obtain ⟨v, hx1, hv⟩ := HV1.out
          obtain ⟨Av, kv, rfl⟩ := Kd.R_slice hv
          rw [List.length_replicate] at hx1 hv
          by_cases hlt : (i : Int) < x
          · have d3 : decide (y < x) = true := decide_eq_true (by rw [hy.out]; exact hlt)
            have HX1 := Aside0.mk hx1
            have HR := Aside0.mk hv
            have HLEN := Aside0.mk (show ((List.replicate i c).length + 1) * 24 ≤ 140737488355328 by have := HV.out; simp; omega)
            have HNE := Aside0.mk (show some gb1 ≠ (Value.slice Av i kv).ownBlock from Kd.R_ne hv hx1 (by decide))
            have HN0 := Aside0.mk (show some gb0 ≠ (Value.slice Av i kv).ownBlock from fun q => (hv.1 gb0 q.symm).1 rfl)
            have HOWN := Aside0.mk (show ∀ k, (Value.slice Av i kv).ownBlock = some k → w.heap.size ≤ k from fun k hk => (hv.1 k hk).2)
            have hz0 := (blk_cell HX0.out 0).trans rfl
            have hz1 := (blk_cell HX0.out 1).trans rfl
            have hz2 := (blk_cell HX0.out 2).trans rfl
            have e0 := (blk_cell hx1 0).trans rfl
            have e0a := pw_cell_below (below_alloc (Below.refl _ wr) (.cells #[.int .i64 c.f0, .int .i64 c.f1, .int .i64 c.f2] 28)) e0
            have HLT := Aside0.mk hlt
            have HG01 := Aside0.mk (show gb0 ≠ gb1 from blk_ne HX0.out hx1 (by decide))
            clear hx1 hv hlt
            have hyw : wrap64 (y + 1) = y + 1 := by have := HV.out; have := hi.out; have := hy.out; exact w64 _ (by omega)
            go_wp2
            go_region_law (first | (refine Kd.R_append_step k28 (w0 := w) (W := wr.drew) 0 (by rfl) (.tmp 27) (.tmp 29) 57 28 (.agg #[(.int .i64 0), (.int .i64 0), (.int .i64 0)]) 24 rfl Try.underlying57 info28 rfl (by decide) (by decide) (.slice Av i kv) (List.replicate i c) c [.int .i64 c.f0, .int .i64 c.f1, .int .i64 c.f2] (fun k => k ≠ gb0 ∧ w.heap.size ≤ k) (fun _ => False) (by rfl) (by rfl) (k28_mkM _ _ _ c) (fun _ h => h.elim) (fun k hk => ⟨Nat.ne_of_gt (Nat.lt_of_lt_of_le (blk_lt HX0.out) hk), Nat.le_trans HB.out.size hk⟩) (by exact HR.out) (by exact (HB.out.drew).mono (Nat.zero_le _)) (Nat.zero_le _) HLEN.out ?_; intro v5 w5 hv5 hb5 hg5 hat5; rw [← List.replicate_succ'] at hv5; obtain ⟨A5, k5, rfl⟩ := Kd.R_slice hv5; rw [List.length_replicate] at hv5 ⊢; have HV5 := Aside0.mk hv5; have HX1 := Aside0.mk (blk_grown (by exact HX1.out) hg5 (by exact HNE.out)); have HX0 := Aside0.mk (blk_grown (by exact HX0.out) hg5 (by exact HN0.out)); have e1 := (blk_cell HX1.out 0).trans rfl; have fe1 := blk_frozen HX1.out 0; have HB5 := Aside0.mk (Below.grown (by exact HB.out.drew) hg5 (by exact HB.out.size) (by exact HOWN.out)); clear hv5 hb5 hg5 hat5))
            all_goals (go_wp2_with (fail); go_roundw; (case rel => exact ⟨_, i + 1, rfl, ⟨by rw [hyw, hy.out]; omega⟩, ⟨by have := HLT.out; omega⟩, ⟨by exact blk_far HX0.out (p := ⟨gb1, 0, none⟩) HG01.out _⟩, ⟨⟨_, by exact blk_set HX1.out 0 _, by exact Kd.R_set HV5.out HX1.out nt28_65 0 _⟩⟩, ⟨by first | exact below_set HB5.out HGE.out | exact below_drew (below_set HB5.out HGE.out)⟩⟩); (case measure => have h1 := HLT.out; have h2 := hy.out; simp [intOf, hyw]; omega))
          · have d3 : decide (y < x) = false := decide_eq_false (by rw [hy.out]; exact hlt)
            have hix : i = x.toNat := by have := hi.out; omega
            go_wp2
            go_ret2
            exact ⟨HB.out, by unfold RNewAns; rw [if_pos HE.out]; exact ⟨gb1, rfl, HGE.out, ⟨_, hx1, by rw [← hix]; exact Kd.R_mono hv (fun _ _ => trivial)⟩⟩⟩
  · have HM := Aside0.mk (Bool.eq_false_iff.mpr hm)
    have HE := Aside0.mk (show newE x c = 2 by unfold newE; rw [if_neg hm])
    clear hm
    as_aux_lemma =>
      go_enter Try.func12, Try.ntmps12
      go_wp2_with (first | ((with_reducible refine gate_dst (N := 3) rfl ?_); go_loud (refine box_event ?hg (N := 3) ?hd (cs := #[.int .i64 c.f0, .int .i64 c.f1, .int .i64 c.f2]) (t := 28) ?hr ?_; (case hd => rfl); (case hg => rfl); (case hr => first | (go_simp; done) | (go_simp; rfl)); intro gb0 hg0 w0 hx0 hb0; have HX0 := Aside0.mk hx0; have HB0 := Aside0.mk hb0; have hz0 := (blk_cell HX0.out 0).trans rfl; have hz1 := (blk_cell HX0.out 1).trans rfl; have hz2 := (blk_cell HX0.out 2).trans rfl; clear hx0 hb0 hg0)) | (go_at_call 14; go_loud (refine (rmay_c c _).mono ?_; rintro e w1 ⟨rfl, hb1⟩; have HB0 := Aside0.mk (HB0.out.trans (hb1.mono HB0.out.size)); have HX0 := Aside0.mk (blk_below HX0.out hb1); have hz0 := (blk_cell HX0.out 0).trans rfl; have hz1 := (blk_cell HX0.out 1).trans rfl; have hz2 := (blk_cell HX0.out 2).trans rfl; clear hb1; rw [HM.out])))
      go_ret2
      exact ⟨HB0.out, by unfold RNewAns; rw [if_neg (by rw [HE.out]; decide), HE.out]; rfl⟩
end Go.Proofs.Ytmggbbeecmjalaa.P
