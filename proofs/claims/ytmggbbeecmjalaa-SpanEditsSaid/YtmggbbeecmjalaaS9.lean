/- The walk of Set over looks; no further condition. -/
import Derived.Test.YtmggbbeecmjalaaS8
namespace Go.Proofs.Ytmggbbeecmjalaa.P
open Go.RowKit Go.Proofs.YtmggbbeecmjalaaW.PrintWords Go.Proofs.YtmggbbeecmjalaaW.PrintLast Go.Proofs.YtmggbbeecmjalaaW.PrintMore
attribute [local go_sem] max2_int min2_int max_two min_two
set_option linter.unusedVariables false
set_option linter.unusedSimpArgs false

set_option maxHeartbeats 8000000 in
set_option maxRecDepth 100000 in
theorem set_calls {w : World} {g : Nat} {L : List S28} {K : S28} (h : St45 w g (rl L) K) (hl : L.length ≤ 50000) (x n : Int) (c : S28) :
    Calls Try.prog 23 #[.pointer (some ⟨g, 0, none⟩), .int .i64 x, .int .i64 n, .agg #[.int .i64 c.f0, .int .i64 c.f1, .int .i64 c.f2]] w fun e w' => e = .returned (.int .i64 (setE L x n c)) ∧ St45 w' g (rl (setL L x n c)) K ∧ w.grownBy w' (some g) := by
  have HS0 := Aside0.mk h
  clear h
  have hl2 : L.length ≤ 50000 := hl
  have hl : L.length ≤ 100000 := by omega
  by_cases hh : hold x n L.length = true
  · have HH := Aside0.mk hh
    by_cases hm : okC c = true
    · have HM := Aside0.mk hm
      have HV := Aside0.mk (of_decide_eq_true hh)
      have hw : wrap64 (x + n) = x + n := by have := HV.out; exact w64 _ (by omega)
      clear hh hm
      go_enter Try.func23, Try.ntmps23
      go_upto_region 7 with (first | ((with_reducible refine gate_dst (N := 7) rfl ?_); go_loud (refine box_event ?hg (N := 7) ?hd (cs := #[.int .i64 c.f0, .int .i64 c.f1, .int .i64 c.f2]) (t := 28) ?hr ?_; (case hd => rfl); (case hg => rfl); (case hr => first | (go_simp; done) | (go_simp; rfl)); intro gb0 hg0 w0 hx0 hb0; have HX0 := Aside0.mk hx0; have HB0 := Aside0.mk hb0; have hz0 := (blk_cell HX0.out 0).trans rfl; have hz1 := (blk_cell HX0.out 1).trans rfl; have hz2 := (blk_cell HX0.out 2).trans rfl; clear hx0 hb0 hg0)) | (go_at_call 31; go_loud (refine (none_calls (HS0.out.below HB0.out)).mono ?_; rintro e w1 ⟨rfl, rfl⟩; skip)) | (go_at_call 40; go_loud (refine (holds_calls (HS0.out.below HB0.out) hl x n).mono ?_; rintro e w1 ⟨rfl, hb1⟩; have HB0 := Aside0.mk (HB0.out.trans (hb1.mono HB0.out.size)); have HX0 := Aside0.mk (blk_below HX0.out hb1); have hz0 := (blk_cell HX0.out 0).trans rfl; have hz1 := (blk_cell HX0.out 1).trans rfl; have hz2 := (blk_cell HX0.out 2).trans rfl; clear hb1; rw [HH.out])) | (go_at_call 13; go_loud (refine (may_c c _).mono ?_; rintro e w1 ⟨rfl, hb1⟩; have HB0 := Aside0.mk (HB0.out.trans (hb1.mono HB0.out.size)); have HX0 := Aside0.mk (blk_below HX0.out hb1); have hz0 := (blk_cell HX0.out 0).trans rfl; have hz1 := (blk_cell HX0.out 1).trans rfl; have hz2 := (blk_cell HX0.out 2).trans rfl; clear hb1; rw [HM.out])))
      go_cut [9] (fun v9 wx => Aside0 (Kd.R k60 60 wx w.heap.size (fun _ => True) v9 (rl (clip L 0 x.toNat ++ List.replicate n.toNat c))) ∧ Aside0 (Below w.heap.size w wx))
      case first =>
        go_region_with (first | (go_at_call 39; go_loud (refine (part_c (by exact HS0.out.below (by repeat (first | exact HB0.out | exact HB2.out | apply below_alloc | apply pw_below_drewN | apply below_drew))) hl 0 x.toNat (by omega) (by have := HV.out; omega) 0 x rfl (by have := HV.out; omega)).mono ?_; rintro e w2 ⟨v2, rfl, hv2, hb2⟩; have HX2 := Aside0.mk (blk_below (by first | exact HX0.out | exact blk_alloc HX0.out _) hb2); have HB2 := Aside0.mk (Below.trans (a := w) (by repeat (first | exact HB0.out | exact HB2.out | apply below_alloc | apply pw_below_drewN | apply below_drew)) (hb2.mono (by exact Below.size (by repeat (first | exact HB0.out | exact HB2.out | apply below_alloc | apply pw_below_drewN | apply below_drew))))); have HLT := Aside0.mk (R60_lt hv2); have HGE := Aside0.mk (R60_ge hv2); have HV2 := Aside0.mk (Kd.R_lower hv2 (Below.size (by repeat (first | exact HB0.out | exact HB2.out | apply below_alloc | apply pw_below_drewN | apply below_drew)))); have HBP := Aside0.mk hb2; have hz0 := (blk_cell HX2.out 0).trans rfl; have hz1 := (blk_cell HX2.out 1).trans rfl; have hz2 := (blk_cell HX2.out 2).trans rfl; clear hv2 hb2)) | (go_at_call 30; go_loud (refine (join_lit (w := w) (clip L 0 x.toNat) _ n.toNat c n (by have := HV.out; omega) (by repeat (first | exact HB0.out | exact HB2.out | apply below_alloc | apply pw_below_drewN | apply below_drew)) (by first | exact Kd.R_alloc (by exact HV2.out) _ | exact HV2.out) (fun k hk => by first | exact Nat.ne_of_lt (HLT.out k hk) | exact Nat.ne_of_gt (Nat.lt_of_lt_of_le (blk_lt (blk_new _ _)) (by exact HGE.out k hk))) (by first | exact blk_new _ _ | exact blk_below (by exact blk_new _ _) HBP.out) (by have := HV.out; have := clip_len L 0 x.toNat (by omega); omega)).mono ?_; rintro e w3 ⟨v3, rfl, hv3, hb3, _⟩; have HV3 := Aside0.mk hv3; have HB3 := Aside0.mk hb3; clear hv3 hb3)))
        all_goals (go_wp2; go_meet; exact ⟨HV3, HB3⟩)
      case rest =>
        obtain ⟨HVc, HBc⟩ := hcut
        go_wp2_with (first | (go_at_call 24; go_loud (refine (len_calls (HS0.out.below HBc.out) hl).mono ?_; rintro e w4 ⟨rfl, hb4⟩; have HB4 := Aside0.mk (HBc.out.trans (hb4.mono HBc.out.size)); have HV4 := Aside0.mk (Kd.R_below HVc.out hb4); clear hb4)) | (go_at_call 39; go_loud (refine (part_c (HS0.out.below HB4.out) hl (x + n).toNat L.length (by have := HV.out; omega) (by omega) _ _ (by have := HV.out; omega) rfl).mono ?_; rintro e w5 ⟨v5, rfl, hv5, hb5⟩; have HB5 := Aside0.mk (HB4.out.trans (hb5.mono HB4.out.size)); have HLT := Aside0.mk (R60_lt HV4.out); have HV4 := Aside0.mk (Kd.R_below HV4.out hb5); obtain ⟨A5, k5, rfl⟩ := Kd.R_slice hv5; have HV5 := Aside0.mk hv5; clear hv5 hb5)) | (go_at_call 30; go_loud (refine (join_part (w := w) (clip L 0 x.toNat ++ List.replicate n.toNat c) (clip L (x + n).toNat L.length) _ HB5.out HV4.out HLT.out HV5.out (by have := HV.out; have := clip_len L 0 x.toNat (by omega); have := clip_len L (x + n).toNat L.length (by omega); simp only [List.length_append, List.length_replicate]; omega)).mono ?_; rintro e w6 ⟨v6, rfl, hv6, hb6, _⟩; obtain ⟨A6, k6, rfl⟩ := Kd.R_slice hv6; have HV6 := Aside0.mk hv6; have HB6 := Aside0.mk hb6; have HS6 := Aside0.mk (HS0.out.below hb6); obtain ⟨AS6, kS6, _, _, _, hgS6⟩ := HS6.out.cells; have cs6 : World.cell? w6 ⟨g, 1, none⟩ = some (.slice AS6 (rl L).length kS6) := (blk_cell hgS6 1).trans rfl; have fs6 := blk_frozen hgS6 1; clear hv6 hb6 hgS6)))
        go_ret
        have hE : setE L x n c = 0 := by unfold setE; rw [if_pos HH.out, if_pos HM.out]
        have hL : setL L x n c = clip L 0 x.toNat ++ List.replicate n.toNat c ++ clip L (x + n).toNat L.length := by unfold setL; rw [if_pos hE, clip_zero, clip_end]
        exact ⟨by show Ending.returned (.int .i64 0) = _; rw [hE], by have h6 := HV6.out; rw [List.append_assoc] at h6; rw [hL, List.append_assoc]; exact HS6.out.store (Kd.R_lower h6 (Nat.zero_le _)), gb_set (gb_below HB6.out) 1 _⟩
    · have HM := Aside0.mk (Bool.eq_false_iff.mpr hm)
      clear hh hm
      as_aux_lemma =>
        go_enter Try.func23, Try.ntmps23
        go_wp2_with (first | ((with_reducible refine gate_dst (N := 7) rfl ?_); go_loud (refine box_event ?hg (N := 7) ?hd (cs := #[.int .i64 c.f0, .int .i64 c.f1, .int .i64 c.f2]) (t := 28) ?hr ?_; (case hd => rfl); (case hg => rfl); (case hr => first | (go_simp; done) | (go_simp; rfl)); intro gb0 hg0 w0 hx0 hb0; have HX0 := Aside0.mk hx0; have HB0 := Aside0.mk hb0; have hz0 := (blk_cell HX0.out 0).trans rfl; have hz1 := (blk_cell HX0.out 1).trans rfl; have hz2 := (blk_cell HX0.out 2).trans rfl; clear hx0 hb0 hg0)) | (go_at_call 31; go_loud (refine (none_calls (HS0.out.below HB0.out)).mono ?_; rintro e w1 ⟨rfl, rfl⟩; skip)) | (go_at_call 40; go_loud (refine (holds_calls (HS0.out.below HB0.out) hl x n).mono ?_; rintro e w1 ⟨rfl, hb1⟩; have HB0 := Aside0.mk (HB0.out.trans (hb1.mono HB0.out.size)); have HX0 := Aside0.mk (blk_below HX0.out hb1); have hz0 := (blk_cell HX0.out 0).trans rfl; have hz1 := (blk_cell HX0.out 1).trans rfl; have hz2 := (blk_cell HX0.out 2).trans rfl; clear hb1; rw [HH.out])) | (go_at_call 13; go_loud (refine (may_c c _).mono ?_; rintro e w1 ⟨rfl, hb1⟩; have HB0 := Aside0.mk (HB0.out.trans (hb1.mono HB0.out.size)); have HX0 := Aside0.mk (blk_below HX0.out hb1); have hz0 := (blk_cell HX0.out 0).trans rfl; have hz1 := (blk_cell HX0.out 1).trans rfl; have hz2 := (blk_cell HX0.out 2).trans rfl; clear hb1; rw [HM.out])))
        go_ret
        exact ⟨by show Ending.returned (.int .i64 2) = _; unfold setE; rw [if_pos HH.out, if_neg (by rw [HM.out]; decide)], by
          have : setL L x n c = L := by unfold setL; rw [if_neg (by unfold setE; rw [if_pos HH.out, if_neg (by rw [HM.out]; decide)]; decide)]
          rw [this]; exact HS0.out.below HB0.out, gb_below HB0.out⟩
  · have HH := Aside0.mk (Bool.eq_false_iff.mpr hh)
    clear hh
    as_aux_lemma =>
      go_enter Try.func23, Try.ntmps23
      go_wp2_with (first | ((with_reducible refine gate_dst (N := 7) rfl ?_); go_loud (refine box_event ?hg (N := 7) ?hd (cs := #[.int .i64 c.f0, .int .i64 c.f1, .int .i64 c.f2]) (t := 28) ?hr ?_; (case hd => rfl); (case hg => rfl); (case hr => first | (go_simp; done) | (go_simp; rfl)); intro gb0 hg0 w0 hx0 hb0; have HX0 := Aside0.mk hx0; have HB0 := Aside0.mk hb0; have hz0 := (blk_cell HX0.out 0).trans rfl; have hz1 := (blk_cell HX0.out 1).trans rfl; have hz2 := (blk_cell HX0.out 2).trans rfl; clear hx0 hb0 hg0)) | (go_at_call 31; go_loud (refine (none_calls (HS0.out.below HB0.out)).mono ?_; rintro e w1 ⟨rfl, rfl⟩; skip)) | (go_at_call 40; go_loud (refine (holds_calls (HS0.out.below HB0.out) hl x n).mono ?_; rintro e w1 ⟨rfl, hb1⟩; have HB0 := Aside0.mk (HB0.out.trans (hb1.mono HB0.out.size)); have HX0 := Aside0.mk (blk_below HX0.out hb1); have hz0 := (blk_cell HX0.out 0).trans rfl; have hz1 := (blk_cell HX0.out 1).trans rfl; have hz2 := (blk_cell HX0.out 2).trans rfl; clear hb1; rw [HH.out])))
      go_ret
      exact ⟨by show Ending.returned (.int .i64 5) = _; unfold setE; rw [if_neg (by rw [HH.out]; decide)], by
        have : setL L x n c = L := by unfold setL; rw [if_neg (by unfold setE; rw [if_neg (by rw [HH.out]; decide)]; decide)]
        rw [this]; exact HS0.out.below HB0.out, gb_below HB0.out⟩
end Go.Proofs.Ytmggbbeecmjalaa.P
