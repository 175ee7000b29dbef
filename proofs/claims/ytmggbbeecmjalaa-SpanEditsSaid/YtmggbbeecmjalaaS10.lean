/- The walk of Insert over looks; no further condition. -/
import Derived.Test.YtmggbbeecmjalaaS9
import Derived.Test.YtmggbbeecmjalaaX0
namespace Go.Proofs.Ytmggbbeecmjalaa.P
open Go.RowKit Go.Proofs.YtmggbbeecmjalaaW.PrintWords Go.Proofs.YtmggbbeecmjalaaW.PrintLast Go.Proofs.YtmggbbeecmjalaaW.PrintMore
attribute [local go_sem] max2_int min2_int max_two min_two
set_option linter.unusedVariables false
set_option linter.unusedSimpArgs false

theorem i64_in (n : Int) (h : -9223372036854775808 ≤ n ∧ n ≤ 9223372036854775807) : IntKind.i64.wrap n = n := by
  simp only [IntKind.wrap, IntKind.bits, IntKind.signed]
  simp
  split <;> omega
set_option maxHeartbeats 8000000 in
set_option maxRecDepth 100000 in
theorem insert_calls {w : World} {g : Nat} {L : List S28} {K : S28} (h : St45 w g (rl L) K) (hl : L.length ≤ 50000) (x n : Int) :
    Calls Try.prog 21 #[.pointer (some ⟨g, 0, none⟩), .int .i64 x, .int .i64 n] w fun e w' => e = .returned (.int .i64 (insE L x n)) ∧ St45 w' g (rl (insL L K x n)) K ∧ w.grownBy w' (some g) := by
  have HS0 := Aside0.mk h
  have HB0 := Aside0.mk (Below.refl w.heap.size w)
  clear h
  have hl2 : L.length ≤ 50000 := hl
  have hl : L.length ≤ 100000 := by omega
  have hw : wrap64 (4096 - (L.length : Int)) = 4096 - (L.length : Int) := w64 _ (by omega)
  by_cases h1 : n < 0
  · have d1 : decide (n < 0) = true := decide_eq_true h1
    have HE := Aside0.mk (show insE L x n = 5 by unfold insE; rw [if_pos (by omega)])
    have HL := Aside0.mk (show insL L K x n = L by unfold insL; rw [HE.out]; rfl)
    clear h1
    as_aux_lemma =>
      go_enter Try.func21, Try.ntmps21
      go_wp2_with (first | (go_at_call 31; go_loud (refine (none_calls HS0.out).mono ?_; rintro e w1 ⟨rfl, q_⟩; replace q_ := q_.symm; subst q_)))
      go_ret
      exact ⟨by show Ending.returned (.int .i64 5) = _; rw [HE.out], by rw [HL.out]; exact HS0.out.below HB0.out, gb_below HB0.out⟩
  · have d1 : decide (n < 0) = false := decide_eq_false h1
    by_cases h2 : x < 0
    · have d2 : decide (x < 0) = true := decide_eq_true h2
      have HE := Aside0.mk (show insE L x n = 5 by unfold insE; rw [if_pos (by omega)])
      have HL := Aside0.mk (show insL L K x n = L by unfold insL; rw [HE.out]; rfl)
      clear h1 h2
      as_aux_lemma =>
        go_enter Try.func21, Try.ntmps21
        go_wp2_with (first | (go_at_call 31; go_loud (refine (none_calls HS0.out).mono ?_; rintro e w1 ⟨rfl, q_⟩; replace q_ := q_.symm; subst q_)))
        go_ret
        exact ⟨by show Ending.returned (.int .i64 5) = _; rw [HE.out], by rw [HL.out]; exact HS0.out.below HB0.out, gb_below HB0.out⟩
    · have d2 : decide (x < 0) = false := decide_eq_false h2
      by_cases h3 : (L.length : Int) < x
      · have d3 : decide ((L.length : Int) < x) = true := decide_eq_true h3
        have HE := Aside0.mk (show insE L x n = 5 by unfold insE; rw [if_pos (by omega)])
        have HL := Aside0.mk (show insL L K x n = L by unfold insL; rw [HE.out]; rfl)
        clear h1 h2 h3
        as_aux_lemma =>
          go_enter Try.func21, Try.ntmps21
          go_wp2_with (first | (go_at_call 31; go_loud (refine (none_calls (HS0.out.below HB0.out)).mono ?_; rintro e w1 ⟨rfl, q_⟩; replace q_ := q_.symm; subst q_)) | (go_at_call 24; go_loud (refine (len_calls (HS0.out.below HB0.out) hl).mono ?_; rintro e w1 ⟨rfl, hb1⟩; have HB0 := Aside0.mk (HB0.out.trans (hb1.mono HB0.out.size)); (try have HX0 := Aside0.mk (blk_below HX0.out hb1)); skip; obtain ⟨A, k, hk, hC, hR, hg⟩ := (HS0.out.below HB0.out).cells; have ck2 := (blk_cell hg 2).trans rfl; have ck3 := (blk_cell hg 3).trans rfl; have ck4 := (blk_cell hg 4).trans rfl; clear hk hC hR hg; clear hb1)))
          go_ret
          exact ⟨by show Ending.returned (.int .i64 5) = _; rw [HE.out], by rw [HL.out]; exact HS0.out.below HB0.out, gb_below HB0.out⟩
      · have d3 : decide ((L.length : Int) < x) = false := decide_eq_false h3
        by_cases h4 : 4096 - (L.length : Int) < n
        · have d4 : decide (4096 - (L.length : Int) < n) = true := decide_eq_true h4
          have HE := Aside0.mk (show insE L x n = 8 by unfold insE; rw [if_neg (by omega), if_pos h4])
          have HL := Aside0.mk (show insL L K x n = L by unfold insL; rw [HE.out]; rfl)
          clear h1 h2 h3 h4
          as_aux_lemma =>
            go_enter Try.func21, Try.ntmps21
            go_wp2_with (first | (go_at_call 31; go_loud (refine (none_calls (HS0.out.below HB0.out)).mono ?_; rintro e w1 ⟨rfl, q_⟩; replace q_ := q_.symm; subst q_)) | (go_at_call 24; go_loud (refine (len_calls (HS0.out.below HB0.out) hl).mono ?_; rintro e w1 ⟨rfl, hb1⟩; have HB0 := Aside0.mk (HB0.out.trans (hb1.mono HB0.out.size)); (try have HX0 := Aside0.mk (blk_below HX0.out hb1)); skip; obtain ⟨A, k, hk, hC, hR, hg⟩ := (HS0.out.below HB0.out).cells; have ck2 := (blk_cell hg 2).trans rfl; have ck3 := (blk_cell hg 3).trans rfl; have ck4 := (blk_cell hg 4).trans rfl; clear hk hC hR hg; clear hb1)))
            go_ret
            exact ⟨by show Ending.returned (.int .i64 8) = _; rw [HE.out], by rw [HL.out]; exact HS0.out.below HB0.out, gb_below HB0.out⟩
        · have d4 : decide (4096 - (L.length : Int) < n) = false := decide_eq_false h4
          have HV := Aside0.mk (show 0 ≤ x ∧ 0 ≤ n ∧ x ≤ (L.length : Int) ∧ n ≤ 4096 - (L.length : Int) by omega)
          have HE := Aside0.mk (show insE L x n = 0 by unfold insE; rw [if_neg (by omega), if_neg h4])
          have HL := Aside0.mk (show insL L K x n = clip L 0 x.toNat ++ List.replicate n.toNat (insC L K x) ++ clip L x.toNat L.length by unfold insL; rw [if_pos HE.out, clip_zero, clip_end])
          have hw1 : wrap64 (x - 1) = x - 1 := w64 _ (by omega)
          have hw2 : IntKind.i64.wrap (x - 1) = x - 1 := i64_in _ (by omega)
          clear h1 h2 h3 h4
          go_enter Try.func21, Try.ntmps21
          go_upto_if 37 with (first | (go_at_call 31; go_loud (refine (none_calls (HS0.out.below HB0.out)).mono ?_; rintro e w1 ⟨rfl, q_⟩; replace q_ := q_.symm; subst q_)) | (go_at_call 24; go_loud (refine (len_calls (HS0.out.below HB0.out) hl).mono ?_; rintro e w1 ⟨rfl, hb1⟩; have HB0 := Aside0.mk (HB0.out.trans (hb1.mono HB0.out.size)); (try have HX0 := Aside0.mk (blk_below HX0.out hb1)); skip; obtain ⟨A, k, hk, hC, hR, hg⟩ := (HS0.out.below HB0.out).cells; have ck2 := (blk_cell hg 2).trans rfl; have ck3 := (blk_cell hg 3).trans rfl; have ck4 := (blk_cell hg 4).trans rfl; clear hk hC hR hg; clear hb1)) | ((with_reducible refine gate_dst (N := 7) rfl ?_); go_loud (refine box_event ?hg (N := 7) ?hd (cs := #[.int .i64 0, .int .i64 0, .int .i64 0]) (t := 28) ?hr ?_; (case hd => rfl); (case hg => rfl); (case hr => first | (go_simp; done) | (go_simp; rfl)); intro gb0 hg0 w0 hx0 hb0; have HX0 := Aside0.mk hx0; have HGE := Aside0.mk (show w.heap.size ≤ gb0 from hg0 ▸ HB0.out.size); have HB0 := Aside0.mk (HB0.out.trans (hb0.mono HB0.out.size)); clear hx0 hb0 hg0)) | ((with_reducible refine gate_store (t := 28) (p := 7) rfl ?_); go_loud (refine store_event rfl 28 _ _ rfl gb0 #[.int .i64 K.f0, .int .i64 K.f1, .int .i64 K.f2] rfl rfl 28 #[.int .i64 0, .int .i64 0, .int .i64 0] HX0.out (size28 _ rfl) rfl (by first | rfl | decide | kernel_rfl) ?_; intro w1 x1 o1 s1; have HX0 := Aside0.mk x1; have HB0 := Aside0.mk (s1 _ _ HB0.out HGE.out); clear x1 o1 s1)))
          go_cut [] (fun wx => Aside0 (wx.heap[gb0]? = some (.cells #[.int .i64 (insC L K x).f0, .int .i64 (insC L K x).f1, .int .i64 (insC L K x).f2] 28 (0, 0))) ∧ Aside0 (Below w.heap.size w wx))
          case first =>
            by_cases hL : L.length = 0
            · have d5 : decide (0 < L.length) = false := decide_eq_false (by omega)
              have hC : insC L K x = K := by unfold insC; rw [if_pos hL]
              rw [d5]
              go_wp2
              go_meet
              exact ⟨⟨by rw [hC]; exact HX0.out⟩, HB0⟩
            · have d5 : decide (0 < L.length) = true := decide_eq_true (by omega)
              have HC := Aside0.mk (show insC L K x = rd_T28 L (max (x - 1) 0) by unfold insC; rw [if_neg hL])
              have hp : 0 < (rl L).length := by
                rcases snocs L with e | ⟨o, t, rfl⟩
                · subst e; simp at hL
                · obtain ⟨o', t', hr, _⟩ := rl_last o t
                  rw [hr]; simp
              obtain ⟨A, k, hk, hCC, hR, hg⟩ := (HS0.out.below HB0.out).cells
              have c1 : World.cell? _ ⟨g, 1, none⟩ = some (.slice A (rl L).length k) := (blk_cell hg 1).trans rfl
              obtain ⟨ad, e0, _⟩ := at_T60 hCC 0 (by omega) (by omega)
              cases e0
              have HCC := Aside0.mk hCC
              have HL0 := Aside0.mk hL
              clear hk hCC hR hg hp hL
              rw [d5]
              go_wp2
              by_cases h6 : x - 1 < 0
              · have d6 : decide (x - 1 < 0) = true := decide_eq_true h6
                go_region_with (first | (go_at_call 38; go_loud (refine (run_calls (by exact HS0.out.below (by repeat (first | exact HB0.out | exact HB2.out | apply below_alloc | apply pw_below_drewN | apply below_drew))) hl (0) (by have := HL0.out; omega) _ rfl).mono ?_; rintro e w2 ⟨i, rfl, hi, hri, hb2⟩; have HRI := Aside0.mk hri; have HK2 : w2.cell? ⟨g, 1, none⟩ = some (.slice (some ad) (rl L).length k) := pw_cell_below hb2 c1; obtain ⟨ad2, e2, q0, q1, q2, q3⟩ := at_T60 (Kd.C_below (by exact HCC.out) hb2) (i : Int) (Int.natCast_nonneg i) (Int.ofNat_lt.mpr hi); cases e2; rw [Int.toNat_natCast] at q1 q2 q3; have hi0 := Int.ofNat_lt.mpr hi; have hi1 := Int.natCast_nonneg i; have HX2 := Aside0.mk (blk_below (by exact HX0.out) hb2); have z20 := (blk_cell HX2.out 0).trans rfl; have z21 := (blk_cell HX2.out 1).trans rfl; have z22 := (blk_cell HX2.out 2).trans rfl; have f20 := blk_frozen HX2.out 0; have f21 := blk_frozen HX2.out 1; have f22 := blk_frozen HX2.out 2; have HB2 := Aside0.mk (Below.trans (a := w) (by repeat (first | exact HB0.out | exact HB2.out | apply below_alloc | apply pw_below_drewN | apply below_drew)) (hb2.mono (by exact HB0.out.size))); clear hb2 q0 hri hi)))
                all_goals (go_wp2; go_meet; exact ⟨⟨by have hCC : insC L K x = (rd_T60 (rl L) (i : Int)).f1 := (by rw [HC.out, HRI.out, show max (x - 1) 0 = 0 by omega] <;> rfl); rw [hCC]; (with_reducible repeat (first | refine blk_drewN ?_ _ | refine blk_drew ?_)); refine blk_put (cs := #[.int .i64 (rd_T60 (rl L) (i : Int)).f1.f0, .int .i64 (rd_T60 (rl L) (i : Int)).f1.f1, .int .i64 K.f2]) ?_ 2 _ rfl; (with_reducible repeat (first | refine blk_drewN ?_ _ | refine blk_drew ?_)); refine blk_put (cs := #[.int .i64 (rd_T60 (rl L) (i : Int)).f1.f0, .int .i64 K.f1, .int .i64 K.f2]) ?_ 1 _ rfl; (with_reducible repeat (first | refine blk_drewN ?_ _ | refine blk_drew ?_)); refine blk_put (cs := #[.int .i64 K.f0, .int .i64 K.f1, .int .i64 K.f2]) ?_ 0 _ rfl; (with_reducible repeat (first | refine blk_drewN ?_ _ | refine blk_drew ?_)); exact HX2.out⟩, ⟨by repeat (first | exact HB2.out | apply pw_below_drewN | apply below_drew | refine below_set ?_ HGE.out)⟩⟩)
              · have d6 : decide (x - 1 < 0) = false := decide_eq_false h6
                go_region_with (first | (go_at_call 38; go_loud (refine (run_calls (by exact HS0.out.below (by repeat (first | exact HB0.out | exact HB2.out | apply below_alloc | apply pw_below_drewN | apply below_drew))) hl ((x - 1).toNat) (by have := HV.out; have := HL0.out; omega) _ (by omega)).mono ?_; rintro e w2 ⟨i, rfl, hi, hri, hb2⟩; have HRI := Aside0.mk hri; have HK2 : w2.cell? ⟨g, 1, none⟩ = some (.slice (some ad) (rl L).length k) := pw_cell_below hb2 c1; obtain ⟨ad2, e2, q0, q1, q2, q3⟩ := at_T60 (Kd.C_below (by exact HCC.out) hb2) (i : Int) (Int.natCast_nonneg i) (Int.ofNat_lt.mpr hi); cases e2; rw [Int.toNat_natCast] at q1 q2 q3; have hi0 := Int.ofNat_lt.mpr hi; have hi1 := Int.natCast_nonneg i; have HX2 := Aside0.mk (blk_below (by exact HX0.out) hb2); have z20 := (blk_cell HX2.out 0).trans rfl; have z21 := (blk_cell HX2.out 1).trans rfl; have z22 := (blk_cell HX2.out 2).trans rfl; have f20 := blk_frozen HX2.out 0; have f21 := blk_frozen HX2.out 1; have f22 := blk_frozen HX2.out 2; have HB2 := Aside0.mk (Below.trans (a := w) (by repeat (first | exact HB0.out | exact HB2.out | apply below_alloc | apply pw_below_drewN | apply below_drew)) (hb2.mono (by exact HB0.out.size))); clear hb2 q0 hri hi)))
                all_goals (go_wp2; go_meet; exact ⟨⟨by have hCC : insC L K x = (rd_T60 (rl L) (i : Int)).f1 := (by rw [HC.out, HRI.out, show max (x - 1) 0 = x - 1 by omega] <;> rfl); rw [hCC]; (with_reducible repeat (first | refine blk_drewN ?_ _ | refine blk_drew ?_)); refine blk_put (cs := #[.int .i64 (rd_T60 (rl L) (i : Int)).f1.f0, .int .i64 (rd_T60 (rl L) (i : Int)).f1.f1, .int .i64 K.f2]) ?_ 2 _ rfl; (with_reducible repeat (first | refine blk_drewN ?_ _ | refine blk_drew ?_)); refine blk_put (cs := #[.int .i64 (rd_T60 (rl L) (i : Int)).f1.f0, .int .i64 K.f1, .int .i64 K.f2]) ?_ 1 _ rfl; (with_reducible repeat (first | refine blk_drewN ?_ _ | refine blk_drew ?_)); refine blk_put (cs := #[.int .i64 K.f0, .int .i64 K.f1, .int .i64 K.f2]) ?_ 0 _ rfl; (with_reducible repeat (first | refine blk_drewN ?_ _ | refine blk_drew ?_)); exact HX2.out⟩, ⟨by repeat (first | exact HB2.out | apply pw_below_drewN | apply below_drew | refine below_set ?_ HGE.out)⟩⟩)
          case rest =>
            obtain ⟨HX0, HB0⟩ := hcut
            have hz0 := (blk_cell HX0.out 0).trans rfl; have hz1 := (blk_cell HX0.out 1).trans rfl; have hz2 := (blk_cell HX0.out 2).trans rfl
            go_upto_region 10 with (fail)
            go_cut [8] (fun v8 wx => Aside0 (Kd.R k60 60 wx w.heap.size (fun _ => True) v8 (rl (clip L 0 x.toNat ++ List.replicate n.toNat (insC L K x)))) ∧ Aside0 (Below w.heap.size w wx))
            case first =>
              go_region_with (first | (go_at_call 39; go_loud (refine (part_c (by exact HS0.out.below (by repeat (first | exact HB0.out | exact HB2.out | apply below_alloc | apply pw_below_drewN | apply below_drew))) hl 0 x.toNat (by omega) (by have := HV.out; omega) 0 x rfl (by have := HV.out; omega)).mono ?_; rintro e w2 ⟨v2, rfl, hv2, hb2⟩; have HX2 := Aside0.mk (blk_below (by first | exact HX0.out | exact blk_alloc HX0.out _) hb2); have HB2 := Aside0.mk (Below.trans (a := w) (by repeat (first | exact HB0.out | exact HB2.out | apply below_alloc | apply pw_below_drewN | apply below_drew)) (hb2.mono (by exact Below.size (by repeat (first | exact HB0.out | exact HB2.out | apply below_alloc | apply pw_below_drewN | apply below_drew))))); have HLT := Aside0.mk (R60_lt hv2); have HGE := Aside0.mk (R60_ge hv2); have HV2 := Aside0.mk (Kd.R_lower hv2 (Below.size (by repeat (first | exact HB0.out | exact HB2.out | apply below_alloc | apply pw_below_drewN | apply below_drew)))); have HBP := Aside0.mk hb2; have hz0 := (blk_cell HX2.out 0).trans rfl; have hz1 := (blk_cell HX2.out 1).trans rfl; have hz2 := (blk_cell HX2.out 2).trans rfl; clear hv2 hb2)) | (go_at_call 30; go_loud (refine (join_lit (w := w) (clip L 0 x.toNat) _ n.toNat (insC L K x) n (by have := HV.out; omega) (by repeat (first | exact HB0.out | exact HB2.out | apply below_alloc | apply pw_below_drewN | apply below_drew)) (by first | exact Kd.R_alloc (by exact HV2.out) _ | exact HV2.out) (fun k hk => by first | exact Nat.ne_of_lt (HLT.out k hk) | exact Nat.ne_of_gt (Nat.lt_of_lt_of_le (blk_lt (blk_new _ _)) (by exact HGE.out k hk))) (by first | exact blk_new _ _ | exact blk_below (by exact blk_new _ _) HBP.out) (by have := HV.out; have := clip_len L 0 x.toNat (by omega); omega)).mono ?_; rintro e w3 ⟨v3, rfl, hv3, hb3, _⟩; have HV3 := Aside0.mk hv3; have HB3 := Aside0.mk hb3; clear hv3 hb3)))
              all_goals (go_wp2; go_meet; exact ⟨HV3, HB3⟩)
            case rest =>
              obtain ⟨HVc, HBc⟩ := hcut
              go_wp2_with (first | (go_at_call 24; go_loud (refine (len_calls (HS0.out.below HBc.out) hl).mono ?_; rintro e w4 ⟨rfl, hb4⟩; have HB4 := Aside0.mk (HBc.out.trans (hb4.mono HBc.out.size)); have HV4 := Aside0.mk (Kd.R_below HVc.out hb4); clear hb4)) | (go_at_call 39; go_loud (refine (part_c (HS0.out.below HB4.out) hl x.toNat L.length (by have := HV.out; omega) (by omega) _ _ (by have := HV.out; omega) rfl).mono ?_; rintro e w5 ⟨v5, rfl, hv5, hb5⟩; have HB5 := Aside0.mk (HB4.out.trans (hb5.mono HB4.out.size)); have HLT := Aside0.mk (R60_lt HV4.out); have HV4 := Aside0.mk (Kd.R_below HV4.out hb5); obtain ⟨A5, k5, rfl⟩ := Kd.R_slice hv5; have HV5 := Aside0.mk hv5; clear hv5 hb5)) | (go_at_call 30; go_loud (refine (join_part (w := w) (clip L 0 x.toNat ++ List.replicate n.toNat (insC L K x)) (clip L x.toNat L.length) _ HB5.out HV4.out HLT.out HV5.out (by have := HV.out; have := clip_len L 0 x.toNat (by omega); have := clip_len L x.toNat L.length (by omega); simp only [List.length_append, List.length_replicate]; omega)).mono ?_; rintro e w6 ⟨v6, rfl, hv6, hb6, _⟩; obtain ⟨A6, k6, rfl⟩ := Kd.R_slice hv6; have HV6 := Aside0.mk hv6; have HB6 := Aside0.mk hb6; have HS6 := Aside0.mk (HS0.out.below hb6); obtain ⟨AS6, kS6, _, _, _, hgS6⟩ := HS6.out.cells; have cs6 : World.cell? w6 ⟨g, 1, none⟩ = some (.slice AS6 (rl L).length kS6) := (blk_cell hgS6 1).trans rfl; have fs6 := blk_frozen hgS6 1; clear hv6 hb6 hgS6)))
              go_ret
              exact ⟨by show Ending.returned (.int .i64 0) = _; rw [HE.out], by have h6 := HV6.out; rw [List.append_assoc] at h6; rw [HL.out, List.append_assoc]; exact HS6.out.store (Kd.R_lower h6 (Nat.zero_le _)), gb_set (gb_below HB6.out) 1 _⟩
end Go.Proofs.Ytmggbbeecmjalaa.P
