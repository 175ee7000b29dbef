/- The walk of the reference's Delete; no further condition. -/
import Derived.Test.YtmggbbeecmjalaaS21
namespace Go.Proofs.Ytmggbbeecmjalaa.P
open Go.RowKit Go.Proofs.YtmggbbeecmjalaaW.PrintWords Go.Proofs.YtmggbbeecmjalaaW.PrintLast Go.Proofs.YtmggbbeecmjalaaW.PrintMore
attribute [local go_sem] max2_int min2_int max_two min_two
set_option linter.unusedVariables false
set_option linter.unusedSimpArgs false


theorem lit0_Rk (W : World) (base gb : Nat) (hb : base ≤ W.heap.size) (hg : gb < W.heap.size) : Kd.R k28 28 (W.alloc (.cells #[] 28)) base (fun k => k ≠ gb) (.slice (some ⟨W.heap.size, 0, none⟩) 0 0) [] :=
  ⟨fun k hk => by simp [Value.ownBlock] at hk; omega, OwnRow.lit W base (Reps.none _ _) hb (by simp)⟩
theorem R28_ge {w : World} {base : Nat} {ok : Nat → Prop} {v : Value} {xs : List S28} (h : Kd.R k28 28 w base ok v xs) : ∀ k, v.ownBlock = some k → base ≤ k := fun k hk => ((Kd.R_bound h).1 k hk).2.1
set_option maxHeartbeats 8000000 in
set_option maxRecDepth 100000 in
theorem rdelete_calls {w : World} {g : Nat} {L : List S28} {M : S28} (h : St65 w g L M) (hl : L.length ≤ 50000) (x n : Int) :
    Calls Try.prog 33 #[.pointer (some ⟨g, 0, none⟩), .int .i64 x, .int .i64 n] w fun e w' => e = .returned (.int .i64 (delE L x n)) ∧ St65 w' g (delL L x n) (delK L M x n) ∧ w.grownBy w' (some g) := by
  obtain ⟨A, k, hk, hC, hR, hg⟩ := h.cells
  have c0 : w.cell? ⟨g, 0, none⟩ = some (.slice A L.length k) := (blk_cell hg 0).trans rfl
  have c0_ := Aside0.mk c0
  have c1 : w.cell? ⟨g, 1, none⟩ = some (.int .i64 M.f0) := (blk_cell hg 1).trans rfl
  have c2 : w.cell? ⟨g, 2, none⟩ = some (.int .i64 M.f1) := (blk_cell hg 2).trans rfl
  have c3 : w.cell? ⟨g, 3, none⟩ = some (.int .i64 M.f2) := (blk_cell hg 3).trans rfl
  have HC := Aside0.mk hC
  have HK := Aside0.mk hk
  have HS := Aside0.mk h
  clear h hg hC hR hk
  have HB0 := Aside0.mk (Below.refl w.heap.size w)
  by_cases hh : hold x n L.length = true
  · have HH := Aside0.mk hh
    have HE := Aside0.mk (show delE L x n = 0 by unfold delE; rw [if_pos hh])
    have HL := Aside0.mk (show delL L x n = L.take x.toNat ++ L.drop (x + n).toNat by unfold delL; rw [if_pos hh])
    have HV := Aside0.mk (of_decide_eq_true hh)
    by_cases h0 : n = 0
    · subst h0
      have HL2 := Aside0.mk (show delL L x 0 = L by rw [HL.out]; simp)
      have HK2 := Aside0.mk (show delK L M x 0 = M by unfold delK; rw [if_neg (fun q => absurd q.2.1 (by decide))])
      clear hh
      go_enter Try.func33, Try.ntmps33
      go_wp2_with (first | (go_at_call 42; go_loud (refine (rspan_calls (HS.out.below HB0.out) (by omega) x 0).mono ?_; rintro e w1 ⟨rfl, q_⟩; replace q_ := q_.symm; subst q_; rw [HH.out])))
      go_ret
      exact ⟨by show Ending.returned (.int .i64 0) = _; rw [HE.out], by rw [HL2.out, HK2.out]; exact HS.out.below HB0.out, gb_below HB0.out⟩
    · have d1 : (n == 0) = false := beq_eq_false_iff_ne.mpr h0
      have hV := HV.out
      obtain ⟨hcutT, hCT⟩ := cutTo HC.out HK.out x (by omega) (by omega)
      obtain ⟨A2, k2, hcutD, hCD, hk2⟩ := cutFrom HC.out HK.out (x + n) (by omega) (by omega)
      have hTl : (L.take x.toNat).length = x.toNat := by simp; omega
      have hDl : (L.drop (x + n).toNat).length = L.length - (x + n).toNat := by simp
      generalize L.take x.toNat = T at *
      generalize L.drop (x + n).toNat = D at *
      obtain ⟨Y, hY⟩ : ∃ Y, Y = T ++ D := ⟨_, rfl⟩
      have hYl : Y.length + n.toNat = L.length := by rw [hY, List.length_append]; omega
      rw [← hY] at HL
      have HYL := Aside0.mk hYl
      have HY := Aside0.mk hY
      have HCT := Aside0.mk hCT
      have HCD := Aside0.mk hCD
      have HLT := Aside0.mk (show (([] : List S28).length + T.length) * 24 ≤ 140737488355328 by simp; omega)
      have HLD := Aside0.mk (show (T.length + D.length) * 24 ≤ 140737488355328 by omega)
      have hw : wrap64 (x + n) = x + n := w64 _ (by omega)
      have hw2 : wrap64 (x + n - 1) = x + n - 1 := w64 _ (by omega)
      have hw3 : IntKind.i64.wrap (x + n) = x + n := i64_in _ (by omega)
      have p0 : 0 ≤ x + n - 1 := by omega
      have p1 : x + n - 1 < (L.length : Int) := by omega
      obtain ⟨ad, e0, q0, q1, q2⟩ := at_T28 HC.out (x + n - 1) p0 p1
      cases e0
      rw [show (x + n - 1).toNat = (x + n).toNat - 1 by omega] at q0 q1 q2
      have H0 := Aside0.mk h0
      clear hh h0 hCT hCD hk2 hTl hDl hY hYl hV
      go_enter Try.func33, Try.ntmps33
      go_upto_region 6 with (first | (go_at_call 42; go_loud (refine (rspan_calls (HS.out.below HB0.out) (by omega) x n).mono ?_; rintro e w1 ⟨rfl, q_⟩; replace q_ := q_.symm; subst q_; rw [HH.out])) | ((with_reducible refine gate_dst (N := 7) rfl ?_); go_loud (refine box_event ?hg (N := 7) ?hd (cs := #[.int .i64 0, .int .i64 0, .int .i64 0]) (t := 28) ?hr ?_; (case hd => rfl); (case hg => rfl); (case hr => first | (go_simp; done) | (go_simp; rfl)); intro gb0 hg0 w0 hx0 hb0; have HX0 := Aside0.mk hx0; have HGE := Aside0.mk (show w.heap.size ≤ gb0 from Nat.le_of_eq hg0.symm); have HB0 := Aside0.mk hb0; have c0 := pw_cell_below hb0 c0; clear hx0 hb0 hg0)) | ((with_reducible refine gate_store (t := 28) (p := 7) rfl ?_); go_loud (refine store_event rfl 28 _ _ rfl gb0 #[.int .i64 (rd_T28 L (x + n - 1)).f0, .int .i64 (rd_T28 L (x + n - 1)).f1, .int .i64 (rd_T28 L (x + n - 1)).f2] rfl rfl 28 #[.int .i64 0, .int .i64 0, .int .i64 0] HX0.out (size28 _ rfl) rfl (by first | rfl | decide | kernel_rfl) ?_; intro w1 x1 o1 s1; have HX0 := Aside0.mk x1; have c0 := (show w1.cell? ⟨g, 0, none⟩ = _ from cell_off o1 (Nat.ne_of_lt (Nat.lt_of_lt_of_le HS.out.lt HGE.out)) c0); have HB0 := Aside0.mk (s1 _ _ HB0.out HGE.out); clear x1 o1 s1)))
      (try simp only [Act.put, List.setIfInBounds_toArray, List.set_cons_zero, List.set_cons_succ])
      go_cut [] (fun wx => Aside0 (St65 wx g Y M) ∧ Aside0 (wx.heap[gb0]? = some (.cells #[.int .i64 (rd_T28 L (x + n - 1)).f0, .int .i64 (rd_T28 L (x + n - 1)).f1, .int .i64 (rd_T28 L (x + n - 1)).f2] 28 (0, 0))) ∧ Aside0 (w.grownBy wx (some g)))
      case first =>
        have c0a := pw_cell_below (below_alloc (Below.refl _ _) (.cells #[] 28)) c0
        go_region_law (first | (refine Kd.R_append_rows_step k28 (w0 := w) w.heap.size (by rfl) (.tmp 26) (.tmp 32) 57 28 (.agg #[(.int .i64 0), (.int .i64 0), (.int .i64 0)]) 24 rfl Try.underlying57 info28 rfl (by decide) (by decide) _ [] T (some ad) T.length k (fun k => k ≠ gb0) (fun _ => False) (by rfl) (by rfl) (by exact lit0_Rk _ _ _ (by exact Below.size (by repeat (first | exact HB0.out | apply below_alloc | apply pw_below_drewN | apply below_drew))) (by exact blk_lt HX0.out)) (by exact Kd.C_below HCT.out (by repeat (first | exact HB0.out | apply below_alloc | apply pw_below_drewN | apply below_drew))) (fun _ _ h => h) (fun _ h => h.elim) (fun k hk => Nat.ne_of_gt (Nat.lt_of_lt_of_le (blk_lt (blk_alloc HX0.out (.cells #[] 28))) (by exact hk))) (by repeat (first | exact HB0.out | apply below_alloc | apply pw_below_drewN | apply below_drew)) (by exact Below.size (by repeat (first | exact HB0.out | apply below_alloc | apply pw_below_drewN | apply below_drew))) HLT.out ?_; intro v5 w5 hv5 hb5 hg5 hat5; rw [List.nil_append] at hv5; have HV5 := Aside0.mk hv5; have HB5 := Aside0.mk hb5; have HX5 := Aside0.mk (blk_grown (by exact blk_alloc HX0.out _) hg5 (fun q => absurd (show gb0 = w1.heap.size from Option.some.inj q) (Nat.ne_of_lt (blk_lt HX0.out)))); have HGE5 := Aside0.mk (R28_ge hv5); have c05 := pw_cell_below hb5 c0_.out; clear hv5 hb5 hg5 hat5) | (refine Kd.R_append_rows_step k28 (w0 := w) w.heap.size (by rfl) (.tmp 33) (.tmp 41) 57 28 (.agg #[(.int .i64 0), (.int .i64 0), (.int .i64 0)]) 24 rfl Try.underlying57 info28 rfl (by decide) (by decide) v5 T D A2 D.length k2 (fun k => k ≠ gb0) (fun _ => False) (by rfl) (by rfl) (by exact HV5.out) (by exact Kd.C_below HCD.out HB5.out) (fun _ _ h => h) (fun _ h => h.elim) (fun k hk => Nat.ne_of_gt (Nat.lt_of_lt_of_le (blk_lt HX5.out) hk)) (by exact HB5.out) (by exact HB5.out.size) HLD.out ?_; intro v6 w6 hv6 hb6 hg6 hat6; rw [← HY.out] at hv6; have HX6 := Aside0.mk (blk_grown (by exact HX5.out) hg6 (fun q => HV5.out.1 gb0 q.symm rfl)); obtain ⟨A6, k6, rfl⟩ := Kd.R_slice hv6; have HV6 := Aside0.mk hv6; have HB6 := Aside0.mk hb6; have HS6 := Aside0.mk (HS.out.below hb6); obtain ⟨AS6, kS6, _, _, _, hgS6⟩ := HS6.out.cells; have HGS := Aside0.mk hgS6; have cs6 : World.cell? w6 ⟨g, 0, none⟩ = some (.slice AS6 L.length kS6) := (blk_cell hgS6 0).trans rfl; have fs6 := blk_frozen hgS6 0; clear hv6 hb6 hg6 hat6 hgS6))
        all_goals (go_wp2_with (fail); go_meet; exact ⟨⟨by exact St65.put0 HGS.out (Kd.R_mono (Kd.R_lower HV6.out (Nat.zero_le _)) (fun _ _ => trivial))⟩, ⟨by exact blk_far HX6.out (p := ⟨g, 0, none⟩) (blk_ne HX6.out HGS.out (by decide)) _⟩, ⟨by first | exact gb_set (gb_below HB6.out) 0 _ | exact gb_drew' (gb_set (gb_below HB6.out) 0 _)⟩⟩)
      case rest =>
        obtain ⟨HSc, HXc, HGc⟩ := hcut
        obtain ⟨Ac, kc, _, _, _, hgc⟩ := HSc.out.cells
        have e0 := (blk_cell hgc 0).trans rfl
        have e1 := (blk_cell hgc 1).trans rfl
        have e2 := (blk_cell hgc 2).trans rfl
        have e3 := (blk_cell hgc 3).trans rfl
        have f1 := blk_frozen hgc 1
        have f2 := blk_frozen hgc 2
        have f3 := blk_frozen hgc 3
        have z0 := (blk_cell HXc.out 0).trans rfl
        have z1 := (blk_cell HXc.out 1).trans rfl
        have z2 := (blk_cell HXc.out 2).trans rfl
        by_cases hy : Y = []
        · subst hy
          have HK := Aside0.mk (show delK L M x n = rd_T28 L (x + n - 1) by
            have h1 := HYL.out
            have h2 := HV.out
            have h3 := H0.out
            simp only [List.length_nil] at h1
            unfold delK
            rw [if_pos ⟨HH.out, by omega, by omega⟩]
            congr 1
            omega)
          clear hgc
          go_wp2
          go_ret
          exact ⟨by show Ending.returned (.int .i64 0) = _; rw [HE.out], by rw [HL.out, HK.out]; exact HSc.out.put3 _, gb_set (gb_set (gb_set HGc.out 1 _) 2 _) 3 _⟩
        · have hyl : Y.length ≠ 0 := fun q => hy (List.length_eq_zero_iff.mp q)
          have d5 : ((Y.length : Int) == 0) = false := beq_eq_false_iff_ne.mpr (by omega)
          have HK := Aside0.mk (show delK L M x n = M by
            have h1 := HYL.out
            unfold delK
            rw [if_neg (fun q => by have := q.2.2; omega)])
          clear hgc hy hyl
          go_wp2
          go_ret
          exact ⟨by show Ending.returned (.int .i64 0) = _; rw [HE.out], by rw [HL.out, HK.out]; exact HSc.out, HGc.out⟩
  · have HH := Aside0.mk (Bool.eq_false_iff.mpr hh)
    have HE := Aside0.mk (show delE L x n = 5 by unfold delE; rw [if_neg hh])
    have HL := Aside0.mk (show delL L x n = L by unfold delL; rw [if_neg hh])
    have HK2 := Aside0.mk (show delK L M x n = M by unfold delK; rw [if_neg (fun q => hh q.1)])
    clear hh
    go_enter Try.func33, Try.ntmps33
    go_wp2_with (first | (go_at_call 42; go_loud (refine (rspan_calls (HS.out.below HB0.out) (by omega) x n).mono ?_; rintro e w1 ⟨rfl, q_⟩; replace q_ := q_.symm; subst q_; rw [HH.out])))
    go_ret
    exact ⟨by show Ending.returned (.int .i64 5) = _; rw [HE.out], by rw [HL.out, HK2.out]; exact HS.out.below HB0.out, gb_below HB0.out⟩
end Go.Proofs.Ytmggbbeecmjalaa.P
