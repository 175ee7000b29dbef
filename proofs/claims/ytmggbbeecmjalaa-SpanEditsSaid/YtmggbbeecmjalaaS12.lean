/- The walk of New and Clone; no further condition. -/
import Derived.Test.YtmggbbeecmjalaaX0
import Derived.BigRegion
namespace Go.Proofs.Ytmggbbeecmjalaa.P
open Go.RowKit Go.Proofs.YtmggbbeecmjalaaW.PrintWords Go.Proofs.YtmggbbeecmjalaaW.PrintLast Go.Proofs.YtmggbbeecmjalaaW.PrintMore
attribute [local go_sem] max2_int min2_int max_two min_two
set_option linter.unusedVariables false
set_option linter.unusedSimpArgs false


/-- what New answers -/
def newE (x : Int) (c : S28) : Int := if okC c = true then (if x < 0 then 5 else if 4096 < x then 8 else 0) else 2
def NewAns (x : Int) (c : S28) (B : Nat) (e : Ending) (w' : World) : Prop :=
  if newE x c = 0 then ∃ g, e = .returned (.tuple #[.pointer (some ⟨g, 0, none⟩), .int .i64 0]) ∧ B ≤ g ∧ St45 w' g (rl (List.replicate x.toNat c)) c
  else e = .returned (.tuple #[.pointer none, .int .i64 (newE x c)])
theorem St45.put1 {W : World} {g : Nat} {R : List S60} {c : S28} {u v : Value} (h : W.heap[g]? = some (.cells #[.bool true, u, .int .i64 c.f0, .int .i64 c.f1, .int .i64 c.f2] 45 (0, 0))) (hv : Kd.R k60 60 W 0 (fun _ => True) v R) : St45 (W.setCell ⟨g, 1, none⟩ v) g R c :=
  ⟨v, blk_set h 1 v, Kd.R_set hv h nt60_45 1 v⟩
theorem St45.new {w : World} {R : List S60} {v : Value} (c : S28) (h : Kd.R k60 60 w 0 (fun _ => True) v R) : St45 (w.alloc (.cells #[.bool true, v, .int .i64 c.f0, .int .i64 c.f1, .int .i64 c.f2] 45)) w.heap.size R c :=
  ⟨v, blk_new _ _, Kd.R_alloc h _⟩
set_option maxHeartbeats 8000000 in
set_option maxRecDepth 100000 in
theorem new_calls (x : Int) (c : S28) (w : World) :
    Calls Try.prog 11 #[.int .i64 x, .agg #[.int .i64 c.f0, .int .i64 c.f1, .int .i64 c.f2]] w fun e w' => Below w.heap.size w w' ∧ NewAns x c w.heap.size e w' := by
  by_cases hm : okC c = true
  · have HM := Aside0.mk hm
    by_cases h1 : x < 0
    · have d1 : decide (x < 0) = true := decide_eq_true h1
      have HE := Aside0.mk (show newE x c = 5 by unfold newE; rw [if_pos hm, if_pos h1])
      clear hm h1
      as_aux_lemma =>
        go_enter Try.func11, Try.ntmps11
        go_wp2_with (first | ((with_reducible refine gate_dst (N := 3) rfl ?_); go_loud (refine box_event ?hg (N := 3) ?hd (cs := #[.int .i64 c.f0, .int .i64 c.f1, .int .i64 c.f2]) (t := 28) ?hr ?_; (case hd => rfl); (case hg => rfl); (case hr => first | (go_simp; done) | (go_simp; rfl)); intro gb0 hg0 w0 hx0 hb0; have HX0 := Aside0.mk hx0; have HB0 := Aside0.mk hb0; have hz0 := (blk_cell HX0.out 0).trans rfl; have hz1 := (blk_cell HX0.out 1).trans rfl; have hz2 := (blk_cell HX0.out 2).trans rfl; clear hx0 hb0 hg0)) | (go_at_call 13; go_loud (refine (may_c c _).mono ?_; rintro e w1 ⟨rfl, hb1⟩; have HB0 := Aside0.mk (HB0.out.trans (hb1.mono HB0.out.size)); have HX0 := Aside0.mk (blk_below HX0.out hb1); have hz0 := (blk_cell HX0.out 0).trans rfl; have hz1 := (blk_cell HX0.out 1).trans rfl; have hz2 := (blk_cell HX0.out 2).trans rfl; clear hb1; rw [HM.out])))
        go_ret2
        exact ⟨HB0.out, by unfold NewAns; rw [if_neg (by rw [HE.out]; decide), HE.out]; rfl⟩
    · have d1 : decide (x < 0) = false := decide_eq_false h1
      by_cases h2 : 4096 < x
      · have d2 : decide (4096 < x) = true := decide_eq_true h2
        have HE := Aside0.mk (show newE x c = 8 by unfold newE; rw [if_pos hm, if_neg h1, if_pos h2])
        clear hm h1 h2
        as_aux_lemma =>
          go_enter Try.func11, Try.ntmps11
          go_wp2_with (first | ((with_reducible refine gate_dst (N := 3) rfl ?_); go_loud (refine box_event ?hg (N := 3) ?hd (cs := #[.int .i64 c.f0, .int .i64 c.f1, .int .i64 c.f2]) (t := 28) ?hr ?_; (case hd => rfl); (case hg => rfl); (case hr => first | (go_simp; done) | (go_simp; rfl)); intro gb0 hg0 w0 hx0 hb0; have HX0 := Aside0.mk hx0; have HB0 := Aside0.mk hb0; have hz0 := (blk_cell HX0.out 0).trans rfl; have hz1 := (blk_cell HX0.out 1).trans rfl; have hz2 := (blk_cell HX0.out 2).trans rfl; clear hx0 hb0 hg0)) | (go_at_call 13; go_loud (refine (may_c c _).mono ?_; rintro e w1 ⟨rfl, hb1⟩; have HB0 := Aside0.mk (HB0.out.trans (hb1.mono HB0.out.size)); have HX0 := Aside0.mk (blk_below HX0.out hb1); have hz0 := (blk_cell HX0.out 0).trans rfl; have hz1 := (blk_cell HX0.out 1).trans rfl; have hz2 := (blk_cell HX0.out 2).trans rfl; clear hb1; rw [HM.out])))
          go_ret2
          exact ⟨HB0.out, by unfold NewAns; rw [if_neg (by rw [HE.out]; decide), HE.out]; rfl⟩
      · have d2 : decide (4096 < x) = false := decide_eq_false h2
        have HE := Aside0.mk (show newE x c = 0 by unfold newE; rw [if_pos hm, if_neg h1, if_neg h2])
        have HV := Aside0.mk (show 0 ≤ x ∧ x ≤ 4096 by omega)
        clear hm h1 h2
        go_enter Try.func11, Try.ntmps11
        go_wp2_with (first | ((with_reducible refine gate_dst (N := 3) rfl ?_); go_loud (refine box_event ?hg (N := 3) ?hd (cs := #[.int .i64 c.f0, .int .i64 c.f1, .int .i64 c.f2]) (t := 28) ?hr ?_; (case hd => rfl); (case hg => rfl); (case hr => first | (go_simp; done) | (go_simp; rfl)); intro gb0 hg0 w0 hx0 hb0; have HX0 := Aside0.mk hx0; have HB0 := Aside0.mk hb0; have hz0 := (blk_cell HX0.out 0).trans rfl; have hz1 := (blk_cell HX0.out 1).trans rfl; have hz2 := (blk_cell HX0.out 2).trans rfl; clear hx0 hb0 hg0)) | (go_at_call 13; go_loud (refine (may_c c _).mono ?_; rintro e w1 ⟨rfl, hb1⟩; have HB0 := Aside0.mk (HB0.out.trans (hb1.mono HB0.out.size)); have HX0 := Aside0.mk (blk_below HX0.out hb1); have hz0 := (blk_cell HX0.out 0).trans rfl; have hz1 := (blk_cell HX0.out 1).trans rfl; have hz2 := (blk_cell HX0.out 2).trans rfl; clear hb1; rw [HM.out])))
        go_region_held3 (fun w' => w'.cell? ⟨gb0, 0, none⟩ = some (.int .i64 c.f0) ∧ w'.cell? ⟨gb0, 1, none⟩ = some (.int .i64 c.f1) ∧ w'.cell? ⟨gb0, 2, none⟩ = some (.int .i64 c.f2)) (refine ⟨?_, ?_, ?_⟩ <;> first | assumption | exact hz0 | exact hz1 | exact hz2 | exact pw_cell_below (below_alloc (Below.refl _ _) _) (by first | assumption | exact hz0) | exact pw_cell_below (below_alloc (Below.refl _ _) _) (by first | assumption | exact hz1) | exact pw_cell_below (below_alloc (Below.refl _ _) _) (by first | assumption | exact hz2)) (first | (go_at_call 30; go_loud (refine (join_lit (w := w) [] _ x.toNat c x (by have := HV.out; omega) (by repeat (first | exact HB0.out | apply below_alloc | apply pw_below_drewN | apply below_drew)) (by exact Kd.R_nil _ _ _ _ (fun _ => True)) (fun k hk => by simp [Value.ownBlock] at hk) (by exact blk_new _ _) (by have := HV.out; simp; omega)).mono ?_; rintro e w3 ⟨v3, rfl, hv3, hb3, hk3⟩; rw [List.nil_append] at hv3; obtain ⟨A3, k3, rfl⟩ := Kd.R_slice hv3; have HX3 := Aside0.mk ((hk3.2 gb0 (blk_lt (blk_alloc (by exact HX0.out) _)) (fun q => by simp [Value.ownBlock] at q)).trans (blk_alloc (by exact HX0.out) _)); have z30 := (blk_cell HX3.out 0).trans rfl; have z31 := (blk_cell HX3.out 1).trans rfl; have z32 := (blk_cell HX3.out 2).trans rfl; have HV3 := Aside0.mk hv3; have HB3 := Aside0.mk hb3; clear hv3 hb3 hk3)))
        all_goals (go_wp2; go_ret2; exact ⟨by repeat (first | exact HB3.out | apply below_alloc | apply pw_below_drewN | apply below_drew), by unfold NewAns; rw [if_pos HE.out]; exact ⟨_, rfl, by exact HB3.out.size, by exact St45.new c (Kd.R_lower (by exact HV3.out) (Nat.zero_le _))⟩⟩)
  · have HM := Aside0.mk (Bool.eq_false_iff.mpr hm)
    have HE := Aside0.mk (show newE x c = 2 by unfold newE; rw [if_neg hm])
    clear hm
    as_aux_lemma =>
      go_enter Try.func11, Try.ntmps11
      go_wp2_with (first | ((with_reducible refine gate_dst (N := 3) rfl ?_); go_loud (refine box_event ?hg (N := 3) ?hd (cs := #[.int .i64 c.f0, .int .i64 c.f1, .int .i64 c.f2]) (t := 28) ?hr ?_; (case hd => rfl); (case hg => rfl); (case hr => first | (go_simp; done) | (go_simp; rfl)); intro gb0 hg0 w0 hx0 hb0; have HX0 := Aside0.mk hx0; have HB0 := Aside0.mk hb0; have hz0 := (blk_cell HX0.out 0).trans rfl; have hz1 := (blk_cell HX0.out 1).trans rfl; have hz2 := (blk_cell HX0.out 2).trans rfl; clear hx0 hb0 hg0)) | (go_at_call 13; go_loud (refine (may_c c _).mono ?_; rintro e w1 ⟨rfl, hb1⟩; have HB0 := Aside0.mk (HB0.out.trans (hb1.mono HB0.out.size)); have HX0 := Aside0.mk (blk_below HX0.out hb1); have hz0 := (blk_cell HX0.out 0).trans rfl; have hz1 := (blk_cell HX0.out 1).trans rfl; have hz2 := (blk_cell HX0.out 2).trans rfl; clear hb1; rw [HM.out])))
      go_ret2
      exact ⟨HB0.out, by unfold NewAns; rw [if_neg (by rw [HE.out]; decide), HE.out]; rfl⟩
set_option maxHeartbeats 8000000 in
set_option maxRecDepth 100000 in
theorem clone_calls {w : World} {g : Nat} {L : List S28} {K : S28} (h : St45 w g (rl L) K) (hl : L.length ≤ 50000) :
    Calls Try.prog 15 #[.pointer (some ⟨g, 0, none⟩)] w fun e w' => Below w.heap.size w w' ∧ ∃ g', e = .returned (.pointer (some ⟨g', 0, none⟩)) ∧ w.heap.size ≤ g' ∧ St45 w' g' (rl L) K := by
  obtain ⟨A, k, hk, hC, hR, hg⟩ := h.cells
  have hle := rl_length L
  have HS0 := Aside0.mk h
  have HC := Aside0.mk hC
  have HR := Aside0.mk hR
  have HG := Aside0.mk hg
  have c0 := (blk_cell hg 0).trans rfl
  have c1 := (blk_cell hg 1).trans rfl
  have c2 := (blk_cell hg 2).trans rfl
  have c3 := (blk_cell hg 3).trans rfl
  have c4 := (blk_cell hg 4).trans rfl
  have HLE := Aside0.mk (show (0 + (rl L).length) * 32 ≤ 140737488355328 by omega)
  clear h hC hR hg hk hle
  go_enter Try.func15, Try.ntmps15
  go_wp2_with (first | ((with_reducible refine gate_builtin (b := .append) (xs := #[.const (.slice none 0 0), .tmp 12]) rfl ?_); go_loud (at_builtin; refine Kd.R_append_rows k60 (w0 := w) w.heap.size rfl (.const (.slice none 0 0)) (.tmp 12) 22 60 (.agg #[(.int .i64 0), (.int .i64 0), (.int .i64 0), (.int .i64 0)]) 32 rfl Try.underlying22 info60 rfl (by decide) (by decide) (.slice none 0 0) [] (rl L) A (rl L).length k (fun _ => True) (fun _ => False) rfl rfl (Kd.R_nil _ _ _ _ _) HC1.out (fun _ _ h => h) (fun _ h => h.elim) (fun _ _ => trivial) HB1.out HB1.out.size HLE.out ?_; intro v5 w5 hv5 hb5 hg5 hat5; rw [List.nil_append] at hv5; obtain ⟨A5, k5, rfl⟩ := Kd.R_slice hv5; have HV5 := Aside0.mk hv5; have HB5 := Aside0.mk hb5; have HX5 := Aside0.mk (blk_grown HX1.out hg5 (by simp [Value.ownBlock])); have e1 := (blk_cell HX5.out 1).trans rfl; have fe1 := blk_frozen HX5.out 1; clear hv5 hb5 hg5 hat5)) | (go_at_call 31; go_loud (refine (none_calls HS0.out).mono ?_; rintro e w1 ⟨rfl, q_⟩; replace q_ := q_.symm; subst q_)) | ((with_reducible refine gate_dst (N := 3) rfl ?_); go_loud (refine box_event ?hg (N := 3) ?hd (cs := #[.bool false, .slice none 0 0, .int .i64 0, .int .i64 0, .int .i64 0]) (t := 45) ?hr ?_; (case hd => rfl); (case hg => rfl); (case hr => first | (go_simp; done) | (go_simp; rfl)); intro gb0 hg0 w0 hx0 hb0; have HX0 := Aside0.mk hx0; have HB0 := Aside0.mk hb0; have HGE := Aside0.mk (Nat.le_of_eq hg0.symm); have HNE := Aside0.mk (show g ≠ gb0 from Nat.ne_of_lt (hg0 ▸ blk_lt HG.out)); clear hx0 hb0 hg0)) | ((with_reducible refine gate_store (t := 45) (p := 3) rfl ?_); go_loud (refine store_event rfl 45 _ _ rfl gb0 #[.bool true, .slice A (rl L).length k, .int .i64 K.f0, .int .i64 K.f1, .int .i64 K.f2] rfl rfl 45 #[.bool false, .slice none 0 0, .int .i64 0, .int .i64 0, .int .i64 0] HX0.out (size45 _ rfl) rfl (by first | rfl | decide | kernel_rfl) ?_; intro w1 x1 o1 s1; have HB1 := Aside0.mk (s1 _ _ HB0.out HGE.out); have HX1 := Aside0.mk x1; have HG1 := Aside0.mk ((o1 g HNE.out).trans (blk_below HG.out HB0.out)); have c1 := (blk_cell HG1.out 1).trans rfl; have d1 := (blk_cell HX1.out 1).trans rfl; have fd1 := blk_frozen HX1.out 1; have HC1 := Aside0.mk (Kd.C_below HC.out HB1.out); have HR1 := Aside0.mk (Kd.R_below HR.out HB1.out); clear x1 o1 s1)))
  go_ret
  exact ⟨below_set HB5.out HGE.out, gb0, rfl, HGE.out, St45.put1 HX5.out (Kd.R_lower HV5.out (Nat.zero_le _))⟩
end Go.Proofs.Ytmggbbeecmjalaa.P
