/- The walk of At over looks; no further condition. -/
import Derived.Test.YtmggbbeecmjalaaS6
namespace Go.Proofs.Ytmggbbeecmjalaa.P
open Go.RowKit Go.Proofs.YtmggbbeecmjalaaW.PrintWords Go.Proofs.YtmggbbeecmjalaaW.PrintLast Go.Proofs.YtmggbbeecmjalaaW.PrintMore
attribute [local go_sem] max2_int min2_int max_two min_two
set_option linter.unusedVariables false
set_option linter.unusedSimpArgs false

set_option maxHeartbeats 8000000 in
set_option maxRecDepth 100000 in
theorem at_calls {w : World} {g : Nat} {L : List S28} {c : S28} (h : St45 w g (rl L) c) (hl : L.length ≤ 100000) (x : Int) :
    Calls Try.prog 19 #[.pointer (some ⟨g, 0, none⟩), .int .i64 x] w fun e w' => Below w.heap.size w w' ∧ AtAns L x e := by
  have HS0 := Aside0.mk h
  clear h
  by_cases h1 : x < 0
  · have d1 : decide (x < 0) = true := decide_eq_true h1
    have HV := Aside0.mk (show ¬ (0 ≤ x ∧ x < (L.length : Int)) by omega)
    clear h1
    as_aux_lemma =>
      go_enter Try.func19, Try.ntmps19
      go_wp2_with (first | ((with_reducible refine gate_dst (N := 4) rfl ?_); go_loud (refine box_event ?hg (N := 4) ?hd (cs := #[.int .i64 0, .int .i64 0, .int .i64 0]) (t := 28) ?hr ?_; (case hd => rfl); (case hg => rfl); (case hr => first | (go_simp; done) | (go_simp; rfl)); intro gb0 hg0 w0 hx0 hb0; have HS0 := Aside0.mk (HS0.out.below hb0); have HX0 := Aside0.mk hx0; have HGE := Aside0.mk (show w.heap.size ≤ gb0 from Nat.le_of_eq hg0.symm); have HB0 := Aside0.mk hb0; have hz0 := (blk_cell hx0 0).trans rfl; have hz1 := (blk_cell hx0 1).trans rfl; have hz2 := (blk_cell hx0 2).trans rfl; have hf0 := blk_frozen hx0 0; have hf1 := blk_frozen hx0 1; have hf2 := blk_frozen hx0 2; clear hx0 hb0 hg0)) | (go_at_call 31; go_loud (refine (none_calls HS0.out).mono ?_; rintro e w1 ⟨rfl, rfl⟩; skip)))
      refine bodyPost_ret (results_ct rfl _ _ gb0 28 #[.int .i64 0, .int .i64 0, .int .i64 0] (0, 0) _ rfl (by (with_reducible repeat (first | refine blk_drewN ?_ _ | refine blk_drew ?_)); refine blk_put (cs := #[.int .i64 0, .int .i64 0, .int .i64 0]) ?_ 2 _ rfl; (with_reducible repeat (first | refine blk_drewN ?_ _ | refine blk_drew ?_)); refine blk_put (cs := #[.int .i64 0, .int .i64 0, .int .i64 0]) ?_ 1 _ rfl; (with_reducible repeat (first | refine blk_drewN ?_ _ | refine blk_drew ?_)); refine blk_put (cs := #[.int .i64 0, .int .i64 0, .int .i64 0]) ?_ 0 _ rfl; (with_reducible repeat (first | refine blk_drewN ?_ _ | refine blk_drew ?_)); exact HX0.out) Try.underlying28 rfl (by kernel_rfl)) rfl ?_
      exact ⟨(by repeat (first | exact HB0.out | apply pw_below_drewN | apply below_drew1 | refine below_set ?_ HGE.out)), by unfold AtAns; rw [if_neg HV.out]; rfl⟩
  · have d1 : decide (x < 0) = false := decide_eq_false h1
    by_cases h3 : (L.length : Int) ≤ x
    · have d3 : decide ((L.length : Int) ≤ x) = true := decide_eq_true h3
      have HV := Aside0.mk (show ¬ (0 ≤ x ∧ x < (L.length : Int)) by omega)
      clear h1 h3
      as_aux_lemma =>
        go_enter Try.func19, Try.ntmps19
        go_wp2_with (first | ((with_reducible refine gate_dst (N := 4) rfl ?_); go_loud (refine box_event ?hg (N := 4) ?hd (cs := #[.int .i64 0, .int .i64 0, .int .i64 0]) (t := 28) ?hr ?_; (case hd => rfl); (case hg => rfl); (case hr => first | (go_simp; done) | (go_simp; rfl)); intro gb0 hg0 w0 hx0 hb0; have HS0 := Aside0.mk (HS0.out.below hb0); have HX0 := Aside0.mk hx0; have HGE := Aside0.mk (show w.heap.size ≤ gb0 from Nat.le_of_eq hg0.symm); have HB0 := Aside0.mk hb0; have hz0 := (blk_cell hx0 0).trans rfl; have hz1 := (blk_cell hx0 1).trans rfl; have hz2 := (blk_cell hx0 2).trans rfl; have hf0 := blk_frozen hx0 0; have hf1 := blk_frozen hx0 1; have hf2 := blk_frozen hx0 2; clear hx0 hb0 hg0)) | (go_at_call 31; go_loud (refine (none_calls HS0.out).mono ?_; rintro e w1 ⟨rfl, rfl⟩; skip)) | (go_at_call 24; go_loud (refine (len_calls HS0.out hl).mono ?_; rintro e w1 ⟨rfl, hb1⟩; have HS0 := Aside0.mk (HS0.out.below hb1); have HB0 := Aside0.mk (HB0.out.trans (hb1.mono HB0.out.size)); have HX0 := Aside0.mk (blk_below HX0.out hb1); have hz0 := (blk_cell HX0.out 0).trans rfl; have hz1 := (blk_cell HX0.out 1).trans rfl; have hz2 := (blk_cell HX0.out 2).trans rfl; have hf0 := blk_frozen HX0.out 0; have hf1 := blk_frozen HX0.out 1; have hf2 := blk_frozen HX0.out 2; clear hb1)))
        refine bodyPost_ret (results_ct rfl _ _ gb0 28 #[.int .i64 0, .int .i64 0, .int .i64 0] (0, 0) _ rfl (by (with_reducible repeat (first | refine blk_drewN ?_ _ | refine blk_drew ?_)); refine blk_put (cs := #[.int .i64 0, .int .i64 0, .int .i64 0]) ?_ 2 _ rfl; (with_reducible repeat (first | refine blk_drewN ?_ _ | refine blk_drew ?_)); refine blk_put (cs := #[.int .i64 0, .int .i64 0, .int .i64 0]) ?_ 1 _ rfl; (with_reducible repeat (first | refine blk_drewN ?_ _ | refine blk_drew ?_)); refine blk_put (cs := #[.int .i64 0, .int .i64 0, .int .i64 0]) ?_ 0 _ rfl; (with_reducible repeat (first | refine blk_drewN ?_ _ | refine blk_drew ?_)); exact HX0.out) Try.underlying28 rfl (by kernel_rfl)) rfl ?_
        exact ⟨(by repeat (first | exact HB0.out | apply pw_below_drewN | apply below_drew1 | refine below_set ?_ HGE.out)), by unfold AtAns; rw [if_neg HV.out]; rfl⟩
    · have d3 : decide ((L.length : Int) ≤ x) = false := decide_eq_false h3
      have HV := Aside0.mk (show (0 ≤ x ∧ x < (L.length : Int)) by omega)
      clear h1 h3
      as_aux_lemma =>
        go_enter Try.func19, Try.ntmps19
        go_wp2_with (first | ((with_reducible refine gate_dst (N := 4) rfl ?_); go_loud (refine box_event ?hg (N := 4) ?hd (cs := #[.int .i64 0, .int .i64 0, .int .i64 0]) (t := 28) ?hr ?_; (case hd => rfl); (case hg => rfl); (case hr => first | (go_simp; done) | (go_simp; rfl)); intro gb0 hg0 w0 hx0 hb0; have HS0 := Aside0.mk (HS0.out.below hb0); have HX0 := Aside0.mk hx0; have HGE := Aside0.mk (show w.heap.size ≤ gb0 from Nat.le_of_eq hg0.symm); have HB0 := Aside0.mk hb0; have hz0 := (blk_cell hx0 0).trans rfl; have hz1 := (blk_cell hx0 1).trans rfl; have hz2 := (blk_cell hx0 2).trans rfl; have hf0 := blk_frozen hx0 0; have hf1 := blk_frozen hx0 1; have hf2 := blk_frozen hx0 2; clear hx0 hb0 hg0)) | (go_at_call 31; go_loud (refine (none_calls HS0.out).mono ?_; rintro e w1 ⟨rfl, rfl⟩; skip)) | (go_at_call 24; go_loud (refine (len_calls HS0.out hl).mono ?_; rintro e w1 ⟨rfl, hb1⟩; have HS0 := Aside0.mk (HS0.out.below hb1); have HB0 := Aside0.mk (HB0.out.trans (hb1.mono HB0.out.size)); have HX0 := Aside0.mk (blk_below HX0.out hb1); have hz0 := (blk_cell HX0.out 0).trans rfl; have hz1 := (blk_cell HX0.out 1).trans rfl; have hz2 := (blk_cell HX0.out 2).trans rfl; have hf0 := blk_frozen HX0.out 0; have hf1 := blk_frozen HX0.out 1; have hf2 := blk_frozen HX0.out 2; clear hb1)))
        obtain ⟨A, k, hk, hC, hR, hg⟩ := HS0.out.cells
        have c1 : World.cell? _ ⟨g, 1, none⟩ = some (.slice A (rl L).length k) := (blk_cell hg 1).trans rfl
        have hp : 0 < (rl L).length := by
          rcases snocs L with e | ⟨o, t, rfl⟩
          · have := HV.out; subst e; simp at this; omega
          · obtain ⟨o', t', hr, _⟩ := rl_last o t
            rw [hr]; simp
        obtain ⟨ad, e0, _⟩ := at_T60 hC 0 (by omega) (by omega)
        cases e0
        have HC := Aside0.mk hC
        clear hk hC hR hg hp
        go_region_with (first | (go_at_call 38; go_loud (refine (run_calls (by exact HS0.out) hl x.toNat (by have := HV.out; omega) x (by have := HV.out; omega)).mono ?_; rintro e w2 ⟨i, rfl, hi, hri, hb2⟩; have HK2 : w2.cell? ⟨g, 1, none⟩ = some (.slice (some ad) (rl L).length k) := pw_cell_below hb2 c1; obtain ⟨ad', e', q0, q1, q2, q3⟩ := at_T60 (Kd.C_below (by exact HC.out) hb2) (i : Int) (Int.natCast_nonneg i) (Int.ofNat_lt.mpr hi); cases e'; rw [hri] at q1 q2 q3; rw [Int.toNat_natCast] at q1 q2 q3; have hi0 := Int.ofNat_lt.mpr hi; have hi1 := Int.natCast_nonneg i; have HX2 := Aside0.mk (blk_below (by exact HX0.out) hb2); have z20 := (blk_cell HX2.out 0).trans rfl; have z21 := (blk_cell HX2.out 1).trans rfl; have z22 := (blk_cell HX2.out 2).trans rfl; have f20 := blk_frozen HX2.out 0; have f21 := blk_frozen HX2.out 1; have f22 := blk_frozen HX2.out 2; have HB2 := Aside0.mk (Below.trans (a := w) (by repeat (first | exact HB0.out | apply pw_below_drewN | apply below_drew)) (hb2.mono (by exact HB0.out.size))); clear hb2 q0 hri hi)))
        all_goals (go_wp2; refine bodyPost_ret (results_ct rfl _ _ gb0 28 #[.int .i64 (rd_T28 L x).f0, .int .i64 (rd_T28 L x).f1, .int .i64 (rd_T28 L x).f2] (0, 0) _ rfl (by (with_reducible repeat (first | refine blk_drewN ?_ _ | refine blk_drew ?_)); refine blk_put (cs := #[.int .i64 (rd_T28 L x).f0, .int .i64 (rd_T28 L x).f1, .int .i64 0]) ?_ 2 _ rfl; (with_reducible repeat (first | refine blk_drewN ?_ _ | refine blk_drew ?_)); refine blk_put (cs := #[.int .i64 (rd_T28 L x).f0, .int .i64 0, .int .i64 0]) ?_ 1 _ rfl; (with_reducible repeat (first | refine blk_drewN ?_ _ | refine blk_drew ?_)); refine blk_put (cs := #[.int .i64 0, .int .i64 0, .int .i64 0]) ?_ 0 _ rfl; (with_reducible repeat (first | refine blk_drewN ?_ _ | refine blk_drew ?_)); exact HX2.out) Try.underlying28 rfl (by kernel_rfl)) rfl ?_; exact ⟨(by repeat (first | exact HB2.out | apply pw_below_drewN | apply below_drew1 | refine below_set ?_ HGE.out)), by unfold AtAns; rw [if_pos HV.out]; rfl⟩)
end Go.Proofs.Ytmggbbeecmjalaa.P
