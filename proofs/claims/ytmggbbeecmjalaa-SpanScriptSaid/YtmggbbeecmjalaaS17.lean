/- The walk of the reference's span, At and Slice; no further condition. -/
import Derived.Test.YtmggbbeecmjalaaR0
namespace Go.Proofs.Ytmggbbeecmjalaa.P
open Go.RowKit Go.Proofs.YtmggbbeecmjalaaW.PrintWords Go.Proofs.YtmggbbeecmjalaaW.PrintLast Go.Proofs.YtmggbbeecmjalaaW.PrintMore
attribute [local go_sem] max2_int min2_int max_two min_two
set_option linter.unusedVariables false
set_option linter.unusedSimpArgs false

set_option maxHeartbeats 8000000 in
set_option maxRecDepth 100000 in
theorem rspan_calls {w : World} {g : Nat} {L : List S28} {c : S28} (h : St65 w g L c) (hl : L.length ≤ 100000) (x n : Int) :
    Calls Try.prog 42 #[.pointer (some ⟨g, 0, none⟩), .int .i64 x, .int .i64 n] w fun e w' => e = .returned (.bool (hold x n L.length)) ∧ w' = w := by
  obtain ⟨A, k, hk, hC, hR, hg⟩ := h.cells
  have c0 : w.cell? ⟨g, 0, none⟩ = some (.slice A L.length k) := (blk_cell hg 0).trans rfl
  have HC := Aside0.mk hC
  have HK := Aside0.mk hk
  clear h hg hC hR hk
  by_cases h1 : 0 ≤ x
  · have d1 : decide (0 ≤ x) = true := decide_eq_true h1
    by_cases h2 : 0 ≤ n
    · have d2 : decide (0 ≤ n) = true := decide_eq_true h2
      by_cases h3 : x ≤ (L.length : Int)
      · have d3 : decide (x ≤ (L.length : Int)) = true := decide_eq_true h3
        have hw : wrap64 ((L.length : Int) - x) = (L.length : Int) - x := w64 _ (by omega)
        have hv : hold x n L.length = decide (n ≤ (L.length : Int) - x) := by
          unfold hold; simp [h1, h2, h3]
        have HV := Aside0.mk hv
        clear h1 h2 h3 hv
        go_enter Try.func42, Try.ntmps42
        go_wp2
        go_ret
        exact ⟨by show Ending.returned (.bool (decide (n ≤ (L.length : Int) - x))) = _; rw [HV.out], rfl⟩
      · have d3 : decide (x ≤ (L.length : Int)) = false := decide_eq_false h3
        have HV := Aside0.mk (show hold x n L.length = false from decide_eq_false (fun q => h3 q.2.2.1))
        clear h1 h2 h3
        go_enter Try.func42, Try.ntmps42
        go_wp2
        go_ret
        exact ⟨by show Ending.returned (.bool false) = _; rw [HV.out], rfl⟩
    · have d2 : decide (0 ≤ n) = false := decide_eq_false h2
      have HV := Aside0.mk (show hold x n L.length = false from decide_eq_false (fun q => h2 q.2.1))
      clear h1 h2
      go_enter Try.func42, Try.ntmps42
      go_wp2
      go_ret
      exact ⟨by show Ending.returned (.bool false) = _; rw [HV.out], rfl⟩
  · have d1 : decide (0 ≤ x) = false := decide_eq_false h1
    have HV := Aside0.mk (show hold x n L.length = false from decide_eq_false (fun q => h1 q.1))
    clear h1
    go_enter Try.func42, Try.ntmps42
    go_wp2
    go_ret
    exact ⟨by show Ending.returned (.bool false) = _; rw [HV.out], rfl⟩
set_option maxHeartbeats 8000000 in
set_option maxRecDepth 100000 in
theorem rat_calls {w : World} {g : Nat} {L : List S28} {c : S28} (h : St65 w g L c) (hl : L.length ≤ 100000) (x : Int) :
    Calls Try.prog 35 #[.pointer (some ⟨g, 0, none⟩), .int .i64 x] w fun e w' => Below w.heap.size w w' ∧ AtAns L x e := by
  obtain ⟨A, k, hk, hC, hR, hg⟩ := h.cells
  have c0 : w.cell? ⟨g, 0, none⟩ = some (.slice A L.length k) := (blk_cell hg 0).trans rfl
  have HC := Aside0.mk hC
  have HK := Aside0.mk hk
  clear h hg hC hR hk
  by_cases h1 : x < 0
  · have d1 : decide (x < 0) = true := decide_eq_true h1
    have HV := Aside0.mk (show ¬ (0 ≤ x ∧ x < (L.length : Int)) by omega)
    clear h1
    as_aux_lemma =>
      go_enter Try.func35, Try.ntmps35
      go_wp2_with (first | ((with_reducible refine gate_dst (N := 4) rfl ?_); go_loud (refine box_event ?hg (N := 4) ?hd (cs := #[.int .i64 0, .int .i64 0, .int .i64 0]) (t := 28) ?hr ?_; (case hd => rfl); (case hg => rfl); (case hr => first | (go_simp; done) | (go_simp; rfl)); intro gb0 hg0 w0 hx0 hb0; have HX0 := Aside0.mk hx0; have HGE := Aside0.mk (show w.heap.size ≤ gb0 from Nat.le_of_eq hg0.symm); have HB0 := Aside0.mk hb0; have c0 := pw_cell_below hb0 c0; (try have q0 := pw_cell_below hb0 q0; have q1 := pw_cell_below hb0 q1; have q2 := pw_cell_below hb0 q2); have hz0 := (blk_cell hx0 0).trans rfl; have hz1 := (blk_cell hx0 1).trans rfl; have hz2 := (blk_cell hx0 2).trans rfl; have hf0 := blk_frozen hx0 0; have hf1 := blk_frozen hx0 1; have hf2 := blk_frozen hx0 2; clear hx0 hb0 hg0)))
      refine bodyPost_ret (results_ct rfl _ _ gb0 28 #[.int .i64 0, .int .i64 0, .int .i64 0] (0, 0) _ rfl (by (with_reducible repeat (first | refine blk_drewN ?_ _ | refine blk_drew ?_)); refine blk_put (cs := #[.int .i64 0, .int .i64 0, .int .i64 0]) ?_ 2 _ rfl; (with_reducible repeat (first | refine blk_drewN ?_ _ | refine blk_drew ?_)); refine blk_put (cs := #[.int .i64 0, .int .i64 0, .int .i64 0]) ?_ 1 _ rfl; (with_reducible repeat (first | refine blk_drewN ?_ _ | refine blk_drew ?_)); refine blk_put (cs := #[.int .i64 0, .int .i64 0, .int .i64 0]) ?_ 0 _ rfl; (with_reducible repeat (first | refine blk_drewN ?_ _ | refine blk_drew ?_)); exact HX0.out) Try.underlying28 rfl (by kernel_rfl)) rfl ?_
      exact ⟨(by repeat (first | exact HB0.out | apply pw_below_drewN | apply below_drew1 | refine below_set ?_ HGE.out)), by unfold AtAns; rw [if_neg HV.out]; rfl⟩
  · have d1 : decide (x < 0) = false := decide_eq_false h1
    by_cases h3 : (L.length : Int) ≤ x
    · have d3 : decide ((L.length : Int) ≤ x) = true := decide_eq_true h3
      have HV := Aside0.mk (show ¬ (0 ≤ x ∧ x < (L.length : Int)) by omega)
      clear h1 h3
      as_aux_lemma =>
        go_enter Try.func35, Try.ntmps35
        go_wp2_with (first | ((with_reducible refine gate_dst (N := 4) rfl ?_); go_loud (refine box_event ?hg (N := 4) ?hd (cs := #[.int .i64 0, .int .i64 0, .int .i64 0]) (t := 28) ?hr ?_; (case hd => rfl); (case hg => rfl); (case hr => first | (go_simp; done) | (go_simp; rfl)); intro gb0 hg0 w0 hx0 hb0; have HX0 := Aside0.mk hx0; have HGE := Aside0.mk (show w.heap.size ≤ gb0 from Nat.le_of_eq hg0.symm); have HB0 := Aside0.mk hb0; have c0 := pw_cell_below hb0 c0; (try have q0 := pw_cell_below hb0 q0; have q1 := pw_cell_below hb0 q1; have q2 := pw_cell_below hb0 q2); have hz0 := (blk_cell hx0 0).trans rfl; have hz1 := (blk_cell hx0 1).trans rfl; have hz2 := (blk_cell hx0 2).trans rfl; have hf0 := blk_frozen hx0 0; have hf1 := blk_frozen hx0 1; have hf2 := blk_frozen hx0 2; clear hx0 hb0 hg0)))
        refine bodyPost_ret (results_ct rfl _ _ gb0 28 #[.int .i64 0, .int .i64 0, .int .i64 0] (0, 0) _ rfl (by (with_reducible repeat (first | refine blk_drewN ?_ _ | refine blk_drew ?_)); refine blk_put (cs := #[.int .i64 0, .int .i64 0, .int .i64 0]) ?_ 2 _ rfl; (with_reducible repeat (first | refine blk_drewN ?_ _ | refine blk_drew ?_)); refine blk_put (cs := #[.int .i64 0, .int .i64 0, .int .i64 0]) ?_ 1 _ rfl; (with_reducible repeat (first | refine blk_drewN ?_ _ | refine blk_drew ?_)); refine blk_put (cs := #[.int .i64 0, .int .i64 0, .int .i64 0]) ?_ 0 _ rfl; (with_reducible repeat (first | refine blk_drewN ?_ _ | refine blk_drew ?_)); exact HX0.out) Try.underlying28 rfl (by kernel_rfl)) rfl ?_
        exact ⟨(by repeat (first | exact HB0.out | apply pw_below_drewN | apply below_drew1 | refine below_set ?_ HGE.out)), by unfold AtAns; rw [if_neg HV.out]; rfl⟩
    · have d3 : decide ((L.length : Int) ≤ x) = false := decide_eq_false h3
      have HV := Aside0.mk (show (0 ≤ x ∧ x < (L.length : Int)) by omega)
      obtain ⟨ad, e0, q0, q1, q2⟩ := at_T28 HC.out x (by omega) (by omega)
      cases e0
      have p0 : 0 ≤ x := by omega
      have p1 : x < (L.length : Int) := by omega
      clear h1 h3
      as_aux_lemma =>
        go_enter Try.func35, Try.ntmps35
        go_wp2_with (first | ((with_reducible refine gate_dst (N := 4) rfl ?_); go_loud (refine box_event ?hg (N := 4) ?hd (cs := #[.int .i64 0, .int .i64 0, .int .i64 0]) (t := 28) ?hr ?_; (case hd => rfl); (case hg => rfl); (case hr => first | (go_simp; done) | (go_simp; rfl)); intro gb0 hg0 w0 hx0 hb0; have HX0 := Aside0.mk hx0; have HGE := Aside0.mk (show w.heap.size ≤ gb0 from Nat.le_of_eq hg0.symm); have HB0 := Aside0.mk hb0; have c0 := pw_cell_below hb0 c0; (try have q0 := pw_cell_below hb0 q0; have q1 := pw_cell_below hb0 q1; have q2 := pw_cell_below hb0 q2); have hz0 := (blk_cell hx0 0).trans rfl; have hz1 := (blk_cell hx0 1).trans rfl; have hz2 := (blk_cell hx0 2).trans rfl; have hf0 := blk_frozen hx0 0; have hf1 := blk_frozen hx0 1; have hf2 := blk_frozen hx0 2; clear hx0 hb0 hg0)))
        refine bodyPost_ret (results_ct rfl _ _ gb0 28 #[.int .i64 (rd_T28 L x).f0, .int .i64 (rd_T28 L x).f1, .int .i64 (rd_T28 L x).f2] (0, 0) _ rfl (by (with_reducible repeat (first | refine blk_drewN ?_ _ | refine blk_drew ?_)); refine blk_put (cs := #[.int .i64 (rd_T28 L x).f0, .int .i64 (rd_T28 L x).f1, .int .i64 0]) ?_ 2 _ rfl; (with_reducible repeat (first | refine blk_drewN ?_ _ | refine blk_drew ?_)); refine blk_put (cs := #[.int .i64 (rd_T28 L x).f0, .int .i64 0, .int .i64 0]) ?_ 1 _ rfl; (with_reducible repeat (first | refine blk_drewN ?_ _ | refine blk_drew ?_)); refine blk_put (cs := #[.int .i64 0, .int .i64 0, .int .i64 0]) ?_ 0 _ rfl; (with_reducible repeat (first | refine blk_drewN ?_ _ | refine blk_drew ?_)); exact HX0.out) Try.underlying28 rfl (by kernel_rfl)) rfl ?_
        exact ⟨(by repeat (first | exact HB0.out | apply pw_below_drewN | apply below_drew1 | refine below_set ?_ HGE.out)), by unfold AtAns; rw [if_pos HV.out]; rfl⟩
theorem runs_c {w : World} {A : Option Addr} {k : Nat} {L : List S28} (hC : Kd.C k28 w A L.length L) (hk : L.length ≤ k) (hl : L.length ≤ 100000) :
    Calls Try.prog 37 #[.slice A L.length k] w fun e w' => ∃ v : Value, e = .returned v ∧ Kd.R k60 60 w' w.heap.size (fun _ => True) v (rl L) ∧ Below w.heap.size w w' :=
  quireref02_Runs.calls _ A k L _ w hC hk (runs_f L hl)
set_option maxHeartbeats 8000000 in
set_option maxRecDepth 100000 in
theorem rslice_calls {w : World} {g : Nat} {L : List S28} {c : S28} (h : St65 w g L c) (hl : L.length ≤ 100000) (x y : Int) :
    Calls Try.prog 36 #[.pointer (some ⟨g, 0, none⟩), .int .i64 x, .int .i64 y] w fun e w' => Below w.heap.size w w' ∧ SliceAns L x y w.heap.size e w' := by
  obtain ⟨A, k, hk, hC, hR, hg⟩ := h.cells
  have c0 : w.cell? ⟨g, 0, none⟩ = some (.slice A L.length k) := (blk_cell hg 0).trans rfl
  have HC := Aside0.mk hC
  have HK := Aside0.mk hk
  clear h hg hC hR hk
  by_cases h1 : x < 0
  · have d1 : decide (x < 0) = true := decide_eq_true h1
    have HV := Aside0.mk (show ¬ (0 ≤ x ∧ x ≤ y ∧ y ≤ (L.length : Int)) by omega)
    clear h1
    as_aux_lemma =>
      go_enter Try.func36, Try.ntmps36
      go_wp2
      go_ret2
      exact ⟨Below.refl _ _, by unfold SliceAns; rw [if_neg HV.out]; rfl⟩
  · have d1 : decide (x < 0) = false := decide_eq_false h1
    by_cases h2 : y < x
    · have d2 : decide (y < x) = true := decide_eq_true h2
      have HV := Aside0.mk (show ¬ (0 ≤ x ∧ x ≤ y ∧ y ≤ (L.length : Int)) by omega)
      clear h1 h2
      as_aux_lemma =>
        go_enter Try.func36, Try.ntmps36
        go_wp2
        go_ret2
        exact ⟨Below.refl _ _, by unfold SliceAns; rw [if_neg HV.out]; rfl⟩
    · have d2 : decide (y < x) = false := decide_eq_false h2
      by_cases h3 : (L.length : Int) < y
      · have d3 : decide ((L.length : Int) < y) = true := decide_eq_true h3
        have HV := Aside0.mk (show ¬ (0 ≤ x ∧ x ≤ y ∧ y ≤ (L.length : Int)) by omega)
        clear h1 h2 h3
        as_aux_lemma =>
          go_enter Try.func36, Try.ntmps36
          go_wp2
          go_ret2
          exact ⟨Below.refl _ _, by unfold SliceAns; rw [if_neg HV.out]; rfl⟩
      · have d3 : decide ((L.length : Int) < y) = false := decide_eq_false h3
        have HV := Aside0.mk (show (0 ≤ x ∧ x ≤ y ∧ y ≤ (L.length : Int)) by omega)
        obtain ⟨A2, k2, hcut, hC2, hk2⟩ := cutMid HC.out HK.out x y (by omega) (by omega) (by omega)
        have HC2 := Aside0.mk hC2
        have HK2 := Aside0.mk hk2
        clear h1 h2 h3 hC2 hk2
        as_aux_lemma =>
          go_enter Try.func36, Try.ntmps36
          go_wp2_with (first | (go_at_call 37; go_loud (refine (runs_c HC2.out HK2.out (by have := HV.out; have := clip_len L x.toNat y.toNat (by omega); omega)).mono ?_; rintro e w2 ⟨v, rfl, hv, hb2⟩; have HR := Aside0.mk hv; have HB0 := Aside0.mk hb2; clear hv hb2)))
          go_ret2
          exact ⟨HB0.out, by unfold SliceAns; rw [if_pos HV.out]; exact ⟨_, rfl, HR.out⟩⟩
end Go.Proofs.Ytmggbbeecmjalaa.P
