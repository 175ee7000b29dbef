/- The walk of SpanEdits; no further condition. -/
import Derived.Test.YtmggbbeecmjalaaS26
import Derived.Test.YtmggbbeecmjalaaP2
import Derived.Test.YtmggbbeecmjalaaA4
namespace Go.Proofs.Ytmggbbeecmjalaa.P
open Go.RowKit Go.Proofs.YtmggbbeecmjalaaW.PrintWords Go.Proofs.YtmggbbeecmjalaaW.PrintLast Go.Proofs.YtmggbbeecmjalaaW.PrintMore
attribute [local go_sem] max2_int min2_int max_two min_two
attribute [local go_sem high] eqA28
set_option linter.unusedVariables false
set_option linter.unusedSimpArgs false

theorem R_offb {α : Type} {d : Kd α} {e g base : Nat} {w w' : World} {v : Value} {xs : List α} (h : Kd.R d e w base (fun _ => True) v xs) {cs : Array Value} {t : Nat} (hb : w.heap[g]? = some (.cells cs t (0, 0))) (ht : ∀ q, q ∈ e :: d.E → q ≠ t) (hg : w.grownBy w' (some g)) : Kd.R d e w' base (fun _ => True) v xs :=
  Kd.R_mono (Kd.R_grown (Kd.R_types h hb ht) hg (fun k hk => by intro e; injection e with e; exact hk.2 e)) (fun _ _ => trivial)
theorem St45.cellsblk {w : World} {g : Nat} {R : List S60} {c : S28} (h : St45 w g R c) : ∃ cs, w.heap[g]? = some (.cells cs 45 (0, 0)) := by
  obtain ⟨v, h1, _⟩ := h
  exact ⟨_, h1⟩
theorem St45.offrow {w w' : World} {g gr : Nat} {R : List S60} {c : S28} (h : St45 w g R c) {cs : Array Value} (hb : w.heap[gr]? = some (.cells cs 28 (0, 0))) (hg : w.grownBy w' (some gr)) : St45 w' g R c := by
  obtain ⟨v, h1, h2⟩ := h
  exact ⟨v, blk_grown h1 hg (by have := blk_ne h1 hb (by decide); simpa using this), R_off h2 hb (by decide) hg⟩
theorem chars_c {w : World} {A0 A1 : Option Addr} {m0 m1 c0 c1 : Nat} {l : List S28} {ok0 ok1 : Nat → Prop} {b0 b1 : Nat} (h0 : Kd.R k28 28 w b0 ok0 (.slice A0 m0 c0) l) (h1 : Kd.R k28 28 w b1 ok1 (.slice A1 m1 c1) l) (hl : l.length ≤ 100000) :
    Calls Try.prog 28 #[.slice A0 m0 c0, .slice A1 m1 c1] w fun e w' => e = .returned (.bool true) ∧ Below w.heap.size w w' := by
  obtain ⟨rfl, hc0, hC0⟩ := Kd.R_reads' h0
  obtain ⟨rfl, hc1, hC1⟩ := Kd.R_reads' h1
  refine (quirelaw02_chars.calls _ A0 c0 l A1 c1 l _ w hC0 hc0 hC1 hc1 (chars_f l l hl)).mono (fun e w' h => ?_)
  obtain ⟨rfl, d⟩ := h
  exact ⟨by rw [decide_eq_true rfl], by first | exact d.below | exact d⟩
theorem set_midE (L : List S28) (x i : Nat) (c : S28) (h : x + i < L.length) : (L.take x ++ List.replicate i c ++ L.drop (x + i)).set (x + i) c = L.take x ++ List.replicate (i + 1) c ++ L.drop (x + (i + 1)) := by
  have hl : (L.take x ++ List.replicate i c).length = x + i := by simp; omega
  rw [List.set_append_right _ _ (by omega), hl, Nat.sub_self, List.drop_eq_getElem_cons h, List.set_cons_zero, List.replicate_succ']
  simp [Nat.add_assoc]
theorem check_cE {w : World} {A : Option Addr} {m c : Nat} {l : List S60} {ok : Nat → Prop} {b : Nat} (k : Nat) (a r : Int) (h : Kd.R k60 60 w b ok (.slice A m c) l) (hf : span_Check.f k l a = some r) :
    Calls Try.prog 8 #[.slice A m c, .int .i64 a] w fun e w' => e = .returned (.int .i64 r) ∧ Below w.heap.size w w' := by
  obtain ⟨rfl, hc, hC⟩ := Kd.R_reads' h
  exact span_Check.calls k A c l a r w hC hc hf
set_option maxHeartbeats 8000000 in
set_option maxRecDepth 100000 in
theorem edits_law (x : Int) (acts : List S40) (a : S40) {Aa : Option Addr} {ca : Nat} (w : World) (hC : Kd.C k40 w Aa acts.length acts) (hca : acts.length ≤ ca) :
    Calls Try.prog 6 #[.int .i64 x, .slice Aa acts.length ca, .agg #[.int .i64 a.f0, .int .i64 a.f1, .int .i64 a.f2, .int .i64 a.f3.f0, .int .i64 a.f3.f1, .int .i64 a.f3.f2]] w fun e w' => e = .returned (.bool true) ∧ Below w.heap.size w w' := by
  have HC := Aside0.mk hC
  clear hC
  by_cases h1 : x < 0
  · have d1 : decide (x < 0) = true := decide_eq_true h1
    clear h1
    as_aux_lemma =>
      go_enter Try.func6, Try.ntmps6
      go_wp2_with (first | ((with_reducible refine gate_dst (N := 5) rfl ?_); go_loud (refine box_event ?hg (N := 5) ?hd (cs := #[.int .i64 a.f0, .int .i64 a.f1, .int .i64 a.f2, .int .i64 a.f3.f0, .int .i64 a.f3.f1, .int .i64 a.f3.f2]) (t := 40) ?hr ?_; (case hd => rfl); (case hg => rfl); (case hr => first | (go_simp; done) | (go_simp; rfl)); intro gb0 hg0 w0 hx0 hb0; have HX := Aside0.mk hx0; have HGX := Aside0.mk (show w.heap.size ≤ gb0 from Nat.le_of_eq hg0.symm); have HB := Aside0.mk hb0; have x0 := (blk_cell HX.out 0).trans rfl; have x1 := (blk_cell HX.out 1).trans rfl; have x2 := (blk_cell HX.out 2).trans rfl; have x3 := (blk_cell HX.out 3).trans rfl; have x4 := (blk_cell HX.out 4).trans rfl; have x5 := (blk_cell HX.out 5).trans rfl; clear hx0 hb0 hg0)) | (go_at_call 25; go_loud (refine (awake_calls _).mono ?_; rintro e w9 ⟨rfl, hb9⟩; have HX := Aside0.mk (blk_below HX.out hb9); (try have HA := Aside0.mk (HA.out.below hb9)); (try have HY := Aside0.mk (blk_below HY.out hb9)); (try have HW := Aside0.mk (Kd.R_below HW.out hb9)); (try have HR := Aside0.mk (Kd.R_below HR.out hb9)); have HB9 := HB; have HB := Aside0.mk (HB.out.trans (hb9.mono HB.out.size)); have x0 := (blk_cell HX.out 0).trans rfl; have x1 := (blk_cell HX.out 1).trans rfl; have x2 := (blk_cell HX.out 2).trans rfl; have x3 := (blk_cell HX.out 3).trans rfl; have x4 := (blk_cell HX.out 4).trans rfl; have x5 := (blk_cell HX.out 5).trans rfl; (try (have y0 := (blk_cell HY.out 0).trans rfl; have y1 := (blk_cell HY.out 1).trans rfl; have y2 := (blk_cell HY.out 2).trans rfl; have y3 := (blk_cell HY.out 3).trans rfl; have y4 := (blk_cell HY.out 4).trans rfl; have y5 := (blk_cell HY.out 5).trans rfl)); clear hb9)))
      go_ret
      exact ⟨rfl, HB.out⟩
  · have d1 : decide (x < 0) = false := decide_eq_false h1
    by_cases h2 : 300 < x
    · have d2 : decide (300 < x) = true := decide_eq_true h2
      clear h1 h2
      as_aux_lemma =>
        go_enter Try.func6, Try.ntmps6
        go_wp2_with (first | ((with_reducible refine gate_dst (N := 5) rfl ?_); go_loud (refine box_event ?hg (N := 5) ?hd (cs := #[.int .i64 a.f0, .int .i64 a.f1, .int .i64 a.f2, .int .i64 a.f3.f0, .int .i64 a.f3.f1, .int .i64 a.f3.f2]) (t := 40) ?hr ?_; (case hd => rfl); (case hg => rfl); (case hr => first | (go_simp; done) | (go_simp; rfl)); intro gb0 hg0 w0 hx0 hb0; have HX := Aside0.mk hx0; have HGX := Aside0.mk (show w.heap.size ≤ gb0 from Nat.le_of_eq hg0.symm); have HB := Aside0.mk hb0; have x0 := (blk_cell HX.out 0).trans rfl; have x1 := (blk_cell HX.out 1).trans rfl; have x2 := (blk_cell HX.out 2).trans rfl; have x3 := (blk_cell HX.out 3).trans rfl; have x4 := (blk_cell HX.out 4).trans rfl; have x5 := (blk_cell HX.out 5).trans rfl; clear hx0 hb0 hg0)) | (go_at_call 25; go_loud (refine (awake_calls _).mono ?_; rintro e w9 ⟨rfl, hb9⟩; have HX := Aside0.mk (blk_below HX.out hb9); (try have HA := Aside0.mk (HA.out.below hb9)); (try have HY := Aside0.mk (blk_below HY.out hb9)); (try have HW := Aside0.mk (Kd.R_below HW.out hb9)); (try have HR := Aside0.mk (Kd.R_below HR.out hb9)); have HB9 := HB; have HB := Aside0.mk (HB.out.trans (hb9.mono HB.out.size)); have x0 := (blk_cell HX.out 0).trans rfl; have x1 := (blk_cell HX.out 1).trans rfl; have x2 := (blk_cell HX.out 2).trans rfl; have x3 := (blk_cell HX.out 3).trans rfl; have x4 := (blk_cell HX.out 4).trans rfl; have x5 := (blk_cell HX.out 5).trans rfl; (try (have y0 := (blk_cell HY.out 0).trans rfl; have y1 := (blk_cell HY.out 1).trans rfl; have y2 := (blk_cell HY.out 2).trans rfl; have y3 := (blk_cell HY.out 3).trans rfl; have y4 := (blk_cell HY.out 4).trans rfl; have y5 := (blk_cell HY.out 5).trans rfl)); clear hb9)))
        go_ret
        exact ⟨rfl, HB.out⟩
    · have d2 : decide (300 < x) = false := decide_eq_false h2
      by_cases h3 : 40 < acts.length
      · have d3 : decide (40 < acts.length) = true := decide_eq_true h3
        have d3' : decide ((40 : Int) < (acts.length : Int)) = true := decide_eq_true (by omega)
        clear h1 h2 h3
        as_aux_lemma =>
          go_enter Try.func6, Try.ntmps6
          go_wp2_with (first | ((with_reducible refine gate_dst (N := 5) rfl ?_); go_loud (refine box_event ?hg (N := 5) ?hd (cs := #[.int .i64 a.f0, .int .i64 a.f1, .int .i64 a.f2, .int .i64 a.f3.f0, .int .i64 a.f3.f1, .int .i64 a.f3.f2]) (t := 40) ?hr ?_; (case hd => rfl); (case hg => rfl); (case hr => first | (go_simp; done) | (go_simp; rfl)); intro gb0 hg0 w0 hx0 hb0; have HX := Aside0.mk hx0; have HGX := Aside0.mk (show w.heap.size ≤ gb0 from Nat.le_of_eq hg0.symm); have HB := Aside0.mk hb0; have x0 := (blk_cell HX.out 0).trans rfl; have x1 := (blk_cell HX.out 1).trans rfl; have x2 := (blk_cell HX.out 2).trans rfl; have x3 := (blk_cell HX.out 3).trans rfl; have x4 := (blk_cell HX.out 4).trans rfl; have x5 := (blk_cell HX.out 5).trans rfl; clear hx0 hb0 hg0)) | (go_at_call 25; go_loud (refine (awake_calls _).mono ?_; rintro e w9 ⟨rfl, hb9⟩; have HX := Aside0.mk (blk_below HX.out hb9); (try have HA := Aside0.mk (HA.out.below hb9)); (try have HY := Aside0.mk (blk_below HY.out hb9)); (try have HW := Aside0.mk (Kd.R_below HW.out hb9)); (try have HR := Aside0.mk (Kd.R_below HR.out hb9)); have HB9 := HB; have HB := Aside0.mk (HB.out.trans (hb9.mono HB.out.size)); have x0 := (blk_cell HX.out 0).trans rfl; have x1 := (blk_cell HX.out 1).trans rfl; have x2 := (blk_cell HX.out 2).trans rfl; have x3 := (blk_cell HX.out 3).trans rfl; have x4 := (blk_cell HX.out 4).trans rfl; have x5 := (blk_cell HX.out 5).trans rfl; (try (have y0 := (blk_cell HY.out 0).trans rfl; have y1 := (blk_cell HY.out 1).trans rfl; have y2 := (blk_cell HY.out 2).trans rfl; have y3 := (blk_cell HY.out 3).trans rfl; have y4 := (blk_cell HY.out 4).trans rfl; have y5 := (blk_cell HY.out 5).trans rfl)); clear hb9)))
          go_ret
          exact ⟨rfl, HB.out⟩
      · have d3 : decide (40 < acts.length) = false := decide_eq_false h3
        have d3' : decide ((40 : Int) < (acts.length : Int)) = false := decide_eq_false (by omega)
        by_cases hm : okC a.f3 = true
        · have HM := Aside0.mk hm
          by_cases h5 : a.f2 < 0
          · have d5 : decide (a.f2 < 0) = true := decide_eq_true h5
            clear h1 h2 h3 hm h5
            as_aux_lemma =>
              go_enter Try.func6, Try.ntmps6
              go_wp2_with (first | ((with_reducible refine gate_dst (N := 5) rfl ?_); go_loud (refine box_event ?hg (N := 5) ?hd (cs := #[.int .i64 a.f0, .int .i64 a.f1, .int .i64 a.f2, .int .i64 a.f3.f0, .int .i64 a.f3.f1, .int .i64 a.f3.f2]) (t := 40) ?hr ?_; (case hd => rfl); (case hg => rfl); (case hr => first | (go_simp; done) | (go_simp; rfl)); intro gb0 hg0 w0 hx0 hb0; have HX := Aside0.mk hx0; have HGX := Aside0.mk (show w.heap.size ≤ gb0 from Nat.le_of_eq hg0.symm); have HB := Aside0.mk hb0; have x0 := (blk_cell HX.out 0).trans rfl; have x1 := (blk_cell HX.out 1).trans rfl; have x2 := (blk_cell HX.out 2).trans rfl; have x3 := (blk_cell HX.out 3).trans rfl; have x4 := (blk_cell HX.out 4).trans rfl; have x5 := (blk_cell HX.out 5).trans rfl; clear hx0 hb0 hg0)) | (go_at_call 25; go_loud (refine (awake_calls _).mono ?_; rintro e w9 ⟨rfl, hb9⟩; have HX := Aside0.mk (blk_below HX.out hb9); (try have HA := Aside0.mk (HA.out.below hb9)); (try have HY := Aside0.mk (blk_below HY.out hb9)); (try have HW := Aside0.mk (Kd.R_below HW.out hb9)); (try have HR := Aside0.mk (Kd.R_below HR.out hb9)); have HB9 := HB; have HB := Aside0.mk (HB.out.trans (hb9.mono HB.out.size)); have x0 := (blk_cell HX.out 0).trans rfl; have x1 := (blk_cell HX.out 1).trans rfl; have x2 := (blk_cell HX.out 2).trans rfl; have x3 := (blk_cell HX.out 3).trans rfl; have x4 := (blk_cell HX.out 4).trans rfl; have x5 := (blk_cell HX.out 5).trans rfl; (try (have y0 := (blk_cell HY.out 0).trans rfl; have y1 := (blk_cell HY.out 1).trans rfl; have y2 := (blk_cell HY.out 2).trans rfl; have y3 := (blk_cell HY.out 3).trans rfl; have y4 := (blk_cell HY.out 4).trans rfl; have y5 := (blk_cell HY.out 5).trans rfl)); clear hb9)) | (go_at_call 13; go_loud (refine (may_c a.f3 _).mono ?_; rintro e w9 ⟨rfl, hb9⟩; have HX := Aside0.mk (blk_below HX.out hb9); (try have HA := Aside0.mk (HA.out.below hb9)); (try have HY := Aside0.mk (blk_below HY.out hb9)); (try have HW := Aside0.mk (Kd.R_below HW.out hb9)); (try have HR := Aside0.mk (Kd.R_below HR.out hb9)); have HB9 := HB; have HB := Aside0.mk (HB.out.trans (hb9.mono HB.out.size)); have x0 := (blk_cell HX.out 0).trans rfl; have x1 := (blk_cell HX.out 1).trans rfl; have x2 := (blk_cell HX.out 2).trans rfl; have x3 := (blk_cell HX.out 3).trans rfl; have x4 := (blk_cell HX.out 4).trans rfl; have x5 := (blk_cell HX.out 5).trans rfl; (try (have y0 := (blk_cell HY.out 0).trans rfl; have y1 := (blk_cell HY.out 1).trans rfl; have y2 := (blk_cell HY.out 2).trans rfl; have y3 := (blk_cell HY.out 3).trans rfl; have y4 := (blk_cell HY.out 4).trans rfl; have y5 := (blk_cell HY.out 5).trans rfl)); clear hb9; rw [HM.out])))
              go_ret
              exact ⟨rfl, HB.out⟩
          · have d5 : decide (a.f2 < 0) = false := decide_eq_false h5
            by_cases h6 : 50 < a.f2
            · have d6 : decide (50 < a.f2) = true := decide_eq_true h6
              clear h1 h2 h3 hm h5 h6
              as_aux_lemma =>
                go_enter Try.func6, Try.ntmps6
                go_wp2_with (first | ((with_reducible refine gate_dst (N := 5) rfl ?_); go_loud (refine box_event ?hg (N := 5) ?hd (cs := #[.int .i64 a.f0, .int .i64 a.f1, .int .i64 a.f2, .int .i64 a.f3.f0, .int .i64 a.f3.f1, .int .i64 a.f3.f2]) (t := 40) ?hr ?_; (case hd => rfl); (case hg => rfl); (case hr => first | (go_simp; done) | (go_simp; rfl)); intro gb0 hg0 w0 hx0 hb0; have HX := Aside0.mk hx0; have HGX := Aside0.mk (show w.heap.size ≤ gb0 from Nat.le_of_eq hg0.symm); have HB := Aside0.mk hb0; have x0 := (blk_cell HX.out 0).trans rfl; have x1 := (blk_cell HX.out 1).trans rfl; have x2 := (blk_cell HX.out 2).trans rfl; have x3 := (blk_cell HX.out 3).trans rfl; have x4 := (blk_cell HX.out 4).trans rfl; have x5 := (blk_cell HX.out 5).trans rfl; clear hx0 hb0 hg0)) | (go_at_call 25; go_loud (refine (awake_calls _).mono ?_; rintro e w9 ⟨rfl, hb9⟩; have HX := Aside0.mk (blk_below HX.out hb9); (try have HA := Aside0.mk (HA.out.below hb9)); (try have HY := Aside0.mk (blk_below HY.out hb9)); (try have HW := Aside0.mk (Kd.R_below HW.out hb9)); (try have HR := Aside0.mk (Kd.R_below HR.out hb9)); have HB9 := HB; have HB := Aside0.mk (HB.out.trans (hb9.mono HB.out.size)); have x0 := (blk_cell HX.out 0).trans rfl; have x1 := (blk_cell HX.out 1).trans rfl; have x2 := (blk_cell HX.out 2).trans rfl; have x3 := (blk_cell HX.out 3).trans rfl; have x4 := (blk_cell HX.out 4).trans rfl; have x5 := (blk_cell HX.out 5).trans rfl; (try (have y0 := (blk_cell HY.out 0).trans rfl; have y1 := (blk_cell HY.out 1).trans rfl; have y2 := (blk_cell HY.out 2).trans rfl; have y3 := (blk_cell HY.out 3).trans rfl; have y4 := (blk_cell HY.out 4).trans rfl; have y5 := (blk_cell HY.out 5).trans rfl)); clear hb9)) | (go_at_call 13; go_loud (refine (may_c a.f3 _).mono ?_; rintro e w9 ⟨rfl, hb9⟩; have HX := Aside0.mk (blk_below HX.out hb9); (try have HA := Aside0.mk (HA.out.below hb9)); (try have HY := Aside0.mk (blk_below HY.out hb9)); (try have HW := Aside0.mk (Kd.R_below HW.out hb9)); (try have HR := Aside0.mk (Kd.R_below HR.out hb9)); have HB9 := HB; have HB := Aside0.mk (HB.out.trans (hb9.mono HB.out.size)); have x0 := (blk_cell HX.out 0).trans rfl; have x1 := (blk_cell HX.out 1).trans rfl; have x2 := (blk_cell HX.out 2).trans rfl; have x3 := (blk_cell HX.out 3).trans rfl; have x4 := (blk_cell HX.out 4).trans rfl; have x5 := (blk_cell HX.out 5).trans rfl; (try (have y0 := (blk_cell HY.out 0).trans rfl; have y1 := (blk_cell HY.out 1).trans rfl; have y2 := (blk_cell HY.out 2).trans rfl; have y3 := (blk_cell HY.out 3).trans rfl; have y4 := (blk_cell HY.out 4).trans rfl; have y5 := (blk_cell HY.out 5).trans rfl)); clear hb9; rw [HM.out])))
                go_ret
                exact ⟨rfl, HB.out⟩
            · have d6 : decide (50 < a.f2) = false := decide_eq_false h6
              have HV := Aside0.mk (show 0 ≤ x ∧ x ≤ 300 ∧ acts.length ≤ 40 ∧ 0 ≤ a.f2 ∧ a.f2 ≤ 50 by omega)
              have HE := Aside0.mk (show newE x o1 = 0 by unfold newE; rw [if_pos (by decide), if_neg h1, if_neg (by omega)])
              have hL0 : (List.replicate x.toNat o1).length ≤ 300 ∧ okL (List.replicate x.toNat o1) := ⟨by simp; omega, okL_rep _ _ (by decide)⟩
              generalize hRX : List.replicate x.toNat o1 = L0 at *
              have HL0 := Aside0.mk hRX
              have HLL0 := Aside0.mk hL0
              clear h1 h2 h3 hm h5 h6 hRX hL0
              go_enter Try.func6, Try.ntmps6
              go_wp2_with (first | ((with_reducible refine gate_dst (N := 5) rfl ?_); go_loud (refine box_event ?hg (N := 5) ?hd (cs := #[.int .i64 a.f0, .int .i64 a.f1, .int .i64 a.f2, .int .i64 a.f3.f0, .int .i64 a.f3.f1, .int .i64 a.f3.f2]) (t := 40) ?hr ?_; (case hd => rfl); (case hg => rfl); (case hr => first | (go_simp; done) | (go_simp; rfl)); intro gb0 hg0 w0 hx0 hb0; have HX := Aside0.mk hx0; have HGX := Aside0.mk (show w.heap.size ≤ gb0 from Nat.le_of_eq hg0.symm); have HB := Aside0.mk hb0; have x0 := (blk_cell HX.out 0).trans rfl; have x1 := (blk_cell HX.out 1).trans rfl; have x2 := (blk_cell HX.out 2).trans rfl; have x3 := (blk_cell HX.out 3).trans rfl; have x4 := (blk_cell HX.out 4).trans rfl; have x5 := (blk_cell HX.out 5).trans rfl; clear hx0 hb0 hg0)) | (go_at_call 25; go_loud (refine (awake_calls _).mono ?_; rintro e w9 ⟨rfl, hb9⟩; have HX := Aside0.mk (blk_below HX.out hb9); (try have HA := Aside0.mk (HA.out.below hb9)); (try have HY := Aside0.mk (blk_below HY.out hb9)); (try have HW := Aside0.mk (Kd.R_below HW.out hb9)); (try have HR := Aside0.mk (Kd.R_below HR.out hb9)); have HB9 := HB; have HB := Aside0.mk (HB.out.trans (hb9.mono HB.out.size)); have x0 := (blk_cell HX.out 0).trans rfl; have x1 := (blk_cell HX.out 1).trans rfl; have x2 := (blk_cell HX.out 2).trans rfl; have x3 := (blk_cell HX.out 3).trans rfl; have x4 := (blk_cell HX.out 4).trans rfl; have x5 := (blk_cell HX.out 5).trans rfl; (try (have y0 := (blk_cell HY.out 0).trans rfl; have y1 := (blk_cell HY.out 1).trans rfl; have y2 := (blk_cell HY.out 2).trans rfl; have y3 := (blk_cell HY.out 3).trans rfl; have y4 := (blk_cell HY.out 4).trans rfl; have y5 := (blk_cell HY.out 5).trans rfl)); clear hb9)) | (go_at_call 13; go_loud (refine (may_c a.f3 _).mono ?_; rintro e w9 ⟨rfl, hb9⟩; have HX := Aside0.mk (blk_below HX.out hb9); (try have HA := Aside0.mk (HA.out.below hb9)); (try have HY := Aside0.mk (blk_below HY.out hb9)); (try have HW := Aside0.mk (Kd.R_below HW.out hb9)); (try have HR := Aside0.mk (Kd.R_below HR.out hb9)); have HB9 := HB; have HB := Aside0.mk (HB.out.trans (hb9.mono HB.out.size)); have x0 := (blk_cell HX.out 0).trans rfl; have x1 := (blk_cell HX.out 1).trans rfl; have x2 := (blk_cell HX.out 2).trans rfl; have x3 := (blk_cell HX.out 3).trans rfl; have x4 := (blk_cell HX.out 4).trans rfl; have x5 := (blk_cell HX.out 5).trans rfl; (try (have y0 := (blk_cell HY.out 0).trans rfl; have y1 := (blk_cell HY.out 1).trans rfl; have y2 := (blk_cell HY.out 2).trans rfl; have y3 := (blk_cell HY.out 3).trans rfl; have y4 := (blk_cell HY.out 4).trans rfl; have y5 := (blk_cell HY.out 5).trans rfl)); clear hb9; rw [HM.out])) | (go_at_call 26; go_loud (refine (one_c _).mono ?_; rintro e w9 ⟨rfl, hb9⟩; have HX := Aside0.mk (blk_below HX.out hb9); (try have HA := Aside0.mk (HA.out.below hb9)); (try have HY := Aside0.mk (blk_below HY.out hb9)); (try have HW := Aside0.mk (Kd.R_below HW.out hb9)); (try have HR := Aside0.mk (Kd.R_below HR.out hb9)); have HB9 := HB; have HB := Aside0.mk (HB.out.trans (hb9.mono HB.out.size)); have x0 := (blk_cell HX.out 0).trans rfl; have x1 := (blk_cell HX.out 1).trans rfl; have x2 := (blk_cell HX.out 2).trans rfl; have x3 := (blk_cell HX.out 3).trans rfl; have x4 := (blk_cell HX.out 4).trans rfl; have x5 := (blk_cell HX.out 5).trans rfl; (try (have y0 := (blk_cell HY.out 0).trans rfl; have y1 := (blk_cell HY.out 1).trans rfl; have y2 := (blk_cell HY.out 2).trans rfl; have y3 := (blk_cell HY.out 3).trans rfl; have y4 := (blk_cell HY.out 4).trans rfl; have y5 := (blk_cell HY.out 5).trans rfl)); clear hb9)) | (go_at_call 11; go_loud (refine (new_calls x o1 _).mono ?_; rintro e w9 ⟨hb9, hA9⟩; unfold NewAns at hA9; rw [if_pos HE.out] at hA9; obtain ⟨gl, rfl, hge, hst⟩ := hA9; have HX := Aside0.mk (blk_below HX.out hb9); (try have HA := Aside0.mk (HA.out.below hb9)); (try have HY := Aside0.mk (blk_below HY.out hb9)); (try have HW := Aside0.mk (Kd.R_below HW.out hb9)); (try have HR := Aside0.mk (Kd.R_below HR.out hb9)); have HB9 := HB; have HB := Aside0.mk (HB.out.trans (hb9.mono HB.out.size)); have x0 := (blk_cell HX.out 0).trans rfl; have x1 := (blk_cell HX.out 1).trans rfl; have x2 := (blk_cell HX.out 2).trans rfl; have x3 := (blk_cell HX.out 3).trans rfl; have x4 := (blk_cell HX.out 4).trans rfl; have x5 := (blk_cell HX.out 5).trans rfl; (try (have y0 := (blk_cell HY.out 0).trans rfl; have y1 := (blk_cell HY.out 1).trans rfl; have y2 := (blk_cell HY.out 2).trans rfl; have y3 := (blk_cell HY.out 3).trans rfl; have y4 := (blk_cell HY.out 4).trans rfl; have y5 := (blk_cell HY.out 5).trans rfl)); rw [HL0.out] at hst; have HGA := Aside0.mk (Nat.le_trans HB9.out.size hge); have HA := Aside0.mk hst; have HNX := Aside0.mk (show gb0 ≠ gl from by obtain ⟨_, a1, _⟩ := hst; exact blk_ne HX.out a1 (by decide)); clear hb9 hst hge)))
              go_loopw [10] (fun v10 wr => ∃ (z : Int) (i : Nat) (L : List S28) (K : S28), v10 = .int .i64 z ∧ Aside0 (z = (i : Int)) ∧ Aside0 (i ≤ acts.length) ∧ Aside0 (St45 wr gl (rl L) K) ∧ Aside0 (L.length ≤ 300 + 50 * i) ∧ Aside0 (okL L ∧ okC K = true) ∧ Aside0 (wr.heap[gb0]? = some (.cells #[.int .i64 a.f0, .int .i64 a.f1, .int .i64 a.f2, .int .i64 a.f3.f0, .int .i64 a.f3.f1, .int .i64 a.f3.f2] 40 (0, 0))) ∧ Aside0 (Below w.heap.size w wr)) (fun v10 _ => acts.length - (intOf v10).toNat)
              case atStart => exact ⟨0, 0, L0, o1, rfl, ⟨rfl⟩, ⟨Nat.zero_le _⟩, HA, ⟨by have := HLL0.out.1; omega⟩, ⟨HLL0.out.2, by decide⟩, HX, HB⟩
              case round =>
                clear HA HX HB HB9 x0 x1 x2 x3 x4 x5 HLL0
                obtain ⟨z, i, L, K, rfl, hz, hi, HA, HLL, HOK, HX, HB⟩ := hrel
                have x0 := (blk_cell HX.out 0).trans rfl
                have x1 := (blk_cell HX.out 1).trans rfl
                have x2 := (blk_cell HX.out 2).trans rfl
                have x3 := (blk_cell HX.out 3).trans rfl
                have x4 := (blk_cell HX.out 4).trans rfl
                have x5 := (blk_cell HX.out 5).trans rfl
                by_cases hlt : i < acts.length
                · have d7 : decide (z < (acts.length : Int)) = true := decide_eq_true (by rw [hz.out]; omega)
                  have z0 : 0 ≤ z := by have := hz.out; omega
                  have z1 : z < (acts.length : Int) := by have := hz.out; omega
                  obtain ⟨ad, e0, q0, q1, q2, q3, q4, q5⟩ := atA40 (C_anyE HC.out HB.out) z z0 z1
                  cases e0
                  have HLT := Aside0.mk hlt
                  have hzw : wrap64 (z + 1) = z + 1 := by have := hz.out; have := HV.out; exact w64 _ (by omega)
                  clear hlt
                  by_cases h8 : 50 < (rdA40 acts z).f2
                  · have d8 : decide (50 < (rdA40 acts z).f2) = true := decide_eq_true h8
                    clear h8
                    as_aux_lemma =>
                      go_wp2_with (first | ((with_reducible refine gate_dst (N := 11) rfl ?_); go_loud (refine box_event ?hg (N := 11) ?hd (cs := #[.int .i64 0, .int .i64 0, .int .i64 0, .int .i64 0, .int .i64 0, .int .i64 0]) (t := 40) ?hr ?_; (case hd => rfl); (case hg => rfl); (case hr => first | (go_simp; done) | (go_simp; rfl)); intro gb5 hg5 w5 hx5 hb5; have HGE5 := Aside0.mk (show w.heap.size ≤ gb5 from hg5 ▸ HB.out.size); have HN5 := Aside0.mk (show gl ≠ gb5 ∧ gb0 ≠ gb5 from ⟨Nat.ne_of_lt (hg5 ▸ HA.out.lt), Nat.ne_of_lt (hg5 ▸ blk_lt HX.out)⟩); have q0 := pw_cell_below hb5 q0; have q1 := pw_cell_below hb5 q1; have q2 := pw_cell_below hb5 q2; have q3 := pw_cell_below hb5 q3; have q4 := pw_cell_below hb5 q4; have q5 := pw_cell_below hb5 q5; have HX := Aside0.mk (blk_below HX.out hb5); (try have HA := Aside0.mk (HA.out.below hb5)); (try have HY := Aside0.mk (blk_below HY.out hb5)); (try have HW := Aside0.mk (Kd.R_below HW.out hb5)); (try have HR := Aside0.mk (Kd.R_below HR.out hb5)); have HB9 := HB; have HB := Aside0.mk (HB.out.trans (hb5.mono HB.out.size)); have x0 := (blk_cell HX.out 0).trans rfl; have x1 := (blk_cell HX.out 1).trans rfl; have x2 := (blk_cell HX.out 2).trans rfl; have x3 := (blk_cell HX.out 3).trans rfl; have x4 := (blk_cell HX.out 4).trans rfl; have x5 := (blk_cell HX.out 5).trans rfl; (try (have y0 := (blk_cell HY.out 0).trans rfl; have y1 := (blk_cell HY.out 1).trans rfl; have y2 := (blk_cell HY.out 2).trans rfl; have y3 := (blk_cell HY.out 3).trans rfl; have y4 := (blk_cell HY.out 4).trans rfl; have y5 := (blk_cell HY.out 5).trans rfl)); have HY := Aside0.mk hx5; clear hx5 hb5 hg5)) | ((with_reducible refine gate_store (t := 40) (p := 11) rfl ?_); go_loud (refine store_event rfl 40 _ _ rfl gb5 #[.int .i64 (rdA40 acts z).f0, .int .i64 (rdA40 acts z).f1, .int .i64 (rdA40 acts z).f2, .int .i64 (rdA40 acts z).f3.f0, .int .i64 (rdA40 acts z).f3.f1, .int .i64 (rdA40 acts z).f3.f2] rfl rfl 40 #[.int .i64 0, .int .i64 0, .int .i64 0, .int .i64 0, .int .i64 0, .int .i64 0] HY.out (size40e _ rfl) rfl (by first | rfl | decide | kernel_rfl) ?_; intro w6 x6 o6 s6; have HYO := HY; have HY := Aside0.mk x6; have HA := Aside0.mk (St45.off40e HA.out o6 HN5.out.1 HYO.out); have HX := Aside0.mk ((o6 _ HN5.out.2).trans HX.out); have HB := Aside0.mk (s6 _ _ HB.out HGE5.out); have x0 := (blk_cell HX.out 0).trans rfl; have x1 := (blk_cell HX.out 1).trans rfl; have x2 := (blk_cell HX.out 2).trans rfl; have x3 := (blk_cell HX.out 3).trans rfl; have x4 := (blk_cell HX.out 4).trans rfl; have x5 := (blk_cell HX.out 5).trans rfl; have y0 := (blk_cell HY.out 0).trans rfl; have y1 := (blk_cell HY.out 1).trans rfl; have y2 := (blk_cell HY.out 2).trans rfl; have y3 := (blk_cell HY.out 3).trans rfl; have y4 := (blk_cell HY.out 4).trans rfl; have y5 := (blk_cell HY.out 5).trans rfl; clear x6 o6 s6 q0 q1 q2 q3 q4 q5)))
                      go_ret
                      exact ⟨rfl, HB.out⟩
                  · have d8 : decide (50 < (rdA40 acts z).f2) = false := decide_eq_false h8
                    have H50 := Aside0.mk (show (rdA40 acts z).f2 ≤ 50 by omega)
                    clear h8
                    by_cases k0 : (rdA40 acts z).f0 = 0
                    · have e0 : ((rdA40 acts z).f0 == 0) = true := beq_iff_eq.mpr k0
                      have HL := Aside0.mk (show actL L K (rdA40 acts z) = insL L K (rdA40 acts z).f1 (rdA40 acts z).f2 by unfold actL; rw [if_pos k0])
                      have HK := Aside0.mk (show actK L K (rdA40 acts z) = K by unfold actK; rw [if_neg (by omega)])
                      clear k0
                      go_wp2_with (first | ((with_reducible refine gate_dst (N := 11) rfl ?_); go_loud (refine box_event ?hg (N := 11) ?hd (cs := #[.int .i64 0, .int .i64 0, .int .i64 0, .int .i64 0, .int .i64 0, .int .i64 0]) (t := 40) ?hr ?_; (case hd => rfl); (case hg => rfl); (case hr => first | (go_simp; done) | (go_simp; rfl)); intro gb5 hg5 w5 hx5 hb5; have HGE5 := Aside0.mk (show w.heap.size ≤ gb5 from hg5 ▸ HB.out.size); have HN5 := Aside0.mk (show gl ≠ gb5 ∧ gb0 ≠ gb5 from ⟨Nat.ne_of_lt (hg5 ▸ HA.out.lt), Nat.ne_of_lt (hg5 ▸ blk_lt HX.out)⟩); have q0 := pw_cell_below hb5 q0; have q1 := pw_cell_below hb5 q1; have q2 := pw_cell_below hb5 q2; have q3 := pw_cell_below hb5 q3; have q4 := pw_cell_below hb5 q4; have q5 := pw_cell_below hb5 q5; have HX := Aside0.mk (blk_below HX.out hb5); (try have HA := Aside0.mk (HA.out.below hb5)); (try have HY := Aside0.mk (blk_below HY.out hb5)); (try have HW := Aside0.mk (Kd.R_below HW.out hb5)); (try have HR := Aside0.mk (Kd.R_below HR.out hb5)); have HB9 := HB; have HB := Aside0.mk (HB.out.trans (hb5.mono HB.out.size)); have x0 := (blk_cell HX.out 0).trans rfl; have x1 := (blk_cell HX.out 1).trans rfl; have x2 := (blk_cell HX.out 2).trans rfl; have x3 := (blk_cell HX.out 3).trans rfl; have x4 := (blk_cell HX.out 4).trans rfl; have x5 := (blk_cell HX.out 5).trans rfl; (try (have y0 := (blk_cell HY.out 0).trans rfl; have y1 := (blk_cell HY.out 1).trans rfl; have y2 := (blk_cell HY.out 2).trans rfl; have y3 := (blk_cell HY.out 3).trans rfl; have y4 := (blk_cell HY.out 4).trans rfl; have y5 := (blk_cell HY.out 5).trans rfl)); have HY := Aside0.mk hx5; clear hx5 hb5 hg5)) | ((with_reducible refine gate_store (t := 40) (p := 11) rfl ?_); go_loud (refine store_event rfl 40 _ _ rfl gb5 #[.int .i64 (rdA40 acts z).f0, .int .i64 (rdA40 acts z).f1, .int .i64 (rdA40 acts z).f2, .int .i64 (rdA40 acts z).f3.f0, .int .i64 (rdA40 acts z).f3.f1, .int .i64 (rdA40 acts z).f3.f2] rfl rfl 40 #[.int .i64 0, .int .i64 0, .int .i64 0, .int .i64 0, .int .i64 0, .int .i64 0] HY.out (size40e _ rfl) rfl (by first | rfl | decide | kernel_rfl) ?_; intro w6 x6 o6 s6; have HYO := HY; have HY := Aside0.mk x6; have HA := Aside0.mk (St45.off40e HA.out o6 HN5.out.1 HYO.out); have HX := Aside0.mk ((o6 _ HN5.out.2).trans HX.out); have HB := Aside0.mk (s6 _ _ HB.out HGE5.out); have x0 := (blk_cell HX.out 0).trans rfl; have x1 := (blk_cell HX.out 1).trans rfl; have x2 := (blk_cell HX.out 2).trans rfl; have x3 := (blk_cell HX.out 3).trans rfl; have x4 := (blk_cell HX.out 4).trans rfl; have x5 := (blk_cell HX.out 5).trans rfl; have y0 := (blk_cell HY.out 0).trans rfl; have y1 := (blk_cell HY.out 1).trans rfl; have y2 := (blk_cell HY.out 2).trans rfl; have y3 := (blk_cell HY.out 3).trans rfl; have y4 := (blk_cell HY.out 4).trans rfl; have y5 := (blk_cell HY.out 5).trans rfl; clear x6 o6 s6 q0 q1 q2 q3 q4 q5)) | (go_at_call 21; go_loud (refine (insert_calls HA.out (by have := HLL.out; have := HV.out; have := hi.out; omega) (rdA40 acts z).f1 (rdA40 acts z).f2).mono ?_; rintro e w7 ⟨rfl, hst, hg7⟩; have HX := Aside0.mk (blk_grown HX.out hg7 (by simpa using HNX.out)); have HB := Aside0.mk (below_gb HB.out HGA.out hg7); have HA := Aside0.mk hst; clear hst hg7)))
                      go_roundw
                      case rel => exact ⟨_, i + 1, actL L K (rdA40 acts z), actK L K (rdA40 acts z), rfl, ⟨by rw [hzw, hz.out]; omega⟩, ⟨by have := HLT.out; omega⟩, ⟨by rw [HL.out, HK.out]; exact HA.out⟩, ⟨by have := act_len L K (rdA40 acts z) H50.out; have := HLL.out; omega⟩, ⟨(act_ok L K _ HOK.out.1 HOK.out.2).1, (act_ok L K _ HOK.out.1 HOK.out.2).2⟩, HX, HB⟩
                      case measure => have h1 := HLT.out; have h2 := hz.out; simp [intOf, hzw]; omega
                    · have e0 : ((rdA40 acts z).f0 == 0) = false := beq_eq_false_iff_ne.mpr k0
                      by_cases k1 : (rdA40 acts z).f0 = 1
                      · have e1 : ((rdA40 acts z).f0 == 1) = true := beq_iff_eq.mpr k1
                        have HL := Aside0.mk (show actL L K (rdA40 acts z) = delL L (rdA40 acts z).f1 (rdA40 acts z).f2 by unfold actL; rw [if_neg k0, if_pos k1])
                        have HK := Aside0.mk (show actK L K (rdA40 acts z) = delK L K (rdA40 acts z).f1 (rdA40 acts z).f2 by unfold actK; rw [if_pos k1])
                        clear k0 k1
                        go_wp2_with (first | ((with_reducible refine gate_dst (N := 11) rfl ?_); go_loud (refine box_event ?hg (N := 11) ?hd (cs := #[.int .i64 0, .int .i64 0, .int .i64 0, .int .i64 0, .int .i64 0, .int .i64 0]) (t := 40) ?hr ?_; (case hd => rfl); (case hg => rfl); (case hr => first | (go_simp; done) | (go_simp; rfl)); intro gb5 hg5 w5 hx5 hb5; have HGE5 := Aside0.mk (show w.heap.size ≤ gb5 from hg5 ▸ HB.out.size); have HN5 := Aside0.mk (show gl ≠ gb5 ∧ gb0 ≠ gb5 from ⟨Nat.ne_of_lt (hg5 ▸ HA.out.lt), Nat.ne_of_lt (hg5 ▸ blk_lt HX.out)⟩); have q0 := pw_cell_below hb5 q0; have q1 := pw_cell_below hb5 q1; have q2 := pw_cell_below hb5 q2; have q3 := pw_cell_below hb5 q3; have q4 := pw_cell_below hb5 q4; have q5 := pw_cell_below hb5 q5; have HX := Aside0.mk (blk_below HX.out hb5); (try have HA := Aside0.mk (HA.out.below hb5)); (try have HY := Aside0.mk (blk_below HY.out hb5)); (try have HW := Aside0.mk (Kd.R_below HW.out hb5)); (try have HR := Aside0.mk (Kd.R_below HR.out hb5)); have HB9 := HB; have HB := Aside0.mk (HB.out.trans (hb5.mono HB.out.size)); have x0 := (blk_cell HX.out 0).trans rfl; have x1 := (blk_cell HX.out 1).trans rfl; have x2 := (blk_cell HX.out 2).trans rfl; have x3 := (blk_cell HX.out 3).trans rfl; have x4 := (blk_cell HX.out 4).trans rfl; have x5 := (blk_cell HX.out 5).trans rfl; (try (have y0 := (blk_cell HY.out 0).trans rfl; have y1 := (blk_cell HY.out 1).trans rfl; have y2 := (blk_cell HY.out 2).trans rfl; have y3 := (blk_cell HY.out 3).trans rfl; have y4 := (blk_cell HY.out 4).trans rfl; have y5 := (blk_cell HY.out 5).trans rfl)); have HY := Aside0.mk hx5; clear hx5 hb5 hg5)) | ((with_reducible refine gate_store (t := 40) (p := 11) rfl ?_); go_loud (refine store_event rfl 40 _ _ rfl gb5 #[.int .i64 (rdA40 acts z).f0, .int .i64 (rdA40 acts z).f1, .int .i64 (rdA40 acts z).f2, .int .i64 (rdA40 acts z).f3.f0, .int .i64 (rdA40 acts z).f3.f1, .int .i64 (rdA40 acts z).f3.f2] rfl rfl 40 #[.int .i64 0, .int .i64 0, .int .i64 0, .int .i64 0, .int .i64 0, .int .i64 0] HY.out (size40e _ rfl) rfl (by first | rfl | decide | kernel_rfl) ?_; intro w6 x6 o6 s6; have HYO := HY; have HY := Aside0.mk x6; have HA := Aside0.mk (St45.off40e HA.out o6 HN5.out.1 HYO.out); have HX := Aside0.mk ((o6 _ HN5.out.2).trans HX.out); have HB := Aside0.mk (s6 _ _ HB.out HGE5.out); have x0 := (blk_cell HX.out 0).trans rfl; have x1 := (blk_cell HX.out 1).trans rfl; have x2 := (blk_cell HX.out 2).trans rfl; have x3 := (blk_cell HX.out 3).trans rfl; have x4 := (blk_cell HX.out 4).trans rfl; have x5 := (blk_cell HX.out 5).trans rfl; have y0 := (blk_cell HY.out 0).trans rfl; have y1 := (blk_cell HY.out 1).trans rfl; have y2 := (blk_cell HY.out 2).trans rfl; have y3 := (blk_cell HY.out 3).trans rfl; have y4 := (blk_cell HY.out 4).trans rfl; have y5 := (blk_cell HY.out 5).trans rfl; clear x6 o6 s6 q0 q1 q2 q3 q4 q5)) | (go_at_call 22; go_loud (refine (delete_calls HA.out (by have := HLL.out; have := HV.out; have := hi.out; omega) (rdA40 acts z).f1 (rdA40 acts z).f2).mono ?_; rintro e w7 ⟨rfl, hst, hg7⟩; have HX := Aside0.mk (blk_grown HX.out hg7 (by simpa using HNX.out)); have HB := Aside0.mk (below_gb HB.out HGA.out hg7); have HA := Aside0.mk hst; clear hst hg7)))
                        go_roundw
                        case rel => exact ⟨_, i + 1, actL L K (rdA40 acts z), actK L K (rdA40 acts z), rfl, ⟨by rw [hzw, hz.out]; omega⟩, ⟨by have := HLT.out; omega⟩, ⟨by rw [HL.out, HK.out]; exact HA.out⟩, ⟨by have := act_len L K (rdA40 acts z) H50.out; have := HLL.out; omega⟩, ⟨(act_ok L K _ HOK.out.1 HOK.out.2).1, (act_ok L K _ HOK.out.1 HOK.out.2).2⟩, HX, HB⟩
                        case measure => have h1 := HLT.out; have h2 := hz.out; simp [intOf, hzw]; omega
                      · have e1 : ((rdA40 acts z).f0 == 1) = false := beq_eq_false_iff_ne.mpr k1
                        by_cases k2 : (rdA40 acts z).f0 = 2
                        · have e2 : ((rdA40 acts z).f0 == 2) = true := beq_iff_eq.mpr k2
                          have HL := Aside0.mk (show actL L K (rdA40 acts z) = setL L (rdA40 acts z).f1 (rdA40 acts z).f2 (rdA40 acts z).f3 by unfold actL; rw [if_neg k0, if_neg k1, if_pos k2])
                          have HK := Aside0.mk (show actK L K (rdA40 acts z) = K by unfold actK; rw [if_neg k1])
                          clear k0 k1 k2
                          go_wp2_with (first | ((with_reducible refine gate_dst (N := 11) rfl ?_); go_loud (refine box_event ?hg (N := 11) ?hd (cs := #[.int .i64 0, .int .i64 0, .int .i64 0, .int .i64 0, .int .i64 0, .int .i64 0]) (t := 40) ?hr ?_; (case hd => rfl); (case hg => rfl); (case hr => first | (go_simp; done) | (go_simp; rfl)); intro gb5 hg5 w5 hx5 hb5; have HGE5 := Aside0.mk (show w.heap.size ≤ gb5 from hg5 ▸ HB.out.size); have HN5 := Aside0.mk (show gl ≠ gb5 ∧ gb0 ≠ gb5 from ⟨Nat.ne_of_lt (hg5 ▸ HA.out.lt), Nat.ne_of_lt (hg5 ▸ blk_lt HX.out)⟩); have q0 := pw_cell_below hb5 q0; have q1 := pw_cell_below hb5 q1; have q2 := pw_cell_below hb5 q2; have q3 := pw_cell_below hb5 q3; have q4 := pw_cell_below hb5 q4; have q5 := pw_cell_below hb5 q5; have HX := Aside0.mk (blk_below HX.out hb5); (try have HA := Aside0.mk (HA.out.below hb5)); (try have HY := Aside0.mk (blk_below HY.out hb5)); (try have HW := Aside0.mk (Kd.R_below HW.out hb5)); (try have HR := Aside0.mk (Kd.R_below HR.out hb5)); have HB9 := HB; have HB := Aside0.mk (HB.out.trans (hb5.mono HB.out.size)); have x0 := (blk_cell HX.out 0).trans rfl; have x1 := (blk_cell HX.out 1).trans rfl; have x2 := (blk_cell HX.out 2).trans rfl; have x3 := (blk_cell HX.out 3).trans rfl; have x4 := (blk_cell HX.out 4).trans rfl; have x5 := (blk_cell HX.out 5).trans rfl; (try (have y0 := (blk_cell HY.out 0).trans rfl; have y1 := (blk_cell HY.out 1).trans rfl; have y2 := (blk_cell HY.out 2).trans rfl; have y3 := (blk_cell HY.out 3).trans rfl; have y4 := (blk_cell HY.out 4).trans rfl; have y5 := (blk_cell HY.out 5).trans rfl)); have HY := Aside0.mk hx5; clear hx5 hb5 hg5)) | ((with_reducible refine gate_store (t := 40) (p := 11) rfl ?_); go_loud (refine store_event rfl 40 _ _ rfl gb5 #[.int .i64 (rdA40 acts z).f0, .int .i64 (rdA40 acts z).f1, .int .i64 (rdA40 acts z).f2, .int .i64 (rdA40 acts z).f3.f0, .int .i64 (rdA40 acts z).f3.f1, .int .i64 (rdA40 acts z).f3.f2] rfl rfl 40 #[.int .i64 0, .int .i64 0, .int .i64 0, .int .i64 0, .int .i64 0, .int .i64 0] HY.out (size40e _ rfl) rfl (by first | rfl | decide | kernel_rfl) ?_; intro w6 x6 o6 s6; have HYO := HY; have HY := Aside0.mk x6; have HA := Aside0.mk (St45.off40e HA.out o6 HN5.out.1 HYO.out); have HX := Aside0.mk ((o6 _ HN5.out.2).trans HX.out); have HB := Aside0.mk (s6 _ _ HB.out HGE5.out); have x0 := (blk_cell HX.out 0).trans rfl; have x1 := (blk_cell HX.out 1).trans rfl; have x2 := (blk_cell HX.out 2).trans rfl; have x3 := (blk_cell HX.out 3).trans rfl; have x4 := (blk_cell HX.out 4).trans rfl; have x5 := (blk_cell HX.out 5).trans rfl; have y0 := (blk_cell HY.out 0).trans rfl; have y1 := (blk_cell HY.out 1).trans rfl; have y2 := (blk_cell HY.out 2).trans rfl; have y3 := (blk_cell HY.out 3).trans rfl; have y4 := (blk_cell HY.out 4).trans rfl; have y5 := (blk_cell HY.out 5).trans rfl; clear x6 o6 s6 q0 q1 q2 q3 q4 q5)) | (go_at_call 23; go_loud (refine (set_calls HA.out (by have := HLL.out; have := HV.out; have := hi.out; omega) (rdA40 acts z).f1 (rdA40 acts z).f2 (rdA40 acts z).f3).mono ?_; rintro e w7 ⟨rfl, hst, hg7⟩; have HX := Aside0.mk (blk_grown HX.out hg7 (by simpa using HNX.out)); have HB := Aside0.mk (below_gb HB.out HGA.out hg7); have HA := Aside0.mk hst; clear hst hg7)))
                          go_roundw
                          case rel => exact ⟨_, i + 1, actL L K (rdA40 acts z), actK L K (rdA40 acts z), rfl, ⟨by rw [hzw, hz.out]; omega⟩, ⟨by have := HLT.out; omega⟩, ⟨by rw [HL.out, HK.out]; exact HA.out⟩, ⟨by have := act_len L K (rdA40 acts z) H50.out; have := HLL.out; omega⟩, ⟨(act_ok L K _ HOK.out.1 HOK.out.2).1, (act_ok L K _ HOK.out.1 HOK.out.2).2⟩, HX, HB⟩
                          case measure => have h1 := HLT.out; have h2 := hz.out; simp [intOf, hzw]; omega
                        · have e2 : ((rdA40 acts z).f0 == 2) = false := beq_eq_false_iff_ne.mpr k2
                          have HL := Aside0.mk (show actL L K (rdA40 acts z) = L by unfold actL; rw [if_neg k0, if_neg k1, if_neg k2])
                          have HK := Aside0.mk (show actK L K (rdA40 acts z) = K by unfold actK; rw [if_neg k1])
                          clear k0 k1 k2
                          go_wp2_with (first | ((with_reducible refine gate_dst (N := 11) rfl ?_); go_loud (refine box_event ?hg (N := 11) ?hd (cs := #[.int .i64 0, .int .i64 0, .int .i64 0, .int .i64 0, .int .i64 0, .int .i64 0]) (t := 40) ?hr ?_; (case hd => rfl); (case hg => rfl); (case hr => first | (go_simp; done) | (go_simp; rfl)); intro gb5 hg5 w5 hx5 hb5; have HGE5 := Aside0.mk (show w.heap.size ≤ gb5 from hg5 ▸ HB.out.size); have HN5 := Aside0.mk (show gl ≠ gb5 ∧ gb0 ≠ gb5 from ⟨Nat.ne_of_lt (hg5 ▸ HA.out.lt), Nat.ne_of_lt (hg5 ▸ blk_lt HX.out)⟩); have q0 := pw_cell_below hb5 q0; have q1 := pw_cell_below hb5 q1; have q2 := pw_cell_below hb5 q2; have q3 := pw_cell_below hb5 q3; have q4 := pw_cell_below hb5 q4; have q5 := pw_cell_below hb5 q5; have HX := Aside0.mk (blk_below HX.out hb5); (try have HA := Aside0.mk (HA.out.below hb5)); (try have HY := Aside0.mk (blk_below HY.out hb5)); (try have HW := Aside0.mk (Kd.R_below HW.out hb5)); (try have HR := Aside0.mk (Kd.R_below HR.out hb5)); have HB9 := HB; have HB := Aside0.mk (HB.out.trans (hb5.mono HB.out.size)); have x0 := (blk_cell HX.out 0).trans rfl; have x1 := (blk_cell HX.out 1).trans rfl; have x2 := (blk_cell HX.out 2).trans rfl; have x3 := (blk_cell HX.out 3).trans rfl; have x4 := (blk_cell HX.out 4).trans rfl; have x5 := (blk_cell HX.out 5).trans rfl; (try (have y0 := (blk_cell HY.out 0).trans rfl; have y1 := (blk_cell HY.out 1).trans rfl; have y2 := (blk_cell HY.out 2).trans rfl; have y3 := (blk_cell HY.out 3).trans rfl; have y4 := (blk_cell HY.out 4).trans rfl; have y5 := (blk_cell HY.out 5).trans rfl)); have HY := Aside0.mk hx5; clear hx5 hb5 hg5)) | ((with_reducible refine gate_store (t := 40) (p := 11) rfl ?_); go_loud (refine store_event rfl 40 _ _ rfl gb5 #[.int .i64 (rdA40 acts z).f0, .int .i64 (rdA40 acts z).f1, .int .i64 (rdA40 acts z).f2, .int .i64 (rdA40 acts z).f3.f0, .int .i64 (rdA40 acts z).f3.f1, .int .i64 (rdA40 acts z).f3.f2] rfl rfl 40 #[.int .i64 0, .int .i64 0, .int .i64 0, .int .i64 0, .int .i64 0, .int .i64 0] HY.out (size40e _ rfl) rfl (by first | rfl | decide | kernel_rfl) ?_; intro w6 x6 o6 s6; have HYO := HY; have HY := Aside0.mk x6; have HA := Aside0.mk (St45.off40e HA.out o6 HN5.out.1 HYO.out); have HX := Aside0.mk ((o6 _ HN5.out.2).trans HX.out); have HB := Aside0.mk (s6 _ _ HB.out HGE5.out); have x0 := (blk_cell HX.out 0).trans rfl; have x1 := (blk_cell HX.out 1).trans rfl; have x2 := (blk_cell HX.out 2).trans rfl; have x3 := (blk_cell HX.out 3).trans rfl; have x4 := (blk_cell HX.out 4).trans rfl; have x5 := (blk_cell HX.out 5).trans rfl; have y0 := (blk_cell HY.out 0).trans rfl; have y1 := (blk_cell HY.out 1).trans rfl; have y2 := (blk_cell HY.out 2).trans rfl; have y3 := (blk_cell HY.out 3).trans rfl; have y4 := (blk_cell HY.out 4).trans rfl; have y5 := (blk_cell HY.out 5).trans rfl; clear x6 o6 s6 q0 q1 q2 q3 q4 q5)))
                          go_roundw
                          case rel => exact ⟨_, i + 1, actL L K (rdA40 acts z), actK L K (rdA40 acts z), rfl, ⟨by rw [hzw, hz.out]; omega⟩, ⟨by have := HLT.out; omega⟩, ⟨by rw [HL.out, HK.out]; exact HA.out⟩, ⟨by have := act_len L K (rdA40 acts z) H50.out; have := HLL.out; omega⟩, ⟨(act_ok L K _ HOK.out.1 HOK.out.2).1, (act_ok L K _ HOK.out.1 HOK.out.2).2⟩, HX, HB⟩
                          case measure => have h1 := HLT.out; have h2 := hz.out; simp [intOf, hzw]; omega
                · have d7 : decide (z < (acts.length : Int)) = false := decide_eq_false (by rw [hz.out]; omega)
                  have HL5 := Aside0.mk (show L.length ≤ 2300 by have := HLL.out; have := HV.out; have := hi.out; omega)
                  clear hlt
                  go_wp2_with (fail)
                  refine (whole_calls HA.out (by have := HL5.out; omega)).mono ?_; rintro e w9 ⟨v9, rfl, hv9, hb9⟩; have HX := Aside0.mk (blk_below HX.out hb9); (try have HA := Aside0.mk (HA.out.below hb9)); (try have HY := Aside0.mk (blk_below HY.out hb9)); (try have HW := Aside0.mk (Kd.R_below HW.out hb9)); (try have HR := Aside0.mk (Kd.R_below HR.out hb9)); have HB9 := HB; have HB := Aside0.mk (HB.out.trans (hb9.mono HB.out.size)); have x0 := (blk_cell HX.out 0).trans rfl; have x1 := (blk_cell HX.out 1).trans rfl; have x2 := (blk_cell HX.out 2).trans rfl; have x3 := (blk_cell HX.out 3).trans rfl; have x4 := (blk_cell HX.out 4).trans rfl; have x5 := (blk_cell HX.out 5).trans rfl; (try (have y0 := (blk_cell HY.out 0).trans rfl; have y1 := (blk_cell HY.out 1).trans rfl; have y2 := (blk_cell HY.out 2).trans rfl; have y3 := (blk_cell HY.out 3).trans rfl; have y4 := (blk_cell HY.out 4).trans rfl; have y5 := (blk_cell HY.out 5).trans rfl)); obtain ⟨Aw, kw, rfl⟩ := Kd.R_slice hv9; have HW := Aside0.mk (Kd.R_lower hv9 HB9.out.size); clear hv9 hb9
                  go_wp2_with (fail)
                  refine (slice_calls HA.out (by have := HL5.out; omega) 0 L.length).mono ?_; rintro e w9 ⟨hb9, hA9⟩; unfold SliceAns at hA9; rw [if_pos (by omega), show clip L (0 : Int).toNat (L.length : Int).toNat = L from by rw [show ((0 : Int)).toNat = 0 from rfl, Int.toNat_natCast, clip_all]] at hA9; obtain ⟨v9, rfl, hv9⟩ := hA9; have HX := Aside0.mk (blk_below HX.out hb9); (try have HA := Aside0.mk (HA.out.below hb9)); (try have HY := Aside0.mk (blk_below HY.out hb9)); (try have HW := Aside0.mk (Kd.R_below HW.out hb9)); (try have HR := Aside0.mk (Kd.R_below HR.out hb9)); have HB9 := HB; have HB := Aside0.mk (HB.out.trans (hb9.mono HB.out.size)); have x0 := (blk_cell HX.out 0).trans rfl; have x1 := (blk_cell HX.out 1).trans rfl; have x2 := (blk_cell HX.out 2).trans rfl; have x3 := (blk_cell HX.out 3).trans rfl; have x4 := (blk_cell HX.out 4).trans rfl; have x5 := (blk_cell HX.out 5).trans rfl; (try (have y0 := (blk_cell HY.out 0).trans rfl; have y1 := (blk_cell HY.out 1).trans rfl; have y2 := (blk_cell HY.out 2).trans rfl; have y3 := (blk_cell HY.out 3).trans rfl; have y4 := (blk_cell HY.out 4).trans rfl; have y5 := (blk_cell HY.out 5).trans rfl)); obtain ⟨Ar, kr, rfl⟩ := Kd.R_slice hv9; have HR := Aside0.mk (Kd.R_lower hv9 HB9.out.size); clear hv9 hb9
                  go_wp2_with (fail)
                  have HRL := Aside0.mk (show (rl L).length ≤ 2300 from Nat.le_trans (rl_length L) HL5.out)
                  have HOKL := HOK
                  clear HOK HLL hi hz HE
                  go_loopw [15, 16] (fun v15 v16 wr => ∃ (s z : Int) (i : Nat), v15 = .int .i64 s ∧ v16 = .int .i64 z ∧ Aside0 (s = ((bytes ((rl L).take i)).length : Int)) ∧ Aside0 (z = (i : Int)) ∧ Aside0 (i ≤ (rl L).length) ∧ Aside0 (St45 wr gl (rl L) K) ∧ Aside0 (Kd.R k28 28 wr w.heap.size (fun _ => True) (.slice Aw L.length kw) L) ∧ Aside0 (Kd.R k60 60 wr w.heap.size (fun _ => True) (.slice Ar (rl L).length kr) (rl L)) ∧ Aside0 (wr.heap[gb0]? = some (.cells #[.int .i64 a.f0, .int .i64 a.f1, .int .i64 a.f2, .int .i64 a.f3.f0, .int .i64 a.f3.f1, .int .i64 a.f3.f2] 40 (0, 0))) ∧ Aside0 (Below w.heap.size w wr)) (fun _ v16 _ => (rl L).length - (intOf v16).toNat)
                  case atStart => exact ⟨0, 0, 0, rfl, rfl, ⟨rfl⟩, ⟨rfl⟩, ⟨Nat.zero_le _⟩, HA, HW, HR, HX, HB⟩
                  case round =>
                    clear HA HW HR HX HB HB9 x0 x1 x2 x3 x4 x5
                    obtain ⟨s, z, i, rfl, rfl, hs, hz, hi, HA, HW, HR, HX, HB⟩ := hrel
                    have hw1 : wrap64 (z + 1) = z + 1 := by have := hz.out; have := hi.out; have := HRL.out; exact w64 _ (by omega)
                    have hrl2 := HRL.out
                    by_cases hlt : i < (rl L).length
                    · have d9 : decide (z < ((rl L).length : Int)) = true := decide_eq_true (by rw [hz.out]; omega)
                      have z0 : 0 ≤ z := by have := hz.out; omega
                      have z1 : z < ((rl L).length : Int) := by have := hz.out; omega
                      have HLT := Aside0.mk hlt
                      obtain ⟨adr, e0, q0, q1, q2, q3⟩ := at_T60 (Kd.R_reads' HR.out).2.2 z z0 z1
                      cases e0
                      have hpos : 1 ≤ (rd_T60 (rl L) z).f0 := by rw [hz.out, rd_at _ _ hlt]; exact rl_pos L _ (List.getElem_mem _)
                      have hend : s + (rd_T60 (rl L) z).f0 = ((bytes ((rl L).take (i + 1))).length : Int) := by
                        rw [hs.out, hz.out, take_bytes _ i hlt, rd_at _ _ hlt, bytes_one]
                        have := rl_pos L _ (List.getElem_mem hlt)
                        simp
                        omega
                      have htl : (bytes ((rl L).take (i + 1))).length ≤ L.length := by
                        have h1 : (bytes (rl L)).length = L.length := by rw [bytes_rl]
                        have h2 : (bytes (rl L)).length = (bytes ((rl L).take (i + 1))).length + (bytes ((rl L).drop (i + 1))).length := by
                          conv => lhs; rw [← List.take_append_drop (i + 1) (rl L), bytes_append]
                          simp
                        omega
                      have hbyte : ∀ k : Nat, (bytes ((rl L).take i)).length ≤ k → k < (bytes ((rl L).take (i + 1))).length → rd_T28 L (k : Int) = (rd_T60 (rl L) z).f1 := by
                        intro k h0 h1
                        have := run_byte (rl L) i k hlt h0 h1
                        rw [bytes_rl] at this
                        rw [hz.out, rd_at _ _ hlt, rd28_at L k (by omega)]
                        rw [List.getElem?_eq_getElem (by omega)] at this
                        injection this
                      have d10 : decide ((rd_T60 (rl L) z).f0 < 1) = false := decide_eq_false (by omega)
                      have HEND := Aside0.mk hend
                      have HTL := Aside0.mk htl
                      have HBY := Aside0.mk hbyte
                      have hl5 := HL5.out
                      have hsum : wrap64 (s + (rd_T60 (rl L) z).f0) = s + (rd_T60 (rl L) z).f0 := by have := hs.out; exact w64 _ (by omega)
                      clear hend htl hbyte hpos hl5
                      go_upto_region 26 with (fail)
                      go_cut [142] (fun v142 wx => v142 = .bool false ∧ Aside0 (St45 wx gl (rl L) K) ∧ Aside0 (Kd.R k28 28 wx w.heap.size (fun _ => True) (.slice Aw L.length kw) L) ∧ Aside0 (Kd.R k60 60 wx w.heap.size (fun _ => True) (.slice (some adr) (rl L).length kr) (rl L)) ∧ Aside0 (wx.heap[gb0]? = some (.cells #[.int .i64 a.f0, .int .i64 a.f1, .int .i64 a.f2, .int .i64 a.f3.f0, .int .i64 a.f3.f1, .int .i64 a.f3.f2] 40 (0, 0))) ∧ Aside0 (Below w.heap.size w wx))
                      case first =>
                        by_cases hi0 : i = 0
                        · have d11 : decide (0 < z) = false := decide_eq_false (by rw [hz.out]; omega)
                          clear hlt hi0 hrl2
                          go_wp2_with (fail)
                          go_quiet (fail)
                          go_wp2
                          go_meet
                          exact ⟨rfl, ⟨by exact HA.out⟩, ⟨by exact HW.out⟩, ⟨by exact HR.out⟩, ⟨by exact HX.out⟩, ⟨by repeat (first | exact HB.out | apply pw_below_drewN | apply below_drew)⟩⟩
                        · have d11 : decide (0 < z) = true := decide_eq_true (by rw [hz.out]; omega)
                          have p0 : 0 ≤ z - 1 := by have := hz.out; omega
                          have p1 : z - 1 < ((rl L).length : Int) := by have := hz.out; omega
                          obtain ⟨adr2, e0, r0, r1, r2, r3⟩ := at_T60 (Kd.R_reads' HR.out).2.2 (z - 1) p0 p1
                          cases e0
                          rw [show (z - 1).toNat = z.toNat - 1 by omega] at r0 r1 r2 r3
                          have hne : ((rd_T60 (rl L) z).f1.f0 == (rd_T60 (rl L) (z - 1)).f1.f0 && ((rd_T60 (rl L) z).f1.f1 == (rd_T60 (rl L) (z - 1)).f1.f1 && (rd_T60 (rl L) z).f1.f2 == (rd_T60 (rl L) (z - 1)).f1.f2)) = false :=
                            Bool.eq_false_iff.mpr (fun q => rl_differ L i (by omega) hlt (by have := (beq28 _ _).1 q; rw [hz.out] at this; exact this))
                          have hw2 : wrap64 (z - 1) = z - 1 := w64 _ (by omega)
                          have hw3 : IntKind.i64.wrap (z - 1) = z - 1 := i64_in _ (by omega)
                          clear hlt hi0 hrl2
                          go_wp2_with (fail)
                          go_quiet (fail)
                          go_wp2
                          go_meet
                          exact ⟨by first | rfl | simp, ⟨by exact HA.out⟩, ⟨by exact HW.out⟩, ⟨by exact HR.out⟩, ⟨by exact HX.out⟩, ⟨by repeat (first | exact HB.out | apply pw_below_drewN | apply below_drew)⟩⟩
                      case rest =>
                        clear HA HW HR HX HB q0 q1 q2 q3
                        obtain ⟨rfl, HA, HW, HR, HX, HB⟩ := hcut
                        go_wp2_with (fail)
                        go_loopw [17] (fun v17 wr => ∃ (t : Int) (k : Nat), v17 = .int .i64 t ∧ Aside0 (t = (k : Int)) ∧ Aside0 ((bytes ((rl L).take i)).length ≤ k ∧ k ≤ (bytes ((rl L).take (i + 1))).length) ∧ Aside0 (St45 wr gl (rl L) K) ∧ Aside0 (Kd.R k28 28 wr w.heap.size (fun _ => True) (.slice Aw L.length kw) L) ∧ Aside0 (Kd.R k60 60 wr w.heap.size (fun _ => True) (.slice (some adr) (rl L).length kr) (rl L)) ∧ Aside0 (wr.heap[gb0]? = some (.cells #[.int .i64 a.f0, .int .i64 a.f1, .int .i64 a.f2, .int .i64 a.f3.f0, .int .i64 a.f3.f1, .int .i64 a.f3.f2] 40 (0, 0))) ∧ Aside0 (Below w.heap.size w wr)) (fun v17 _ => (bytes ((rl L).take (i + 1))).length - (intOf v17).toNat)
                        case atStart => exact ⟨s, (bytes ((rl L).take i)).length, rfl, hs, ⟨Nat.le_refl _, by have h1 := HEND.out; have h2 := hs.out; have h3 : (rd_T60 (rl L) z).f0 ≥ 1 := (by rw [hz.out, rd_at _ _ HLT.out]; exact rl_pos L _ (List.getElem_mem _)); omega⟩, HA, HW, HR, HX, HB⟩
                        case round =>
                          clear HA HW HR HX HB
                          obtain ⟨t, k, rfl, ht, hk, HA, HW, HR, HX, HB⟩ := hrel
                          obtain ⟨adr2, e0, q0, q1, q2, q3⟩ := at_T60 (Kd.R_reads' HR.out).2.2 z z0 z1
                          cases e0
                          have hend2 := HEND.out
                          by_cases hlk : k < (bytes ((rl L).take (i + 1))).length
                          · have d12 : decide (t < s + (rd_T60 (rl L) z).f0) = true := decide_eq_true (by rw [ht.out, HEND.out]; omega)
                            have t0 : 0 ≤ t := by have := ht.out; omega
                            have t1 : t < (L.length : Int) := by have := ht.out; have := HTL.out; omega
                            have d13 : decide ((L.length : Int) ≤ t) = false := decide_eq_false (by omega)
                            obtain ⟨adw, e0, r0, r1, r2⟩ := at_T28 (Kd.R_reads' HW.out).2.2 t t0 t1
                            cases e0
                            have hby : rd_T28 L t = (rd_T60 (rl L) z).f1 := by rw [ht.out]; exact HBY.out k hk.out.1 hlk
                            rw [hby] at r0 r1 r2
                            have HLK := Aside0.mk hlk
                            have htw : wrap64 (t + 1) = t + 1 := by have := HL5.out; exact w64 _ (by omega)
                            clear hby hlk hend2
                            go_upto_region 31 with (fail)
                            go_quiet (fail)
                            go_wp2
                            go_roundw
                            case rel => exact ⟨_, k + 1, rfl, ⟨by rw [htw, ht.out]; omega⟩, ⟨by have := hk.out; omega, HLK.out⟩, ⟨by exact HA.out⟩, ⟨by exact HW.out⟩, ⟨by exact HR.out⟩, ⟨by exact HX.out⟩, ⟨by repeat (first | exact HB.out | apply pw_below_drewN | apply below_drew)⟩⟩
                            case measure => have h1 := HLK.out; have h2 := ht.out; simp [intOf, htw]; omega
                          · have d12 : decide (t < s + (rd_T60 (rl L) z).f0) = false := decide_eq_false (by rw [ht.out, HEND.out]; omega)
                            clear hlk hend2
                            go_wp2_with (fail)
                            go_roundw
                            case rel => exact ⟨_, _, i + 1, rfl, rfl, ⟨by first | exact HEND.out | (rw [hsum]; exact HEND.out)⟩, ⟨by first | (rw [hz.out]; omega) | (rw [hw1, hz.out]; omega)⟩, ⟨HLT.out⟩, ⟨by exact HA.out⟩, ⟨by exact HW.out⟩, ⟨by exact HR.out⟩, ⟨by exact HX.out⟩, ⟨by exact HB.out⟩⟩
                            case measure => have h1 := HLT.out; have h2 := hz.out; simp [intOf, hw1]; omega
                    · have d9 : decide (z < ((rl L).length : Int)) = false := decide_eq_false (by rw [hz.out]; omega)
                      have hsL : s = (L.length : Int) := by
                        have h1 := hi.out
                        rw [hs.out, show i = (rl L).length by omega, List.take_length, bytes_rl]
                      subst hsL
                      clear hlt hs hw1 hrl2
                      go_wp2_with (fail)
                      refine (check_cE _ L.length 0 HR.out (check_f L HOKL.out.1 (by have := HL5.out; omega))).mono ?_; rintro e w9 ⟨rfl, hb9⟩; have HX := Aside0.mk (blk_below HX.out hb9); (try have HA := Aside0.mk (HA.out.below hb9)); (try have HY := Aside0.mk (blk_below HY.out hb9)); (try have HW := Aside0.mk (Kd.R_below HW.out hb9)); (try have HR := Aside0.mk (Kd.R_below HR.out hb9)); have HB9 := HB; have HB := Aside0.mk (HB.out.trans (hb9.mono HB.out.size)); have x0 := (blk_cell HX.out 0).trans rfl; have x1 := (blk_cell HX.out 1).trans rfl; have x2 := (blk_cell HX.out 2).trans rfl; have x3 := (blk_cell HX.out 3).trans rfl; have x4 := (blk_cell HX.out 4).trans rfl; have x5 := (blk_cell HX.out 5).trans rfl; (try (have y0 := (blk_cell HY.out 0).trans rfl; have y1 := (blk_cell HY.out 1).trans rfl; have y2 := (blk_cell HY.out 2).trans rfl; have y3 := (blk_cell HY.out 3).trans rfl; have y4 := (blk_cell HY.out 4).trans rfl; have y5 := (blk_cell HY.out 5).trans rfl)); clear hb9
                      by_cases c1 : a.f1 < 0
                      · have d14 : decide (a.f1 < 0) = true := decide_eq_true c1
                        clear c1
                        go_wp2_with (fail)
                        go_ret
                        exact ⟨rfl, HB.out⟩
                      · have d14 : decide (a.f1 < 0) = false := decide_eq_false c1
                        by_cases c2 : (L.length : Int) < a.f1
                        · have d15 : decide ((L.length : Int) < a.f1) = true := decide_eq_true c2
                          clear c1 c2
                          go_wp2_with (fail)
                          go_ret
                          exact ⟨rfl, HB.out⟩
                        · have d15 : decide ((L.length : Int) < a.f1) = false := decide_eq_false c2
                          by_cases c3 : L.length = 0
                          · have d16 : ((L.length : Int) == 0) = true := beq_iff_eq.mpr (by omega)
                            clear c1 c2 c3
                            go_wp2_with (fail)
                            go_ret
                            exact ⟨rfl, HB.out⟩
                          · have d16 : ((L.length : Int) == 0) = false := beq_eq_false_iff_ne.mpr (by omega)
                            have HP := Aside0.mk (show 0 ≤ a.f1 ∧ a.f1 ≤ (L.length : Int) ∧ 0 < L.length by omega)
                            clear c1 c2 c3
                            by_cases k2 : a.f0 = 2
                            · have d17 : (a.f0 == 2) = true := beq_iff_eq.mpr k2
                              have hwl : wrap64 ((L.length : Int) - a.f1) = (L.length : Int) - a.f1 := by have := HP.out; have := HL5.out; exact w64 _ (by omega)
                              clear k2
                              by_cases c4 : (L.length : Int) - a.f1 < a.f2
                              · have d18 : decide ((L.length : Int) - a.f1 < a.f2) = true := decide_eq_true c4
                                clear c4
                                go_wp2_with (fail)
                                go_ret
                                exact ⟨rfl, HB.out⟩
                              · have d18 : decide ((L.length : Int) - a.f1 < a.f2) = false := decide_eq_false c4
                                have HE2 := Aside0.mk (show setE L a.f1 a.f2 a.f3 = 0 by unfold setE; rw [if_pos (show hold a.f1 a.f2 L.length = true from decide_eq_true (by have := HP.out; have := HV.out; omega)), if_pos HM.out])
                                have HL2 := Aside0.mk (show setL L a.f1 a.f2 a.f3 = L.take a.f1.toNat ++ List.replicate a.f2.toNat a.f3 ++ L.drop (a.f1.toNat + a.f2.toNat) by unfold setL; rw [if_pos HE2.out, show (a.f1 + a.f2).toNat = a.f1.toNat + a.f2.toNat by have := HP.out; have := HV.out; omega])
                                have H4 := Aside0.mk (show a.f1 + a.f2 ≤ (L.length : Int) by omega)
                                have hwa : wrap64 (a.f1 + a.f2) = a.f1 + a.f2 := by have := HP.out; have := HV.out; have := HL5.out; exact w64 _ (by omega)
                                clear c4
                                go_wp2_with (first | (go_at_call 23; go_loud (refine (set_calls HA.out (by have := HL5.out; omega) a.f1 a.f2 a.f3).mono ?_; rintro e w7 ⟨rfl, hst, hg7⟩; rw [HE2.out]; rw [HL2.out] at hst; obtain ⟨csb, hcb⟩ := HA.out.cellsblk; have HBLK := Aside0.mk hcb; clear hcb; have HX := Aside0.mk (blk_grown HX.out hg7 (by simpa using HNX.out)); (try have HW := Aside0.mk (R_offb HW.out HBLK.out nt28_45 hg7)); have HB := Aside0.mk (below_gb HB.out HGA.out hg7); have HA := Aside0.mk hst; have x0 := (blk_cell HX.out 0).trans rfl; have x1 := (blk_cell HX.out 1).trans rfl; have x2 := (blk_cell HX.out 2).trans rfl; have x3 := (blk_cell HX.out 3).trans rfl; have x4 := (blk_cell HX.out 4).trans rfl; have x5 := (blk_cell HX.out 5).trans rfl; clear hst hg7)))
                                go_loopw [18] (fun v18 wr => ∃ (t : Int) (k : Nat), v18 = .int .i64 t ∧ Aside0 (t = a.f1 + (k : Int)) ∧ Aside0 ((k : Int) ≤ a.f2) ∧ Aside0 (St45 wr gl (rl (L.take a.f1.toNat ++ List.replicate a.f2.toNat a.f3 ++ L.drop (a.f1.toNat + a.f2.toNat))) K) ∧ Aside0 (Kd.R k28 28 wr w.heap.size (fun _ => True) (.slice Aw L.length kw) (L.take a.f1.toNat ++ List.replicate k a.f3 ++ L.drop (a.f1.toNat + k))) ∧ Aside0 (wr.heap[gb0]? = some (.cells #[.int .i64 a.f0, .int .i64 a.f1, .int .i64 a.f2, .int .i64 a.f3.f0, .int .i64 a.f3.f1, .int .i64 a.f3.f2] 40 (0, 0))) ∧ Aside0 (Below w.heap.size w wr)) (fun v18 _ => (a.f1 + a.f2).toNat - (intOf v18).toNat)
                                case atStart => exact ⟨a.f1, 0, rfl, ⟨by simp⟩, ⟨by have := HV.out; omega⟩, HA, ⟨by have h5 := HW.out; simpa using h5⟩, HX, HB⟩
                                case round =>
                                  clear HA HW HX HB x0 x1 x2 x3 x4 x5 HBLK
                                  obtain ⟨t, k, rfl, ht, hk, HA, HW, HX, HB⟩ := hrel
                                  have x0 := (blk_cell HX.out 0).trans rfl
                                  have x1 := (blk_cell HX.out 1).trans rfl
                                  have x2 := (blk_cell HX.out 2).trans rfl
                                  have x3 := (blk_cell HX.out 3).trans rfl
                                  have x4 := (blk_cell HX.out 4).trans rfl
                                  have x5 := (blk_cell HX.out 5).trans rfl
                                  by_cases hlk : (k : Int) < a.f2
                                  · have hP := HP.out
                                    have h4 := H4.out
                                    have d19 : decide (t < a.f1 + a.f2) = true := decide_eq_true (by rw [ht.out]; omega)
                                    have htn : t.toNat = a.f1.toNat + k := by have := ht.out; omega
                                    have hset := set_midE L a.f1.toNat k a.f3 (by omega)
                                    have hv := HW.out
                                    rw [← htn] at hset hv
                                    have hlen : (L.take a.f1.toNat ++ List.replicate k a.f3 ++ L.drop t.toNat).length = L.length := by simp; omega
                                    obtain ⟨Z, hZ⟩ : ∃ Z, Z = L.take a.f1.toNat ++ List.replicate k a.f3 ++ L.drop t.toNat := ⟨_, rfl⟩
                                    rw [← hZ] at hv hset hlen
                                    obtain ⟨gr, kr2, e0, hbr, hlr, cl, hcr⟩ := Kd.R_form hv (by omega)
                                    injection e0 with e1 e2 e3
                                    subst e1
                                    have y0 : 0 ≤ t := by have := ht.out; omega
                                    have y1 : t < (L.length : Int) := by have := ht.out; omega
                                    obtain ⟨ce, hcl, hM, hcc, hfr⟩ := Kd.R_elem hv z28 t y0 y1
                                    obtain rfl := k28_openM hM
                                    have HPS := Aside0.mk (Kd.R_seg hv t y0 y1 (seg := [.int .i64 a.f3.f0, .int .i64 a.f3.f1, .int .i64 a.f3.f2]) (j := 0) hcl hcc (show 3 ≤ 3 from Nat.le_refl _) (x' := a.f3) (k28_mkM _ _ _ a.f3) (fun _ hk => hk))
                                    have q0 : wr.cell? ⟨gr, t.toNat * 3, none⟩ = some (.int .i64 (Z.getD t.toNat z28).f0) := hcc 0 _ rfl
                                    have r0 : wr.frozen? ⟨gr, t.toNat * 3, none⟩ = false := hfr 0
                                    have q1 : wr.cell? ⟨gr, t.toNat * 3 + 1, none⟩ = some (.int .i64 (Z.getD t.toNat z28).f1) := hcc 1 _ rfl
                                    have r1 : wr.frozen? ⟨gr, t.toNat * 3 + 1, none⟩ = false := hfr 1
                                    have q2 : wr.cell? ⟨gr, t.toNat * 3 + 2, none⟩ = some (.int .i64 (Z.getD t.toNat z28).f2) := hcc 2 _ rfl
                                    have r2 : wr.frozen? ⟨gr, t.toNat * 3 + 2, none⟩ = false := hfr 2
                                    have HBR := Aside0.mk hbr
                                    have HCR := Aside0.mk hcr
                                    have HLK := Aside0.mk hlk
                                    have HSET := Aside0.mk hset
                                    have htw : wrap64 (t + 1) = t + 1 := by have := HL5.out; exact w64 _ (by omega)
                                    have hS : ∀ (W : World), W = (((wr.setCell ⟨gr, t.toNat * 3, none⟩ (.int .i64 a.f3.f0)).setCell ⟨gr, t.toNat * 3 + 1, none⟩ (.int .i64 a.f3.f1)).setCell ⟨gr, t.toNat * 3 + 2, none⟩ (.int .i64 a.f3.f2)) → Kd.R k28 28 W w.heap.size (fun _ => True) (.slice (some ⟨gr, 0, none⟩) L.length kw) (L.take a.f1.toNat ++ List.replicate (k + 1) a.f3 ++ L.drop (a.f1.toNat + (k + 1))) ∧ wr.grownBy W (some gr) := by
                                      rintro W rfl
                                      have h1 := HPS.out
                                      rw [HSET.out] at h1
                                      exact h1
                                    obtain ⟨hs1, hs2⟩ := hS _ rfl
                                    have HS1 := Aside0.mk hs1
                                    have HA2 := Aside0.mk (St45.offrow HA.out HCR.out hs2)
                                    have HX2 := Aside0.mk (blk_grown HX.out hs2 (by have := blk_ne HX.out HCR.out (by decide); simpa using this))
                                    have HB2 := Aside0.mk (Below.grown HB.out hs2 HB.out.size (fun k hk => by injection hk with hk; rw [← hk]; exact HBR.out))
                                    clear hv hlen hbr hlr hcr hcl hM hcc hfr hlk hS hs1 hs2 hset hZ hP h4 htn
                                    go_wp2
                                    go_roundw
                                    case rel => exact ⟨_, k + 1, rfl, ⟨by first | (rw [ht.out]; omega) | (rw [htw, ht.out]; omega)⟩, ⟨by have := HLK.out; omega⟩, HA2, HS1, HX2, HB2⟩
                                    case measure => have h1 := HLK.out; have h2 := ht.out; have h3 := HP.out; simp [intOf, htw]; omega
                                  · have d19 : decide (t < a.f1 + a.f2) = false := decide_eq_false (by rw [ht.out]; omega)
                                    have hkn : k = a.f2.toNat := by have := hk.out; omega
                                    subst hkn
                                    have HLN := Aside0.mk (show (L.take a.f1.toNat ++ List.replicate a.f2.toNat a.f3 ++ L.drop (a.f1.toNat + a.f2.toNat)).length ≤ 100000 by have := HL5.out; have := HV.out; simp; omega)
                                    obtain ⟨Y, hY⟩ : ∃ Y, Y = L.take a.f1.toNat ++ List.replicate a.f2.toNat a.f3 ++ L.drop (a.f1.toNat + a.f2.toNat) := ⟨_, rfl⟩
                                    rw [← hY] at HA HW HLN
                                    clear hlk hY
                                    go_wp2_with (fail)
                                    refine (whole_calls HA.out (by first | exact HLN.out | exact (by rw [HLN2.out]; exact HLN.out))).mono ?_; rintro e w9 ⟨v9, rfl, hv9, hb9⟩; (try have HW := Aside0.mk (Kd.R_below HW.out hb9)); (try have HQ := Aside0.mk (Kd.R_below HQ.out hb9)); have HB := Aside0.mk (HB.out.trans (hb9.mono HB.out.size)); obtain ⟨A8, k8, rfl⟩ := Kd.R_slice hv9; have HV8 := Aside0.mk hv9; clear hv9 hb9
                                    go_wp2_with (fail)
                                    refine (chars_c HV8.out HW.out HLN.out).mono ?_; rintro e w9 ⟨rfl, hb9⟩; have HB := Aside0.mk (HB.out.trans (hb9.mono HB.out.size)); clear hb9
                                    go_wp2_with (fail)
                                    go_ret
                                    exact ⟨rfl, HB.out⟩
                            · have d17 : (a.f0 == 2) = false := beq_eq_false_iff_ne.mpr k2
                              clear k2
                              have HE3 := Aside0.mk (show insE L a.f1 a.f2 = 0 by have := HP.out; have := HV.out; have := HL5.out; unfold insE; rw [if_neg (by omega), if_neg (by omega)])
                              obtain ⟨ch, hch⟩ : ∃ ch, ch = rd_T28 L (max (a.f1 - 1) 0) := ⟨_, rfl⟩
                              have HL3 := Aside0.mk (show insL L K a.f1 a.f2 = L.take a.f1.toNat ++ List.replicate a.f2.toNat ch ++ L.drop a.f1.toNat by have := HP.out; unfold insL; rw [if_pos HE3.out, hch]; unfold insC; rw [if_neg (by omega)])
                              have HCH0 := Aside0.mk hch
                              clear hch
                              go_upto_region 48 with (first | (go_at_call 21; go_loud (refine (insert_calls HA.out (by have := HL5.out; omega) a.f1 a.f2).mono ?_; rintro e w7 ⟨rfl, hst, hg7⟩; rw [HE3.out]; rw [HL3.out] at hst; obtain ⟨csb, hcb⟩ := HA.out.cellsblk; have HBLK := Aside0.mk hcb; clear hcb; have HX := Aside0.mk (blk_grown HX.out hg7 (by simpa using HNX.out)); (try have HW := Aside0.mk (R_offb HW.out HBLK.out nt28_45 hg7)); have HB := Aside0.mk (below_gb HB.out HGA.out hg7); have HA := Aside0.mk hst; have x0 := (blk_cell HX.out 0).trans rfl; have x1 := (blk_cell HX.out 1).trans rfl; have x2 := (blk_cell HX.out 2).trans rfl; have x3 := (blk_cell HX.out 3).trans rfl; have x4 := (blk_cell HX.out 4).trans rfl; have x5 := (blk_cell HX.out 5).trans rfl; clear hst hg7)))
                              have HBN := Aside0.mk (Below.refl w7.heap.size w7)
                              have HXN := HX
                              have HP2 := HP.out
                              obtain ⟨_, hkw, hCw⟩ := Kd.R_reads' HW.out
                              have HCW := Aside0.mk hCw
                              obtain ⟨hcutT, hCT⟩ := cutTo hCw hkw a.f1 HP2.1 HP2.2.1
                              obtain ⟨A2, k2, hcutD, hCD, hk2⟩ := cutFrom hCw hkw a.f1 HP2.1 HP2.2.1
                              have hTl : (L.take a.f1.toNat).length ≤ L.length := by simp; omega
                              have hDl : (L.drop a.f1.toNat).length ≤ L.length := by simp
                              have hTD : (L.take a.f1.toNat).length + (L.drop a.f1.toNat).length = L.length := by simp; omega
                              generalize L.take a.f1.toNat = T at *
                              generalize L.drop a.f1.toNat = D at *
                              have HCT := Aside0.mk hCT
                              have HCD := Aside0.mk hCD
                              have HTD := Aside0.mk hTD
                              have HLT1 := Aside0.mk (show (([] : List S28).length + T.length) * 24 ≤ 140737488355328 by have := HL5.out; simp; omega)
                              have hw1 : wrap64 (a.f1 - 1) = a.f1 - 1 := by have := HL5.out; exact w64 _ (by omega)
                              clear hCw hCT hCD hk2 hTl hDl hTD hkw HP2 HBLK
                              go_wp2_with (first | ((with_reducible refine gate_builtin (b := .append) (xs := #[.tmp 271, .tmp 275]) rfl ?_); go_loud (at_builtin; refine Kd.R_append_rows k28 (w0 := w7) w7.heap.size rfl (.tmp 271) (.tmp 275) 57 28 (.agg #[(.int .i64 0), (.int .i64 0), (.int .i64 0)]) 24 rfl Try.underlying57 info28 rfl (by decide) (by decide) (.slice none 0 0) ([]) (T) Aw (T).length kw (fun _ => True) (fun _ => False) rfl rfl (Kd.R_nil _ _ _ _ _) (Kd.C_below HCT.out HBN.out) (fun _ _ h => h) (fun _ h => h.elim) (fun _ _ => trivial) HBN.out HBN.out.size HLT1.out ?_; intro v5 w5 hv5 hb5 hg5 hat5; rw [List.nil_append] at hv5; have HV5 := Aside0.mk hv5; have HBN := Aside0.mk hb5; clear hv5 hb5 hg5 hat5)))
                              go_loopw [19, 20] (fun v19 v20 wr => ∃ (t : Int) (k : Nat), v20 = .int .i64 t ∧ Aside0 (t = (k : Int)) ∧ Aside0 ((k : Int) ≤ a.f2) ∧ Aside0 (Kd.R k28 28 wr w7.heap.size (fun _ => True) v19 (T ++ List.replicate k ch)) ∧ Aside0 (Below w7.heap.size w7 wr)) (fun _ v20 _ => a.f2.toNat - (intOf v20).toNat)
                              case atStart => exact ⟨0, 0, rfl, ⟨rfl⟩, ⟨by have := HV.out; omega⟩, ⟨by have h5 := HV5.out; simpa using h5⟩, HBN⟩
                              case round =>
                                clear HBN HV5 x0 x1 x2 x3 x4 x5
                                have HVX := HV
                                clear HV
                                obtain ⟨t, k, rfl, ht, hk, HV, HBN⟩ := hrel
                                have x0 := (blk_cell (blk_below HXN.out HBN.out) 0).trans rfl
                                have x1 := (blk_cell (blk_below HXN.out HBN.out) 1).trans rfl
                                have x2 := (blk_cell (blk_below HXN.out HBN.out) 2).trans rfl
                                have x3 := (blk_cell (blk_below HXN.out HBN.out) 3).trans rfl
                                have x4 := (blk_cell (blk_below HXN.out HBN.out) 4).trans rfl
                                have x5 := (blk_cell (blk_below HXN.out HBN.out) 5).trans rfl
                                by_cases hlk : (k : Int) < a.f2
                                · have hP := HP.out
                                  have d19 : decide (t < a.f2) = true := decide_eq_true (by rw [ht.out]; exact hlk)
                                  have HLX0 := Aside0.mk (show ((T ++ List.replicate k ch).length + 1) * 24 ≤ 140737488355328 by have := HL5.out; have := HTD.out; have := HVX.out; simp; omega)
                                  obtain ⟨X, hX⟩ : ∃ X, X = T ++ List.replicate k ch := ⟨_, rfl⟩
                                  rw [← hX] at HV HLX0
                                  have HX5 := Aside0.mk hX
                                  have HLX := HLX0
                                  have HLK := Aside0.mk hlk
                                  have htw : wrap64 (t + 1) = t + 1 := by have := ht.out; have := HVX.out; exact w64 _ (by omega)
                                  clear hX
                                  by_cases h6 : a.f1 - 1 < 0
                                  · have d20 : decide (a.f1 - 1 < 0) = true := decide_eq_true h6
                                    have HCH := Aside0.mk (show rd_T28 L 0 = ch by rw [HCH0.out, show max (a.f1 - 1) 0 = 0 by omega])
                                    obtain ⟨adw, e0, r0, r1, r2⟩ := at_T28 (Kd.C_below HCW.out HBN.out) 0 (by omega) (by omega)
                                    cases e0
                                    have hp0 : 0 < L.length := hP.2.2
                                    clear hP hlk
                                    rw [show ((0 : Int).toNat * 3) = 0 from rfl, show adw.add 0 = adw by simp [Addr.add]] at r0 r1 r2
                                    go_wp2_with (first | ((with_reducible refine gate_builtin (b := .append) (xs := #[.tmp 283, .tmp 291]) rfl ?_); go_loud (at_builtin; refine Kd.R_append k28 (w0 := w7) w7.heap.size rfl (.tmp 283) (.tmp 291) 57 28 (.agg #[(.int .i64 0), (.int .i64 0), (.int .i64 0)]) 24 rfl Try.underlying57 info28 rfl (by decide) (by decide) u19 X (rd_T28 L 0) [.int .i64 (rd_T28 L 0).f0, .int .i64 (rd_T28 L 0).f1, .int .i64 (rd_T28 L 0).f2] (fun _ => True) (fun _ => False) rfl rfl (k28_mkM _ _ _ _) (fun _ h => h.elim) (fun _ _ => trivial) HV.out HBN.out HBN.out.size HLX.out ?_; intro v5 w5 hv5 hb5 hg5 hat5; have HV5 := Aside0.mk hv5; have HBN := Aside0.mk hb5; clear hv5 hb5 hg5 hat5)))
                                    go_roundw
                                    case rel => exact ⟨_, k + 1, rfl, ⟨by first | (rw [ht.out]; omega) | (rw [htw, ht.out]; omega)⟩, ⟨by have := HLK.out; omega⟩, ⟨by have h5 := HV5.out; rw [HX5.out, List.append_assoc, show rd_T28 L 0 = ch from HCH.out, ← List.replicate_succ'] at h5; exact h5⟩, HBN⟩
                                    case measure => have h1 := HLK.out; have h2 := ht.out; simp [intOf, htw]; omega
                                  · have d20 : decide (a.f1 - 1 < 0) = false := decide_eq_false h6
                                    have HCH := Aside0.mk (show rd_T28 L (a.f1 - 1) = ch by rw [HCH0.out, show max (a.f1 - 1) 0 = a.f1 - 1 by omega])
                                    have p0 : 0 ≤ a.f1 - 1 := by omega
                                    have p1 : a.f1 - 1 < (L.length : Int) := by omega
                                    obtain ⟨adw, e0, r0, r1, r2⟩ := at_T28 (Kd.C_below HCW.out HBN.out) (a.f1 - 1) (by omega) (by omega)
                                    cases e0
                                    clear hP hlk
                                    rw [show (a.f1 - 1).toNat = a.f1.toNat - 1 by omega] at r0 r1 r2
                                    go_wp2_with (first | ((with_reducible refine gate_builtin (b := .append) (xs := #[.tmp 283, .tmp 291]) rfl ?_); go_loud (at_builtin; refine Kd.R_append k28 (w0 := w7) w7.heap.size rfl (.tmp 283) (.tmp 291) 57 28 (.agg #[(.int .i64 0), (.int .i64 0), (.int .i64 0)]) 24 rfl Try.underlying57 info28 rfl (by decide) (by decide) u19 X (rd_T28 L (a.f1 - 1)) [.int .i64 (rd_T28 L (a.f1 - 1)).f0, .int .i64 (rd_T28 L (a.f1 - 1)).f1, .int .i64 (rd_T28 L (a.f1 - 1)).f2] (fun _ => True) (fun _ => False) rfl rfl (k28_mkM _ _ _ _) (fun _ h => h.elim) (fun _ _ => trivial) HV.out HBN.out HBN.out.size HLX.out ?_; intro v5 w5 hv5 hb5 hg5 hat5; have HV5 := Aside0.mk hv5; have HBN := Aside0.mk hb5; clear hv5 hb5 hg5 hat5)))
                                    go_roundw
                                    case rel => exact ⟨_, k + 1, rfl, ⟨by first | (rw [ht.out]; omega) | (rw [htw, ht.out]; omega)⟩, ⟨by have := HLK.out; omega⟩, ⟨by have h5 := HV5.out; rw [HX5.out, List.append_assoc, show rd_T28 L (a.f1 - 1) = ch from HCH.out, ← List.replicate_succ'] at h5; exact h5⟩, HBN⟩
                                    case measure => have h1 := HLK.out; have h2 := ht.out; simp [intOf, htw]; omega
                                · have d19 : decide (t < a.f2) = false := decide_eq_false (by rw [ht.out]; exact hlk)
                                  have hkn : k = a.f2.toNat := by have := hk.out; omega
                                  subst hkn
                                  have HLN := Aside0.mk (show (T ++ List.replicate a.f2.toNat ch ++ D).length ≤ 100000 by have := HL5.out; have := HTD.out; have := HVX.out; simp; omega)
                                  have HLD0 := Aside0.mk (show ((T ++ List.replicate a.f2.toNat ch).length + D.length) * 24 ≤ 140737488355328 by have := HL5.out; have := HTD.out; have := HVX.out; simp; omega)
                                  obtain ⟨X, hX⟩ : ∃ X, X = T ++ List.replicate a.f2.toNat ch := ⟨_, rfl⟩
                                  rw [← hX] at HV HLD0 HLN HA
                                  have HLD := HLD0
                                  obtain ⟨Y, hY⟩ : ∃ Y, Y = X ++ D := ⟨_, rfl⟩
                                  rw [← hY] at HLN HA
                                  have HY := Aside0.mk hY
                                  clear hlk hX hY
                                  go_wp2_with (first | ((with_reducible refine gate_builtin (b := .append) (xs := #[.tmp 293, .tmp 297]) rfl ?_); go_loud (at_builtin; refine Kd.R_append_rows k28 (w0 := w7) w7.heap.size rfl (.tmp 293) (.tmp 297) 57 28 (.agg #[(.int .i64 0), (.int .i64 0), (.int .i64 0)]) 24 rfl Try.underlying57 info28 rfl (by decide) (by decide) u19 (X) (D) A2 (D).length k2 (fun _ => True) (fun _ => False) rfl rfl HV.out (Kd.C_below HCD.out HBN.out) (fun _ _ h => h) (fun _ h => h.elim) (fun _ _ => trivial) HBN.out HBN.out.size HLD.out ?_; intro v6 w6 hv6 hb6 hg6 hat6; rw [← HY.out] at hv6; obtain ⟨A6, k6, rfl⟩ := Kd.R_slice hv6; have HQ := Aside0.mk hv6; have HA := Aside0.mk (HA.out.below hb6); have HB := Aside0.mk (HB.out.trans (hb6.mono HB.out.size)); clear hv6 hb6 hg6 hat6)))
                                  refine (whole_calls HA.out (by first | exact HLN.out | exact (by rw [HLN2.out]; exact HLN.out))).mono ?_; rintro e w9 ⟨v9, rfl, hv9, hb9⟩; (try have HW := Aside0.mk (Kd.R_below HW.out hb9)); (try have HQ := Aside0.mk (Kd.R_below HQ.out hb9)); have HB := Aside0.mk (HB.out.trans (hb9.mono HB.out.size)); obtain ⟨A8, k8, rfl⟩ := Kd.R_slice hv9; have HV8 := Aside0.mk hv9; clear hv9 hb9
                                  go_wp2_with (fail)
                                  refine (chars_c HV8.out HQ.out HLN.out).mono ?_; rintro e w9 ⟨rfl, hb9⟩; have HB := Aside0.mk (HB.out.trans (hb9.mono HB.out.size)); clear hb9
                                  go_wp2_with (fail)
                                  go_ret
                                  exact ⟨rfl, HB.out⟩
        · have HM := Aside0.mk (Bool.eq_false_iff.mpr hm)
          clear h1 h2 h3 hm
          as_aux_lemma =>
            go_enter Try.func6, Try.ntmps6
            go_wp2_with (first | ((with_reducible refine gate_dst (N := 5) rfl ?_); go_loud (refine box_event ?hg (N := 5) ?hd (cs := #[.int .i64 a.f0, .int .i64 a.f1, .int .i64 a.f2, .int .i64 a.f3.f0, .int .i64 a.f3.f1, .int .i64 a.f3.f2]) (t := 40) ?hr ?_; (case hd => rfl); (case hg => rfl); (case hr => first | (go_simp; done) | (go_simp; rfl)); intro gb0 hg0 w0 hx0 hb0; have HX := Aside0.mk hx0; have HGX := Aside0.mk (show w.heap.size ≤ gb0 from Nat.le_of_eq hg0.symm); have HB := Aside0.mk hb0; have x0 := (blk_cell HX.out 0).trans rfl; have x1 := (blk_cell HX.out 1).trans rfl; have x2 := (blk_cell HX.out 2).trans rfl; have x3 := (blk_cell HX.out 3).trans rfl; have x4 := (blk_cell HX.out 4).trans rfl; have x5 := (blk_cell HX.out 5).trans rfl; clear hx0 hb0 hg0)) | (go_at_call 25; go_loud (refine (awake_calls _).mono ?_; rintro e w9 ⟨rfl, hb9⟩; have HX := Aside0.mk (blk_below HX.out hb9); (try have HA := Aside0.mk (HA.out.below hb9)); (try have HY := Aside0.mk (blk_below HY.out hb9)); (try have HW := Aside0.mk (Kd.R_below HW.out hb9)); (try have HR := Aside0.mk (Kd.R_below HR.out hb9)); have HB9 := HB; have HB := Aside0.mk (HB.out.trans (hb9.mono HB.out.size)); have x0 := (blk_cell HX.out 0).trans rfl; have x1 := (blk_cell HX.out 1).trans rfl; have x2 := (blk_cell HX.out 2).trans rfl; have x3 := (blk_cell HX.out 3).trans rfl; have x4 := (blk_cell HX.out 4).trans rfl; have x5 := (blk_cell HX.out 5).trans rfl; (try (have y0 := (blk_cell HY.out 0).trans rfl; have y1 := (blk_cell HY.out 1).trans rfl; have y2 := (blk_cell HY.out 2).trans rfl; have y3 := (blk_cell HY.out 3).trans rfl; have y4 := (blk_cell HY.out 4).trans rfl; have y5 := (blk_cell HY.out 5).trans rfl)); clear hb9)) | (go_at_call 13; go_loud (refine (may_c a.f3 _).mono ?_; rintro e w9 ⟨rfl, hb9⟩; have HX := Aside0.mk (blk_below HX.out hb9); (try have HA := Aside0.mk (HA.out.below hb9)); (try have HY := Aside0.mk (blk_below HY.out hb9)); (try have HW := Aside0.mk (Kd.R_below HW.out hb9)); (try have HR := Aside0.mk (Kd.R_below HR.out hb9)); have HB9 := HB; have HB := Aside0.mk (HB.out.trans (hb9.mono HB.out.size)); have x0 := (blk_cell HX.out 0).trans rfl; have x1 := (blk_cell HX.out 1).trans rfl; have x2 := (blk_cell HX.out 2).trans rfl; have x3 := (blk_cell HX.out 3).trans rfl; have x4 := (blk_cell HX.out 4).trans rfl; have x5 := (blk_cell HX.out 5).trans rfl; (try (have y0 := (blk_cell HY.out 0).trans rfl; have y1 := (blk_cell HY.out 1).trans rfl; have y2 := (blk_cell HY.out 2).trans rfl; have y3 := (blk_cell HY.out 3).trans rfl; have y4 := (blk_cell HY.out 4).trans rfl; have y5 := (blk_cell HY.out 5).trans rfl)); clear hb9; rw [HM.out])))
            go_ret
            exact ⟨rfl, HB.out⟩
end Go.Proofs.Ytmggbbeecmjalaa.P
