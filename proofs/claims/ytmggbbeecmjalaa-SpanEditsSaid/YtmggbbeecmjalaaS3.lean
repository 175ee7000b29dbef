/- The walk of run and holds; no further condition. -/
import Derived.Test.YtmggbbeecmjalaaS2
namespace Go.Proofs.Ytmggbbeecmjalaa.P
open Go.RowKit Go.Proofs.YtmggbbeecmjalaaW.PrintWords Go.Proofs.YtmggbbeecmjalaaW.PrintLast Go.Proofs.YtmggbbeecmjalaaW.PrintMore
attribute [local go_sem] max2_int min2_int max_two min_two
set_option linter.unusedVariables false
set_option linter.unusedSimpArgs false

theorem int_C {w : World} {A : Option Addr} {n c base : Nat} {ok : Nat → Prop} {xs : List Int} (h : Kd.R (Kd.int .i64) 3 w base ok (.slice A n c) xs) : Kd.C (Kd.int .i64) w A n xs := by
  obtain ⟨A', c', e, _, hC⟩ := Kd.R_reads h
  injection e with e1 e2 e3
  subst e1; subst e2
  exact hC
theorem run_law (L : List S28) (t i : Nat) (ht : t < L.length) (hi : i < (rl L).length) (h0 : i = 0 ∨ rd (ends (rl L)) ((i : Int) - 1) ≤ (t : Int)) (h1 : (t : Int) < rd (ends (rl L)) (i : Int)) :
    (rd_T60 (rl L) (i : Int)).f1 = rd_T28 L (t : Int) := by
  rw [ends_at _ _ hi] at h1
  have a0 : (bytes ((rl L).take i)).length ≤ t := by
    rcases h0 with rfl | h0
    · simp [bytes_nil]
    · rcases Nat.eq_zero_or_pos i with rfl | hp
      · simp [bytes_nil]
      · have := ends_at (rl L) (i - 1) (by omega)
        rw [show (((i - 1 : Nat)) : Int) = (i : Int) - 1 by omega, show i - 1 + 1 = i by omega] at this
        rw [this] at h0
        omega
  have := run_byte (rl L) i t hi a0 (by omega)
  rw [bytes_rl] at this
  rw [rd_at _ _ hi, rd28_at _ _ ht]
  rw [List.getElem?_eq_getElem ht] at this
  injection this with this
  exact this.symm

set_option maxHeartbeats 8000000 in
set_option maxRecDepth 100000 in
theorem run_calls {w : World} {g : Nat} {L : List S28} {c : S28} (h : St45 w g (rl L) c) (hl : L.length ≤ 100000) (t : Nat) (ht : t < L.length) (y : Int) (hy : y = (t : Int)) :
    Calls Try.prog 38 #[.pointer (some ⟨g, 0, none⟩), .int .i64 y] w fun e w' => ∃ i : Nat, e = .returned (.int .i64 (i : Int)) ∧ i < (rl L).length ∧ (rd_T60 (rl L) (i : Int)).f1 = rd_T28 L y ∧ Below w.heap.size w w' := by
  obtain ⟨A, k, hk, hC, hR, hg⟩ := h.cells
  have c1 : w.cell? ⟨g, 1, none⟩ = some (.slice A (rl L).length k) := (blk_cell hg 1).trans rfl
  have HC := Aside0.mk hC
  have HK := Aside0.mk hk
  have HB := Aside0.mk (Below.refl w.heap.size w)
  have HY := Aside0.mk hy
  clear hg hC hR h hk hy
  have hpos : 0 < (rl L).length := by
    rcases snocs L with e | ⟨o, t, rfl⟩
    · subst e; simp at ht
    · obtain ⟨o', t', hr, _⟩ := rl_last o t
      rw [hr]; simp
  have hlast : (t : Int) < rd (ends (rl L)) (((rl L).length : Int) - 1) := by
    have := ends_at (rl L) ((rl L).length - 1) (by omega)
    rw [show (((rl L).length : Int) - 1) = (((rl L).length - 1 : Nat) : Int) by omega, this, show (rl L).length - 1 + 1 = (rl L).length by omega, List.take_length, bytes_rl]
    omega
  have HPOS := Aside0.mk hpos
  have HLAST := Aside0.mk hlast
  clear hpos hlast
  go_enter Try.func38, Try.ntmps38
  go_wp2_with (first | ((with_reducible refine gate_dst (N := 3) rfl ?_); go_loud (refine box_event ?hg (N := 3) ?hd (cs := #[.int .i64 y]) (t := 3) ?hr ?_; (case hd => rfl); (case hg => rfl); (case hr => first | (go_simp; done) | (go_simp; rfl)); intro gb1 hg1 w1 hx1 hb1; have c1 := pw_cell_below hb1 c1; have HC1 := Aside0.mk (Kd.C_below HC.out hb1); have HX1 := Aside0.mk hx1; have HB1 := Aside0.mk hb1; have hlt1 : gb1 < w1.heap.size := blk_lt hx1; have HL1 := Aside0.mk hlt1; clear hx1 hb1 hlt1 hg1)) | (go_at_call 41; go_loud (refine (sums_c hl HC1.out HK.out).mono ?_; rintro e w2 ⟨v, rfl, hv, hb2⟩; obtain ⟨A2, k2, rfl⟩ := Kd.R_slice hv; rw [ends_length] at hv ⊢; have HV2 := Aside0.mk hv; have HX2 := Aside0.mk (blk_below HX1.out hb2); have HB2 := Aside0.mk (HB1.out.trans (hb2.mono HB1.out.size)); have HL2 := Aside0.mk (Nat.lt_of_lt_of_le HL1.out hb2.size); clear hv hb2)) | ((with_reducible refine gate_dst (N := 5) rfl ?_); go_loud (refine box_event ?hg (N := 5) ?hd (cs := #[.slice none 0 0]) (t := 70) ?hr ?_; (case hd => rfl); (case hg => rfl); (case hr => first | (go_simp; done) | (go_simp; rfl)); intro gb3 hg3 w3 hx3 hb3; have hne : gb1 ≠ gb3 := Nat.ne_of_lt (hg3 ▸ HL2.out); have HV3 := Aside0.mk (Kd.R_set (Kd.R_below HV2.out hb3) hx3 (t := 70) (by decide) 0 (.slice A2 (rl L).length k2)); have hX3 := blk_below HX2.out hb3; have hs3 := (blk_cell (blk_set hx3 0 (.slice A2 (rl L).length k2)) 0).trans rfl; have ha3 := (blk_cell (blk_far hX3 (p := ⟨gb3, 0, none⟩) hne (.slice A2 (rl L).length k2)) 0).trans rfl; have hge3 : w.heap.size ≤ gb3 := hg3 ▸ HB2.out.size; have HB3 := Aside0.mk (below_set (HB2.out.trans (hb3.mono HB2.out.size)) hge3 (j := 0) (v := .slice A2 (rl L).length k2)); have hf3 := blk_frozen hx3 0; have hc3 := (blk_cell hx3 0).trans rfl; clear hx3 hX3 hb3 hge3 hg3)) | (go_at_call 43; go_loud (refine (search_calls (n := (rl L).length) (t := y) (Nat.le_trans (rl_length L) hl) (ends_length _) hs3 ha3 (int_C HV3.out) (by rw [HY.out]; exact HLAST.out) HPOS.out).mono ?_; rintro e w4 ⟨i, rfl, hi, h0, h1, hb4⟩; rw [HY.out] at h0 h1; have HI := Aside0.mk (run_law L t i ht hi h0 h1); have HI2 := Aside0.mk hi; have HB4 := Aside0.mk (HB3.out.trans (hb4.mono HB3.out.size)); clear h0 h1 hi hb4)))
  go_ret
  exact ⟨i, rfl, HI2.out, by rw [HY.out]; exact HI.out, HB4.out⟩
end Go.Proofs.Ytmggbbeecmjalaa.P
