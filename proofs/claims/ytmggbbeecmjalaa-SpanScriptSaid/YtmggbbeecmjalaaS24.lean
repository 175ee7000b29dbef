/- The walk of told: what looks tell; no further condition. -/
import Derived.Test.YtmggbbeecmjalaaS23
namespace Go.Proofs.Ytmggbbeecmjalaa.P
open Go.RowKit Go.Proofs.YtmggbbeecmjalaaW.PrintWords Go.Proofs.YtmggbbeecmjalaaW.PrintLast Go.Proofs.YtmggbbeecmjalaaW.PrintMore
attribute [local go_sem high] eqA28
set_option linter.unusedVariables false
set_option linter.unusedSimpArgs false


/-- what At and Slice tell, as values -/
def atV (L : List S28) (x : Int) : S28 := if 0 ≤ x ∧ x < (L.length : Int) then rd_T28 L x else ⟨0, 0, 0⟩
def atC (L : List S28) (x : Int) : Int := if 0 ≤ x ∧ x < (L.length : Int) then 0 else 5
theorem atAns_eq {L : List S28} {x : Int} {e : Ending} (h : AtAns L x e) : e = .returned (.tuple #[.agg #[.int .i64 (atV L x).f0, .int .i64 (atV L x).f1, .int .i64 (atV L x).f2], .int .i64 (atC L x)]) := by
  unfold AtAns at h
  unfold atV atC
  by_cases c : 0 ≤ x ∧ x < (L.length : Int)
  · rw [if_pos c] at h
    rw [if_pos c, if_pos c]
    exact h
  · rw [if_neg c] at h
    rw [if_neg c, if_neg c]
    exact h
def slV (L : List S28) (x y : Int) : List S60 := if 0 ≤ x ∧ x ≤ y ∧ y ≤ (L.length : Int) then rl (clip L x.toNat y.toNat) else []
def slC (L : List S28) (x y : Int) : Int := if 0 ≤ x ∧ x ≤ y ∧ y ≤ (L.length : Int) then 0 else 5
theorem sliceAns_eq {L : List S28} {x y : Int} {B : Nat} {e : Ending} {w : World} (h : SliceAns L x y B e w) : ∃ (A : Option Addr) (k : Nat), e = .returned (.tuple #[.slice A (slV L x y).length k, .int .i64 (slC L x y)]) ∧ Kd.R k60 60 w B (fun _ => True) (.slice A (slV L x y).length k) (slV L x y) := by
  unfold SliceAns at h
  unfold slV slC
  by_cases c : 0 ≤ x ∧ x ≤ y ∧ y ≤ (L.length : Int)
  · rw [if_pos c] at h
    rw [if_pos c, if_pos c]
    obtain ⟨v, rfl, hv⟩ := h
    obtain ⟨A, k, rfl⟩ := Kd.R_slice hv
    exact ⟨A, k, rfl, hv⟩
  · rw [if_neg c] at h
    rw [if_neg c, if_neg c]
    exact ⟨none, 0, h, Kd.R_nil _ _ _ _ _⟩
theorem slV_all (L : List S28) : slV L 0 (L.length : Int) = rl L ∧ slC L 0 (L.length : Int) = 0 := by
  unfold slV slC
  rw [if_pos (by omega), if_pos (by omega)]
  exact ⟨by rw [show ((0 : Int)).toNat = 0 from rfl, Int.toNat_natCast, clip_all], rfl⟩
theorem slV_len (L : List S28) (x y : Int) : (slV L x y).length ≤ L.length := by
  unfold slV
  split
  · have := rl_length (clip L x.toNat y.toNat)
    have h2 : (clip L x.toNat y.toNat).length ≤ L.length := by simp [clip]; omega
    omega
  · simp
theorem spans_same {w : World} {A0 A1 : Option Addr} {m0 m1 c0 c1 : Nat} {l : List S60} {ok0 ok1 : Nat → Prop} {b0 b1 : Nat} (h0 : Kd.R k60 60 w b0 ok0 (.slice A0 m0 c0) l) (h1 : Kd.R k60 60 w b1 ok1 (.slice A1 m1 c1) l) (hl : l.length ≤ 100000) :
    Calls Try.prog 10 #[.slice A0 m0 c0, .slice A1 m1 c1] w fun e w' => e = .returned (.bool true) ∧ Below w.heap.size w w' :=
  (spans_c h0 h1 hl).mono (fun e w' h => ⟨by rw [h.1, decide_eq_true rfl], h.2⟩)
set_option maxHeartbeats 8000000 in
set_option maxRecDepth 100000 in
theorem told_calls {w : World} {gl gw : Nat} {L : List S28} {K : S28} (h : St45 w gl (rl L) K) (h' : St65 w gw L K) (hl : L.length ≤ 100000) (x y : Int) :
    Calls Try.prog 18 #[.pointer (some ⟨gl, 0, none⟩), .pointer (some ⟨gw, 0, none⟩), .int .i64 x, .int .i64 y] w fun e w' => e = .returned (.bool true) ∧ Below w.heap.size w w' := by
  have HA := Aside0.mk h
  have HW := Aside0.mk h'
  have HB := Aside0.mk (Below.refl w.heap.size w)
  obtain ⟨A, k, hk, hC, hR, hg⟩ := h'.cells
  have c0 : w.cell? ⟨gw, 0, none⟩ = some (.slice A L.length k) := (blk_cell hg 0).trans rfl
  have HC := Aside0.mk hC
  have HK := Aside0.mk hk
  clear h h' hk hC hR hg
  go_enter Try.func18, Try.ntmps18
  go_wp2_with (first | (go_at_call 19; go_loud (refine (at_calls (by exact HA.out.below (by repeat (first | exact HB.out | apply pw_below_drewN | apply below_drew))) hl x).mono ?_; rintro e w9 ⟨hb9, hA9⟩; obtain rfl := atAns_eq hA9; (try have HX := Aside0.mk (blk_below (by exact HX.out) hb9)); (try have HY := Aside0.mk (blk_below (by exact HY.out) hb9)); (try have HV1 := Aside0.mk (Kd.R_below (by exact HV1.out) hb9)); (try have HV2 := Aside0.mk (Kd.R_below (by exact HV2.out) hb9)); (try have HV3 := Aside0.mk (Kd.R_below (by exact HV3.out) hb9)); have c0 := pw_cell_below hb9 (show World.cell? _ ⟨gw, 0, none⟩ = some (.slice A L.length k) from c0); have HB := Aside0.mk (Below.trans (a := w) (by repeat (first | exact HB.out | apply pw_below_drewN | apply below_drew)) (hb9.mono (by exact HB.out.size))); (try have x0 := (blk_cell HX.out 0).trans rfl; have x1 := (blk_cell HX.out 1).trans rfl; have x2 := (blk_cell HX.out 2).trans rfl); (try have y0 := (blk_cell HY.out 0).trans rfl; have y1 := (blk_cell HY.out 1).trans rfl; have y2 := (blk_cell HY.out 2).trans rfl); clear hb9 hA9)) | ((with_reducible refine gate_dst (N := 9) rfl ?_); go_loud (refine box_event ?hg (N := 9) ?hd (cs := #[.int .i64 0, .int .i64 0, .int .i64 0]) (t := 28) ?hr ?_; (case hd => rfl); (case hg => rfl); (case hr => first | (go_simp; done) | (go_simp; rfl)); intro gb1 hg1 w1 hx1 hb1; have HGE1 := Aside0.mk (show w.heap.size ≤ gb1 from hg1 ▸ HB.out.size); have HGN1 := Aside0.mk (show gw ≠ gb1 from Nat.ne_of_lt (Nat.lt_of_lt_of_le HW.out.lt HGE1.out)); (try have HXN := Aside0.mk (show gb1 ≠ gb1 from Nat.ne_of_lt (hg1 ▸ blk_lt HX.out))); (try have HX := Aside0.mk (blk_below (by exact HX.out) hb1)); (try have HY := Aside0.mk (blk_below (by exact HY.out) hb1)); (try have HV1 := Aside0.mk (Kd.R_below (by exact HV1.out) hb1)); (try have HV2 := Aside0.mk (Kd.R_below (by exact HV2.out) hb1)); (try have HV3 := Aside0.mk (Kd.R_below (by exact HV3.out) hb1)); have c0 := pw_cell_below hb1 (show World.cell? _ ⟨gw, 0, none⟩ = some (.slice A L.length k) from c0); have HB := Aside0.mk (Below.trans (a := w) (by repeat (first | exact HB.out | apply pw_below_drewN | apply below_drew)) (hb1.mono (by exact HB.out.size))); (try have x0 := (blk_cell HX.out 0).trans rfl; have x1 := (blk_cell HX.out 1).trans rfl; have x2 := (blk_cell HX.out 2).trans rfl); (try have y0 := (blk_cell HY.out 0).trans rfl; have y1 := (blk_cell HY.out 1).trans rfl; have y2 := (blk_cell HY.out 2).trans rfl); have HX := Aside0.mk hx1; clear hx1 hb1 hg1)) | ((with_reducible refine gate_store (t := 28) (p := 9) rfl ?_); go_loud (refine store_event rfl 28 _ _ rfl gb1 #[.int .i64 (atV L x).f0, .int .i64 (atV L x).f1, .int .i64 (atV L x).f2] rfl rfl 28 #[.int .i64 0, .int .i64 0, .int .i64 0] HX.out (size28 _ rfl) rfl (by first | rfl | decide | kernel_rfl) ?_; intro w11 x11 o11 s11; have HX := Aside0.mk x11; have c0 := cell_off o11 HGN1.out c0; have HB := Aside0.mk (s11 _ _ HB.out HGE1.out); (try have x0 := (blk_cell HX.out 0).trans rfl; have x1 := (blk_cell HX.out 1).trans rfl; have x2 := (blk_cell HX.out 2).trans rfl); (try have y0 := (blk_cell HY.out 0).trans rfl; have y1 := (blk_cell HY.out 1).trans rfl; have y2 := (blk_cell HY.out 2).trans rfl); clear x11 o11 s11)) | (go_at_call 35; go_loud (refine (rat_calls (by exact HW.out.below (by repeat (first | exact HB.out | apply pw_below_drewN | apply below_drew))) hl x).mono ?_; rintro e w9 ⟨hb9, hA9⟩; obtain rfl := atAns_eq hA9; (try have HX := Aside0.mk (blk_below (by exact HX.out) hb9)); (try have HY := Aside0.mk (blk_below (by exact HY.out) hb9)); (try have HV1 := Aside0.mk (Kd.R_below (by exact HV1.out) hb9)); (try have HV2 := Aside0.mk (Kd.R_below (by exact HV2.out) hb9)); (try have HV3 := Aside0.mk (Kd.R_below (by exact HV3.out) hb9)); have c0 := pw_cell_below hb9 (show World.cell? _ ⟨gw, 0, none⟩ = some (.slice A L.length k) from c0); have HB := Aside0.mk (Below.trans (a := w) (by repeat (first | exact HB.out | apply pw_below_drewN | apply below_drew)) (hb9.mono (by exact HB.out.size))); (try have x0 := (blk_cell HX.out 0).trans rfl; have x1 := (blk_cell HX.out 1).trans rfl; have x2 := (blk_cell HX.out 2).trans rfl); (try have y0 := (blk_cell HY.out 0).trans rfl; have y1 := (blk_cell HY.out 1).trans rfl; have y2 := (blk_cell HY.out 2).trans rfl); clear hb9 hA9)) | ((with_reducible refine gate_dst (N := 11) rfl ?_); go_loud (refine box_event ?hg (N := 11) ?hd (cs := #[.int .i64 0, .int .i64 0, .int .i64 0]) (t := 28) ?hr ?_; (case hd => rfl); (case hg => rfl); (case hr => first | (go_simp; done) | (go_simp; rfl)); intro gb2 hg2 w2 hx2 hb2; have HGE2 := Aside0.mk (show w.heap.size ≤ gb2 from hg2 ▸ HB.out.size); have HGN2 := Aside0.mk (show gw ≠ gb2 from Nat.ne_of_lt (Nat.lt_of_lt_of_le HW.out.lt HGE2.out)); (try have HXN := Aside0.mk (show gb1 ≠ gb2 from Nat.ne_of_lt (hg2 ▸ blk_lt HX.out))); (try have HX := Aside0.mk (blk_below (by exact HX.out) hb2)); (try have HY := Aside0.mk (blk_below (by exact HY.out) hb2)); (try have HV1 := Aside0.mk (Kd.R_below (by exact HV1.out) hb2)); (try have HV2 := Aside0.mk (Kd.R_below (by exact HV2.out) hb2)); (try have HV3 := Aside0.mk (Kd.R_below (by exact HV3.out) hb2)); have c0 := pw_cell_below hb2 (show World.cell? _ ⟨gw, 0, none⟩ = some (.slice A L.length k) from c0); have HB := Aside0.mk (Below.trans (a := w) (by repeat (first | exact HB.out | apply pw_below_drewN | apply below_drew)) (hb2.mono (by exact HB.out.size))); (try have x0 := (blk_cell HX.out 0).trans rfl; have x1 := (blk_cell HX.out 1).trans rfl; have x2 := (blk_cell HX.out 2).trans rfl); (try have y0 := (blk_cell HY.out 0).trans rfl; have y1 := (blk_cell HY.out 1).trans rfl; have y2 := (blk_cell HY.out 2).trans rfl); have HY := Aside0.mk hx2; clear hx2 hb2 hg2)) | ((with_reducible refine gate_store (t := 28) (p := 11) rfl ?_); go_loud (refine store_event rfl 28 _ _ rfl gb2 #[.int .i64 (atV L x).f0, .int .i64 (atV L x).f1, .int .i64 (atV L x).f2] rfl rfl 28 #[.int .i64 0, .int .i64 0, .int .i64 0] HY.out (size28 _ rfl) rfl (by first | rfl | decide | kernel_rfl) ?_; intro w12 x12 o12 s12; have HY := Aside0.mk x12; have HX := Aside0.mk ((o12 _ HXN.out).trans HX.out); have c0 := cell_off o12 HGN2.out c0; have HB := Aside0.mk (s12 _ _ HB.out HGE2.out); (try have x0 := (blk_cell HX.out 0).trans rfl; have x1 := (blk_cell HX.out 1).trans rfl; have x2 := (blk_cell HX.out 2).trans rfl); (try have y0 := (blk_cell HY.out 0).trans rfl; have y1 := (blk_cell HY.out 1).trans rfl; have y2 := (blk_cell HY.out 2).trans rfl); clear x12 o12 s12)))
  refine (slice_calls (by exact HA.out.below (by repeat (first | exact HB.out | apply pw_below_drewN | apply below_drew))) hl x y).mono ?_; rintro e w9 ⟨hb9, hA9⟩; have HB9 := Aside0.mk HB.out.size; obtain ⟨AHV1, kHV1, rfl, hv9⟩ := sliceAns_eq hA9; (try have HX := Aside0.mk (blk_below (by exact HX.out) hb9)); (try have HY := Aside0.mk (blk_below (by exact HY.out) hb9)); (try have HV1 := Aside0.mk (Kd.R_below (by exact HV1.out) hb9)); (try have HV2 := Aside0.mk (Kd.R_below (by exact HV2.out) hb9)); (try have HV3 := Aside0.mk (Kd.R_below (by exact HV3.out) hb9)); have c0 := pw_cell_below hb9 (show World.cell? _ ⟨gw, 0, none⟩ = some (.slice A L.length k) from c0); have HB := Aside0.mk (Below.trans (a := w) (by repeat (first | exact HB.out | apply pw_below_drewN | apply below_drew)) (hb9.mono (by exact HB.out.size))); (try have x0 := (blk_cell HX.out 0).trans rfl; have x1 := (blk_cell HX.out 1).trans rfl; have x2 := (blk_cell HX.out 2).trans rfl); (try have y0 := (blk_cell HY.out 0).trans rfl; have y1 := (blk_cell HY.out 1).trans rfl; have y2 := (blk_cell HY.out 2).trans rfl); have HV1 := Aside0.mk (Kd.R_lower hv9 HB9.out); clear hb9 hA9 hv9
  go_wp2_with (fail)
  refine (rslice_calls (by exact HW.out.below (by repeat (first | exact HB.out | apply pw_below_drewN | apply below_drew))) hl x y).mono ?_; rintro e w9 ⟨hb9, hA9⟩; have HB9 := Aside0.mk HB.out.size; obtain ⟨AHV2, kHV2, rfl, hv9⟩ := sliceAns_eq hA9; (try have HX := Aside0.mk (blk_below (by exact HX.out) hb9)); (try have HY := Aside0.mk (blk_below (by exact HY.out) hb9)); (try have HV1 := Aside0.mk (Kd.R_below (by exact HV1.out) hb9)); (try have HV2 := Aside0.mk (Kd.R_below (by exact HV2.out) hb9)); (try have HV3 := Aside0.mk (Kd.R_below (by exact HV3.out) hb9)); have c0 := pw_cell_below hb9 (show World.cell? _ ⟨gw, 0, none⟩ = some (.slice A L.length k) from c0); have HB := Aside0.mk (Below.trans (a := w) (by repeat (first | exact HB.out | apply pw_below_drewN | apply below_drew)) (hb9.mono (by exact HB.out.size))); (try have x0 := (blk_cell HX.out 0).trans rfl; have x1 := (blk_cell HX.out 1).trans rfl; have x2 := (blk_cell HX.out 2).trans rfl); (try have y0 := (blk_cell HY.out 0).trans rfl; have y1 := (blk_cell HY.out 1).trans rfl; have y2 := (blk_cell HY.out 2).trans rfl); have HV2 := Aside0.mk (Kd.R_lower hv9 HB9.out); clear hb9 hA9 hv9
  go_wp2_with (fail)
  refine (slice_calls (by exact HA.out.below (by repeat (first | exact HB.out | apply pw_below_drewN | apply below_drew))) hl 0 L.length).mono ?_; rintro e w9 ⟨hb9, hA9⟩; have HB9 := Aside0.mk HB.out.size; obtain ⟨AHV3, kHV3, rfl, hv9⟩ := sliceAns_eq hA9; (try have HX := Aside0.mk (blk_below (by exact HX.out) hb9)); (try have HY := Aside0.mk (blk_below (by exact HY.out) hb9)); (try have HV1 := Aside0.mk (Kd.R_below (by exact HV1.out) hb9)); (try have HV2 := Aside0.mk (Kd.R_below (by exact HV2.out) hb9)); (try have HV3 := Aside0.mk (Kd.R_below (by exact HV3.out) hb9)); have c0 := pw_cell_below hb9 (show World.cell? _ ⟨gw, 0, none⟩ = some (.slice A L.length k) from c0); have HB := Aside0.mk (Below.trans (a := w) (by repeat (first | exact HB.out | apply pw_below_drewN | apply below_drew)) (hb9.mono (by exact HB.out.size))); (try have x0 := (blk_cell HX.out 0).trans rfl; have x1 := (blk_cell HX.out 1).trans rfl; have x2 := (blk_cell HX.out 2).trans rfl); (try have y0 := (blk_cell HY.out 0).trans rfl; have y1 := (blk_cell HY.out 1).trans rfl; have y2 := (blk_cell HY.out 2).trans rfl); have HV3 := Aside0.mk (Kd.R_lower hv9 HB9.out); clear hb9 hA9 hv9
  rw [(slV_all L).1, (slV_all L).2] at *
  go_wp2_with (fail)
  go_region_held3 (fun w' => w'.cell? ⟨gb1, 0, none⟩ = some (.int .i64 (atV L x).f0) ∧ w'.cell? ⟨gb1, 1, none⟩ = some (.int .i64 (atV L x).f1) ∧ w'.cell? ⟨gb1, 2, none⟩ = some (.int .i64 (atV L x).f2) ∧ w'.cell? ⟨gb2, 0, none⟩ = some (.int .i64 (atV L x).f0) ∧ w'.cell? ⟨gb2, 1, none⟩ = some (.int .i64 (atV L x).f1) ∧ w'.cell? ⟨gb2, 2, none⟩ = some (.int .i64 (atV L x).f2) ∧ w'.cell? ⟨gw, 0, none⟩ = some (.slice A L.length k)) (refine ⟨?_, ?_, ?_, ?_, ?_, ?_, ?_⟩ <;> first | assumption | exact x0 | exact x1 | exact x2 | exact y0 | exact y1 | exact y2 | exact c0) (first | (go_at_call 10; go_loud (refine (spans_same (by first | exact HV1.out | exact HV3.out) (by first | exact HV2.out | exact HV4.out) (by first | exact Nat.le_trans (slV_len L x y) hl | exact Nat.le_trans (rl_length L) hl)).mono ?_; rintro e w9 ⟨rfl, hb9⟩; (try have HX := Aside0.mk (blk_below (by exact HX.out) hb9)); (try have HY := Aside0.mk (blk_below (by exact HY.out) hb9)); (try have HV1 := Aside0.mk (Kd.R_below (by exact HV1.out) hb9)); (try have HV2 := Aside0.mk (Kd.R_below (by exact HV2.out) hb9)); (try have HV3 := Aside0.mk (Kd.R_below (by exact HV3.out) hb9)); have c0 := pw_cell_below hb9 (show World.cell? _ ⟨gw, 0, none⟩ = some (.slice A L.length k) from c0); have HB := Aside0.mk (Below.trans (a := w) (by repeat (first | exact HB.out | apply pw_below_drewN | apply below_drew)) (hb9.mono (by exact HB.out.size))); (try have x0 := (blk_cell HX.out 0).trans rfl; have x1 := (blk_cell HX.out 1).trans rfl; have x2 := (blk_cell HX.out 2).trans rfl); (try have y0 := (blk_cell HY.out 0).trans rfl; have y1 := (blk_cell HY.out 1).trans rfl; have y2 := (blk_cell HY.out 2).trans rfl); clear hb9)) | (go_at_call 37; go_loud (refine (runs_c (by exact Kd.C_below HC.out (by repeat (first | exact HB.out | apply pw_below_drewN | apply below_drew))) HK.out hl).mono ?_; rintro e w9 ⟨v9, rfl, hv9, hb9⟩; (try have HX := Aside0.mk (blk_below (by exact HX.out) hb9)); (try have HY := Aside0.mk (blk_below (by exact HY.out) hb9)); (try have HV1 := Aside0.mk (Kd.R_below (by exact HV1.out) hb9)); (try have HV2 := Aside0.mk (Kd.R_below (by exact HV2.out) hb9)); (try have HV3 := Aside0.mk (Kd.R_below (by exact HV3.out) hb9)); have c0 := pw_cell_below hb9 (show World.cell? _ ⟨gw, 0, none⟩ = some (.slice A L.length k) from c0); have HB := Aside0.mk (Below.trans (a := w) (by repeat (first | exact HB.out | apply pw_below_drewN | apply below_drew)) (hb9.mono (by exact HB.out.size))); (try have x0 := (blk_cell HX.out 0).trans rfl; have x1 := (blk_cell HX.out 1).trans rfl; have x2 := (blk_cell HX.out 2).trans rfl); (try have y0 := (blk_cell HY.out 0).trans rfl; have y1 := (blk_cell HY.out 1).trans rfl; have y2 := (blk_cell HY.out 2).trans rfl); obtain ⟨A4, k4, rfl⟩ := Kd.R_slice hv9; have HV4 := Aside0.mk hv9; clear hb9 hv9)) | (go_at_call 24; go_loud (refine (len_calls (by exact HA.out.below (by repeat (first | exact HB.out | apply pw_below_drewN | apply below_drew))) hl).mono ?_; rintro e w9 ⟨rfl, hb9⟩; (try have HX := Aside0.mk (blk_below (by exact HX.out) hb9)); (try have HY := Aside0.mk (blk_below (by exact HY.out) hb9)); (try have HV1 := Aside0.mk (Kd.R_below (by exact HV1.out) hb9)); (try have HV2 := Aside0.mk (Kd.R_below (by exact HV2.out) hb9)); (try have HV3 := Aside0.mk (Kd.R_below (by exact HV3.out) hb9)); have c0 := pw_cell_below hb9 (show World.cell? _ ⟨gw, 0, none⟩ = some (.slice A L.length k) from c0); have HB := Aside0.mk (Below.trans (a := w) (by repeat (first | exact HB.out | apply pw_below_drewN | apply below_drew)) (hb9.mono (by exact HB.out.size))); (try have x0 := (blk_cell HX.out 0).trans rfl; have x1 := (blk_cell HX.out 1).trans rfl; have x2 := (blk_cell HX.out 2).trans rfl); (try have y0 := (blk_cell HY.out 0).trans rfl; have y1 := (blk_cell HY.out 1).trans rfl; have y2 := (blk_cell HY.out 2).trans rfl); clear hb9)))
  all_goals (go_wp2_with (fail))
  go_loopw [20] (fun v20 wr => ∃ (z : Int) (i : Nat) (xs : List S60), v20 = .int .i64 z ∧ Aside0 (z = (i : Int)) ∧ Aside0 (i ≤ (rl L).length) ∧ Aside0 (Kd.R k60 60 wr w.heap.size (fun _ => True) (.slice AHV3 (rl L).length kHV3) xs) ∧ Aside0 (Below w.heap.size w wr)) (fun v20 _ => (rl L).length - (intOf v20).toNat)
  case atStart => exact ⟨0, 0, rl L, rfl, ⟨rfl⟩, ⟨Nat.zero_le _⟩, ⟨by exact HV3.out⟩, ⟨by repeat (first | exact HB.out | apply pw_below_drewN | apply below_drew)⟩⟩
  case round =>
    clear HB HV3 HV1 HV2 HV4 HX HY x0 x1 x2 y0 y1 y2 c0
    obtain ⟨z, i, xs, rfl, hz, hi, HR, HB⟩ := hrel
    have hrl := rl_length L
    by_cases hlt : i < (rl L).length
    · have d1 : decide (z < ((rl L).length : Int)) = true := decide_eq_true (by rw [hz.out]; omega)
      have hv := HR.out
      have hxl := (Kd.R_reads' hv).1
      obtain ⟨gr, kr, e0, hbr, hlr, cl, hcr⟩ := Kd.R_form hv (by omega)
      injection e0 with e1 e2 e3
      subst e1
      have z0 : 0 ≤ z := by have := hz.out; omega
      have z1 : z < ((rl L).length : Int) := by have := hz.out; omega
      obtain ⟨ce, hcl, hM, hcc, hfr⟩ := Kd.R_elem hv z60 z z0 z1
      obtain rfl := k60_openM hM
      have HP := Aside0.mk (Kd.R_seg hv z z0 z1 (seg := [.int .i64 (-1), .int .i64 0, .int .i64 0, .int .i64 0]) (j := 0) hcl hcc (show 4 ≤ 4 from Nat.le_refl _) (x' := ⟨-1, ⟨0, 0, 0⟩⟩) (k60_mkM _ _ _ ⟨-1, ⟨0, 0, 0⟩⟩) (fun _ hk => hk))
      have q0 : wr.cell? ⟨gr, z.toNat * 4, none⟩ = some (.int .i64 (xs.getD z.toNat z60).f0) := hcc 0 _ rfl
      have r0 : wr.frozen? ⟨gr, z.toNat * 4, none⟩ = false := hfr 0
      have q1 : wr.cell? ⟨gr, z.toNat * 4 + 1, none⟩ = some (.int .i64 (xs.getD z.toNat z60).f1.f0) := hcc 1 _ rfl
      have r1 : wr.frozen? ⟨gr, z.toNat * 4 + 1, none⟩ = false := hfr 1
      have q2 : wr.cell? ⟨gr, z.toNat * 4 + 2, none⟩ = some (.int .i64 (xs.getD z.toNat z60).f1.f1) := hcc 2 _ rfl
      have r2 : wr.frozen? ⟨gr, z.toNat * 4 + 2, none⟩ = false := hfr 2
      have q3 : wr.cell? ⟨gr, z.toNat * 4 + 3, none⟩ = some (.int .i64 (xs.getD z.toNat z60).f1.f2) := hcc 3 _ rfl
      have r3 : wr.frozen? ⟨gr, z.toNat * 4 + 3, none⟩ = false := hfr 3
      have HBR := Aside0.mk hbr
      have HLT := Aside0.mk hlt
      have hzw : wrap64 (z + 1) = z + 1 := by have := hz.out; exact w64 _ (by omega)
      have hS : ∀ (W : World), W = ((((wr.setCell ⟨gr, z.toNat * 4, none⟩ (.int .i64 (-1))).setCell ⟨gr, z.toNat * 4 + 1, none⟩ (.int .i64 0)).setCell ⟨gr, z.toNat * 4 + 2, none⟩ (.int .i64 0)).setCell ⟨gr, z.toNat * 4 + 3, none⟩ (.int .i64 0)) → Kd.R k60 60 W w.heap.size (fun _ => True) (.slice (some ⟨gr, 0, none⟩) (rl L).length kHV3) (xs.set z.toNat ⟨-1, ⟨0, 0, 0⟩⟩) ∧ wr.grownBy W (some gr) := by
        rintro W rfl
        exact HP.out
      obtain ⟨hs1, hs2⟩ := hS _ rfl
      have HS1 := Aside0.mk hs1
      have HB1 := Aside0.mk (Below.grown HB.out hs2 HB.out.size (fun k hk => by injection hk with hk; rw [← hk]; exact HBR.out))
      clear hv hxl hbr hlr hcr hcl hM hcc hfr hlt hS hs1 hs2 hrl
      go_wp2
      go_roundw
      case rel => exact ⟨_, i + 1, _, rfl, ⟨by rw [hzw, hz.out]; omega⟩, ⟨by have := HLT.out; omega⟩, HS1, HB1⟩
      case measure => have h1 := HLT.out; have h2 := hz.out; simp [intOf, hzw]; omega
    · have d1 : decide (z < ((rl L).length : Int)) = false := decide_eq_false (by rw [hz.out]; omega)
      go_wp2
      go_ret
      exact ⟨rfl, HB.out⟩
end Go.Proofs.Ytmggbbeecmjalaa.P
