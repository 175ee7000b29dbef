/- The walk of the reference's Clone and Set; no further condition. -/
import Derived.Test.YtmggbbeecmjalaaS17
import Derived.Test.YtmggbbeecmjalaaX0
import Derived.Deep.RegionLaw
import Derived.BigRegion
namespace Go.Proofs.Ytmggbbeecmjalaa.P
open Go.RowKit Go.Proofs.YtmggbbeecmjalaaW.PrintWords Go.Proofs.YtmggbbeecmjalaaW.PrintLast Go.Proofs.YtmggbbeecmjalaaW.PrintMore
attribute [local go_sem] max2_int min2_int max_two min_two
set_option linter.unusedVariables false
set_option linter.unusedSimpArgs false


theorem lit0_R (W : World) (base : Nat) (hb : base ≤ W.heap.size) : Kd.R k28 28 (W.alloc (.cells #[] 28)) base (fun _ => True) (.slice (some ⟨W.heap.size, 0, none⟩) 0 0) [] :=
  ⟨fun _ _ => trivial, OwnRow.lit W base (Reps.none _ _) hb (by simp)⟩
set_option maxHeartbeats 8000000 in
set_option maxRecDepth 100000 in
theorem rclone_calls {w : World} {g : Nat} {L : List S28} {M : S28} (h : St65 w g L M) (hl : L.length ≤ 100000) :
    Calls Try.prog 16 #[.pointer (some ⟨g, 0, none⟩)] w fun e w' => Below w.heap.size w w' ∧ ∃ g', e = .returned (.pointer (some ⟨g', 0, none⟩)) ∧ w.heap.size ≤ g' ∧ St65 w' g' L M := by
  obtain ⟨A, k, hk, hC, hR, hg⟩ := h.cells
  have c0 : w.cell? ⟨g, 0, none⟩ = some (.slice A L.length k) := (blk_cell hg 0).trans rfl
  have c1 : w.cell? ⟨g, 1, none⟩ = some (.int .i64 M.f0) := (blk_cell hg 1).trans rfl
  have c2 : w.cell? ⟨g, 2, none⟩ = some (.int .i64 M.f1) := (blk_cell hg 2).trans rfl
  have c3 : w.cell? ⟨g, 3, none⟩ = some (.int .i64 M.f2) := (blk_cell hg 3).trans rfl
  have HC := Aside0.mk hC
  have HK := Aside0.mk hk
  have HS := Aside0.mk h
  clear h hg hC hR hk
  have HLEN := Aside0.mk (show (([] : List S28).length + L.length) * 24 ≤ 140737488355328 by simp; omega)
  have HB0 := Aside0.mk (Below.refl w.heap.size w)
  go_enter Try.func16, Try.ntmps16
  go_wp2
  go_region_held3 (fun w' => w'.cell? ⟨g, 0, none⟩ = some (.slice A L.length k) ∧ w'.cell? ⟨g, 1, none⟩ = some (.int .i64 M.f0) ∧ w'.cell? ⟨g, 2, none⟩ = some (.int .i64 M.f1) ∧ w'.cell? ⟨g, 3, none⟩ = some (.int .i64 M.f2)) (refine ⟨?_, ?_, ?_, ?_⟩ <;> first | assumption | exact c0 | exact c1 | exact c2 | exact c3 | exact pw_cell_below (below_alloc (Below.refl _ _) _) (by first | assumption | exact c0) | exact pw_cell_below (below_alloc (Below.refl _ _) _) (by first | assumption | exact c1) | exact pw_cell_below (below_alloc (Below.refl _ _) _) (by first | assumption | exact c2) | exact pw_cell_below (below_alloc (Below.refl _ _) _) (by first | assumption | exact c3)) (first | (refine Kd.R_append_rows_step k28 (w0 := w) w.heap.size (by rfl) (.tmp 3) (.tmp 7) 57 28 (.agg #[(.int .i64 0), (.int .i64 0), (.int .i64 0)]) 24 rfl Try.underlying57 info28 rfl (by decide) (by decide) _ [] L A L.length k (fun _ => True) (fun _ => False) (by rfl) (by rfl) (by exact lit0_R _ _ (by exact Below.size (by repeat (first | exact HB0.out | exact Below.refl _ _ | apply below_alloc | apply pw_below_drewN | apply below_drew)))) (by exact Kd.C_below HC.out (by repeat (first | exact HB0.out | exact Below.refl _ _ | apply below_alloc | apply pw_below_drewN | apply below_drew))) (fun _ _ h => h) (fun _ h => h.elim) (fun _ _ => trivial) (by repeat (first | exact HB0.out | exact Below.refl _ _ | apply below_alloc | apply pw_below_drewN | apply below_drew)) (by exact Below.size (by repeat (first | exact HB0.out | exact Below.refl _ _ | apply below_alloc | apply pw_below_drewN | apply below_drew))) HLEN.out ?_; intro v5 w5 hv5 hb5 hg5 hat5; rw [List.nil_append] at hv5; obtain ⟨A5, k5, rfl⟩ := Kd.R_slice hv5; have HV5 := Aside0.mk hv5; have HB5 := Aside0.mk hb5; have c50 := pw_cell_below HB5.out c0; have c51 := pw_cell_below HB5.out c1; have c52 := pw_cell_below HB5.out c2; have c53 := pw_cell_below HB5.out c3; clear hv5 hb5 hg5 hat5))
  all_goals (go_wp2_with (fail); go_ret; exact ⟨by repeat (first | exact HB5.out | apply below_alloc | apply pw_below_drewN | apply below_drew), _, rfl, by exact HB5.out.size, by exact St65.new M (Kd.R_lower (by exact HV5.out) (Nat.zero_le _))⟩)
end Go.Proofs.Ytmggbbeecmjalaa.P
