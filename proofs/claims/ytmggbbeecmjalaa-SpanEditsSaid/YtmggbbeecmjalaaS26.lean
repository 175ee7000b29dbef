/- The walk of whole; no further condition. -/
import Derived.Test.YtmggbbeecmjalaaR0
import Derived.Test.YtmggbbeecmjalaaX0
namespace Go.Proofs.Ytmggbbeecmjalaa.P
open Go.RowKit Go.Proofs.YtmggbbeecmjalaaW.PrintWords Go.Proofs.YtmggbbeecmjalaaW.PrintLast Go.Proofs.YtmggbbeecmjalaaW.PrintMore
attribute [local go_sem] max2_int min2_int max_two min_two
set_option linter.unusedVariables false
set_option linter.unusedSimpArgs false


theorem take_snoc28 (L : List S28) (i : Nat) (h : i < L.length) : L.take i ++ [rd_T28 L (i : Int)] = L.take (i + 1) := by
  rw [rd28_at L i h, List.take_succ_eq_append_getElem h]
set_option maxHeartbeats 8000000 in
set_option maxRecDepth 100000 in
theorem whole_calls {w : World} {g : Nat} {L : List S28} {c : S28} (h : St45 w g (rl L) c) (hl : L.length ≤ 100000) :
    Calls Try.prog 27 #[.pointer (some ⟨g, 0, none⟩)] w fun e w' => ∃ v : Value, e = .returned v ∧ Kd.R k28 28 w' w.heap.size (fun _ => True) v L ∧ Below w.heap.size w w' := by
  have HS := Aside0.mk h
  clear h
  go_enter Try.func27, Try.ntmps27
  go_wp2_with (fail)
  go_loopw [3, 4] (fun v3 v4 wr => ∃ (z : Int) (i : Nat), v4 = .int .i64 z ∧ Aside0 (z = (i : Int)) ∧ Aside0 (i ≤ L.length) ∧ Aside0 (Kd.R k28 28 wr w.heap.size (fun _ => True) v3 (L.take i)) ∧ Aside0 (Below w.heap.size w wr)) (fun _ v4 _ => L.length - (intOf v4).toNat)
  case atStart => exact ⟨0, 0, rfl, ⟨rfl⟩, ⟨Nat.zero_le _⟩, ⟨Kd.R_nil _ _ _ _ _⟩, ⟨Below.refl _ _⟩⟩
  case round =>
    obtain ⟨z, i, rfl, hz, hi, HV, HB⟩ := hrel
    by_cases hlt : i < L.length
    · have d1 : decide (z < (L.length : Int)) = true := decide_eq_true (by rw [hz.out]; omega)
      have HLT := Aside0.mk hlt
      obtain ⟨X, hX⟩ : ∃ X, X = L.take i := ⟨_, rfl⟩
      rw [← hX] at HV
      have HX0 := Aside0.mk hX
      have HLX := Aside0.mk (show (X.length + 1) * 24 ≤ 140737488355328 by rw [hX]; simp; omega)
      have hzw : wrap64 (z + 1) = z + 1 := by have := hz.out; exact w64 _ (by omega)
      clear hlt hX
      go_wp2_with (first | (go_at_call 24; go_loud (refine (len_calls (HS.out.below HB.out) hl).mono ?_; rintro e w9 ⟨rfl, hb9⟩; have HV := Aside0.mk (Kd.R_below HV.out hb9); have HB := Aside0.mk (HB.out.trans (hb9.mono HB.out.size)); clear hb9)) | (go_at_call 19; go_loud (refine (at_calls (HS.out.below HB.out) hl z).mono ?_; rintro e w9 ⟨hb9, hA9⟩; unfold AtAns at hA9; rw [if_pos (by have := hz.out; have := HLT.out; omega)] at hA9; subst hA9; have HV := Aside0.mk (Kd.R_below HV.out hb9); have HB := Aside0.mk (HB.out.trans (hb9.mono HB.out.size)); clear hb9)) | ((with_reducible refine gate_dst (N := 5) rfl ?_); go_loud (refine box_event ?hg (N := 5) ?hd (cs := #[.int .i64 0, .int .i64 0, .int .i64 0]) (t := 28) ?hr ?_; (case hd => rfl); (case hg => rfl); (case hr => first | (go_simp; done) | (go_simp; rfl)); intro gb5 hg5 w5 hx5 hb5; have HV := Aside0.mk (Kd.R_below (Kd.R_mono (Kd.R_bound HV.out) (fun k hk => show k ≠ gb5 from Nat.ne_of_lt (hg5 ▸ hk.2.2.1))) hb5); have HGE := Aside0.mk (show w.heap.size ≤ gb5 from hg5 ▸ HB.out.size); have HB := Aside0.mk (HB.out.trans (hb5.mono HB.out.size)); have HX := Aside0.mk hx5; clear hx5 hb5 hg5)) | ((with_reducible refine gate_store (t := 28) (p := 5) rfl ?_); go_loud (refine store_event rfl 28 _ _ rfl gb5 #[.int .i64 (rd_T28 L z).f0, .int .i64 (rd_T28 L z).f1, .int .i64 (rd_T28 L z).f2] rfl rfl 28 #[.int .i64 0, .int .i64 0, .int .i64 0] HX.out (size28 _ rfl) rfl (by first | rfl | decide | kernel_rfl) ?_; intro w6 x6 o6 s6; have HX := Aside0.mk x6; have HV := Aside0.mk (Kd.R_step HV.out (fun k hk _ => o6 k hk)); have HB := Aside0.mk (s6 _ _ HB.out HGE.out); have y0 := (blk_cell HX.out 0).trans rfl; have y1 := (blk_cell HX.out 1).trans rfl; have y2 := (blk_cell HX.out 2).trans rfl; clear x6 o6 s6)) | ((with_reducible refine gate_builtin (b := .append) (xs := #[.tmp 19, .tmp 21]) rfl ?_); go_loud (at_builtin; refine Kd.R_append k28 (w0 := w) w.heap.size rfl (.tmp 19) (.tmp 21) 57 28 (.agg #[(.int .i64 0), (.int .i64 0), (.int .i64 0)]) 24 rfl Try.underlying57 info28 rfl (by decide) (by decide) u3 X (rd_T28 L z) [.int .i64 (rd_T28 L z).f0, .int .i64 (rd_T28 L z).f1, .int .i64 (rd_T28 L z).f2] (fun k => k ≠ gb5) (fun _ => False) rfl rfl (k28_mkM _ _ _ _) (fun _ h => h.elim) (fun k hk => Nat.ne_of_gt (Nat.lt_of_lt_of_le (blk_lt HX.out) hk)) HV.out HB.out HB.out.size HLX.out ?_; intro v5 w5 hv5 hb5 hg5 hat5; have HV5 := Aside0.mk hv5; have HB5 := Aside0.mk hb5; clear hv5 hb5 hg5 hat5)))
      go_roundw
      case rel => exact ⟨_, i + 1, rfl, ⟨by rw [hzw, hz.out]; omega⟩, ⟨HLT.out⟩, ⟨by have h5 := HV5.out; rw [HX0.out, hz.out, take_snoc28 L i HLT.out] at h5; exact Kd.R_mono h5 (fun _ _ => trivial)⟩, HB5⟩
      case measure => have h1 := HLT.out; have h2 := hz.out; simp [intOf, hzw]; omega
    · have d1 : decide (z < (L.length : Int)) = false := decide_eq_false (by rw [hz.out]; omega)
      have HIL := Aside0.mk (show L.take i = L by rw [show i = L.length by have := hi.out; omega, List.take_length])
      clear hlt
      go_wp2_with (first | (go_at_call 24; go_loud (refine (len_calls (HS.out.below HB.out) hl).mono ?_; rintro e w9 ⟨rfl, hb9⟩; have HV := Aside0.mk (Kd.R_below HV.out hb9); have HB := Aside0.mk (HB.out.trans (hb9.mono HB.out.size)); clear hb9)))
      go_ret
      exact ⟨_, rfl, by have h5 := HV.out; rw [HIL.out] at h5; exact h5, HB.out⟩
end Go.Proofs.Ytmggbbeecmjalaa.P
