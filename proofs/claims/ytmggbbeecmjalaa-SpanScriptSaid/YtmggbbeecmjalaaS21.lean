/- The walk of the reference's Set; no further condition. -/
import Derived.Test.YtmggbbeecmjalaaS20
namespace Go.Proofs.Ytmggbbeecmjalaa.P
open Go.RowKit Go.Proofs.YtmggbbeecmjalaaW.PrintWords Go.Proofs.YtmggbbeecmjalaaW.PrintLast Go.Proofs.YtmggbbeecmjalaaW.PrintMore
attribute [local go_sem] max2_int min2_int max_two min_two
set_option linter.unusedVariables false
set_option linter.unusedSimpArgs false


theorem gb_drew' {w W : World} {r : Option Nat} (h : w.grownBy W r) : w.grownBy W.drew r := ⟨h.os, h.tape, h.output, h.size, h.block⟩
theorem gb_over {w W W' : World} {g b : Nat} (h : w.grownBy W (some g)) (k : W.grownBy W' (some b)) (hb : w.heap.size ≤ b) : w.grownBy W' (some g) :=
  ⟨k.os.trans h.os, k.tape.trans h.tape, k.output.trans h.output, Nat.le_trans h.size k.size, fun i hi hr => (k.block i (Nat.lt_of_lt_of_le hi h.size) (by intro q; injection q with q; omega)).trans (h.block i hi hr)⟩
theorem set_mid (L : List S28) (x i : Nat) (c : S28) (h : x + i < L.length) : (L.take x ++ List.replicate i c ++ L.drop (x + i)).set (x + i) c = L.take x ++ List.replicate (i + 1) c ++ L.drop (x + (i + 1)) := by
  have hl : (L.take x ++ List.replicate i c).length = x + i := by simp; omega
  rw [List.set_append_right _ _ (by omega), hl, Nat.sub_self, List.drop_eq_getElem_cons h, List.set_cons_zero, List.replicate_succ']
  simp [Nat.add_assoc]
set_option maxHeartbeats 8000000 in
set_option maxRecDepth 100000 in
theorem rset_calls {w : World} {g : Nat} {L : List S28} {M : S28} (h : St65 w g L M) (hl : L.length ≤ 50000) (x n : Int) (c : S28) :
    Calls Try.prog 34 #[.pointer (some ⟨g, 0, none⟩), .int .i64 x, .int .i64 n, .agg #[.int .i64 c.f0, .int .i64 c.f1, .int .i64 c.f2]] w fun e w' => e = .returned (.int .i64 (setE L x n c)) ∧ St65 w' g (setL L x n c) M ∧ w.grownBy w' (some g) := by
  obtain ⟨A, k, hk, hC, hR, hg⟩ := h.cells
  have c0 : w.cell? ⟨g, 0, none⟩ = some (.slice A L.length k) := (blk_cell hg 0).trans rfl
  have c0_ := Aside0.mk c0
  have c1 : w.cell? ⟨g, 1, none⟩ = some (.int .i64 M.f0) := (blk_cell hg 1).trans rfl
  have c2 : w.cell? ⟨g, 2, none⟩ = some (.int .i64 M.f1) := (blk_cell hg 2).trans rfl
  have c3 : w.cell? ⟨g, 3, none⟩ = some (.int .i64 M.f2) := (blk_cell hg 3).trans rfl
  have HC := Aside0.mk hC
  have HK := Aside0.mk hk
  have HS := Aside0.mk h
  clear h hg hC hR hk
  by_cases hh : hold x n L.length = true
  · have HH := Aside0.mk hh
    by_cases hm : okC c = true
    · have HM := Aside0.mk hm
      have HV := Aside0.mk (of_decide_eq_true hh)
      have HE := Aside0.mk (show setE L x n c = 0 by unfold setE; rw [if_pos hh, if_pos hm])
      have HL := Aside0.mk (show setL L x n c = L.take x.toNat ++ List.replicate n.toNat c ++ L.drop (x + n).toNat by unfold setL; rw [if_pos HE.out])
      have hw : wrap64 (x + n) = x + n := by have := HV.out; exact w64 _ (by omega)
      have HLT := Aside0.mk (show (([] : List S28).length + L.length) * 24 ≤ 140737488355328 by simp; omega)
      clear hh hm
      go_enter Try.func34, Try.ntmps34
      go_wp2_with (first | ((with_reducible refine gate_dst (N := 7) rfl ?_); go_loud (refine box_event ?hg (N := 7) ?hd (cs := #[.int .i64 c.f0, .int .i64 c.f1, .int .i64 c.f2]) (t := 28) ?hr ?_; (case hd => rfl); (case hg => rfl); (case hr => first | (go_simp; done) | (go_simp; rfl)); intro gb0 hg0 w0 hx0 hb0; have HX0 := Aside0.mk hx0; have HB0 := Aside0.mk hb0; have c0 := pw_cell_below hb0 c0; have hz0 := (blk_cell HX0.out 0).trans rfl; have hz1 := (blk_cell HX0.out 1).trans rfl; have hz2 := (blk_cell HX0.out 2).trans rfl; clear hx0 hb0 hg0)) | (go_at_call 42; go_loud (refine (rspan_calls (HS.out.below HB0.out) (by omega) x n).mono ?_; rintro e w1 ⟨rfl, q_⟩; replace q_ := q_.symm; subst q_; rw [HH.out])) | (go_at_call 14; go_loud (refine (rmay_c c _).mono ?_; rintro e w1 ⟨rfl, hb1⟩; have HB0 := Aside0.mk (HB0.out.trans (hb1.mono HB0.out.size)); have HX0 := Aside0.mk (blk_below HX0.out hb1); have c0 := pw_cell_below hb1 c0; have hz0 := (blk_cell HX0.out 0).trans rfl; have hz1 := (blk_cell HX0.out 1).trans rfl; have hz2 := (blk_cell HX0.out 2).trans rfl; clear hb1; rw [HM.out])) | ((with_reducible refine gate_dst (N := 19) rfl ?_); go_loud (refine Kd.R_lit k28 (w0 := w) w.heap.size 28 ?hg (N := 19) ?hd (xs := ([] : List S28)) (inner := []) (ok := fun k => k ≠ gb0) (okp := fun _ => False) ?hr ?hp (fun _ hk => hk.elim) (Nat.ne_of_gt (blk_lt HX0.out)) HB0.out HB0.out.size (by simp) ?_; (case hd => rfl); (case hg => rfl); (case hr => first | (go_simp; done) | (go_simp; rfl)); (case hp => exact Reps.none _ _); intro v8 w8 hv8 hb8 hg8 hn8; have HX0 := Aside0.mk (blk_below HX0.out (below_none hg8)); have c0 := pw_cell_below (below_none hg8) c0; have HLIT := Aside0.mk hv8; have HB0 := Aside0.mk hb8; clear hv8 hb8 hg8 hn8)) | ((with_reducible refine gate_builtin (b := .append) (xs := #[.tmp 19, .tmp 23]) rfl ?_); go_loud (at_builtin; refine Kd.R_append_rows k28 (w0 := w) w.heap.size rfl (.tmp 19) (.tmp 23) 57 28 (.agg #[(.int .i64 0), (.int .i64 0), (.int .i64 0)]) 24 rfl Try.underlying57 info28 rfl (by decide) (by decide) v8 ([]) (L) A (L).length k (fun k => k ≠ gb0) (fun _ => False) rfl rfl HLIT.out (Kd.C_below HC.out HB0.out) (fun _ _ h => h) (fun _ h => h.elim) (fun k hk => Nat.ne_of_gt (Nat.lt_of_lt_of_le (blk_lt HX0.out) hk)) HB0.out HB0.out.size HLT.out ?_; intro v5 w5 hv5 hb5 hg5 hat5; rw [List.nil_append] at hv5; obtain ⟨A5, k5, rfl⟩ := Kd.R_slice hv5; have HV5 := Aside0.mk hv5; have HX0 := Aside0.mk (blk_grown HX0.out hg5 (fun q => HLIT.out.1 gb0 q.symm rfl)); have HB0 := Aside0.mk hb5; have HS6 := Aside0.mk (HS.out.below hb5); obtain ⟨AS6, kS6, _, _, _, hgS6⟩ := HS6.out.cells; have HGS := Aside0.mk hgS6; have cs6 : World.cell? w5 ⟨g, 0, none⟩ = some (.slice AS6 L.length kS6) := (blk_cell hgS6 0).trans rfl; have fs6 := blk_frozen hgS6 0; clear hgS6; clear hv5 hb5 hg5 hat5)))
      go_loopw [9] (fun v9 wr => ∃ (y : Int) (i : Nat), v9 = .int .i64 y ∧ Aside0 (y = x + (i : Int)) ∧ Aside0 ((i : Int) ≤ n) ∧ Aside0 (∃ v, wr.heap[g]? = some (.cells #[v, .int .i64 M.f0, .int .i64 M.f1, .int .i64 M.f2] 65 (0, 0)) ∧ Kd.R k28 28 wr w.heap.size (fun k => k ≠ gb0) v (L.take x.toNat ++ List.replicate i c ++ L.drop (x.toNat + i))) ∧ Aside0 (wr.heap[gb0]? = some (.cells #[.int .i64 c.f0, .int .i64 c.f1, .int .i64 c.f2] 28 (0, 0))) ∧ Aside0 (w.grownBy wr (some g))) (fun v9 _ => (x + n).toNat - (intOf v9).toNat)
      case atStart => exact ⟨x, 0, rfl, ⟨by simp⟩, ⟨by have := HV.out; omega⟩, ⟨⟨_, by exact blk_set HGS.out 0 _, by have h5 := Kd.R_set HV5.out HGS.out nt28_65 0 (.slice A5 L.length k5); simpa using h5⟩⟩, ⟨by exact blk_far HX0.out (p := ⟨g, 0, none⟩) (blk_ne HX0.out HGS.out (by decide)) _⟩, ⟨gb_set (gb_below HB0.out) 0 _⟩⟩
      case round =>
        clear HX0 HB0 c0 HV5 HS6 HGS cs6 fs6 HLIT hz0 hz1 hz2
        obtain ⟨y, i, rfl, hy, hi, HZ, HX0, HG⟩ := hrel
        obtain ⟨v, hx1, hv⟩ := HZ.out
        by_cases hlt : (i : Int) < n
        · have hV := HV.out
          have d6 : decide (y < x + n) = true := decide_eq_true (by rw [hy.out]; omega)
          have hyn : y.toNat = x.toNat + i := by have := hy.out; omega
          have hset := set_mid L x.toNat i c (by omega)
          rw [← hyn] at hset hv
          have hlen : (L.take x.toNat ++ List.replicate i c ++ L.drop y.toNat).length = L.length := by simp; omega
          obtain ⟨Z, hZ⟩ : ∃ Z, Z = L.take x.toNat ++ List.replicate i c ++ L.drop y.toNat := ⟨_, rfl⟩
          rw [← hZ] at hv hset hlen
          obtain ⟨gr, kr, rfl, hbr, hlr, cl, hcr⟩ := Kd.R_form hv (by omega)
          have y0 : 0 ≤ y := by have := hy.out; omega
          have y1 : y < (Z.length : Int) := by have := hy.out; omega
          obtain ⟨ce, hcl, hM, hcc, hfr⟩ := Kd.R_elem hv z28 y y0 y1
          obtain rfl := k28_openM hM
          have HP := Aside0.mk (Kd.R_seg hv y y0 y1 (seg := [.int .i64 c.f0, .int .i64 c.f1, .int .i64 c.f2]) (j := 0) hcl hcc (show 3 ≤ 3 from Nat.le_refl _) (x' := c) (k28_mkM _ _ _ c) (fun _ hk => hk))
          have q0 : wr.cell? ⟨gr, y.toNat * 3, none⟩ = some (.int .i64 (Z.getD y.toNat z28).f0) := hcc 0 _ rfl
          have q1 : wr.cell? ⟨gr, y.toNat * 3 + 1, none⟩ = some (.int .i64 (Z.getD y.toNat z28).f1) := hcc 1 _ rfl
          have q2 : wr.cell? ⟨gr, y.toNat * 3 + 2, none⟩ = some (.int .i64 (Z.getD y.toNat z28).f2) := hcc 2 _ rfl
          have r0 : wr.frozen? ⟨gr, y.toNat * 3, none⟩ = false := hfr 0
          have r1 : wr.frozen? ⟨gr, y.toNat * 3 + 1, none⟩ = false := hfr 1
          have r2 : wr.frozen? ⟨gr, y.toNat * 3 + 2, none⟩ = false := hfr 2
          have e0 := (blk_cell hx1 0).trans rfl
          have hz0 := (blk_cell HX0.out 0).trans rfl
          have hz1 := (blk_cell HX0.out 1).trans rfl
          have hz2 := (blk_cell HX0.out 2).trans rfl
          have HNE := Aside0.mk (show g ≠ gr from fun q => Kd.R_ne hv hx1 (by decide) (by rw [q]; rfl))
          have HN0 := Aside0.mk (show gb0 ≠ gr from fun q => hv.1 gr rfl q.symm)
          have HBR := Aside0.mk hbr
          have HX1 := Aside0.mk hx1
          have HSET := Aside0.mk hset
          have HLT2 := Aside0.mk hlt
          have HYN := Aside0.mk hyn
          have hyw : wrap64 (y + 1) = y + 1 := by have := hy.out; exact w64 _ (by omega)
          clear hx1 hv hlt hset hlen hZ hcl hM hcc hfr hcr hbr hlr hyn hV HZ
          go_wp2
          go_region
          have hS : ∀ (W : World), W = (((wr.setCell ⟨gr, y.toNat * 3, none⟩ (.int .i64 c.f0)).setCell ⟨gr, y.toNat * 3 + 1, none⟩ (.int .i64 c.f1)).setCell ⟨gr, y.toNat * 3 + 2, none⟩ (.int .i64 c.f2)) → Kd.R k28 28 W w.heap.size (fun k => k ≠ gb0) (.slice (some ⟨gr, 0, none⟩) Z.length kr) (L.take x.toNat ++ List.replicate (i + 1) c ++ L.drop (x.toNat + (i + 1))) ∧ wr.grownBy W (some gr) := by
            rintro W rfl
            have h1 := HP.out
            rw [HSET.out] at h1
            exact h1
          obtain ⟨hs1, hs2⟩ := hS _ rfl
          have HS1 := Aside0.mk hs1
          have HS2 := Aside0.mk hs2
          have HX2 := Aside0.mk (blk_grown HX1.out hs2 (by simpa using HNE.out))
          have HX3 := Aside0.mk (blk_grown HX0.out hs2 (by simpa using HN0.out))
          have HG2 := Aside0.mk (gb_over HG.out hs2 HBR.out)
          clear hs1 hs2 hS
          go_wp2
          go_roundw
          case rel => exact ⟨_, i + 1, rfl, ⟨by rw [hyw, hy.out]; omega⟩, ⟨by have := HLT2.out; omega⟩, ⟨⟨_, by exact HX2.out, by exact HS1.out⟩⟩, ⟨by exact HX3.out⟩, ⟨by first | exact HG2.out | exact gb_drew' HG2.out⟩⟩
          case measure => have h1 := HLT2.out; have h2 := hy.out; have h3 := HV.out; simp [intOf, hyw]; omega
        · have d6 : decide (y < x + n) = false := decide_eq_false (by rw [hy.out]; omega)
          have hin : i = n.toNat := by have := hi.out; omega
          have HFIN := Aside0.mk (show St65 wr g (setL L x n c) M from ⟨v, hx1, by
            rw [HL.out, show (x + n).toNat = x.toNat + i by have := HV.out; omega, ← hin]; exact Kd.R_mono (Kd.R_lower hv (Nat.zero_le _)) (fun _ _ => trivial)⟩)
          clear hx1 hv hlt hin HZ
          go_wp2
          go_ret
          exact ⟨by show Ending.returned (.int .i64 0) = _; rw [HE.out], HFIN.out, HG.out⟩
    · have HM := Aside0.mk (Bool.eq_false_iff.mpr hm)
      have HE := Aside0.mk (show setE L x n c = 2 by unfold setE; rw [if_pos hh, if_neg hm])
      have HL := Aside0.mk (show setL L x n c = L by unfold setL; rw [HE.out]; rfl)
      clear hh hm
      go_enter Try.func34, Try.ntmps34
      go_wp2_with (first | ((with_reducible refine gate_dst (N := 7) rfl ?_); go_loud (refine box_event ?hg (N := 7) ?hd (cs := #[.int .i64 c.f0, .int .i64 c.f1, .int .i64 c.f2]) (t := 28) ?hr ?_; (case hd => rfl); (case hg => rfl); (case hr => first | (go_simp; done) | (go_simp; rfl)); intro gb0 hg0 w0 hx0 hb0; have HX0 := Aside0.mk hx0; have HB0 := Aside0.mk hb0; have c0 := pw_cell_below hb0 c0; have hz0 := (blk_cell HX0.out 0).trans rfl; have hz1 := (blk_cell HX0.out 1).trans rfl; have hz2 := (blk_cell HX0.out 2).trans rfl; clear hx0 hb0 hg0)) | (go_at_call 42; go_loud (refine (rspan_calls (HS.out.below HB0.out) (by omega) x n).mono ?_; rintro e w1 ⟨rfl, q_⟩; replace q_ := q_.symm; subst q_; rw [HH.out])) | (go_at_call 14; go_loud (refine (rmay_c c _).mono ?_; rintro e w1 ⟨rfl, hb1⟩; have HB0 := Aside0.mk (HB0.out.trans (hb1.mono HB0.out.size)); have HX0 := Aside0.mk (blk_below HX0.out hb1); have c0 := pw_cell_below hb1 c0; have hz0 := (blk_cell HX0.out 0).trans rfl; have hz1 := (blk_cell HX0.out 1).trans rfl; have hz2 := (blk_cell HX0.out 2).trans rfl; clear hb1; rw [HM.out])))
      go_ret
      exact ⟨by show Ending.returned (.int .i64 2) = _; rw [HE.out], by rw [HL.out]; exact HS.out.below HB0.out, gb_below HB0.out⟩
  · have HH := Aside0.mk (Bool.eq_false_iff.mpr hh)
    have HE := Aside0.mk (show setE L x n c = 5 by unfold setE; rw [if_neg hh])
    have HL := Aside0.mk (show setL L x n c = L by unfold setL; rw [HE.out]; rfl)
    clear hh
    go_enter Try.func34, Try.ntmps34
    go_wp2_with (first | ((with_reducible refine gate_dst (N := 7) rfl ?_); go_loud (refine box_event ?hg (N := 7) ?hd (cs := #[.int .i64 c.f0, .int .i64 c.f1, .int .i64 c.f2]) (t := 28) ?hr ?_; (case hd => rfl); (case hg => rfl); (case hr => first | (go_simp; done) | (go_simp; rfl)); intro gb0 hg0 w0 hx0 hb0; have HX0 := Aside0.mk hx0; have HB0 := Aside0.mk hb0; have c0 := pw_cell_below hb0 c0; have hz0 := (blk_cell HX0.out 0).trans rfl; have hz1 := (blk_cell HX0.out 1).trans rfl; have hz2 := (blk_cell HX0.out 2).trans rfl; clear hx0 hb0 hg0)) | (go_at_call 42; go_loud (refine (rspan_calls (HS.out.below HB0.out) (by omega) x n).mono ?_; rintro e w1 ⟨rfl, q_⟩; replace q_ := q_.symm; subst q_; rw [HH.out])))
    go_ret
    exact ⟨by show Ending.returned (.int .i64 5) = _; rw [HE.out], by rw [HL.out]; exact HS.out.below HB0.out, gb_below HB0.out⟩
end Go.Proofs.Ytmggbbeecmjalaa.P
