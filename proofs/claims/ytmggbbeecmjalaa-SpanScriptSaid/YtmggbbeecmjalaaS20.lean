/- The walk of the reference's Insert; no further condition. -/
import Derived.Test.YtmggbbeecmjalaaS19
namespace Go.Proofs.Ytmggbbeecmjalaa.P
open Go.RowKit Go.Proofs.YtmggbbeecmjalaaW.PrintWords Go.Proofs.YtmggbbeecmjalaaW.PrintLast Go.Proofs.YtmggbbeecmjalaaW.PrintMore
attribute [local go_sem] max2_int min2_int max_two min_two
set_option linter.unusedVariables false
set_option linter.unusedSimpArgs false

theorem cell_off {w w1 : World} {a : Addr} {g0 : Nat} {v : Value} (o : ∀ k, k ≠ g0 → w1.heap[k]? = w.heap[k]?) (hne : a.block ≠ g0) (h : w.cell? a = some v) : w1.cell? a = some v := by
  unfold World.cell? at h ⊢
  rw [o _ hne]
  exact h
set_option maxHeartbeats 8000000 in
set_option maxRecDepth 100000 in
theorem rinsert_calls {w : World} {g : Nat} {L : List S28} {M : S28} (h : St65 w g L M) (hl : L.length ≤ 50000) (x n : Int) :
    Calls Try.prog 32 #[.pointer (some ⟨g, 0, none⟩), .int .i64 x, .int .i64 n] w fun e w' => e = .returned (.int .i64 (insE L x n)) ∧ St65 w' g (insL L M x n) M ∧ w.grownBy w' (some g) := by
  obtain ⟨A, k, hk, hC, hR, hg⟩ := h.cells
  have c0 : w.cell? ⟨g, 0, none⟩ = some (.slice A L.length k) := (blk_cell hg 0).trans rfl
  have c0_ := Aside0.mk c0
  have c1 : w.cell? ⟨g, 1, none⟩ = some (.int .i64 M.f0) := (blk_cell hg 1).trans rfl
  have c2 : w.cell? ⟨g, 2, none⟩ = some (.int .i64 M.f1) := (blk_cell hg 2).trans rfl
  have c3 : w.cell? ⟨g, 3, none⟩ = some (.int .i64 M.f2) := (blk_cell hg 3).trans rfl
  have HC := Aside0.mk hC
  have HK := Aside0.mk hk
  have HS := Aside0.mk h
  clear h hg hC hR hk
  have hw : wrap64 (4096 - (L.length : Int)) = 4096 - (L.length : Int) := w64 _ (by omega)
  by_cases h1 : n < 0
  · have d1 : decide (n < 0) = true := decide_eq_true h1
    have HE := Aside0.mk (show insE L x n = 5 by unfold insE; rw [if_pos (by omega)])
    have HL := Aside0.mk (show insL L M x n = L by unfold insL; rw [HE.out]; rfl)
    clear h1
    as_aux_lemma =>
      go_enter Try.func32, Try.ntmps32
      go_wp2
      go_ret
      exact ⟨by show Ending.returned (.int .i64 5) = _; rw [HE.out], by rw [HL.out]; exact HS.out, gb_refl _ _⟩
  · have d1 : decide (n < 0) = false := decide_eq_false h1
    by_cases h2 : x < 0
    · have d2 : decide (x < 0) = true := decide_eq_true h2
      have HE := Aside0.mk (show insE L x n = 5 by unfold insE; rw [if_pos (by omega)])
      have HL := Aside0.mk (show insL L M x n = L by unfold insL; rw [HE.out]; rfl)
      clear h1 h2
      as_aux_lemma =>
        go_enter Try.func32, Try.ntmps32
        go_wp2
        go_ret
        exact ⟨by show Ending.returned (.int .i64 5) = _; rw [HE.out], by rw [HL.out]; exact HS.out, gb_refl _ _⟩
    · have d2 : decide (x < 0) = false := decide_eq_false h2
      by_cases h3 : (L.length : Int) < x
      · have d3 : decide ((L.length : Int) < x) = true := decide_eq_true h3
        have HE := Aside0.mk (show insE L x n = 5 by unfold insE; rw [if_pos (by omega)])
        have HL := Aside0.mk (show insL L M x n = L by unfold insL; rw [HE.out]; rfl)
        clear h1 h2 h3
        as_aux_lemma =>
          go_enter Try.func32, Try.ntmps32
          go_wp2
          go_ret
          exact ⟨by show Ending.returned (.int .i64 5) = _; rw [HE.out], by rw [HL.out]; exact HS.out, gb_refl _ _⟩
      · have d3 : decide ((L.length : Int) < x) = false := decide_eq_false h3
        by_cases h4 : 4096 - (L.length : Int) < n
        · have d4 : decide (4096 - (L.length : Int) < n) = true := decide_eq_true h4
          have HE := Aside0.mk (show insE L x n = 8 by unfold insE; rw [if_neg (by omega), if_pos h4])
          have HL := Aside0.mk (show insL L M x n = L by unfold insL; rw [HE.out]; rfl)
          clear h1 h2 h3 h4
          as_aux_lemma =>
            go_enter Try.func32, Try.ntmps32
            go_wp2
            go_ret
            exact ⟨by show Ending.returned (.int .i64 8) = _; rw [HE.out], by rw [HL.out]; exact HS.out, gb_refl _ _⟩
        · have d4 : decide (4096 - (L.length : Int) < n) = false := decide_eq_false h4
          have HV0 := Aside0.mk (show 0 ≤ x ∧ 0 ≤ n ∧ x ≤ (L.length : Int) ∧ n ≤ 4096 - (L.length : Int) by omega)
          have HE := Aside0.mk (show insE L x n = 0 by unfold insE; rw [if_neg (by omega), if_neg h4])
          obtain ⟨hcutT, hCT⟩ := cutTo HC.out HK.out x (by omega) (by omega)
          obtain ⟨A2, k2, hcutD, hCD, hk2⟩ := cutFrom HC.out HK.out x (by omega) (by omega)
          have HL := Aside0.mk (show insL L M x n = L.take x.toNat ++ List.replicate n.toNat (insC L M x) ++ L.drop x.toNat by unfold insL; rw [if_pos HE.out])
          have hTl : (L.take x.toNat).length ≤ L.length := by simp; omega
          have hDl : (L.drop x.toNat).length ≤ L.length := by simp
          generalize L.take x.toNat = T at *
          generalize L.drop x.toNat = D at *
          have HCT := Aside0.mk hCT
          have HCD := Aside0.mk hCD
          have HTD := Aside0.mk (And.intro hTl hDl)
          have HLT := Aside0.mk (show (([] : List S28).length + T.length) * 24 ≤ 140737488355328 by simp; omega)
          have hw1 : wrap64 (x - 1) = x - 1 := w64 _ (by omega)
          clear h1 h2 h3 h4 hCT hCD hk2 hTl hDl
          go_enter Try.func32, Try.ntmps32
          go_upto_if 42 with (first | ((with_reducible refine gate_dst (N := 7) rfl ?_); go_loud (refine box_event ?hg (N := 7) ?hd (cs := #[.int .i64 0, .int .i64 0, .int .i64 0]) (t := 28) ?hr ?_; (case hd => rfl); (case hg => rfl); (case hr => first | (go_simp; done) | (go_simp; rfl)); intro gb0 hg0 w0 hx0 hb0; have HX0 := Aside0.mk hx0; have HGE := Aside0.mk (show w.heap.size ≤ gb0 from Nat.le_of_eq hg0.symm); have HB0 := Aside0.mk hb0; have c0 := pw_cell_below hb0 c0; clear hx0 hb0 hg0)) | ((with_reducible refine gate_store (t := 28) (p := 7) rfl ?_); go_loud (refine store_event rfl 28 _ _ rfl gb0 #[.int .i64 M.f0, .int .i64 M.f1, .int .i64 M.f2] rfl rfl 28 #[.int .i64 0, .int .i64 0, .int .i64 0] HX0.out (size28 _ rfl) rfl (by first | rfl | decide | kernel_rfl) ?_; intro w1 x1 o1 s1; have HX0 := Aside0.mk x1; have c0 := (show w1.cell? ⟨g, 0, none⟩ = _ from cell_off o1 (Nat.ne_of_lt (Nat.lt_of_lt_of_le HS.out.lt HGE.out)) c0); have HB0 := Aside0.mk (s1 _ _ HB0.out HGE.out); clear x1 o1 s1)))
          go_cut [] (fun wx => Aside0 (wx.heap[gb0]? = some (.cells #[.int .i64 (insC L M x).f0, .int .i64 (insC L M x).f1, .int .i64 (insC L M x).f2] 28 (0, 0))) ∧ Aside0 (Below w.heap.size w wx))
          case first =>
            by_cases hL : L.length = 0
            · have d5 : decide (0 < L.length) = false := decide_eq_false (by omega)
              have hC : insC L M x = M := by unfold insC; rw [if_pos hL]
              rw [d5]
              go_wp2
              go_meet
              exact ⟨⟨by rw [hC]; exact HX0.out⟩, HB0⟩
            · have d5 : decide (0 < L.length) = true := decide_eq_true (by omega)
              have HI := Aside0.mk (show insC L M x = rd_T28 L (max (x - 1) 0) by unfold insC; rw [if_neg hL])
              rw [d5]
              by_cases h6 : x - 1 < 0
              · have d6 : decide (x - 1 < 0) = true := decide_eq_true h6
                obtain ⟨ad, e0, q0, q1, q2⟩ := at_T28 (Kd.C_below HC.out HB0.out) 0 (by omega) (by omega)
                cases e0
                rw [show ((0 : Int).toNat * 3) = 0 from rfl, show ad.add 0 = ad by simp [Addr.add]] at q0 q1 q2
                have hp : 0 < L.length := by omega
                have hIC : insC L M x = rd_T28 L 0 := by rw [HI.out, show max (x - 1) 0 = 0 by omega]
                have HIC := Aside0.mk hIC
                clear hL hIC
                go_wp2_with (first | ((with_reducible refine gate_store (t := 28) (p := 7) rfl ?_); go_loud (refine store_event rfl 28 _ _ rfl gb0 #[.int .i64 (rd_T28 L 0).f0, .int .i64 (rd_T28 L 0).f1, .int .i64 (rd_T28 L 0).f2] rfl rfl 28 #[.int .i64 M.f0, .int .i64 M.f1, .int .i64 M.f2] HX0.out (size28 _ rfl) rfl (by first | rfl | decide | kernel_rfl) ?_; intro w2 x2 o2 s2; have HX2 := Aside0.mk x2; have HB2 := Aside0.mk (s2 _ _ HB0.out HGE.out); clear x2 o2 s2)))
                go_meet
                exact ⟨⟨by rw [HIC.out]; exact HX2.out⟩, HB2⟩
              · have d6 : decide (x - 1 < 0) = false := decide_eq_false h6
                have p0 : 0 ≤ x - 1 := by omega
                have p1 : x - 1 < (L.length : Int) := by have := HV0.out; omega
                obtain ⟨ad, e0, q0, q1, q2⟩ := at_T28 (Kd.C_below HC.out HB0.out) (x - 1) p0 p1
                cases e0
                rw [show (x - 1).toNat = x.toNat - 1 by omega] at q0 q1 q2
                have hIC : insC L M x = rd_T28 L (x - 1) := by rw [HI.out, show max (x - 1) 0 = x - 1 by omega]
                have HIC := Aside0.mk hIC
                clear hL hIC
                go_wp2_with (first | ((with_reducible refine gate_store (t := 28) (p := 7) rfl ?_); go_loud (refine store_event rfl 28 _ _ rfl gb0 #[.int .i64 (rd_T28 L (x - 1)).f0, .int .i64 (rd_T28 L (x - 1)).f1, .int .i64 (rd_T28 L (x - 1)).f2] rfl rfl 28 #[.int .i64 M.f0, .int .i64 M.f1, .int .i64 M.f2] HX0.out (size28 _ rfl) rfl (by first | rfl | decide | kernel_rfl) ?_; intro w2 x2 o2 s2; have HX2 := Aside0.mk x2; have HB2 := Aside0.mk (s2 _ _ HB0.out HGE.out); clear x2 o2 s2)))
                go_meet
                exact ⟨⟨by rw [HIC.out]; exact HX2.out⟩, HB2⟩
          case rest =>
            clear HX0 HB0 c0
            obtain ⟨HX0, HB0⟩ := hcut
            obtain ⟨Ac, kc, hkc, hCc, hRc, hgc⟩ := (HS.out.below HB0.out).cells
            have c0 : World.cell? _ ⟨g, 0, none⟩ = some (.slice A L.length k) := pw_cell_below HB0.out c0_.out
            clear hgc hRc hCc hkc
            go_wp2_with (first | ((with_reducible refine gate_dst (N := 52) rfl ?_); go_loud (refine Kd.R_lit k28 (w0 := w) w.heap.size 28 ?hg (N := 52) ?hd (xs := ([] : List S28)) (inner := []) (ok := fun k => k ≠ gb0) (okp := fun _ => False) ?hr ?hp (fun _ hk => hk.elim) (Nat.ne_of_gt (blk_lt HX0.out)) HB0.out HB0.out.size (by simp) ?_; (case hd => rfl); (case hg => rfl); (case hr => first | (go_simp; done) | (go_simp; rfl)); (case hp => exact Reps.none _ _); intro v8 w8 hv8 hb8 hg8 hn8; have HX0 := Aside0.mk (blk_below HX0.out (below_none hg8)); have c0 := pw_cell_below (below_none hg8) c0; have HLIT := Aside0.mk hv8; have HB0 := Aside0.mk hb8; clear hv8 hb8 hg8 hn8)) | ((with_reducible refine gate_builtin (b := .append) (xs := #[.tmp 52, .tmp 58]) rfl ?_); go_loud (at_builtin; refine Kd.R_append_rows k28 (w0 := w) w.heap.size rfl (.tmp 52) (.tmp 58) 57 28 (.agg #[(.int .i64 0), (.int .i64 0), (.int .i64 0)]) 24 rfl Try.underlying57 info28 rfl (by decide) (by decide) v8 ([]) (T) A (T).length k (fun k => k ≠ gb0) (fun _ => False) rfl rfl HLIT.out (Kd.C_below HCT.out HB0.out) (fun _ _ h => h) (fun _ h => h.elim) (fun k hk => Nat.ne_of_gt (Nat.lt_of_lt_of_le (blk_lt HX0.out) hk)) HB0.out HB0.out.size HLT.out ?_; intro v5 w5 hv5 hb5 hg5 hat5; rw [List.nil_append] at hv5; have HV5 := Aside0.mk hv5; have HX0 := Aside0.mk (blk_grown HX0.out hg5 (fun q => HLIT.out.1 gb0 q.symm rfl)); have HB0 := Aside0.mk hb5; clear hv5 hb5 hg5 hat5)))
            go_loopw [8, 9] (fun v8 v9 wr => ∃ (y : Int) (i : Nat), v9 = .int .i64 y ∧ Aside0 (y = (i : Int)) ∧ Aside0 ((i : Int) ≤ n) ∧ Aside0 (Kd.R k28 28 wr w.heap.size (fun k => k ≠ gb0) v8 (T ++ List.replicate i (insC L M x))) ∧ Aside0 (wr.heap[gb0]? = some (.cells #[.int .i64 (insC L M x).f0, .int .i64 (insC L M x).f1, .int .i64 (insC L M x).f2] 28 (0, 0))) ∧ Aside0 (Below w.heap.size w wr)) (fun _ v9 _ => n.toNat - (intOf v9).toNat)
            case atStart => exact ⟨0, 0, rfl, ⟨rfl⟩, ⟨by have := HV0.out; omega⟩, ⟨by rw [List.replicate_zero, List.append_nil]; exact HV5.out⟩, HX0, HB0⟩
            case round =>
              clear HX0 HB0 c0 HV5
              obtain ⟨y, i, rfl, hy, hi, HV, HX0, HB⟩ := hrel
              by_cases hlt : (i : Int) < n
              · have d6 : decide (y < n) = true := decide_eq_true (by rw [hy.out]; exact hlt)
                have HLT2 := Aside0.mk hlt
                have HLX0 := Aside0.mk (show ((T ++ List.replicate i (insC L M x)).length + 1) * 24 ≤ 140737488355328 by have := HV0.out; have := HTD.out; simp; omega)
                obtain ⟨X, hX⟩ : ∃ X, X = T ++ List.replicate i (insC L M x) := ⟨_, rfl⟩
                rw [← hX] at HV HLX0
                have HX := Aside0.mk hX
                have HLX := HLX0
                have hz0 := (blk_cell HX0.out 0).trans rfl
                have hz1 := (blk_cell HX0.out 1).trans rfl
                have hz2 := (blk_cell HX0.out 2).trans rfl
                have hyw : wrap64 (y + 1) = y + 1 := by have := HV0.out; have := hy.out; exact w64 _ (by omega)
                clear hlt hX
                go_wp2_with (first | ((with_reducible refine gate_builtin (b := .append) (xs := #[.tmp 65, .tmp 67]) rfl ?_); go_loud (at_builtin; refine Kd.R_append k28 (w0 := w) w.heap.size rfl (.tmp 65) (.tmp 67) 57 28 (.agg #[(.int .i64 0), (.int .i64 0), (.int .i64 0)]) 24 rfl Try.underlying57 info28 rfl (by decide) (by decide) u8 X (insC L M x) [.int .i64 (insC L M x).f0, .int .i64 (insC L M x).f1, .int .i64 (insC L M x).f2] (fun k => k ≠ gb0) (fun _ => False) rfl rfl (k28_mkM _ _ _ _) (fun _ h => h.elim) (fun k hk => Nat.ne_of_gt (Nat.lt_of_lt_of_le (blk_lt HX0.out) hk)) HV.out HB.out HB.out.size HLX.out ?_; intro v5 w5 hv5 hb5 hg5 hat5; have HV5 := Aside0.mk hv5; have HX5 := Aside0.mk (blk_grown HX0.out hg5 (fun q => HV.out.1 gb0 q.symm rfl)); have HB5 := Aside0.mk hb5; clear hv5 hb5 hg5 hat5)))
                go_roundw
                case rel => exact ⟨_, i + 1, rfl, ⟨by rw [hyw, hy.out]; omega⟩, ⟨by have := HLT2.out; omega⟩, ⟨by have h5 := HV5.out; rw [HX.out, List.append_assoc, ← List.replicate_succ'] at h5; exact h5⟩, HX5, HB5⟩
                case measure => have h1 := HLT2.out; have h2 := hy.out; simp [intOf, hyw]; omega
              · have d6 : decide (y < n) = false := decide_eq_false (by rw [hy.out]; exact hlt)
                have hin : i = n.toNat := by have := hi.out; omega
                have HLD0 := Aside0.mk (show ((T ++ List.replicate i (insC L M x)).length + D.length) * 24 ≤ 140737488355328 by have := HV0.out; have := HTD.out; have := hi.out; simp; omega)
                obtain ⟨X, hX⟩ : ∃ X, X = T ++ List.replicate i (insC L M x) := ⟨_, rfl⟩
                rw [← hX] at HV HLD0
                have HLD := HLD0
                obtain ⟨Y, hY⟩ : ∃ Y, Y = X ++ D := ⟨_, rfl⟩
                have HY := Aside0.mk hY
                have HLY := Aside0.mk (show insL L M x n = Y by rw [HL.out, hY, hX, hin])
                have c0 : World.cell? _ ⟨g, 0, none⟩ = some (.slice A L.length k) := pw_cell_below HB.out c0_.out
                clear hlt hX hY hin
                go_wp2_with (first | ((with_reducible refine gate_builtin (b := .append) (xs := #[.tmp 70, .tmp 76]) rfl ?_); go_loud (at_builtin; refine Kd.R_append_rows k28 (w0 := w) w.heap.size rfl (.tmp 70) (.tmp 76) 57 28 (.agg #[(.int .i64 0), (.int .i64 0), (.int .i64 0)]) 24 rfl Try.underlying57 info28 rfl (by decide) (by decide) u8 (X) (D) A2 (D).length k2 (fun k => k ≠ gb0) (fun _ => False) rfl rfl HV.out (Kd.C_below HCD.out HB.out) (fun _ _ h => h) (fun _ h => h.elim) (fun k hk => Nat.ne_of_gt (Nat.lt_of_lt_of_le (blk_lt HX0.out) hk)) HB.out HB.out.size HLD.out ?_; intro v6 w6 hv6 hb6 hg6 hat6; rw [← HY.out] at hv6; obtain ⟨A6, k6, rfl⟩ := Kd.R_slice hv6; have HV6 := Aside0.mk hv6; have HB6 := Aside0.mk hb6; have HS6 := Aside0.mk (HS.out.below hb6); obtain ⟨AS6, kS6, _, _, _, hgS6⟩ := HS6.out.cells; have cs6 : World.cell? w6 ⟨g, 0, none⟩ = some (.slice AS6 L.length kS6) := (blk_cell hgS6 0).trans rfl; have fs6 := blk_frozen hgS6 0; clear hgS6; clear hv6 hb6 hg6 hat6)))
                go_ret
                exact ⟨by show Ending.returned (.int .i64 0) = _; rw [HE.out], by rw [HLY.out]; exact HS6.out.store (Kd.R_mono (Kd.R_lower HV6.out (Nat.zero_le _)) (fun _ _ => trivial)), gb_set (gb_below HB6.out) 0 _⟩
end Go.Proofs.Ytmggbbeecmjalaa.P
