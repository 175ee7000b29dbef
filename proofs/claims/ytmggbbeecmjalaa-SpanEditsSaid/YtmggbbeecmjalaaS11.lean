/- The walk of Delete over looks; no further condition. -/
import Derived.Test.YtmggbbeecmjalaaS9
import Derived.Test.YtmggbbeecmjalaaX0
import Derived.BigRegion
namespace Go.Proofs.Ytmggbbeecmjalaa.P
open Go.RowKit Go.Proofs.YtmggbbeecmjalaaW.PrintWords Go.Proofs.YtmggbbeecmjalaaW.PrintLast Go.Proofs.YtmggbbeecmjalaaW.PrintMore
attribute [local go_sem] max2_int min2_int max_two min_two
set_option linter.unusedVariables false
set_option linter.unusedSimpArgs false

theorem i64_in' (n : Int) (h : -9223372036854775808 ≤ n ∧ n ≤ 9223372036854775807) : IntKind.i64.wrap n = n := by
  simp only [IntKind.wrap, IntKind.bits, IntKind.signed]
  simp
  split <;> omega
theorem gb_drew {w W : World} {r : Option Nat} (h : w.grownBy W r) : w.grownBy W.drew r := ⟨h.os, h.tape, h.output, h.size, h.block⟩
theorem last_run (L : List S28) (h : L.length ≠ 0) : 0 < (rl L).length ∧ (rd_T60 (rl L) (((rl L).length : Int) - 1)).f1 = rd_T28 L ((L.length : Int) - 1) := by
  rcases snocs L with e | ⟨o, t, rfl⟩
  · subst e; simp at h
  · obtain ⟨o', t', hr, ht⟩ := rl_last o t
    rw [hr]
    refine ⟨by simp, ?_⟩
    rw [show (((o' ++ [t']).length : Int) - 1) = (o'.length : Int) by simp, show (((o ++ [t]).length : Int) - 1) = (o.length : Int) by simp, rd_at _ _ (by simp), rd28_at _ _ (by simp)]
    simpa using ht
theorem St45.put3 {W : World} {g : Nat} {R : List S60} {c : S28} (h : St45 W g R c) (d : S28) :
    St45 (((W.setCell ⟨g, 2, none⟩ (.int .i64 d.f0)).setCell ⟨g, 3, none⟩ (.int .i64 d.f1)).setCell ⟨g, 4, none⟩ (.int .i64 d.f2)) g R d := by
  obtain ⟨v, h1, h2⟩ := h
  have a1 := blk_set h1 2 (.int .i64 d.f0)
  have a2 := blk_set a1 3 (.int .i64 d.f1)
  have a3 := blk_set a2 4 (.int .i64 d.f2)
  exact ⟨v, a3, Kd.R_set (Kd.R_set (Kd.R_set h2 h1 nt60_45 2 _) a1 nt60_45 3 _) a2 nt60_45 4 _⟩

set_option maxHeartbeats 8000000 in
set_option maxRecDepth 100000 in
theorem delete_calls {w : World} {g : Nat} {L : List S28} {K : S28} (h : St45 w g (rl L) K) (hl : L.length ≤ 50000) (x n : Int) :
    Calls Try.prog 22 #[.pointer (some ⟨g, 0, none⟩), .int .i64 x, .int .i64 n] w fun e w' => e = .returned (.int .i64 (delE L x n)) ∧ St45 w' g (rl (delL L x n)) (delK L K x n) ∧ w.grownBy w' (some g) := by
  have HS0 := Aside0.mk h
  have HB0 := Aside0.mk (Below.refl w.heap.size w)
  clear h
  have hl2 : L.length ≤ 50000 := hl
  have hl : L.length ≤ 100000 := by omega
  by_cases hh : hold x n L.length = true
  · have HH := Aside0.mk hh
    have HV := Aside0.mk (of_decide_eq_true hh)
    have hw : wrap64 (x + n) = x + n := by have := HV.out; exact w64 _ (by omega)
    clear hh
    go_enter Try.func22, Try.ntmps22
    go_upto_region 5 with (first | (go_at_call 31; go_loud (refine (none_calls (HS0.out.below HB0.out)).mono ?_; rintro e w1 ⟨rfl, q_⟩; replace q_ := q_.symm; subst q_)) | (go_at_call 40; go_loud (refine (holds_calls (HS0.out.below HB0.out) hl x n).mono ?_; rintro e w1 ⟨rfl, hb1⟩; have HB0 := Aside0.mk (HB0.out.trans (hb1.mono HB0.out.size)); clear hb1; rw [HH.out])))
    go_cut [23] (fun v23 wx => v23 = .bool (decide (0 < n ∧ n = (L.length : Int))) ∧ Aside0 (Below w.heap.size w wx))
    case first =>
      by_cases h1 : 0 < n
      · have d1 : decide (0 < n) = true := decide_eq_true h1
        by_cases h2 : n = (L.length : Int)
        · have d2 : (n == (L.length : Int)) = true := beq_iff_eq.mpr h2
          have HD := Aside0.mk (show decide (0 < n ∧ n = (L.length : Int)) = true from decide_eq_true ⟨h1, h2⟩)
          clear h1 h2
          go_wp2_with (first | (go_at_call 24; go_loud (refine (len_calls (HS0.out.below HB0.out) hl).mono ?_; rintro e w1 ⟨rfl, hb1⟩; have HB0 := Aside0.mk (HB0.out.trans (hb1.mono HB0.out.size)); clear hb1)))
          go_meet
          exact ⟨congrArg Value.bool HD.out.symm, HB0⟩
        · have d2 : (n == (L.length : Int)) = false := beq_eq_false_iff_ne.mpr h2
          have HD := Aside0.mk (show decide (0 < n ∧ n = (L.length : Int)) = false from decide_eq_false (fun q => h2 q.2))
          clear h1 h2
          go_wp2_with (first | (go_at_call 24; go_loud (refine (len_calls (HS0.out.below HB0.out) hl).mono ?_; rintro e w1 ⟨rfl, hb1⟩; have HB0 := Aside0.mk (HB0.out.trans (hb1.mono HB0.out.size)); clear hb1)))
          go_meet
          exact ⟨congrArg Value.bool HD.out.symm, HB0⟩
      · have d1 : decide (0 < n) = false := decide_eq_false h1
        have HD := Aside0.mk (show decide (0 < n ∧ n = (L.length : Int)) = false from decide_eq_false (fun q => h1 q.1))
        clear h1
        go_wp2
        go_meet
        exact ⟨congrArg Value.bool HD.out.symm, HB0⟩
    case rest =>
      obtain ⟨rfl, HB0⟩ := hcut
      go_upto_if 23 with (fail)
      go_cut [] (fun wx => Aside0 (St45 wx g (rl L) (delK L K x n)) ∧ Aside0 (w.grownBy wx (some g)))
      case first =>
        by_cases h1 : 0 < n ∧ n = (L.length : Int)
        · have d5 : decide (0 < n ∧ n = (L.length : Int)) = true := decide_eq_true h1
          have HK := Aside0.mk (show delK L K x n = rd_T28 L ((L.length : Int) - 1) by unfold delK; rw [if_pos ⟨HH.out, h1⟩])
          obtain ⟨hp, hlast⟩ := last_run L (by omega)
          have HSx := Aside0.mk (HS0.out.below HB0.out)
          obtain ⟨A, k, hk, hC, hR, hg⟩ := HSx.out.cells
          obtain ⟨ad, e0, q0, q1, q2, q3⟩ := at_T60 hC (((rl L).length : Int) - 1) (by omega) (by omega)
          cases e0
          rw [show (((rl L).length : Int) - 1).toNat = (rl L).length - 1 by omega] at q1 q2 q3
          rw [hlast, ← HK.out] at q1 q2 q3
          have hle := rl_length L
          have hw3 : IntKind.i64.wrap (((rl L).length : Int) - 1) = ((rl L).length : Int) - 1 := i64_in' _ (by omega)
          have p0 : (0 : Int) ≤ ((rl L).length : Int) - 1 := by omega
          have p1 : ((rl L).length : Int) - 1 < ((rl L).length : Int) := by omega
          have c1 := (blk_cell hg 1).trans rfl
          have c2 := (blk_cell hg 2).trans rfl
          have c3 := (blk_cell hg 3).trans rfl
          have c4 := (blk_cell hg 4).trans rfl
          have f2 := blk_frozen hg 2
          have f3 := blk_frozen hg 3
          have f4 := blk_frozen hg 4
          clear hk hC hR hg q0 hlast hle h1 hp
          rw [d5]
          clear d5
          go_wp2
          go_region

          all_goals (go_wp2; go_meet; exact ⟨⟨by exact HSx.out.put3 (delK L K x n)⟩, ⟨by first | exact gb_set (gb_set (gb_set (gb_below HB0.out) 2 _) 3 _) 4 _ | exact gb_drew (gb_set (gb_set (gb_set (gb_below HB0.out) 2 _) 3 _) 4 _)⟩⟩)
        · have d5 : decide (0 < n ∧ n = (L.length : Int)) = false := decide_eq_false h1
          have hK : delK L K x n = K := by unfold delK; rw [if_neg (fun q => h1 q.2)]
          rw [d5]
          clear h1 d5
          go_wp2
          go_meet
          exact ⟨⟨by rw [hK]; exact HS0.out.below HB0.out⟩, ⟨gb_below HB0.out⟩⟩
      case rest =>
        obtain ⟨HSc, HGc⟩ := hcut
        clear HS0 HB0
        have HS0 := HSc
        have HB0 := Aside0.mk (Below.refl wc.heap.size wc)
        go_wp2_with (first | (go_at_call 39; go_loud (refine (part_c (HS0.out.below HB0.out) hl 0 x.toNat (by omega) (by have := HV.out; omega) 0 x rfl (by have := HV.out; omega)).mono ?_; rintro e w2 ⟨v2, rfl, hv2, hb2⟩; have HB2 := Aside0.mk (HB0.out.trans (hb2.mono HB0.out.size)); have HV2 := Aside0.mk (Kd.R_lower hv2 HB0.out.size); clear hv2 hb2)))
        refine (len_calls (HS0.out.below HB2.out) hl).mono ?_; rintro e w4 ⟨rfl, hb4⟩; have HB4 := Aside0.mk (HB2.out.trans (hb4.mono HB2.out.size)); have HV4 := Aside0.mk (Kd.R_below HV2.out hb4); clear hb4
        go_wp2_with (first | (go_at_call 39; go_loud (refine (part_c (HS0.out.below HB4.out) hl (x + n).toNat L.length (by have := HV.out; omega) (by omega) _ _ (by have := HV.out; omega) rfl).mono ?_; rintro e w5 ⟨v5, rfl, hv5, hb5⟩; have HB5 := Aside0.mk (HB4.out.trans (hb5.mono HB4.out.size)); have HLT := Aside0.mk (R60_lt HV4.out); have HV4 := Aside0.mk (Kd.R_below HV4.out hb5); obtain ⟨A5, k5, rfl⟩ := Kd.R_slice hv5; have HV5 := Aside0.mk hv5; clear hv5 hb5)) | (go_at_call 30; go_loud (refine (join_part (w := wc) (clip L 0 x.toNat) (clip L (x + n).toNat L.length) _ HB5.out HV4.out HLT.out HV5.out (by have := HV.out; have := clip_len L 0 x.toNat (by omega); have := clip_len L (x + n).toNat L.length (by omega); omega)).mono ?_; rintro e w6 ⟨v6, rfl, hv6, hb6, _⟩; obtain ⟨A6, k6, rfl⟩ := Kd.R_slice hv6; have HV6 := Aside0.mk hv6; have HB6 := Aside0.mk hb6; have HS6 := Aside0.mk (HS0.out.below hb6); obtain ⟨AS6, kS6, _, _, _, hgS6⟩ := HS6.out.cells; have cs6 : World.cell? w6 ⟨g, 1, none⟩ = some (.slice AS6 (rl L).length kS6) := (blk_cell hgS6 1).trans rfl; have fs6 := blk_frozen hgS6 1; clear hv6 hb6 hgS6)))
        go_ret
        have hE : delE L x n = 0 := by unfold delE; rw [if_pos HH.out]
        have hL : delL L x n = clip L 0 x.toNat ++ clip L (x + n).toNat L.length := by unfold delL; rw [if_pos HH.out, clip_zero, clip_end]
        exact ⟨by show Ending.returned (.int .i64 0) = _; rw [hE], by rw [hL]; exact HS6.out.store (Kd.R_lower HV6.out (Nat.zero_le _)), gb_trans HGc.out (gb_set (gb_below HB6.out) 1 _)⟩
  · have HH := Aside0.mk (Bool.eq_false_iff.mpr hh)
    clear hh
    as_aux_lemma =>
      go_enter Try.func22, Try.ntmps22
      go_wp2_with (first | (go_at_call 31; go_loud (refine (none_calls (HS0.out.below HB0.out)).mono ?_; rintro e w1 ⟨rfl, q_⟩; replace q_ := q_.symm; subst q_)) | (go_at_call 40; go_loud (refine (holds_calls (HS0.out.below HB0.out) hl x n).mono ?_; rintro e w1 ⟨rfl, hb1⟩; have HB0 := Aside0.mk (HB0.out.trans (hb1.mono HB0.out.size)); clear hb1; rw [HH.out])))
      go_ret
      exact ⟨by show Ending.returned (.int .i64 5) = _; unfold delE; rw [if_neg (by rw [HH.out]; decide)], by
        have h1 : delL L x n = L := by unfold delL; rw [if_neg (by rw [HH.out]; decide)]
        have h2 : delK L K x n = K := by unfold delK; rw [if_neg (fun q => by rw [HH.out] at q; exact Bool.noConfusion q.1)]
        rw [h1, h2]; exact HS0.out.below HB0.out, gb_below HB0.out⟩
end Go.Proofs.Ytmggbbeecmjalaa.P
