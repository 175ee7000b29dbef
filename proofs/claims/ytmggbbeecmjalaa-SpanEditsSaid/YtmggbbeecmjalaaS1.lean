/- The walk of Len, run and part over looks; no further condition. -/
import Derived.Test.YtmggbbeecmjalaaP1
namespace Go.Proofs.Ytmggbbeecmjalaa.P
open Go.RowKit Go.Proofs.YtmggbbeecmjalaaW.PrintWords Go.Proofs.YtmggbbeecmjalaaW.PrintLast Go.Proofs.YtmggbbeecmjalaaW.PrintMore
attribute [local go_sem] max2_int min2_int max_two min_two
set_option linter.unusedVariables false
set_option linter.unusedSimpArgs false

theorem int_at {w : World} {A : Option Addr} {n : Nat} {xs : List Int} (h : Kd.C (Kd.int .i64) w A n xs) (i : Int) (h0 : 0 ≤ i) (h1 : i < n) : ∃ ad, A = some ad ∧ w.cell? (ad.add i.toNat) = some (.int .i64 (rd xs i)) := by
  obtain ⟨ad, c, e, _, hK, hc⟩ := Kd.C_get h 0 i h0 h1
  have hK' : c = [.int .i64 (rd xs i)] := hK
  subst hK'
  have := hc 0 _ rfl
  exact ⟨ad, e, by simpa [Kd.int, Kd.scalar] using this⟩

theorem sums_c {w : World} {L : List S28} {A : Option Addr} {k : Nat} (hl : L.length ≤ 100000) (hC : Kd.C k60 w A (rl L).length (rl L)) (hk : (rl L).length ≤ k) :
    Calls Try.prog 41 #[.slice A (rl L).length k] w fun e w' => ∃ v : Value, e = .returned v ∧ Kd.R (Kd.int .i64) 3 w' w.heap.size (fun _ => True) v (ends (rl L)) ∧ Below w.heap.size w w' :=
  span_sums.calls _ A k (rl L) _ w hC hk (sums_f (rl L) (rl_pos L) (by rw [bytes_rl]; exact hl))

set_option maxHeartbeats 8000000 in
set_option maxRecDepth 100000 in
theorem len_calls {w : World} {g : Nat} {L : List S28} {c : S28} (h : St45 w g (rl L) c) (hl : L.length ≤ 100000) :
    Calls Try.prog 24 #[.pointer (some ⟨g, 0, none⟩)] w fun e w' => e = .returned (.int .i64 (L.length : Int)) ∧ Below w.heap.size w w' := by
  obtain ⟨A, k, hk, hC, hR, hg⟩ := h.cells
  have c1 : w.cell? ⟨g, 1, none⟩ = some (.slice A (rl L).length k) := (blk_cell hg 1).trans rfl
  have HC := Aside0.mk hC
  have HH := Aside0.mk h
  clear hg hC hR h
  have HK := Aside0.mk hk
  clear hk
  by_cases hL : L = []
  · subst hL
    have hz : (rl []).length = 0 := rfl
    rw [hz] at c1
    as_aux_lemma =>
      go_enter Try.func24, Try.ntmps24
      go_wp2_with (first | (go_at_call 31; refine (none_calls HH.out).mono ?_; rintro e w2 ⟨rfl, rfl⟩))
      go_ret
      exact ⟨rfl, Below.refl _ _⟩
  · have hpos : 0 < (rl L).length := by
      rcases snocs L with e | ⟨o, t, rfl⟩
      · exact absurd e hL
      · obtain ⟨o', t', hr, _⟩ := rl_last o t
        rw [hr]; simp
    have hle := rl_length L
    have hend : rd (ends (rl L)) (((rl L).length : Int) - 1) = (L.length : Int) := by
      have := ends_at (rl L) ((rl L).length - 1) (by omega)
      rw [show (((rl L).length : Int) - 1) = (((rl L).length - 1 : Nat) : Int) by omega, this, show (rl L).length - 1 + 1 = (rl L).length by omega, List.take_length, bytes_rl]
    have hne : decide (((rl L).length : Int) = 0) = false := decide_eq_false (by omega)
    have HE := Aside0.mk hend
    clear hend
    have hw : wrap64 (((rl L).length : Int) - 1) = ((rl L).length : Int) - 1 := w64 _ (by omega)
    have p0 : (0 : Int) ≤ ((rl L).length : Int) - 1 := by omega
    have p1 : ((rl L).length : Int) - 1 < ((rl L).length : Int) := by omega
    as_aux_lemma =>
      go_enter Try.func24, Try.ntmps24
      go_wp2_with (first | (go_at_call 31; refine (none_calls HH.out).mono ?_; rintro e w2 ⟨rfl, rfl⟩) | (go_at_call 41; refine (sums_c hl HC.out HK.out).mono ?_; rintro e w3 ⟨v, rfl, hv, hb⟩; obtain ⟨A2, k2, rfl, hk2, hC2⟩ := Kd.R_reads hv; rw [ends_length] at hk2 hC2 ⊢; obtain ⟨ad, rfl, hcell⟩ := int_at hC2 (((rl L).length : Int) - 1) p0 p1; rw [HE.out, show (((rl L).length : Int) - 1).toNat = (rl L).length - 1 by omega] at hcell; clear hv hC2))
      go_ret
      exact ⟨rfl, hb⟩
end Go.Proofs.Ytmggbbeecmjalaa.P
