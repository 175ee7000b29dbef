/- What part answers; Len, holds, At and Slice over looks; no further condition. -/
import Derived.Test.YtmggbbeecmjalaaS4
namespace Go.Proofs.Ytmggbbeecmjalaa.P
open Go.RowKit Go.Proofs.YtmggbbeecmjalaaW.PrintWords Go.Proofs.YtmggbbeecmjalaaW.PrintLast Go.Proofs.YtmggbbeecmjalaaW.PrintMore
attribute [local go_sem] max2_int min2_int max_two min_two
set_option linter.unusedVariables false
set_option linter.unusedSimpArgs false

theorem join_k (A : List S28) (M : List S60) (hM : ∀ s ∈ M, 0 ≤ s.f0) (k : Nat) (hk : M.length < k) (hA : A.length + (bytes M).length ≤ 100000) (hl : M.length ≤ 100000) :
    span_join.f k (rl A) M = some (rl (A ++ bytes M)) := by
  have := join_l0 M hM hl M.length 0 k A (by omega) (by omega) (by simpa using hA)
  simpa [span_join.f] using this

theorem part_l0 (R : List S60) (hR : ∀ s ∈ R, 1 ≤ s.f0) (hl : (bytes R).length ≤ 100000) (a b : Nat) (hb : b ≤ 100000) (ha : a ≤ 100000) (z : Bool) (c0 c1 c2 : Int) : ∀ (d i k : Nat), i + d = R.length → d + 2 < k →
    span_Looks_part.l0 k (a : Int) (b : Int) (rl (clip (bytes (R.take i)) a b)) ((bytes (R.take i)).length : Int) R (R.length : Int) (i : Int) z R c0 c1 c2 = some (rl (clip (bytes R) a b), z, c0, c1, c2) := by
  have hll := bytes_length_le R hR
  intro d
  induction d with
  | zero =>
    intro i k hi hk
    obtain ⟨k, rfl⟩ : ∃ q, k = q + 1 := ⟨k - 1, by omega⟩
    have : i = R.length := by omega
    subst this
    rw [span_Looks_part.l0, if_neg (by omega), List.take_length]
  | succ d ih =>
    intro i k hi hk
    obtain ⟨k, rfl⟩ : ∃ q, k = q + 1 := ⟨k - 1, by omega⟩
    have hlt : i < R.length := by omega
    have hw : wrap64 ((i : Int) + 1) = ((i + 1 : Nat) : Int) := by rw [w64 _ (by omega)]; omega
    have hs := hR R[i] (List.getElem_mem hlt)
    have hbl : (bytes R).length = (bytes (R.take i)).length + R[i].f0.toNat + (bytes (R.drop (i + 1))).length := by
      conv => lhs; rw [← List.take_append_drop i R, bytes_append, drop_bytes R i hlt, bytes_one]
      simp; omega
    have step := ih (i + 1) k (by omega) (by omega)
    rw [take_bytes R i hlt, bytes_one, clip_rep] at step
    rw [span_Looks_part.l0, if_pos (by omega), if_pos (by omega), if_pos (by omega), rd_at R i hlt, hw]
    generalize R[i] = s at *
    generalize bytes (R.take i) = X at *
    have hx : wrap64 ((X.length : Int) + s.f0) = ((X ++ List.replicate s.f0.toNat s.f1).length : Int) := by
      rw [w64 _ (by omega)]; simp; omega
    have hmn : mn (b : Int) ((X ++ List.replicate s.f0.toNat s.f1).length : Int) = ((min b (X.length + s.f0.toNat) : Nat) : Int) := by
      unfold mn; simp only [List.length_append, List.length_replicate]; split <;> omega
    have hmx : mx (a : Int) (X.length : Int) = ((max a X.length : Nat) : Int) := by
      unfold mx; split <;> omega
    rw [hx, hmn, hmx, w64 _ (by omega)]
    have hcl : (clip X a b).length ≤ X.length := by simp [clip]; omega
    by_cases hn : ((min b (X.length + s.f0.toNat) : Nat) : Int) - ((max a X.length : Nat) : Int) > 0
    · have hn2 : (((min b (X.length + s.f0.toNat) : Nat) : Int) - ((max a X.length : Nat) : Int)) = ((min b (X.length + s.f0.toNat) - max a X.length : Nat) : Int) := by omega
      rw [if_pos hn, join_k _ _ (by intro q hq; simp at hq; subst hq; simp; omega) k (by simp; omega) (by simp [bytes_one]; omega) (by simp), Option.bind_some, bytes_one]
      simp only [hn2, Int.toNat_natCast]
      exact step
    · have hn2 : min b (X.length + s.f0.toNat) - max a X.length = 0 := by omega
      rw [if_neg hn]
      rw [hn2, List.replicate_zero, List.append_nil] at step
      exact step

theorem part_c {w : World} {g : Nat} {L : List S28} {c : S28} (h : St45 w g (rl L) c) (hl : L.length ≤ 100000) (a b : Nat) (ha : a ≤ 100000) (hb : b ≤ 100000) (x y : Int) (hx : x = (a : Int)) (hy : y = (b : Int)) :
    Calls Try.prog 39 #[.pointer (some ⟨g, 0, none⟩), .int .i64 x, .int .i64 y] w fun e w' => ∃ v : Value, e = .returned v ∧ Kd.R k60 60 w' w.heap.size (fun _ => True) v (rl (clip L a b)) ∧ Below w.heap.size w w' := by
  subst hx
  subst hy
  have hf := part_l0 (rl L) (rl_pos L) (by rw [bytes_rl]; exact hl) a b hb ha true c.f0 c.f1 c.f2 (rl L).length 0 ((rl L).length + 3) (by omega) (by omega)
  rw [bytes_rl] at hf
  obtain ⟨A, k, hk, hC, hR, hg⟩ := h.cells
  refine (span_Looks_part.calls ((rl L).length + 3) g true (rl L) c.f0 c.f1 c.f2 a b _ _ _ _ _ w w ⟨A, k, hg, trivial, hC⟩ (Below.refl _ _) (by simpa [span_Looks_part.f, clip, bytes_nil, rl_nil] using hf)).mono ?_
  rintro e w' ⟨v, rfl, hv, _, hb, _⟩
  exact ⟨v, rfl, hv, hb⟩
end Go.Proofs.Ytmggbbeecmjalaa.P
