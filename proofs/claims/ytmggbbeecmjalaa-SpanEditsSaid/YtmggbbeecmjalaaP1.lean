/- What join, sums, Runs and the comparisons answer, in plain Lean; no further condition. -/
import Derived.Test.YtmggbbeecmjalaaP0
namespace Go.Proofs.Ytmggbbeecmjalaa.P
open Go.RowKit Go.Proofs.YtmggbbeecmjalaaW.PrintWords Go.Proofs.YtmggbbeecmjalaaW.PrintLast Go.Proofs.YtmggbbeecmjalaaW.PrintMore
set_option linter.unusedVariables false
set_option linter.unusedSimpArgs false

theorem w64 (n : Int) (h : -9223372036854775808 ≤ n ∧ n ≤ 9223372036854775807) : wrap64 n = n := by unfold wrap64; omega

theorem join_l0 (M : List S60) (hM : ∀ s ∈ M, 0 ≤ s.f0) (hl : M.length ≤ 100000) : ∀ (d i k : Nat) (A : List S28), i + d = M.length → d < k → A.length + (bytes (M.drop i)).length ≤ 100000 →
    span_join.l0 k (rl A) M (M.length : Int) (i : Int) = some (rl (A ++ bytes (M.drop i))) := by
  intro d
  induction d with
  | zero =>
    intro i k A hi hk hA
    obtain ⟨k, rfl⟩ : ∃ q, k = q + 1 := ⟨k - 1, by omega⟩
    rw [span_join.l0, if_neg (by omega), List.drop_eq_nil_of_le (by omega), bytes_nil, List.append_nil]
  | succ d ih =>
    intro i k A hi hk hA
    obtain ⟨k, rfl⟩ : ∃ q, k = q + 1 := ⟨k - 1, by omega⟩
    have hlt : i < M.length := by omega
    have hw : wrap64 ((i : Int) + 1) = ((i + 1 : Nat) : Int) := by rw [w64 _ (by omega)]; omega
    rw [drop_bytes M i hlt] at hA ⊢
    rw [← List.append_assoc]
    have hA' : A.length + (bytes [M[i]]).length + (bytes (M.drop (i + 1))).length ≤ 100000 := by simp only [List.length_append] at hA; omega
    have step := ih (i + 1) k (A ++ bytes [M[i]]) (by omega) (by omega) (by simp only [List.length_append]; omega)
    have hs := hM M[i] (List.getElem_mem hlt)
    have hlen : (bytes [M[i]]).length = M[i].f0.toNat := by simp [bytes_one]
    have hb := rl_length A
    rw [rl_add] at step
    rw [span_join.l0, if_pos (by omega), if_pos (by omega), if_pos (by omega), rd_at M i hlt, hw]
    generalize M[i] = s at *
    by_cases h0 : s.f0 = 0
    · rw [if_pos h0]
      rw [h0] at step
      exact (by simpa [addN_zero] using step)
    · rw [if_neg h0]
      have hn : s.f0.toNat ≠ 0 := by omega
      have hs2 : ((s.f0.toNat : Nat) : Int) = s.f0 := by omega
      rcases snocs (rl A) with hr | ⟨o, t, hr⟩
      · rw [hr] at step hb ⊢
        rw [addN_nil, if_neg hn, hs2] at step
        rw [if_neg (by rw [w64 _ (by simp)]; simp)]
        rw [if_pos (by simp)]
        exact step
      · have ht : t.f0 ≤ A.length := rl_mem_le A t (by rw [hr]; simp)
        have ht1 : 1 ≤ t.f0 := rl_pos A t (by rw [hr]; simp)
        rw [hr] at step hb ⊢
        have hwl : wrap64 (((o ++ [t]).length : Int) - 1) = (o.length : Int) := by rw [w64 _ (by simp at *; omega)]; simp
        have hrd : rd_T60 (o ++ [t]) (o.length : Int) = t := by rw [rd_at _ _ (by simp)]; simp
        rw [hwl, hrd, if_pos (by omega), if_pos (by omega), if_pos (by simp; omega)]
        rw [addN_snoc, if_neg hn] at step
        by_cases e : t.f1 = s.f1
        · rw [if_pos ((beq28 _ _).2 e)]
          rw [if_pos e, hs2] at step
          rw [w64 _ (by omega)]
          have : (o ++ [t]).set ((o.length : Int)).toNat ⟨t.f0 + s.f0, ⟨t.f1.f0, t.f1.f1, t.f1.f2⟩⟩ = o ++ [⟨t.f0 + s.f0, s.f1⟩] := by
            rw [Int.toNat_natCast, List.set_append_right _ _ (by omega)]
            simp [e]
          rw [this]
          exact step
        · rw [if_neg (fun q => e ((beq28 _ _).1 q))]
          rw [if_neg e, hs2] at step
          rw [if_pos (by omega)]
          exact step

theorem join_f (A : List S28) (M : List S60) (hM : ∀ s ∈ M, 0 ≤ s.f0) (hl : M.length ≤ 100000) (hA : A.length + (bytes M).length ≤ 100000) :
    span_join.f (M.length + 1) (rl A) M = some (rl (A ++ bytes M)) := by
  have := join_l0 M hM hl M.length 0 (M.length + 1) A (by omega) (by omega) (by simpa using hA)
  simpa [span_join.f] using this

/-- where runs end -/
def ends (R : List S60) : List Int := (List.range R.length).map (fun i => ((bytes (R.take (i + 1))).length : Int))
theorem ends_length (R : List S60) : (ends R).length = R.length := by simp [ends]
theorem ends_at (R : List S60) (i : Nat) (h : i < R.length) : rd (ends R) (i : Int) = ((bytes (R.take (i + 1))).length : Int) := by
  simp [rd, ends, h]
theorem sums_l0 (R : List S60) (hR : ∀ s ∈ R, 1 ≤ s.f0) (hl : (bytes R).length ≤ 100000) : ∀ (d i k : Nat), i + d = R.length → d < k →
    span_sums.l0 k ((List.range i).map (fun j => ((bytes (R.take (j + 1))).length : Int))) ((bytes (R.take i)).length : Int) R (R.length : Int) (i : Int) = some (ends R) := by
  have hll := bytes_length_le R hR
  intro d
  induction d with
  | zero =>
    intro i k hi hk
    obtain ⟨k, rfl⟩ : ∃ q, k = q + 1 := ⟨k - 1, by omega⟩
    have : i = R.length := by omega
    subst this
    rw [span_sums.l0, if_neg (by omega)]
    rfl
  | succ d ih =>
    intro i k hi hk
    obtain ⟨k, rfl⟩ : ∃ q, k = q + 1 := ⟨k - 1, by omega⟩
    have hlt : i < R.length := by omega
    have hw : wrap64 ((i : Int) + 1) = ((i + 1 : Nat) : Int) := by rw [w64 _ (by omega)]; omega
    have hs := hR R[i] (List.getElem_mem hlt)
    have hb : (bytes R).length = (bytes (R.take i)).length + R[i].f0.toNat + (bytes (R.drop (i + 1))).length := by
      conv => lhs; rw [← List.take_append_drop i R, bytes_append, drop_bytes R i hlt, bytes_one]
      simp; omega
    have step := ih (i + 1) k (by omega) (by omega)
    have hv : ((bytes (R.take (i + 1))).length : Int) = wrap64 (((bytes (R.take i)).length : Int) + R[i].f0) := by
      rw [take_bytes R i hlt, bytes_one, w64 _ (by omega)]
      simp
      omega
    rw [List.range_succ, List.map_append, List.map_singleton, hv] at step
    rw [span_sums.l0, if_pos (by omega), if_pos (by omega), if_pos (by omega), rd_at R i hlt, hw, if_pos (by simp; omega)]
    exact step
theorem sums_f (R : List S60) (hR : ∀ s ∈ R, 1 ≤ s.f0) (hl : (bytes R).length ≤ 100000) : span_sums.f (R.length + 1) R = some (ends R) := by
  have := sums_l0 R hR hl R.length 0 (R.length + 1) (by omega) (by omega)
  simpa [span_sums.f, bytes_nil] using this

theorem rl_last (L : List S28) (c : S28) : ∃ o t, rl (L ++ [c]) = o ++ [t] ∧ t.f1 = c := by
  rw [rl_snoc]
  rcases snocs (rl L) with h | ⟨o, t, h⟩
  · rw [h, addN_nil, if_neg (by omega)]
    exact ⟨[], _, rfl, rfl⟩
  · rw [h, addN_snoc, if_neg (by omega)]
    by_cases e : t.f1 = c
    · rw [if_pos e]; exact ⟨o, _, rfl, rfl⟩
    · rw [if_neg e]; exact ⟨o ++ [t], _, rfl, rfl⟩
theorem runs_l0 (L : List S28) (hl : L.length ≤ 100000) : ∀ (d i k : Nat), i + d = L.length → d < k →
    quireref02_Runs.l0 k L (rl (L.take i)) (i : Int) = some (rl L) := by
  intro d
  induction d with
  | zero =>
    intro i k hi hk
    obtain ⟨k, rfl⟩ : ∃ q, k = q + 1 := ⟨k - 1, by omega⟩
    have : i = L.length := by omega
    subst this
    rw [quireref02_Runs.l0, if_neg (by omega), List.take_length]
  | succ d ih =>
    intro i k hi hk
    obtain ⟨k, rfl⟩ : ∃ q, k = q + 1 := ⟨k - 1, by omega⟩
    have hlt : i < L.length := by omega
    have hw : wrap64 ((i : Int) + 1) = ((i + 1 : Nat) : Int) := by rw [w64 _ (by omega)]; omega
    have step := ih (i + 1) k (by omega) (by omega)
    rw [List.take_succ_eq_append_getElem hlt, rl_snoc] at step
    have hb := rl_length (L.take i)
    simp only [List.length_take] at hb
    rw [quireref02_Runs.l0, if_pos (by omega), rd28_at L i hlt, hw]
    by_cases h0 : (i : Int) > 0
    · obtain ⟨j, rfl⟩ : ∃ j, i = j + 1 := ⟨i - 1, by omega⟩
      have hj : j < L.length := by omega
      have hwj : wrap64 (((j + 1 : Nat) : Int) - 1) = (j : Int) := by rw [w64 _ (by omega)]; omega
      obtain ⟨o, t, hr, ht⟩ := rl_last (L.take j) L[j]
      rw [← List.take_succ_eq_append_getElem hj] at hr
      have ht2 : t.f0 ≤ (L.take (j + 1)).length := rl_mem_le _ t (by rw [hr]; simp)
      have ht1 : 1 ≤ t.f0 := rl_pos (L.take (j + 1)) t (by rw [hr]; simp)
      simp only [List.length_take] at ht2
      rw [hr] at step hb ⊢
      have hwl : wrap64 (((o ++ [t]).length : Int) - 1) = (o.length : Int) := by rw [w64 _ (by simp at *; omega)]; simp
      have hrd : rd_T60 (o ++ [t]) (o.length : Int) = t := by rw [rd_at _ _ (by simp)]; simp
      rw [if_pos h0, if_pos (by omega), hwj, if_pos (by omega), if_pos (by omega), rd28_at L j hj, hwl, hrd]
      rw [addN_snoc, if_neg (by omega)] at step
      by_cases e : t.f1 = L[j + 1]
      · rw [if_pos ((beq28 _ _).2 (e.symm.trans ht)), if_pos (by omega), if_pos (by simp; omega), w64 _ (by omega)]
        rw [if_pos e] at step
        have : (o ++ [t]).set ((o.length : Int)).toNat ⟨t.f0 + 1, ⟨t.f1.f0, t.f1.f1, t.f1.f2⟩⟩ = o ++ [⟨t.f0 + 1, L[j + 1]⟩] := by
          rw [Int.toNat_natCast, List.set_append_right _ _ (by omega)]
          simp [← e]
        rw [this]
        exact step
      · rw [if_neg (fun q => e (ht.trans ((beq28 _ _).1 q).symm)), if_pos (by omega)]
        rw [if_neg e] at step
        exact step
    · obtain rfl : i = 0 := by omega
      rw [if_neg h0, if_pos (by omega), if_pos (by simp [rl_nil])]
      simp only [List.take_zero, rl_nil] at step ⊢
      rw [addN_nil, if_neg (by omega)] at step
      exact step
theorem runs_f (L : List S28) (hl : L.length ≤ 100000) : quireref02_Runs.f (L.length + 1) L = some (rl L) := by
  have := runs_l0 L hl L.length 0 (L.length + 1) (by omega) (by omega)
  simpa [quireref02_Runs.f, rl_nil] using this

instance : DecidableEq S60 := fun a b => if h : a.f0 = b.f0 ∧ a.f1 = b.f1 then isTrue (by cases a; cases b; simp_all) else isFalse (fun e => h (by subst e; exact ⟨rfl, rfl⟩))
theorem spans_l0 (A B : List S60) (hl : A.length ≤ 100000) (hAB : A.length = B.length) : ∀ (d i k : Nat), i + d = A.length → d < k →
    quirelaw02_spans.l0 k A B (i : Int) = some (decide (A.drop i = B.drop i)) := by
  intro d
  induction d with
  | zero =>
    intro i k hi hk
    obtain ⟨k, rfl⟩ : ∃ q, k = q + 1 := ⟨k - 1, by omega⟩
    rw [quirelaw02_spans.l0, if_neg (by omega), List.drop_eq_nil_of_le (by omega), List.drop_eq_nil_of_le (by omega)]
    rfl
  | succ d ih =>
    intro i k hi hk
    obtain ⟨k, rfl⟩ : ∃ q, k = q + 1 := ⟨k - 1, by omega⟩
    have hlt : i < A.length := by omega
    have hlt2 : i < B.length := by omega
    have hw : wrap64 ((i : Int) + 1) = ((i + 1 : Nat) : Int) := by rw [w64 _ (by omega)]; omega
    have step := ih (i + 1) k (by omega) (by omega)
    rw [quirelaw02_spans.l0, if_pos (by omega), if_pos (by omega), if_pos (by omega), rd_at A i hlt, rd_at B i hlt2, hw]
    rw [List.drop_eq_getElem_cons hlt, List.drop_eq_getElem_cons hlt2]
    by_cases e : A[i] = B[i]
    · rw [if_neg (by rw [e]; simp), step, e]
      exact congrArg some (decide_eq_decide.2 (by rw [List.cons.injEq]; simp only [true_and]))
    · rw [if_pos]
      · exact congrArg some (decide_eq_false (fun q => e (List.cons.inj q).1)).symm
      · simp only [Bool.or_eq_true, Bool.not_eq_true', beq_eq_false_iff_ne, ne_eq]
        by_cases e0 : A[i].f0 = B[i].f0
        · refine .inr ?_
          by_cases e1 : A[i].f1.f0 = B[i].f1.f0
          · refine .inr ?_
            by_cases e2 : A[i].f1.f1 = B[i].f1.f1
            · refine .inr (fun e3 => e ?_)
              have h1 := S28.ext' e1 e2 e3
              generalize A[i] = a at *
              generalize B[i] = b at *
              cases a; cases b; simp_all
            · exact .inl e2
          · exact .inl e1
        · exact .inl e0
theorem spans_f (A B : List S60) (hl : A.length ≤ 100000) : quirelaw02_spans.f (A.length + 1) A B = some (decide (A = B)) := by
  unfold quirelaw02_spans.f
  by_cases h : A.length = B.length
  · rw [if_pos (by omega)]
    have := spans_l0 A B hl h A.length 0 (A.length + 1) (by omega) (by omega)
    simpa using this
  · rw [if_neg (by omega)]
    have : A ≠ B := fun e => h (by rw [e])
    simp [this]
theorem chars_l0 (A B : List S28) (hl : A.length ≤ 100000) (hAB : A.length = B.length) : ∀ (d i k : Nat), i + d = A.length → d < k →
    quirelaw02_chars.l0 k A B (i : Int) = some (decide (A.drop i = B.drop i)) := by
  intro d
  induction d with
  | zero =>
    intro i k hi hk
    obtain ⟨k, rfl⟩ : ∃ q, k = q + 1 := ⟨k - 1, by omega⟩
    rw [quirelaw02_chars.l0, if_neg (by omega), List.drop_eq_nil_of_le (by omega), List.drop_eq_nil_of_le (by omega)]
    rfl
  | succ d ih =>
    intro i k hi hk
    obtain ⟨k, rfl⟩ : ∃ q, k = q + 1 := ⟨k - 1, by omega⟩
    have hlt : i < A.length := by omega
    have hlt2 : i < B.length := by omega
    have hw : wrap64 ((i : Int) + 1) = ((i + 1 : Nat) : Int) := by rw [w64 _ (by omega)]; omega
    have step := ih (i + 1) k (by omega) (by omega)
    rw [quirelaw02_chars.l0, if_pos (by omega), if_pos (by omega), if_pos (by omega), rd28_at A i hlt, rd28_at B i hlt2, hw]
    rw [List.drop_eq_getElem_cons hlt, List.drop_eq_getElem_cons hlt2]
    by_cases e : A[i] = B[i]
    · rw [if_neg (by rw [e]; simp), step, e]
      exact congrArg some (decide_eq_decide.2 (by rw [List.cons.injEq]; simp only [true_and]))
    · rw [if_pos]
      · exact congrArg some (decide_eq_false (fun q => e (List.cons.inj q).1)).symm
      · simp only [Bool.or_eq_true, Bool.not_eq_true', beq_eq_false_iff_ne, ne_eq]
        by_cases e1 : A[i].f0 = B[i].f0
        · refine .inr ?_
          by_cases e2 : A[i].f1 = B[i].f1
          · exact .inr (fun e3 => e (S28.ext' e1 e2 e3))
          · exact .inl e2
        · exact .inl e1
theorem chars_f (A B : List S28) (hl : A.length ≤ 100000) : quirelaw02_chars.f (A.length + 1) A B = some (decide (A = B)) := by
  unfold quirelaw02_chars.f
  by_cases h : A.length = B.length
  · rw [if_pos (by omega)]
    have := chars_l0 A B hl h A.length 0 (A.length + 1) (by omega) (by omega)
    simpa using this
  · rw [if_neg (by omega)]
    have : A ≠ B := fun e => h (by rw [e])
    simp [this]

/-- which characters may be -/
def okC (c : S28) : Bool := decide (0 ≤ c.f0 ∧ c.f0 ≤ 64 ∧ 0 ≤ c.f1 ∧ c.f1 ≤ 15 ∧ (c.f2 = 0 ∨ c.f2 = 1))
theorem may_f (c : S28) : span_May.f c.f0 c.f1 c.f2 = some (okC c) := by
  unfold span_May.f okC
  repeat' split
  all_goals refine congrArg some ?_
  all_goals first | exact (decide_eq_true (by omega)).symm | exact (decide_eq_false (by omega)).symm | (by_cases h : c.f2 = 1; (exact (beq_iff_eq.2 h).trans (decide_eq_true (by omega)).symm); (exact (beq_eq_false_iff_ne.2 h).trans (decide_eq_false (by omega)).symm))
theorem rmay_f (c : S28) : quireref02_May.f c.f0 c.f1 c.f2 = some (okC c) := by
  unfold quireref02_May.f okC
  repeat' split
  all_goals refine congrArg some ?_
  all_goals first | exact (decide_eq_true (by omega)).symm | exact (decide_eq_false (by omega)).symm | (by_cases h : c.f2 = 1; (exact (beq_iff_eq.2 h).trans (decide_eq_true (by omega)).symm); (exact (beq_eq_false_iff_ne.2 h).trans (decide_eq_false (by omega)).symm))

/-- bytes from one place to another -/
def clip (L : List S28) (a b : Nat) : List S28 := (L.take b).drop a
theorem clip_rep (X : List S28) (n a b : Nat) (c : S28) : clip (X ++ List.replicate n c) a b = clip X a b ++ List.replicate (min b (X.length + n) - max a X.length) c := by
  unfold clip
  rw [List.take_append, List.drop_append, List.take_replicate, List.drop_replicate, List.length_take]
  congr 2
  omega
theorem clip_len (L : List S28) (a b : Nat) (h : b ≤ L.length) : (clip L a b).length = b - a := by
  simp [clip]; omega
theorem clip_all (L : List S28) : clip L 0 L.length = L := by simp [clip]
theorem clip_zero (L : List S28) (b : Nat) : clip L 0 b = L.take b := by simp [clip]
theorem clip_end (L : List S28) (a : Nat) : clip L a L.length = L.drop a := by simp [clip]

/-- the byte that a run has -/
theorem run_byte (R : List S60) (i at_ : Nat) (h : i < R.length) (h0 : (bytes (R.take i)).length ≤ at_) (h1 : at_ < (bytes (R.take (i + 1))).length) :
    (bytes R)[at_]? = some R[i].f1 := by
  rw [take_bytes R i h, bytes_one] at h1
  simp only [List.length_append, List.length_replicate] at h1
  have : bytes R = bytes (R.take i) ++ (List.replicate R[i].f0.toNat R[i].f1 ++ bytes (R.drop (i + 1))) := by
    conv => lhs; rw [← List.take_append_drop i R, bytes_append, drop_bytes R i h, bytes_one]
  rw [this, List.getElem?_append_right h0, List.getElem?_append_left (by simp; omega), List.getElem?_replicate, if_pos (by omega)]
end Go.Proofs.Ytmggbbeecmjalaa.P
