/- Behind any edits: neighbouring runs differ, runs come to the whole, and looks stay such as may be; in plain Lean; no further condition. -/
import Derived.Test.YtmggbbeecmjalaaA3
namespace Go.Proofs.Ytmggbbeecmjalaa.P
open Go.RowKit Go.Proofs.YtmggbbeecmjalaaW.PrintWords Go.Proofs.YtmggbbeecmjalaaW.PrintLast Go.Proofs.YtmggbbeecmjalaaW.PrintMore
set_option linter.unusedVariables false
set_option linter.unusedSimpArgs false

/-- no two neighbours are alike -/
def Apart (R : List S60) : Prop := ∀ i a b, R[i]? = some a → R[i + 1]? = some b → a.f1 ≠ b.f1
theorem apart_last {o : List S60} {t t2 : S60} (h : Apart (o ++ [t])) (e : t2.f1 = t.f1) : Apart (o ++ [t2]) := by
  intro i a b ha hb
  rcases Nat.lt_trichotomy (i + 1) o.length with q | q | q
  · rw [List.getElem?_append_left (by omega)] at ha hb
    exact h i a b (by rw [List.getElem?_append_left (by omega)]; exact ha) (by rw [List.getElem?_append_left (by omega)]; exact hb)
  · rw [List.getElem?_append_left (by omega)] at ha
    rw [q, List.getElem?_append_right (Nat.le_refl _), Nat.sub_self] at hb
    have hb' : t2 = b := by simpa using hb
    subst hb'
    rw [e]
    exact h i a t (by rw [List.getElem?_append_left (by omega)]; exact ha) (by rw [q, List.getElem?_append_right (Nat.le_refl _), Nat.sub_self]; rfl)
  · rw [List.getElem?_eq_none (by simp; omega)] at hb
    cases hb
theorem apart_snoc {o : List S60} {t s : S60} (h : Apart (o ++ [t])) (e : t.f1 ≠ s.f1) : Apart (o ++ [t] ++ [s]) := by
  intro i a b ha hb
  have hl : (o ++ [t]).length = o.length + 1 := by simp
  rcases Nat.lt_trichotomy (i + 1) (o.length + 1) with q | q | q
  · rw [List.getElem?_append_left (by omega)] at ha hb
    exact h i a b ha hb
  · rw [List.getElem?_append_left (by omega)] at ha
    rw [q, ← hl, List.getElem?_append_right (Nat.le_refl _), Nat.sub_self] at hb
    have hi : i = o.length := by omega
    rw [hi, List.getElem?_append_right (Nat.le_refl _), Nat.sub_self] at ha
    have ha' : t = a := by simpa using ha
    have hb' : s = b := by simpa using hb
    rw [← ha', ← hb']
    exact e
  · rw [List.getElem?_eq_none (by simp; omega)] at hb
    cases hb
theorem addN_apart (o : List S60) (c : S28) (h : Apart o) : Apart (addN o 1 c) := by
  rcases snocs o with rfl | ⟨o', t, rfl⟩
  · rw [addN_nil, if_neg (by omega)]
    intro i a b ha hb
    rw [List.getElem?_eq_none (by simp)] at hb
    cases hb
  · rw [addN_snoc, if_neg (by omega)]
    by_cases e : t.f1 = c
    · rw [if_pos e]
      exact apart_last h e.symm
    · rw [if_neg e]
      exact apart_snoc h e
theorem rl_apart (L : List S28) : Apart (rl L) := by
  rw [rl, ← List.reverse_reverse L, List.foldl_reverse]
  induction L.reverse with
  | nil => intro i a b ha hb; simp at ha
  | cons c l ih => rw [List.foldr_cons]; exact addN_apart _ _ ih
theorem rl_differ (L : List S28) (i : Nat) (h0 : 0 < i) (h : i < (rl L).length) : (rd_T60 (rl L) (i : Int)).f1 ≠ (rd_T60 (rl L) ((i : Int) - 1)).f1 := by
  obtain ⟨j, rfl⟩ : ∃ j, i = j + 1 := ⟨i - 1, by omega⟩
  rw [rd_at _ _ h, show (((j + 1 : Nat) : Int) - 1) = (j : Int) by omega, rd_at _ _ (by omega)]
  exact fun q => rl_apart L j _ _ (List.getElem?_eq_getElem (by omega)) (List.getElem?_eq_getElem h) q.symm

def okL (L : List S28) : Prop := ∀ c ∈ L, okC c = true
theorem okL_rep (n : Nat) (c : S28) (h : okC c = true) : okL (List.replicate n c) := fun d hd => by rw [(List.mem_replicate.mp hd).2]; exact h
theorem okL_app {A B : List S28} (h : okL A) (k : okL B) : okL (A ++ B) := fun c hc => (List.mem_append.mp hc).elim (h c) (k c)
theorem okL_take {A : List S28} (h : okL A) (n : Nat) : okL (A.take n) := fun c hc => h c (List.mem_of_mem_take hc)
theorem okL_drop {A : List S28} (h : okL A) (n : Nat) : okL (A.drop n) := fun c hc => h c (List.mem_of_mem_drop hc)
theorem okL_rd {L : List S28} (h : okL L) (x : Int) (h0 : 0 ≤ x) (h1 : x < (L.length : Int)) : okC (rd_T28 L x) = true := by
  obtain ⟨i, rfl⟩ : ∃ i : Nat, x = (i : Int) := ⟨x.toNat, by omega⟩
  rw [rd28_at L i (by omega)]
  exact h _ (List.getElem_mem _)
theorem act_ok (L : List S28) (K : S28) (a : S40) (h : okL L) (hK : okC K = true) : okL (actL L K a) ∧ okC (actK L K a) = true := by
  unfold actL actK
  by_cases k0 : a.f0 = 0
  · rw [if_pos k0, if_neg (by omega)]
    refine ⟨?_, hK⟩
    unfold insL
    by_cases e : insE L a.f1 a.f2 = 0
    · rw [if_pos e]
      refine okL_app (okL_app (okL_take h _) (okL_rep _ _ ?_)) (okL_drop h _)
      unfold insC
      by_cases q : L.length = 0
      · rw [if_pos q]; exact hK
      · rw [if_neg q]
        unfold insE at e
        by_cases c1 : a.f2 < 0 ∨ a.f1 < 0 ∨ (L.length : Int) < a.f1
        · rw [if_pos c1] at e; omega
        · exact okL_rd h _ (by omega) (by omega)
    · rw [if_neg e]; exact h
  · rw [if_neg k0]
    by_cases k1 : a.f0 = 1
    · rw [if_pos k1, if_pos k1]
      constructor
      · unfold delL
        by_cases e : hold a.f1 a.f2 L.length = true
        · rw [if_pos e]; exact okL_app (okL_take h _) (okL_drop h _)
        · rw [if_neg e]; exact h
      · unfold delK
        by_cases e : hold a.f1 a.f2 L.length = true ∧ 0 < a.f2 ∧ a.f2 = (L.length : Int)
        · rw [if_pos e]; exact okL_rd h _ (by omega) (by omega)
        · rw [if_neg e]; exact hK
    · rw [if_neg k1, if_neg k1]
      refine ⟨?_, hK⟩
      by_cases k2 : a.f0 = 2
      · rw [if_pos k2]
        unfold setL
        by_cases e : setE L a.f1 a.f2 a.f3 = 0
        · rw [if_pos e]
          refine okL_app (okL_app (okL_take h _) (okL_rep _ _ ?_)) (okL_drop h _)
          unfold setE at e
          by_cases c1 : hold a.f1 a.f2 L.length = true
          · rw [if_pos c1] at e
            by_cases c2 : okC a.f3 = true
            · exact c2
            · rw [if_neg c2] at e; omega
          · rw [if_neg c1] at e; omega
        · rw [if_neg e]; exact h
      · rw [if_neg k2]; exact h
theorem act_len (L : List S28) (K : S28) (a : S40) (h : a.f2 ≤ 50) : (actL L K a).length ≤ L.length + 50 := by
  unfold actL
  by_cases k0 : a.f0 = 0
  · rw [if_pos k0]
    unfold insL
    by_cases e : insE L a.f1 a.f2 = 0
    · rw [if_pos e]
      unfold insE at e
      by_cases c1 : a.f2 < 0 ∨ a.f1 < 0 ∨ (L.length : Int) < a.f1
      · rw [if_pos c1] at e; omega
      · simp; omega
    · rw [if_neg e]; omega
  · rw [if_neg k0]
    by_cases k1 : a.f0 = 1
    · rw [if_pos k1]
      unfold delL
      by_cases e : hold a.f1 a.f2 L.length = true
      · rw [if_pos e]
        have := of_decide_eq_true e
        simp; omega
      · rw [if_neg e]; omega
    · rw [if_neg k1]
      by_cases k2 : a.f0 = 2
      · rw [if_pos k2]
        unfold setL
        by_cases e : setE L a.f1 a.f2 a.f3 = 0
        · rw [if_pos e]
          unfold setE at e
          by_cases c1 : hold a.f1 a.f2 L.length = true
          · have := of_decide_eq_true c1
            simp; omega
          · rw [if_neg c1] at e; omega
        · rw [if_neg e]; omega
      · rw [if_neg k2]; omega

/-- what Check answers to the runs of looks -/
theorem check_l1 (R : List S60) (hR : ∀ s ∈ R, 1 ≤ s.f0) (hl : (bytes R).length ≤ 100000) : ∀ (d i k : Nat), i + d = R.length → d < k →
    span_Check.l1 k ((bytes (R.drop i)).length : Int) R (R.length : Int) (i : Int) = some 0 := by
  have hll := bytes_length_le R hR
  intro d
  induction d with
  | zero =>
    intro i k hi hk
    obtain ⟨k, rfl⟩ : ∃ q, k = q + 1 := ⟨k - 1, by omega⟩
    rw [span_Check.l1, if_neg (by omega), List.drop_eq_nil_of_le (by omega), bytes_nil, if_pos (by simp)]
  | succ d ih =>
    intro i k hi hk
    obtain ⟨k, rfl⟩ : ∃ q, k = q + 1 := ⟨k - 1, by omega⟩
    have hlt : i < R.length := by omega
    have hw : wrap64 ((i : Int) + 1) = ((i + 1 : Nat) : Int) := by rw [w64 _ (by omega)]; omega
    have hs := hR R[i] (List.getElem_mem hlt)
    have hd : (bytes (R.drop i)).length = R[i].f0.toNat + (bytes (R.drop (i + 1))).length := by
      rw [drop_bytes R i hlt, bytes_one]; simp
    have hb : (bytes (R.drop i)).length ≤ (bytes R).length := by
      conv => rhs; rw [← List.take_append_drop i R, bytes_append]
      simp
    have step := ih (i + 1) k (by omega) (by omega)
    rw [span_Check.l1, if_pos (by omega), if_pos (by omega), if_pos (by omega), rd_at R i hlt, hw, if_neg (by omega), if_neg (by omega), w64 _ (by omega)]
    rw [show ((bytes (R.drop i)).length : Int) - R[i].f0 = ((bytes (R.drop (i + 1))).length : Int) by omega]
    exact step
theorem check_l0 (R : List S60) (hR : ∀ s ∈ R, 1 ≤ s.f0) (hC : ∀ s ∈ R, okC s.f1 = true) (hl : (bytes R).length ≤ 100000) : ∀ (d i k : Nat), i + d = R.length → d + R.length + 1 < k →
    span_Check.l0 k R ((bytes R).length : Int) R (R.length : Int) (i : Int) = some 0 := by
  have hll := bytes_length_le R hR
  intro d
  induction d with
  | zero =>
    intro i k hi hk
    obtain ⟨k, rfl⟩ : ∃ q, k = q + 1 := ⟨k - 1, by omega⟩
    rw [span_Check.l0, if_neg (by omega)]
    have := check_l1 R hR hl R.length 0 k (by omega) (by omega)
    simpa using this
  | succ d ih =>
    intro i k hi hk
    obtain ⟨k, rfl⟩ : ∃ q, k = q + 1 := ⟨k - 1, by omega⟩
    have hlt : i < R.length := by omega
    have hw : wrap64 ((i : Int) + 1) = ((i + 1 : Nat) : Int) := by rw [w64 _ (by omega)]; omega
    have step := ih (i + 1) k (by omega) (by omega)
    rw [span_Check.l0, if_pos (by omega), if_pos (by omega), if_pos (by omega), rd_at R i hlt, hw, may_f, Option.bind_some, if_pos (hC _ (List.getElem_mem hlt))]
    exact step
theorem mem_bytes {R : List S60} {s : S60} (h : s ∈ R) (h1 : 1 ≤ s.f0) : s.f1 ∈ bytes R := by
  unfold bytes
  rw [List.mem_flatMap]
  exact ⟨s, h, List.mem_replicate.mpr ⟨by omega, rfl⟩⟩
theorem check_f (L : List S28) (h : okL L) (hl : L.length ≤ 100000) : span_Check.f (2 * (rl L).length + 2) (rl L) (L.length : Int) = some 0 := by
  have := check_l0 (rl L) (rl_pos L) (fun s hs => h _ (by have := mem_bytes hs (rl_pos L s hs); rwa [bytes_rl] at this)) (by rw [bytes_rl]; exact hl) (rl L).length 0 (2 * (rl L).length + 2) (by omega) (by omega)
  rw [bytes_rl] at this
  simpa [span_Check.f] using this
end Go.Proofs.Ytmggbbeecmjalaa.P
