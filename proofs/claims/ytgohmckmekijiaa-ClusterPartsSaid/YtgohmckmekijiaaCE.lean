/- A text in two parts has the clusters of both. -/
import Derived.Test.YtgohmckmekijiaaCC
import Derived.Test.YtgohmckmekijiaaA8
namespace Go.Proofs.Ytgohmckmekijiaa.PAll
open Go.RowKit Go.Proofs.YtgohmckmekijiaaW.PrintWords Go.Proofs.YtgohmckmekijiaaW.PrintLast Go.Proofs.YtgohmckmekijiaaW.PrintMore
set_option linter.unusedVariables false
set_option linter.unusedSimpArgs false

theorem app_size (s t : ByteArray) : (s ++ t).size = s.size + t.size := ByteArray.size_append
theorem bt_l (s t : ByteArray) (i : Nat) (h : i < s.size) : bt (s ++ t) (i : Int) = bt s (i : Int) := by
  have h1 : (i : Int).toNat < (s ++ t).size := by rw [app_size]; simp; omega
  have h2 : (i : Int).toNat < s.size := by simp; omega
  unfold bt
  rw [dif_pos h1, dif_pos h2, ByteArray.getElem_append_left (by simpa using h)]
theorem bt_r (s t : ByteArray) (i : Nat) : bt (s ++ t) ((s.size + i : Nat) : Int) = bt t (i : Int) := by
  unfold bt
  by_cases h : i < t.size
  · have h1 : ((s.size + i : Nat) : Int).toNat < (s ++ t).size := by rw [app_size]; omega
    have h2 : (i : Int).toNat < t.size := by omega
    rw [dif_pos h1, dif_pos h2, ByteArray.getElem_append_right (by omega)]
    congr 3
    omega
  · have h1 : ¬ ((s.size + i : Nat) : Int).toNat < (s ++ t).size := by rw [app_size]; omega
    have h2 : ¬ (i : Int).toNat < t.size := by omega
    rw [dif_neg h1, dif_neg h2]

theorem bad_cases (s : ByteArray) : ∀ d i, badFrom s d i = 0 ∨ badFrom s d i = 4
  | 0, i => .inl rfl
  | d + 1, i => by
    simp only [badFrom]
    split
    · exact .inr rfl
    · exact bad_cases s d (i + 1)
theorem bad_zero (s : ByteArray) : ∀ d i, badFrom s d i = 0 ↔ ∀ j, i ≤ j → j < i + d → kindOf (bt s ((j : Nat) : Int)) ≠ 0
  | 0, i => by simp only [badFrom, true_iff]; intro j h1 h2; omega
  | d + 1, i => by
    simp only [badFrom]
    split
    · rename_i h
      constructor
      · intro e; cases e
      · intro e; exact absurd h (e i (by omega) (by omega))
    · rename_i h
      rw [bad_zero s d (i + 1)]
      constructor
      · intro e j h1 h2
        by_cases hj : j = i
        · rw [hj]; exact h
        · exact e j (by omega) (by omega)
      · intro e j h1 h2; exact e j (by omega) (by omega)
theorem wrong_kinds (s : ByteArray) (hs : s.size ≤ 4096) : wrongOf s = 0 ↔ ∀ j, j < s.size → kindOf (bt s ((j : Nat) : Int)) ≠ 0 := by
  unfold wrongOf
  rw [if_neg (by omega), bad_zero]
  constructor
  · intro h j hj; exact h j (by omega) (by omega)
  · intro h j _ hj; exact h j (by omega)
theorem wrong_four (s : ByteArray) (hs : s.size ≤ 4096) (h : wrongOf s ≠ 0) : wrongOf s = 4 := by
  unfold wrongOf at h ⊢
  rw [if_neg (by omega)] at h ⊢
  rcases bad_cases s s.size 0 with e | e
  · exact absurd e h
  · exact e
theorem wrong_app (s t : ByteArray) (hz : s.size + t.size ≤ 4096) : wrongOf (s ++ t) = 0 ↔ wrongOf s = 0 ∧ wrongOf t = 0 := by
  rw [wrong_kinds _ (by rw [app_size]; exact hz), wrong_kinds s (by omega), wrong_kinds t (by omega)]
  rw [app_size]
  constructor
  · intro h
    refine ⟨fun j hj => ?_, fun j hj => ?_⟩
    · rw [← bt_l s t j hj]; exact h j (by omega)
    · rw [← bt_r s t j]; exact h (s.size + j) (by omega)
  · rintro ⟨h1, h2⟩ j hj
    by_cases hs : j < s.size
    · rw [bt_l s t j hs]; exact h1 j hs
    · have := h2 (j - s.size) (by omega)
      rw [← bt_r s t (j - s.size), show s.size + (j - s.size) = j from by omega] at this
      exact this

def sh (n : Nat) (c : S28) : S28 := ⟨c.f0 + n, c.f1 + n, c.f2⟩
theorem ext_l (s t : ByteArray) (hna : 0 < t.size → accentB (bt t 0) = false) (a : Nat) (q : Int) (d : Nat) : ∀ u, u ≤ s.size → ext (s ++ t) a q d u = ext s a q d u := by
  induction d with
  | zero => intro u _; rfl
  | succ d ih =>
    intro u hu
    simp only [ext]
    by_cases hlt : u < s.size
    · rw [bt_l s t u hlt]
      by_cases e : q = 1 ∧ u < s.size ∧ u < a + 3 ∧ accentB (bt s (u : Int)) = true
      · rw [if_pos e, if_pos ⟨e.1, by rw [app_size]; omega, e.2.2⟩]
        exact ih (u + 1) (by omega)
      · rw [if_neg e, if_neg (fun p => e ⟨p.1, hlt, p.2.2⟩)]
    · have hr : ¬ (q = 1 ∧ u < s.size ∧ u < a + 3 ∧ accentB (bt s (u : Int)) = true) := fun p => hlt p.2.1
      rw [if_neg hr]
      by_cases ht : 0 < t.size
      · have hb : bt (s ++ t) (u : Int) = bt t 0 := by
          have := bt_r s t 0
          rw [show u = s.size + 0 from by omega]
          exact this
        rw [if_neg]
        rintro ⟨_, _, _, e⟩
        rw [hb, hna ht] at e
        cases e
      · rw [if_neg]
        rintro ⟨_, e, _, _⟩
        rw [app_size] at e
        omega
theorem endOf_l (s t : ByteArray) (hna : 0 < t.size → accentB (bt t 0) = false) (a : Nat) (ha : a < s.size) : endOf (s ++ t) a = endOf s a := by
  unfold endOf
  rw [bt_l s t a ha, ext_l s t hna _ _ _ _ (by omega)]
theorem ext_r (s t : ByteArray) (a : Nat) (q : Int) (d : Nat) : ∀ u, ext (s ++ t) (s.size + a) q d (s.size + u) = s.size + ext t a q d u := by
  induction d with
  | zero => intro u; rfl
  | succ d ih =>
    intro u
    simp only [ext]
    rw [bt_r s t u, app_size]
    by_cases e : q = 1 ∧ u < t.size ∧ u < a + 3 ∧ accentB (bt t (u : Int)) = true
    · rw [if_pos e, if_pos ⟨e.1, by omega, by omega, e.2.2.2⟩]
      exact ih (u + 1)
    · rw [if_neg e, if_neg (fun p => e ⟨p.1, by omega, by omega, p.2.2.2⟩)]
theorem endOf_r (s t : ByteArray) (a : Nat) : endOf (s ++ t) (s.size + a) = s.size + endOf t a := by
  unfold endOf
  rw [bt_r s t a]
  exact ext_r s t a _ 3 (a + 1)
theorem rest_r (s t : ByteArray) (d : Nat) : ∀ a, t.size ≤ a + d → rest (s ++ t) (s.size + a) = (rest t a).map (sh s.size) := by
  induction d with
  | zero =>
    intro a h
    rw [rest_nil t a (by omega), rest_nil (s ++ t) _ (by rw [app_size]; omega)]
    rfl
  | succ d ih =>
    intro a h
    by_cases ha : a < t.size
    · have g := endOf_gt t a
      rw [rest_cons t a ha, rest_cons (s ++ t) _ (by rw [app_size]; omega), endOf_r, ih _ (by omega), List.map_cons]
      congr 1
      unfold clOf sh
      rw [endOf_r, bt_r s t a]
      simp
      omega
    · rw [rest_nil t a (by omega), rest_nil (s ++ t) _ (by rw [app_size]; omega)]
      rfl
theorem rest_l (s t : ByteArray) (hna : 0 < t.size → accentB (bt t 0) = false) (d : Nat) : ∀ a, s.size ≤ a + d → a ≤ s.size → rest (s ++ t) a = rest s a ++ rest (s ++ t) s.size := by
  induction d with
  | zero =>
    intro a h h2
    rw [rest_nil s a (by omega), show a = s.size from by omega]
    rfl
  | succ d ih =>
    intro a h h2
    by_cases ha : a < s.size
    · have g := endOf_gt s a
      rw [rest_cons s a ha, rest_cons (s ++ t) a (by rw [app_size]; omega), endOf_l s t hna a ha, ih _ (by omega) (endOf_le s a ha), List.cons_append]
      congr 1
      unfold clOf
      rw [endOf_l s t hna a ha, bt_l s t a ha]
    · rw [rest_nil s a (by omega), show a = s.size from by omega]
      rfl
theorem clus_app (s t : ByteArray) (hna : 0 < t.size → accentB (bt t 0) = false) : clus (s ++ t) = clus s ++ (clus t).map (sh s.size) := by
  have h1 := rest_l s t hna s.size 0 (by omega) (by omega)
  have h2 := rest_r s t t.size 0 (by omega)
  rw [Nat.add_zero] at h2
  rw [h2] at h1
  exact h1

theorem rest_range (s : ByteArray) (d : Nat) : ∀ a : Nat, s.size ≤ a + d → a ≤ s.size → ∀ c, c ∈ rest s a → 0 ≤ c.f0 ∧ c.f0 ≤ s.size ∧ 0 ≤ c.f1 ∧ c.f1 ≤ s.size := by
  induction d with
  | zero => intro a h1 h2 c hc; rw [rest_nil s a (by omega)] at hc; cases hc
  | succ d ih =>
    intro a h1 h2 c hc
    by_cases ha : a < s.size
    · have g := endOf_gt s a
      have ge := endOf_le s a ha
      rw [rest_cons s a ha] at hc
      rcases List.mem_cons.1 hc with rfl | hc
      · show 0 ≤ (a : Int) ∧ (a : Int) ≤ _ ∧ 0 ≤ ((endOf s a : Nat) : Int) ∧ ((endOf s a : Nat) : Int) ≤ _
        omega
      · exact ih (endOf s a) (by omega) ge c hc
    · rw [rest_nil s a (by omega)] at hc; cases hc

theorem rd_mid (p : List S28) (c : S28) (q : List S28) : rd_T28 (p ++ c :: q) (p.length : Int) = c := by simp [rd_T28]
theorem set_mid (p : List S28) (c c' : S28) (q : List S28) : (p ++ c :: q).set (p.length : Int).toNat c' = p ++ c' :: q := by simp
theorem parts_loop (s : ByteArray) (hs : s.size ≤ 4096) (u m : List S28) (hu : u.length ≤ 4096) : ∀ (q p : List S28), p.length + q.length ≤ 4096 → (∀ c, c ∈ q → 0 ≤ c.f0 ∧ c.f0 ≤ 4096 ∧ 0 ≤ c.f1 ∧ c.f1 ≤ 4096) → m = u ++ (p ++ q.map (sh s.size)) →
    Ev (fun k => quirelaw06_ClusterParts.l0 k s true u (p ++ q) m 0 (p.length : Int)) true
  | [], p, hl, _, hm => by
    have h1 : ¬ ((p.length : Int) < ((p ++ ([] : List S28)).length : Int)) := by simp
    have h2 : u.length + (p ++ ([] : List S28)).length < 5864062014805 := by simp at hl ⊢; omega
    refine up ?_
    simp only [quirelaw06_ClusterParts.l0, if_neg h1, if_true, if_pos h2]
    rw [hm]
    exact (same_tells _ (by simp at hl ⊢; omega)).bind (Ev.now _)
  | c :: q, p, hl, hc, hm => by
    have hcc := hc c (by simp)
    have h1 : (p.length : Int) < ((p ++ c :: q).length : Int) := by simp; omega
    have h0 : (0 : Int) ≤ (p.length : Int) := by omega
    have hl' : p.length ≤ 4096 := by simp at hl; omega
    have hwi : wrap64 ((p.length : Int) + 1) = ((p.length + 1 : Nat) : Int) := by rw [w64 (by omega) (by omega)]; omega
    have w0 : wrap64 (c.f0 + (s.size : Int)) = c.f0 + s.size := w64 (by omega) (by omega)
    have w1 : wrap64 (c.f1 + (s.size : Int)) = c.f1 + s.size := w64 (by omega) (by omega)
    have hrec := parts_loop s hs u m hu q (p ++ [sh s.size c]) (by simp at hl ⊢; omega) (fun d hd => hc d (by simp [hd])) (by rw [hm]; simp)
    refine up ?_
    simp only [quirelaw06_ClusterParts.l0, if_pos h1, if_pos h0, Option.bind_some, rd_mid, set_mid, w0, w1, hwi]
    rw [List.append_assoc, List.singleton_append, List.length_append, List.length_singleton] at hrec
    exact hrec

theorem parts_holds : quirelaw06_ClusterParts.Pure := by
  intro s t _ _
  refine Ev.rounds ?_
  unfold quirelaw06_ClusterParts.f
  refine known_tells.bind ?_
  have out : Ev (fun k => quirelaw06_ClusterParts.j0 k s t true true) true := up (by simp only [quirelaw06_ClusterParts.j0, if_true]; exact Ev.now _)
  by_cases e1 : (s.size : Int) > 4096
  · simp only [if_pos e1]; exact out
  · have wz : wrap64 (4096 - (s.size : Int)) = 4096 - s.size := w64 (by omega) (by omega)
    simp only [if_neg e1, wz]
    by_cases e2 : (t.size : Int) > 4096 - (s.size : Int)
    · simp only [if_pos e2]; exact out
    · simp only [if_neg e2]
      have main : (0 < t.size → accentB (bt t 0) = false) → Ev (fun k => quirelaw06_ClusterParts.j0 k s t true false) true := by
        intro hna
        have hsz : s.size + t.size ≤ 9223372036854775807 := by omega
        have hwa := wrong_app s t (by omega)
        refine up ?_
        simp only [quirelaw06_ClusterParts.j0, Bool.false_eq_true, if_false, cluster_Split.f, Option.bind_some, if_pos hsz]
        by_cases hs : wrongOf s = 0
        · by_cases ht : wrongOf t = 0
          · have es : splitOf s = (clus s, 0) := by unfold splitOf; rw [if_pos hs]
            have et : splitOf t = (clus t, 0) := by unfold splitOf; rw [if_pos ht]
            have ea : splitOf (s ++ t) = (clus (s ++ t), 0) := by unfold splitOf; rw [if_pos (hwa.2 ⟨hs, ht⟩)]
            have ls := split_len s
            have lt := split_len t
            rw [es] at ls
            rw [et] at lt
            simp only [es, et, ea, if_true, bne_self_eq_false]
            refine up ?_
            simp only [quirelaw06_ClusterParts.j1, Bool.false_eq_true, if_false]
            have := parts_loop s (by omega) (clus s) (clus (s ++ t)) ls (clus t) [] (by simpa using lt) (fun c hc => by have := rest_range t t.size 0 (by omega) (by omega) c hc; omega) (by rw [clus_app s t hna]; rfl)
            exact this
          · have es : splitOf s = (clus s, 0) := by unfold splitOf; rw [if_pos hs]
            have et : splitOf t = ([], 4) := by unfold splitOf; rw [if_neg ht, wrong_four t (by omega) ht]
            have hn : wrongOf (s ++ t) ≠ 0 := fun e => ht (hwa.1 e).2
            have ea : splitOf (s ++ t) = ([], 4) := by unfold splitOf; rw [if_neg hn, wrong_four _ (by rw [app_size]; omega) hn]
            simp only [es, et, ea, if_true]
            refine up ?_
            have q : ((4 : Int) != 0) = true := by decide
            simp only [quirelaw06_ClusterParts.j1, q, if_true, beq_self_eq_true]
            exact Ev.now _
        · have es : splitOf s = ([], 4) := by unfold splitOf; rw [if_neg hs, wrong_four s (by omega) hs]
          have hn : wrongOf (s ++ t) ≠ 0 := fun e => hs (hwa.1 e).1
          have ea : splitOf (s ++ t) = ([], 4) := by unfold splitOf; rw [if_neg hn, wrong_four _ (by rw [app_size]; omega) hn]
          have q : ¬ ((4 : Int) = 0) := by decide
          simp only [es, ea, if_neg q]
          refine up ?_
          simp only [quirelaw06_ClusterParts.j1, if_true, beq_self_eq_true]
          exact Ev.now _
      by_cases e3 : (t.size : Int) > 0
      · have e4 : 0 < (t.size : Int) := e3
        simp only [if_pos e3, if_pos e4]
        by_cases a1 : bt t 0 = 94
        · simp only [if_pos a1]; exact out
        · simp only [if_neg a1]
          by_cases a2 : bt t 0 = 96
          · simp only [if_pos a2]; exact out
          · simp only [if_neg a2]
            by_cases a3 : bt t 0 = 126
            · have : (bt t 0 == 126) = true := beq_iff_eq.mpr a3
              simp only [this]; exact out
            · have : (bt t 0 == 126) = false := beq_eq_false_iff_ne.mpr a3
              simp only [this]
              exact main (fun _ => by unfold accentB; simp [a1, a2, a3])
      · simp only [if_neg e3]
        exact main (fun h => absurd h (by omega))
end Go.Proofs.Ytgohmckmekijiaa.PAll
