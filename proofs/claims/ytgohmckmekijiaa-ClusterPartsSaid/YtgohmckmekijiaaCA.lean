/- The reference's functions on clusters answer as the plain spec: for every text. -/
import Derived.Test.YtgohmckmekijiaaA5
import Derived.OpenShut
namespace Go.Proofs.Ytgohmckmekijiaa.PAll
open Go.RowKit Go.Proofs.YtgohmckmekijiaaW.PrintWords Go.Proofs.YtgohmckmekijiaaW.PrintLast Go.Proofs.YtgohmckmekijiaaW.PrintMore
set_option linter.unusedVariables false
set_option linter.unusedSimpArgs false

theorem w64 {x : Int} (h0 : -9223372036854775808 ≤ x) (h1 : x ≤ 9223372036854775807) : wrap64 x = x := by unfold wrap64; omega
theorem up {α : Type} {g : Nat → Option α} {r : α} (h : Ev (fun k => g (k + 1)) r) : Ev g r := Ev.step (fun _ => rfl) h

theorem rletter_tells (c : Int) : quireref06_letter.f c = some (letterB c) := by
  unfold quireref06_letter.f letterB
  by_cases h1 : 97 ≤ c <;> by_cases h2 : c ≤ 122 <;> by_cases h3 : 65 ≤ c <;> by_cases h4 : c ≤ 90 <;> simp [h1, h2, h3, h4]
theorem rkind_tells (c : Int) : quireref06_Kind.f c = some (kindOf c) := by
  unfold quireref06_Kind.f kindOf
  rw [rletter_tells]
  simp only [Option.bind_some]
  have hl : letterB c = true ↔ ((97 ≤ c ∧ c ≤ 122) ∨ (65 ≤ c ∧ c ≤ 90)) := by simp [letterB]
  by_cases hL : letterB c = true
  · have := hl.1 hL
    rw [if_neg (by omega), if_neg (by omega), if_neg (by omega), if_neg (by omega), if_neg (by omega), if_neg (by omega), if_pos hL, if_pos hL]
  · rw [if_neg hL, if_neg hL]
    by_cases e1 : c = 32
    · rw [if_pos e1, if_pos e1]
    · rw [if_neg e1, if_neg e1]
      by_cases e2 : c = 9
      · rw [if_pos e2, if_pos e2]
      · rw [if_neg e2, if_neg e2]
        by_cases e3 : c = 31
        · rw [if_pos e3, if_pos e3]
        · rw [if_neg e3, if_neg e3]
          by_cases e4 : c = 1
          · rw [if_pos e4, if_pos e4]
          · rw [if_neg e4, if_neg e4]
            by_cases e5 : c = 2
            · rw [if_pos e5, if_pos e5]
            · rw [if_neg e5, if_neg e5]
              by_cases e6 : c = 3
              · rw [if_pos e6, if_pos e6]
              · rw [if_neg e6, if_neg e6]
                by_cases e7 : 32 < c
                · by_cases e8 : c ≤ 126
                  · rw [if_pos e7, if_pos (by omega), if_pos ⟨e7, e8⟩]
                  · rw [if_pos e7, if_neg (by omega), if_neg (fun h => e8 h.2)]
                · rw [if_neg (by omega), if_neg (fun h => e7 h.1)]
theorem raccent_tells (c : Int) : quireref06_accent.f c = some (accentB c) := by
  unfold quireref06_accent.f accentB
  by_cases h1 : c = 94
  · simp [h1]
  · by_cases h2 : c = 96
    · simp [h2]
    · by_cases h3 : c = 126 <;> simp [h1, h2, h3]

theorem rwrong_loop (s : ByteArray) (hs : s.size ≤ 4096) (d : Nat) : ∀ i : Nat, s.size = i + d → Ev (fun k => quireref06_Wrong.l0 k s (i : Int)) (badFrom s d i) := by
  induction d with
  | zero =>
    intro i hi
    refine up ?_
    have h1 : ¬ ((i : Int) < (s.size : Int)) := by omega
    simp only [quireref06_Wrong.l0, if_neg h1]
    exact Ev.now _
  | succ d ih =>
    intro i hi
    have hrec := ih (i + 1) (by omega)
    have h1 : (i : Int) < (s.size : Int) := by omega
    have h0 : (0 : Int) ≤ (i : Int) := by omega
    have hw : wrap64 ((i : Int) + 1) = ((i + 1 : Nat) : Int) := by rw [w64 (by omega) (by omega)]; omega
    refine up ?_
    simp only [quireref06_Wrong.l0, if_pos h1, if_pos h0, rkind_tells, Option.bind_some, badFrom, hw]
    by_cases e : kindOf (bt s (i : Int)) = 0
    · simp only [if_pos e]; exact Ev.now _
    · simp only [if_neg e]; exact hrec
theorem rwrong_tells (s : ByteArray) : Ev (fun k => quireref06_Wrong.f k s) (wrongOf s) := by
  unfold quireref06_Wrong.f wrongOf
  by_cases h : 4096 < s.size
  · have h1 : (s.size : Int) > 4096 := by omega
    simp only [if_pos h, if_pos h1]
    exact Ev.now _
  · have h1 : ¬ ((s.size : Int) > 4096) := by omega
    simp only [if_neg h, if_neg h1]
    exact rwrong_loop s (by omega) s.size 0 (by omega)

theorem wrong_le (s : ByteArray) (h : wrongOf s = 0) : s.size ≤ 4096 := by
  unfold wrongOf at h
  split at h
  · cases h
  · omega

/-- the inner loop: from the cluster's beginning at a, having come to t -/
theorem rsplit_in (s : ByteArray) (hs : s.size ≤ 4096) (acc : List S28) (hacc : acc.length ≤ 4096) (a : Nat) (haa : a ≤ 4096) (q : Int) (R : List S28 × Int) (dd : Nat) : ∀ t : Nat, dd + t = a + 4 → t ≤ s.size →
    Ev (fun k => quireref06_Split.l0 k s (acc ++ [⟨(a : Int), (ext s a q dd t : Nat), q⟩]) ((ext s a q dd t : Nat) : Int)) R → Ev (fun k => quireref06_Split.l1 k s acc (a : Int) (a : Int) (t : Int) q) R := by
  induction dd with
  | zero =>
    intro t ht hts h
    have h3 : ¬ ((t : Int) < wrap64 ((a : Int) + 3)) := by rw [w64 (by omega) (by omega)]; omega
    have hl : acc.length < 5864062014805 := by omega
    refine up ?_
    simp only [quireref06_Split.l1, if_neg h3, if_pos hl, ext] at h ⊢
    by_cases e1 : q = 1
    · by_cases e2 : (t : Int) < (s.size : Int)
      · simp only [if_pos e1, if_pos e2]; exact h
      · simp only [if_pos e1, if_neg e2]; exact h
    · simp only [if_neg e1]; exact h
  | succ dd ih =>
    intro t ht hts h
    have hl : acc.length < 5864062014805 := by omega
    have w3 : wrap64 ((a : Int) + 3) = (a : Int) + 3 := w64 (by omega) (by omega)
    have h0 : (0 : Int) ≤ (t : Int) := by omega
    have hw : wrap64 ((t : Int) + 1) = ((t + 1 : Nat) : Int) := by rw [w64 (by omega) (by omega)]; omega
    refine up ?_
    simp only [quireref06_Split.l1, if_pos hl, w3, if_pos h0, raccent_tells, Option.bind_some, hw]
    by_cases e1 : q = 1
    · by_cases e2 : (t : Int) < (s.size : Int)
      · by_cases e3 : (t : Int) < (a : Int) + 3
        · by_cases e4 : accentB (bt s (t : Int)) = true
          · have he : ext s a q (dd + 1) t = ext s a q dd (t + 1) := by simp only [ext]; rw [if_pos ⟨e1, by omega, by omega, e4⟩]
            rw [he] at h
            simp only [if_pos e1, if_pos e2, if_pos e3, if_pos e4]
            exact ih (t + 1) (by omega) (by omega) h
          · have he : ext s a q (dd + 1) t = t := by simp only [ext]; rw [if_neg (fun p => e4 p.2.2.2)]
            rw [he] at h
            simp only [if_pos e1, if_pos e2, if_pos e3, if_neg e4]
            exact h
        · have he : ext s a q (dd + 1) t = t := by simp only [ext]; rw [if_neg (fun p => e3 (by omega))]
          rw [he] at h
          simp only [if_pos e1, if_pos e2, if_neg e3]
          exact h
      · have he : ext s a q (dd + 1) t = t := by simp only [ext]; rw [if_neg (fun p => e2 (by omega))]
        rw [he] at h
        simp only [if_pos e1, if_neg e2]
        exact h
    · have he : ext s a q (dd + 1) t = t := by simp only [ext]; rw [if_neg (fun p => e1 p.1)]
      rw [he] at h
      simp only [if_neg e1]
      exact h

theorem rsplit_loop (s : ByteArray) (hs : s.size ≤ 4096) (d : Nat) : ∀ (a : Nat) (acc : List S28), s.size ≤ a + d → a ≤ s.size → acc.length ≤ a → Ev (fun k => quireref06_Split.l0 k s acc (a : Int)) (acc ++ rest s a, 0) := by
  induction d with
  | zero =>
    intro a acc h1 h2 hacc
    refine up ?_
    have h3 : ¬ ((a : Int) < (s.size : Int)) := by omega
    simp only [quireref06_Split.l0, if_neg h3]
    rw [rest_nil s a (by omega), List.append_nil]
    exact Ev.now _
  | succ d ih =>
    intro a acc h1 h2 hacc
    by_cases ha : a < s.size
    · have h3 : (a : Int) < (s.size : Int) := by omega
      have h0 : (0 : Int) ≤ (a : Int) := by omega
      have hw : wrap64 ((a : Int) + 1) = ((a + 1 : Nat) : Int) := by rw [w64 (by omega) (by omega)]; omega
      refine up ?_
      simp only [quireref06_Split.l0, if_pos h3, if_pos h0, rkind_tells, Option.bind_some, hw]
      refine rsplit_in s hs acc (by omega) a (by omega) _ _ 3 (a + 1) (by omega) (by omega) ?_
      have g := endOf_gt s a
      have := ih (endOf s a) (acc ++ [clOf s a]) (by omega) (endOf_le s a ha) (by simp; omega)
      rw [List.append_assoc, List.singleton_append, ← rest_cons s a ha] at this
      exact this
    · refine up ?_
      have h3 : ¬ ((a : Int) < (s.size : Int)) := by omega
      simp only [quireref06_Split.l0, if_neg h3]
      rw [rest_nil s a (by omega), List.append_nil]
      exact Ev.now _
theorem rsplit_tells (s : ByteArray) : Ev (fun k => quireref06_Split.f k s) (splitOf s) := by
  unfold quireref06_Split.f
  refine (rwrong_tells s).bind ?_
  unfold splitOf
  by_cases h : wrongOf s = 0
  · simp only [if_pos h]
    exact rsplit_loop s (wrong_le s h) s.size 0 [] (by omega) (by omega) (by simp)
  · simp only [if_neg h]
    exact Ev.now _

theorem clusFrom_le (s : ByteArray) : ∀ d a, (clusFrom s d a).length ≤ d
  | 0, a => by simp [clusFrom]
  | d + 1, a => by
    simp only [clusFrom]
    split
    · have := clusFrom_le s d (endOf s a); simp; omega
    · simp
theorem split_len (s : ByteArray) : (splitOf s).1.length ≤ 4096 := by
  unfold splitOf
  split
  · rename_i h
    exact Nat.le_trans (clusFrom_le s _ _) (wrong_le s h)
  · simp

theorem rd_drop (l : List S28) (i : Nat) (c : S28) (m : List S28) (h : l.drop i = c :: m) : rd_T28 l (i : Int) = c ∧ i < l.length ∧ l.drop (i + 1) = m := by
  have hlt : i < l.length := by
    rcases Nat.lt_or_ge i l.length with h' | h'
    · exact h'
    · rw [List.drop_of_length_le h'] at h; cases h
  rw [List.drop_eq_getElem_cons hlt] at h
  injection h with h1 h2
  refine ⟨?_, hlt, h2⟩
  simp [rd_T28, hlt, h1]
theorem rd_dropI (l : List Int) (i : Nat) (c : Int) (m : List Int) (h : l.drop i = c :: m) : rd l (i : Int) = c ∧ i < l.length ∧ l.drop (i + 1) = m := by
  have hlt : i < l.length := by
    rcases Nat.lt_or_ge i l.length with h' | h'
    · exact h'
    · rw [List.drop_of_length_le h'] at h; cases h
  rw [List.drop_eq_getElem_cons hlt] at h
  injection h with h1 h2
  refine ⟨?_, hlt, h2⟩
  simp [rd, hlt, h1]

theorem same_loop (l : List S28) (hl : l.length ≤ 9000) (d : Nat) : ∀ i : Nat, l.length = i + d → Ev (fun k => quirelaw06_same.l0 k l l (i : Int)) true := by
  induction d with
  | zero =>
    intro i hi
    refine up ?_
    have h1 : ¬ ((i : Int) < (l.length : Int)) := by omega
    simp only [quirelaw06_same.l0, if_neg h1]
    exact Ev.now _
  | succ d ih =>
    intro i hi
    have hrec := ih (i + 1) (by omega)
    have h1 : (i : Int) < (l.length : Int) := by omega
    have h0 : (0 : Int) ≤ (i : Int) := by omega
    have hw : wrap64 ((i : Int) + 1) = ((i + 1 : Nat) : Int) := by rw [w64 (by omega) (by omega)]; omega
    refine up ?_
    simp only [quirelaw06_same.l0, if_pos h1, if_pos h0, hw, beq_self_eq_true, Bool.not_true, Bool.or_false, Bool.false_eq_true, if_false]
    exact hrec
theorem same_tells (l : List S28) (hl : l.length ≤ 9000) : Ev (fun k => quirelaw06_same.f k l l) true := by
  unfold quirelaw06_same.f
  simp only [if_true]
  exact same_loop l hl l.length 0 (by omega)

theorem awake_tells : Ev (fun k => quirelaw06_awake.f k) true := by
  unfold quirelaw06_awake.f
  have e : splitOf (⟨#[97, 94, 126, 94, 98, 32, 49]⟩ : ByteArray) = ([(⟨0, 3, 1⟩ : S28), (⟨3, 4, 2⟩ : S28), (⟨4, 5, 1⟩ : S28), (⟨5, 6, 3⟩ : S28), (⟨6, 7, 2⟩ : S28)], 0) := by kernel_rfl
  refine Ev.bind (a := splitOf (⟨#[97, 94, 126, 94, 98, 32, 49]⟩ : ByteArray)) (Ev.now _) ?_
  rw [e]
  simp only [if_true]
  exact (same_tells _ (by simp)).bind (Ev.now _)

theorem splits_loop (s : ByteArray) (hw : (splitOf s).1.length ≤ 4096) (d : Nat) : ∀ (i : Nat) (l : List S28), l.length ≤ 4096 → l.length = i + d → Ev (fun k => quirelaw06_ClusterSplits.l0 k s l (splitOf s).1 (i : Int)) true := by
  induction d with
  | zero =>
    intro i l hl hi
    refine up ?_
    have h1 : ¬ ((i : Int) < (l.length : Int)) := by omega
    simp only [quirelaw06_ClusterSplits.l0, if_neg h1]
    refine Ev.bind (a := splitOf s) (Ev.now _) ?_
    refine (same_tells _ (by omega)).bind ?_
    simp only [if_true]
    exact awake_tells.bind (Ev.now _)
  | succ d ih =>
    intro i l hl hi
    have h1 : (i : Int) < (l.length : Int) := by omega
    have h0 : (0 : Int) ≤ (i : Int) := by omega
    have hw : wrap64 ((i : Int) + 1) = ((i + 1 : Nat) : Int) := by rw [w64 (by omega) (by omega)]; omega
    refine up ?_
    simp only [quirelaw06_ClusterSplits.l0, if_pos h1, if_pos h0, hw]
    exact ih (i + 1) _ (by simpa using hl) (by simp; omega)
theorem splits_holds : quirelaw06_ClusterSplits.Pure := by
  intro s _
  refine Ev.rounds ?_
  unfold quirelaw06_ClusterSplits.f
  refine Ev.bind (a := splitOf s) (Ev.now _) ?_
  refine (rsplit_tells s).bind ?_
  have hl := split_len s
  refine (same_tells _ (by omega)).bind ?_
  simp only [if_true]
  refine up ?_
  simp only [quirelaw06_ClusterSplits.j0, bne_self_eq_false, Bool.false_eq_true, if_false]
  exact splits_loop s hl (splitOf s).1.length 0 _ hl (by omega)
end Go.Proofs.Ytgohmckmekijiaa.PAll
