/- Slabs fit into columns of the height that is told, and into no lower ones: for every list of slabs and every two whole numbers; no further condition. -/
import Derived.Test.YtoodiihimjalfaaLDBalanceLeast
import Derived.Test.YtoodiihimjalfaaLEBalanceLeast
import Derived.Test.YtoodiihimjalfaaPBalanceLeastx4
namespace Go.Proofs.Ytoodiihimjalfaa.LBalanceLeast
open Go.RowKit Go.Proofs.Ytoodiihimjalfaa.PBalanceLeast Go.Proofs.YtoodiihimjalfaaW.PrintWords Go.Proofs.YtoodiihimjalfaaW.PrintLast
set_option linter.unusedVariables false
set_option linter.unusedSimpArgs false

theorem awake_true : Ev (fun k => quirelaw20_awake.f k) true := Ev.of quirelaw20_awake.mono (k := 200) (by decide +kernel)

theorem fits_fine (l : List S37) (hl : l.length ≤ 4096) (hf : fine l) (c : Nat) (c0 : 1 ≤ c) (c1 : c ≤ 8) (h : Int) (h0 : 0 ≤ h) (h1 : h ≤ 4095) : Ev (fun k => quirelaw20_fits.f k l (c : Int) h) (fitsB l c h) := by
  simp only [quirelaw20_fits.f]
  refine Ev.bind (Columns_tells l h (c : Int)) ?_
  rw [ColumnsOf_fine hl hf h c h0 h1 c0 c1]
  have hw2 : wrap64 ((c : Int) - 1) = (c : Int) - 1 := w64 (by omega) (by omega)
  have e3 : (0 : Int) ≤ (c : Int) - 1 := by omega
  have e4 : (c : Int) - 1 < (((colsOf l h c 0).1.length : Nat) : Int) := by rw [colsOf_length]; omega
  have e5 : (((colsOf l h c 0).1.length : Nat) : Int) = (c : Int) := by rw [colsOf_length]
  simp only [if_true, hw2, if_pos e3, if_pos e4, if_pos e5, fitsB]
  by_cases e2 : (colsOf l h c 0).2 = true
  · simp only [e2, if_true, Bool.not_true, Bool.false_and]; exact Ev.now _
  · replace e2 := Bool.eq_false_iff.mpr e2
    simp only [e2, Bool.false_eq_true, if_false, Bool.not_false, Bool.true_and]
    have : (rd (colsOf l h c 0).1 ((c : Int) - 1) == (l.length : Int)) = decide (rd (colsOf l h c 0).1 ((c : Int) - 1) = (l.length : Int)) := by
      by_cases q : rd (colsOf l h c 0).1 ((c : Int) - 1) = (l.length : Int) <;> simp [q]
    rw [this]
    exact Ev.now _

/-! ### nothing fits below the bound -/
theorem run_high (l : List S37) (a : Nat) (h : Int) (d : Nat) : ∀ i last al : Nat, a ≤ i → (0 < al → hgt l a (al - a) ≤ h) →
    (run l a h d i last al).2 = false → hgt l a ((run l a h d i last al).1 - a) ≤ h := by
  have stop : ∀ last al : Nat, (0 < al → hgt l a (al - a) ≤ h) → (if 0 < al then (al, false) else (last, true) : Nat × Bool).2 = false →
      hgt l a ((if 0 < al then (al, false) else (last, true) : Nat × Bool).1 - a) ≤ h := by
    intro last al h1 h2
    by_cases c : 0 < al
    · rw [if_pos c]; exact h1 c
    · rw [if_neg c] at h2; simp at h2
  induction d with
  | zero => intro i last al ha h1 h2; simp only [run] at h2 ⊢; exact stop last al h1 h2
  | succ d ih =>
    intro i last al ha h1 h2
    simp only [run] at h2 ⊢
    by_cases c : h < hgt l a (i + 1 - a)
    · rw [if_pos c] at h2 ⊢; exact stop last al h1 h2
    · rw [if_neg c] at h2 ⊢
      by_cases g : i + 1 = l.length ∨ (at' l (i + 1)).f2 = 0
      · rw [if_pos g] at h2 ⊢
        exact ih (i + 1) (i + 1) (i + 1) (by omega) (fun _ => by omega) h2
      · rw [if_neg g] at h2 ⊢
        exact ih (i + 1) (i + 1) al (by omega) h1 h2

theorem hgt_sum {l : List S37} (hf : fine l) (a n : Nat) : sumH l (a + n) - sumH l a ≤ hgt l a n ∧ ∀ i, a ≤ i → i < a + n → (at' l i).f0 ≤ hgt l a n := by
  induction n with
  | zero => exact ⟨by simp [hgt], fun i h1 h2 => by omega⟩
  | succ n ih =>
    have f := fine_at hf (a + n)
    have b := hgt_bound hf a n
    have e : sumH l (a + (n + 1)) = sumH l (a + n) + (at' l (a + n)).f0 := rfl
    have g : hgt l a n + (at' l (a + n)).f0 ≤ hgt l a (n + 1) := by simp only [hgt]; split <;> omega
    refine ⟨by omega, fun i h1 h2 => ?_⟩
    by_cases q : i = a + n
    · subst q; omega
    · have := ih.2 i h1 (by omega); omega

theorem fill_sum {l : List S37} (hf : fine l) (a : Nat) (ha : a ≤ l.length) (h : Int) (h0 : 0 ≤ h) (hu : (fillOf l a h).2 = false) :
    sumH l (fillOf l a h).1 - sumH l a ≤ h ∧ ∀ i, a ≤ i → i < (fillOf l a h).1 → (at' l i).f0 ≤ h := by
  have r := fillOf_range l a h ha
  obtain ⟨n, hn⟩ : ∃ n, (fillOf l a h).1 = a + n := ⟨(fillOf l a h).1 - a, by omega⟩
  have hh : hgt l a n ≤ h := by
    by_cases c : a = l.length
    · have : n = 0 := by omega
      subst this; simpa [hgt] using h0
    · have e : fillOf l a h = run l a h (l.length - a) a (a + 1) 0 := by unfold fillOf; rw [if_neg c]
      have := run_high l a h (l.length - a) a (a + 1) 0 (by omega) (fun q => absurd q (by omega)) (by rw [← e]; exact hu)
      rw [← e, hn, show a + n - a = n from by omega] at this
      exact this
  have q := hgt_sum hf a n
  rw [hn]
  exact ⟨by omega, fun i h1 h2 => by have := q.2 i h1 h2; omega⟩

/-- where n columns end -/
def endOf (l : List S37) (h : Int) : Nat → Nat → Nat
  | 0, a => a
  | n + 1, a => endOf l h n (fillOf l a h).1

theorem rd_cons (x : Int) (xs : List Int) (n : Nat) : rd (x :: xs) ((n + 1 : Nat) : Int) = rd xs (n : Int) := by
  unfold rd
  rw [Int.toNat_natCast, Int.toNat_natCast]
  simp

theorem last_end (l : List S37) (h : Int) (n : Nat) : ∀ a, rd (colsOf l h (n + 1) a).1 (n : Int) = (endOf l h (n + 1) a : Int) := by
  induction n with
  | zero => intro a; simp [colsOf, endOf, rd]
  | succ n ih =>
    intro a
    have e : (colsOf l h (n + 1 + 1) a).1 = ((fillOf l a h).1 : Int) :: (colsOf l h (n + 1) (fillOf l a h).1).1 := rfl
    rw [e, rd_cons, ih]
    rfl

theorem cols_sum {l : List S37} (hf : fine l) (h : Int) (h0 : 0 ≤ h) (n : Nat) : ∀ a, a ≤ l.length → (colsOf l h n a).2 = false →
    sumH l (endOf l h n a) - sumH l a ≤ (n : Int) * h ∧ a ≤ endOf l h n a ∧ ∀ i, a ≤ i → i < endOf l h n a → (at' l i).f0 ≤ h := by
  induction n with
  | zero => intro a ha hu; exact ⟨by simp [endOf], Nat.le_refl _, fun i h1 h2 => by simp [endOf] at h2; omega⟩
  | succ n ih =>
    intro a ha hu
    have r := fillOf_range l a h ha
    simp only [colsOf, Bool.or_eq_false_iff] at hu
    have f := fill_sum hf a ha h h0 hu.1
    obtain ⟨g1, g2, g3⟩ := ih (fillOf l a h).1 r.2.1 hu.2
    simp only [endOf]
    refine ⟨?_, by omega, fun i h1 h2 => ?_⟩
    · have : ((n + 1 : Nat) : Int) * h = (n : Int) * h + h := by rw [Int.natCast_add, Int.add_mul]; simp
      omega
    · by_cases q : i < (fillOf l a h).1
      · exact f.2 i h1 q
      · exact g3 i (by omega) h2

theorem most_le {l : List S37} (h : Int) (h0 : 0 ≤ h) (n : Nat) (hh : ∀ i, i < n → (at' l i).f0 ≤ h) : most l n ≤ h := by
  induction n with
  | zero => simpa [most] using h0
  | succ n ih =>
    have h1 := ih (fun i hi => hh i (by omega))
    have h2 := hh n (by omega)
    have h3 := mx_ge (most l n) (at' l n).f0
    simp only [most]
    omega

theorem fits_bound {l : List S37} (hl : l.length ≤ 4096) (hf : fine l) (c : Nat) (c0 : 1 ≤ c) (c1 : c ≤ 8) (h : Int) (h0 : 0 ≤ h) (hfit : fitsB l c h = true) : boundOf l (c : Int) ≤ h := by
  obtain ⟨n, rfl⟩ : ∃ n, c = n + 1 := ⟨c - 1, by omega⟩
  unfold fitsB at hfit
  simp only [Bool.and_eq_true, Bool.not_eq_true', decide_eq_true_eq] at hfit
  obtain ⟨hu, he⟩ := hfit
  rw [show ((n + 1 : Nat) : Int) - 1 = (n : Int) from by omega, last_end] at he
  obtain ⟨g1, g2, g3⟩ := cols_sum hf h h0 (n + 1) 0 (by omega) hu
  have he' : endOf l h (n + 1) 0 = l.length := by omega
  rw [he'] at g1 g3
  have hs : sumH l 0 = 0 := rfl
  have hsb := sumH_bound hf l.length
  have hm := most_le h h0 l.length (fun i hi => g3 i (by omega) hi)
  have hd : Int.tdiv (sumH l l.length + ((n + 1 : Nat) : Int) - 1) ((n + 1 : Nat) : Int) ≤ h := by
    rw [Int.tdiv_eq_ediv_of_nonneg (by omega)]
    have hp : (0 : Int) < ((n + 1 : Nat) : Int) := by omega
    refine Int.le_of_lt_add_one (Int.ediv_lt_of_lt_mul hp ?_)
    have : (h + 1) * ((n + 1 : Nat) : Int) = ((n + 1 : Nat) : Int) * h + ((n + 1 : Nat) : Int) := by rw [Int.add_mul, Int.one_mul, Int.mul_comm]
    omega
  have h3 := mx_ge (most l l.length) (Int.tdiv (sumH l l.length + ((n + 1 : Nat) : Int) - 1) ((n + 1 : Nat) : Int))
  unfold boundOf
  omega

theorem last_loop (l : List S37) (hl : l.length ≤ 4096) (hf : fine l) (c : Nat) (c0 : 1 ≤ c) (c1 : c ≤ 8) (top : Int) (t0 : 0 ≤ top) (t1 : top ≤ 150)
    (q : Int) (hq0 : q ≤ top + 1) (hno : ∀ k, 0 ≤ k → k < q → fitsB l c k = false) (d : Nat) :
    ∀ k : Int, 0 ≤ k → q - k ≤ d → Ev (fun n => quirelaw20_BalanceLeast.l0 n l (c : Int) top true (leastOf l c top).1 (leastOf l c top).2 q k) true := by
  have fin : Ev (fun n => (balance_Columns.f n l (c : Int) top).bind fun bt179 => (if (leastOf l c top).2 = true then ((column_Columns.f n l (leastOf l c top).1 (c : Int)).bind fun bt183 => (if true = true then (if bt179.2 = 0 then (if bt183.2.2 = 0 then ((quirekit_SameInts.f n bt179.1 bt183.1).bind fun t188 => (some t188)) else (some false)) else (some false)) else (some false))) else ((column_Columns.f n l top (c : Int)).bind fun bt189 => (if true = true then (if bt179.2 = 0 then (if bt189.2.2 = 0 then ((quirekit_SameInts.f n bt179.1 bt189.1).bind fun t194 => (some t194)) else (some false)) else (some false)) else (some false))))) true := by
    refine Ev.bind (Columns2_good l hl hf c c0 c1 top t0 (by omega)) ?_
    by_cases e : (leastOf l c top).2 = true
    · have hb := bound_nonneg hl hf (c : Int) (by omega) (by omega)
      have r := least_range l c _ _ e
      have e1 : (leastOf l c top).1 = (least l c (top + 1 - boundOf l (c : Int)).toNat (boundOf l (c : Int))).1 := rfl
      simp only [if_pos e, if_true]
      refine Ev.bind (Columns_tells l _ (c : Int)) ?_
      rw [ColumnsOf_fine hl hf _ c (by omega) (by omega) c0 c1]
      simp only [if_true]
      exact Ev.bind (same_self _ (by rw [colsOf_length]; omega)) (Ev.now _)
    · simp only [if_neg e, if_true]
      refine Ev.bind (Columns_tells l top (c : Int)) ?_
      rw [ColumnsOf_fine hl hf _ c t0 (by omega) c0 c1]
      simp only [if_true]
      exact Ev.bind (same_self _ (by rw [colsOf_length]; omega)) (Ev.now _)
  induction d with
  | zero =>
    intro k hk hd
    refine up ?_
    have c1 : ¬ k < q := by omega
    simp only [quirelaw20_BalanceLeast.l0, if_neg c1]
    exact fin
  | succ d ih =>
    intro k hk hd
    by_cases g : k < q
    · have hrec := ih (k + 1) (by omega) (by omega)
      have hw : wrap64 (k + 1) = k + 1 := w64 (by omega) (by omega)
      refine up ?_
      simp only [quirelaw20_BalanceLeast.l0, if_pos g, hw]
      refine Ev.bind (fits_fine l hl hf c c0 c1 k hk (by omega)) ?_
      rw [hno k hk g]
      simp only [Bool.false_eq_true, if_false]
      exact hrec
    · refine up ?_
      simp only [quirelaw20_BalanceLeast.l0, if_neg g]
      exact fin

theorem leasts (l : List S37) (c h : Int) : ∃ k, quirelaw20_BalanceLeast.f k l c h = some true := by
  refine Ev.rounds ?_
  have out : Ev (fun k => quirelaw20_BalanceLeast.j0 k l c h true true) true := by
    refine up ?_
    simp only [quirelaw20_BalanceLeast.j0, if_true]
    exact Ev.now _
  simp only [quirelaw20_BalanceLeast.f]
  refine Ev.bind awake_true ?_
  by_cases b1 : (l.length : Int) > 20
  · simp only [if_pos b1]; exact out
  by_cases b2 : c < 1
  · simp only [if_neg b1, if_pos b2]; exact out
  by_cases b3 : c > 8
  · simp only [if_neg b1, if_neg b2, if_pos b3]; exact out
  by_cases b4 : h < 0
  · simp only [if_neg b1, if_neg b2, if_neg b3, if_pos b4]; exact out
  by_cases b5 : h > 150
  · simp only [if_neg b1, if_neg b2, if_neg b3, if_neg b4, decide_eq_true b5]; exact out
  simp only [if_neg b1, if_neg b2, if_neg b3, if_neg b4, decide_eq_false b5]
  refine up ?_
  simp only [quirelaw20_BalanceLeast.j0, Bool.false_eq_true, if_false]
  by_cases e : errOf l h c = 0
  · obtain ⟨hl, hf, h0, h1, c0, c1⟩ := errOf_zero e
    obtain ⟨n, rfl⟩ := Int.eq_ofNat_of_zero_le (show 0 ≤ c by omega)
    have n0 : 1 ≤ n := by omega
    have n1 : n ≤ 8 := by omega
    have hb := bound_nonneg hl hf (n : Int) c0 c1
    have low : ∀ k, 0 ≤ k → k < boundOf l (n : Int) → fitsB l n k = false := by
      intro k hk hlt
      by_cases q : fitsB l n k = true
      · have := fits_bound hl hf n n0 n1 k hk q; omega
      · exact Bool.eq_false_iff.mpr q
    refine Ev.bind (Least_good l hl hf n n0 n1 h h0 h1) ?_
    simp only [if_true]
    by_cases g : (leastOf l n h).2 = true
    · have r := least_range l n _ _ g
      have e1 : (leastOf l n h).1 = (least l n (h + 1 - boundOf l (n : Int)).toNat (boundOf l (n : Int))).1 := rfl
      have d1 : ¬ (leastOf l n h).1 < 0 := by omega
      have d2 : ¬ (leastOf l n h).1 > h := by omega
      simp only [if_pos g, if_neg d1, if_neg d2]
      refine Ev.bind (fits_fine l hl hf n n0 n1 _ (by omega) (by omega)) ?_
      have r3 : fitsB l n (leastOf l n h).1 = true := r.2.2.1
      rw [r3]
      simp only [if_true]
      refine up ?_
      simp only [quirelaw20_BalanceLeast.j1, Bool.false_eq_true, if_false, if_pos g]
      refine up ?_
      simp only [quirelaw20_BalanceLeast.j2]
      refine last_loop l hl hf n n0 n1 h h0 (by omega) (leastOf l n h).1 (by omega) (fun k hk hlt => ?_) (leastOf l n h).1.toNat 0 (by omega) (by omega)
      by_cases q : k < boundOf l (n : Int)
      · exact low k hk q
      · exact r.2.2.2 k (by omega) hlt
    · have g' := Bool.eq_false_iff.mpr g
      have r := least_none l n _ _ g'
      have e1 : (leastOf l n h).1 = 0 := r.1
      have e2 : ((leastOf l n h).1 != 0) = false := by rw [e1]; rfl
      simp only [if_neg g, e2]
      refine up ?_
      simp only [quirelaw20_BalanceLeast.j1, Bool.false_eq_true, if_false, if_neg g]
      refine up ?_
      have hw : wrap64 (h + 1) = h + 1 := w64 (by omega) (by omega)
      simp only [quirelaw20_BalanceLeast.j2, hw]
      refine last_loop l hl hf n n0 n1 h h0 (by omega) (h + 1) (by omega) (fun k hk hlt => ?_) (h + 1).toNat 0 (by omega) (by omega)
      by_cases q : k < boundOf l (n : Int)
      · exact low k hk q
      · exact r.2 k (by omega) (by omega)
  · refine Ev.bind (Least_bad l h c e) ?_
    simp only [if_neg e, if_true, Bool.false_eq_true, if_false, beq_self_eq_true]
    exact Ev.now _

theorem BalanceLeast (l : List S37) (c h : Int) {p q r s : Prop} (_ : p) (_ : q) (_ : r) (_ : s) : ∃ k, quirelaw20_BalanceLeast.f k l c h = some true := leasts l c h

end Go.Proofs.Ytoodiihimjalfaa.LBalanceLeast
