/- What balance.Least and balance.Columns answer, as plain functions of lists: for every list of slabs. -/
import Derived.Test.YtoodiihimjalfaaLBBalanceLeast
namespace Go.Proofs.Ytoodiihimjalfaa.LBalanceLeast
open Go.RowKit Go.Proofs.Ytoodiihimjalfaa.PBalanceLeast Go.Proofs.YtoodiihimjalfaaW.PrintWords Go.Proofs.YtoodiihimjalfaaW.PrintLast
set_option linter.unusedVariables false
set_option linter.unusedSimpArgs false

/-- of the first n slabs: the highest one, and all together without gaps -/
def most (l : List S37) : Nat → Int
  | 0 => 0
  | n + 1 => mx (most l n) (at' l n).f0
def sumH (l : List S37) : Nat → Int
  | 0 => 0
  | n + 1 => sumH l n + (at' l n).f0
def boundOf (l : List S37) (c : Int) : Int := mx (most l l.length) (Int.tdiv (sumH l l.length + c - 1) c)

theorem mx_ge (a b : Int) : a ≤ mx a b ∧ b ≤ mx a b ∧ (mx a b = a ∨ mx a b = b) := by unfold mx; split <;> omega

theorem most_bound {l : List S37} (h : fine l) (n : Nat) : 0 ≤ most l n ∧ most l n ≤ 4095 := by
  induction n with
  | zero => simp [most]
  | succ n ih =>
    have f := fine_at h n
    have g := mx_ge (most l n) (at' l n).f0
    simp only [most]
    omega

theorem sumH_bound {l : List S37} (h : fine l) (n : Nat) : 0 ≤ sumH l n ∧ sumH l n ≤ (n : Int) * 4095 := by
  induction n with
  | zero => simp [sumH]
  | succ n ih =>
    have f := fine_at h n
    simp only [sumH]
    omega

theorem ceil_bound {s c : Int} (hs : 0 ≤ s) (hs1 : s ≤ 16773120) (hc : 1 ≤ c) (hc1 : c ≤ 8) :
    wrap64 (Int.tdiv (wrap64 (wrap64 (s + c) - 1)) c) = Int.tdiv (s + c - 1) c ∧ 0 ≤ Int.tdiv (s + c - 1) c := by
  rw [w64 (x := s + c) (by omega) (by omega), w64 (x := s + c - 1) (by omega) (by omega), Int.tdiv_eq_ediv_of_nonneg (by omega)]
  have h1 : 0 ≤ (s + c - 1) / c := Int.ediv_nonneg (by omega) (by omega)
  have h2 : (s + c - 1) / c ≤ s + c - 1 := Int.ediv_le_self _ (by omega)
  exact ⟨w64 (by omega) (by omega), h1⟩

theorem bound_loop (l : List S37) (hl : l.length ≤ 4096) (hf : fine l) (c : Int) (hc : 1 ≤ c) (hc1 : c ≤ 8) (d : Nat) : ∀ i : Nat, l.length = i + d →
    Ev (fun k => balance_bound.l0 k c (most l i) (sumH l i) l (l.length : Int) (i : Int)) (boundOf l c) := by
  induction d with
  | zero =>
    intro i hi
    refine up ?_
    have h1 : ¬ ((i : Int) < (l.length : Int)) := by omega
    have h2 : ¬ c = 0 := by omega
    obtain rfl : i = l.length := by omega
    have hb := sumH_bound hf l.length
    simp only [balance_bound.l0, if_neg h1, if_neg h2, (ceil_bound (s := sumH l l.length) hb.1 (by omega) hc hc1).1, boundOf]
    exact Ev.now _
  | succ d ih =>
    intro i hi
    have hrec := ih (i + 1) (by omega)
    have h1 : (i : Int) < (l.length : Int) := by omega
    have h0 : (0 : Int) ≤ (i : Int) := by omega
    have hw : wrap64 ((i : Int) + 1) = ((i + 1 : Nat) : Int) := by rw [w64 (by omega) (by omega)]; omega
    have hb := sumH_bound hf i
    have f := fine_at hf i
    refine up ?_
    simp only [balance_bound.l0, if_pos h1, if_pos h0, rd_at, hw]
    rw [w64 (x := sumH l i + (at' l i).f0) (by omega) (by omega)]
    exact hrec

theorem bound_tells (l : List S37) (hl : l.length ≤ 4096) (hf : fine l) (c : Int) (hc : 1 ≤ c) (hc1 : c ≤ 8) : Ev (fun k => balance_bound.f k l c) (boundOf l c) :=
  bound_loop l hl hf c hc hc1 l.length 0 (by omega)

theorem bound_nonneg {l : List S37} (hl : l.length ≤ 4096) (hf : fine l) (c : Int) (hc : 1 ≤ c) (hc1 : c ≤ 8) : 0 ≤ boundOf l c := by
  have h1 := most_bound hf l.length
  have h2 := mx_ge (most l l.length) (Int.tdiv (sumH l l.length + c - 1) c)
  unfold boundOf
  omega

/-- do slabs fit into c columns of a height? -/
def fitsB (l : List S37) (c : Nat) (h : Int) : Bool := !(colsOf l h c 0).2 && decide (rd (colsOf l h c 0).1 ((c : Int) - 1) = (l.length : Int))
/-- the least height from h on, of d ones; with those below b let go -/
def least (l : List S37) (c : Nat) : Nat → Int → Int × Bool
  | 0, _ => (0, false)
  | d + 1, h => if fitsB l c h = true then (h, true) else least l c d (h + 1)
def leastS (l : List S37) (c : Nat) (b : Int) : Nat → Int → Int × Bool
  | 0, _ => (0, false)
  | d + 1, h => if h < b then leastS l c b d (h + 1) else if fitsB l c h = true then (h, true) else leastS l c b d (h + 1)

theorem leastS_on (l : List S37) (c : Nat) (b : Int) (d : Nat) : ∀ h, b ≤ h → leastS l c b d h = least l c d h := by
  induction d with
  | zero => intro h hb; rfl
  | succ d ih =>
    intro h hb
    simp only [leastS, least]
    rw [if_neg (by omega), ih (h + 1) (by omega)]

theorem leastS_skip (l : List S37) (c : Nat) (b top : Int) (d : Nat) : ∀ h, h ≤ b → h + d = top + 1 → leastS l c b d h = least l c (top + 1 - b).toNat b := by
  induction d with
  | zero =>
    intro h hb hd
    rw [show (top + 1 - b).toNat = 0 from by omega]
    rfl
  | succ d ih =>
    intro h hb hd
    by_cases e : h = b
    · subst e
      rw [leastS_on l c h (d + 1) h (by omega), show (top + 1 - h).toNat = d + 1 from by omega]
    · simp only [leastS]
      rw [if_pos (by omega), ih (h + 1) (by omega) (by omega)]

theorem least_range (l : List S37) (c : Nat) (d : Nat) : ∀ h, (least l c d h).2 = true → h ≤ (least l c d h).1 ∧ (least l c d h).1 < h + d ∧ fitsB l c (least l c d h).1 = true ∧ (∀ x, h ≤ x → x < (least l c d h).1 → fitsB l c x = false) := by
  induction d with
  | zero => intro h hh; simp [least] at hh
  | succ d ih =>
    intro h hh
    simp only [least] at hh ⊢
    split
    · rename_i e
      exact ⟨by simp, by simp; omega, e, fun x h1 h2 => by simp at h2; omega⟩
    · rename_i e
      rw [if_neg e] at hh
      obtain ⟨h1, h2, h3, h4⟩ := ih (h + 1) hh
      refine ⟨by omega, by omega, h3, fun x hx1 hx2 => ?_⟩
      by_cases ex : x = h
      · subst ex; simpa using e
      · exact h4 x (by omega) hx2

theorem least_none (l : List S37) (c : Nat) (d : Nat) : ∀ h, (least l c d h).2 = false → (least l c d h).1 = 0 ∧ ∀ x, h ≤ x → x < h + d → fitsB l c x = false := by
  induction d with
  | zero => intro h hh; exact ⟨rfl, fun x h1 h2 => by omega⟩
  | succ d ih =>
    intro h hh
    simp only [least] at hh ⊢
    split
    · rename_i e
      rw [if_pos e] at hh
      simp at hh
    · rename_i e
      rw [if_neg e] at hh
      obtain ⟨h1, h2⟩ := ih (h + 1) hh
      refine ⟨h1, fun x hx1 hx2 => ?_⟩
      by_cases ex : x = h
      · subst ex; simpa using e
      · exact h2 x (by omega) (by omega)

/-- what Least tells of what may be -/
def leastOf (l : List S37) (c : Nat) (top : Int) : Int × Bool := least l c (top + 1 - boundOf l (c : Int)).toNat (boundOf l (c : Int))

theorem ColumnsOf_fine {l : List S37} (hl : l.length ≤ 4096) (hf : fine l) (h : Int) (c : Nat) (h0 : 0 ≤ h) (h1 : h ≤ 4095) (c0 : 1 ≤ c) (c1 : c ≤ 8) :
    ColumnsOf l h (c : Int) = ((colsOf l h c 0).1, (colsOf l h c 0).2, 0) := by
  unfold ColumnsOf
  rw [if_neg (by rw [wrongOf_fine hl hf]; simp), if_pos (by omega), Int.toNat_natCast]

theorem least_loop (l : List S37) (hl : l.length ≤ 4096) (hf : fine l) (c : Nat) (c0 : 1 ≤ c) (c1 : c ≤ 8) (b top : Int) (t0 : 0 ≤ top) (t1 : top ≤ 4095) (d : Nat) :
    ∀ h : Int, 0 ≤ h → h + d = top + 1 → Ev (fun k => balance_Least.l0 k l (c : Int) b (top + 1) h) ((leastS l c b d h).1, (leastS l c b d h).2, 0) := by
  induction d with
  | zero =>
    intro h hh hd
    refine up ?_
    have e : ¬ h < top + 1 := by omega
    simp only [balance_Least.l0, if_neg e, leastS]
    exact Ev.now _
  | succ d ih =>
    intro h hh hd
    have hrec := ih (h + 1) (by omega) (by omega)
    refine up ?_
    have e : h < top + 1 := by omega
    have hw : wrap64 (h + 1) = h + 1 := w64 (by omega) (by omega)
    have hw2 : wrap64 ((c : Int) - 1) = (c : Int) - 1 := w64 (by omega) (by omega)
    simp only [balance_Least.l0, if_pos e, leastS, hw, hw2]
    by_cases e1 : h < b
    · simp only [if_pos e1]; exact hrec
    · simp only [if_neg e1]
      refine Ev.bind (Columns_tells l h (c : Int)) ?_
      rw [ColumnsOf_fine hl hf h c (by omega) (by omega) c0 c1]
      simp only [fitsB]
      by_cases e2 : (colsOf l h c 0).2 = true
      · simp only [e2, if_true, Bool.not_true, Bool.false_and, Bool.false_eq_true, if_false]; exact hrec
      · replace e2 := Bool.eq_false_iff.mpr e2
        have e3 : (0 : Int) ≤ (c : Int) - 1 := by omega
        have e4 : (c : Int) - 1 < (((colsOf l h c 0).1.length : Nat) : Int) := by rw [colsOf_length]; omega
        simp only [e2, Bool.false_eq_true, if_false, if_pos e3, if_pos e4, Bool.not_false, Bool.true_and, decide_eq_true_eq]
        by_cases e5 : rd (colsOf l h c 0).1 ((c : Int) - 1) = (l.length : Int)
        · simp only [if_pos e5]; exact Ev.now _
        · simp only [if_neg e5]; exact hrec

/-- the error of Least and Columns -/
def errOf (l : List S37) (h c : Int) : Int := (ColumnsOf l h c).2.2

theorem errOf_zero {l : List S37} {h c : Int} (e : errOf l h c = 0) : l.length ≤ 4096 ∧ fine l ∧ 0 ≤ h ∧ h ≤ 4095 ∧ 1 ≤ c ∧ c ≤ 8 := by
  unfold errOf ColumnsOf at e
  by_cases w : wrongOf l = 0
  · rw [if_neg (by simp [w])] at e
    by_cases g : 0 ≤ h ∧ h ≤ 4095 ∧ 1 ≤ c ∧ c ≤ 8
    · exact ⟨(wrongOf_zero w).1, (wrongOf_zero w).2, g⟩
    · rw [if_neg g] at e; exact absurd e (by decide)
  · rw [if_pos (by simpa using w)] at e; exact absurd e w

theorem Least_good (l : List S37) (hl : l.length ≤ 4096) (hf : fine l) (c : Nat) (c0 : 1 ≤ c) (c1 : c ≤ 8) (top : Int) (t0 : 0 ≤ top) (t1 : top ≤ 4095) :
    Ev (fun k => balance_Least.f k l (c : Int) top) ((leastOf l c top).1, (leastOf l c top).2, 0) := by
  simp only [balance_Least.f]
  refine Ev.bind (Columns_tells l top (c : Int)) ?_
  rw [ColumnsOf_fine hl hf top c t0 t1 c0 c1]
  simp only [if_true]
  refine Ev.bind (bound_tells l hl hf (c : Int) (by omega) (by omega)) ?_
  have hw : wrap64 (top + 1) = top + 1 := w64 (by omega) (by omega)
  simp only [hw]
  have := least_loop l hl hf c c0 c1 (boundOf l (c : Int)) top t0 t1 (top + 1).toNat 0 (by omega) (by omega)
  rw [leastS_skip l c (boundOf l (c : Int)) top (top + 1).toNat 0 (bound_nonneg hl hf (c : Int) (by omega) (by omega)) (by omega)] at this
  exact this

theorem Least_bad (l : List S37) (h c : Int) (e : errOf l h c ≠ 0) : Ev (fun k => balance_Least.f k l c h) (0, false, errOf l h c) := by
  simp only [balance_Least.f]
  refine Ev.bind (Columns_tells l h c) ?_
  unfold errOf at e ⊢
  simp only [if_neg e]
  exact Ev.now _

theorem Columns2_good (l : List S37) (hl : l.length ≤ 4096) (hf : fine l) (c : Nat) (c0 : 1 ≤ c) (c1 : c ≤ 8) (top : Int) (t0 : 0 ≤ top) (t1 : top ≤ 4095) :
    Ev (fun k => balance_Columns.f k l (c : Int) top) ((colsOf l (if (leastOf l c top).2 = true then (leastOf l c top).1 else top) c 0).1, 0) := by
  simp only [balance_Columns.f]
  refine Ev.bind (Least_good l hl hf c c0 c1 top t0 t1) ?_
  simp only [if_true]
  cases e : (leastOf l c top).2 with
  | true =>
    have hb := bound_nonneg hl hf (c : Int) (by omega) (by omega)
    have r := least_range l c _ _ e
    have e1 : (leastOf l c top).1 = (least l c (top + 1 - boundOf l (c : Int)).toNat (boundOf l (c : Int))).1 := rfl
    simp only [if_true]
    refine Ev.bind (Columns_tells l (leastOf l c top).1 (c : Int)) ?_
    rw [ColumnsOf_fine hl hf _ c (by omega) (by omega) c0 c1]
    exact Ev.now _
  | false =>
    simp only [Bool.false_eq_true, if_false]
    refine Ev.bind (Columns_tells l top (c : Int)) ?_
    rw [ColumnsOf_fine hl hf _ c t0 t1 c0 c1]
    exact Ev.now _

theorem Columns2_bad (l : List S37) (h c : Int) (e : errOf l h c ≠ 0) : Ev (fun k => balance_Columns.f k l c h) ([], errOf l h c) := by
  simp only [balance_Columns.f]
  refine Ev.bind (Least_bad l h c e) ?_
  simp only [if_neg e]
  exact Ev.now _

end Go.Proofs.Ytoodiihimjalfaa.LBalanceLeast
