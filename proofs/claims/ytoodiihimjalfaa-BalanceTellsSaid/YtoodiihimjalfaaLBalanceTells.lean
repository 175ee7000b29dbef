/- The least height and its columns are told as by the reference, or just the reference's error: for every list of slabs and every two whole numbers; no further condition. -/
import Derived.Test.YtoodiihimjalfaaLCBalanceTells
import Derived.Test.YtoodiihimjalfaaLDBalanceTells
import Derived.Test.YtoodiihimjalfaaLEBalanceTells
import Derived.Test.YtoodiihimjalfaaPBalanceTellsx6
namespace Go.Proofs.Ytoodiihimjalfaa.LBalanceTells
open Go.RowKit Go.Proofs.Ytoodiihimjalfaa.PBalanceTells Go.Proofs.YtoodiihimjalfaaW.PrintWords Go.Proofs.YtoodiihimjalfaaW.PrintLast
set_option linter.unusedVariables false
set_option linter.unusedSimpArgs false

theorem check20 (l : List S37) (h c : Int) : Ev (fun k => quireref20_Check.f k l c h) (errOf l h c) := by
  simp only [quireref20_Check.f]
  refine Ev.bind (check_tells l 0 (l.length : Int)) ?_
  have hr : rangeOf l 0 (l.length : Int) = 0 := by unfold rangeOf; rw [if_neg (by omega)]
  unfold errOf ColumnsOf checkOf
  by_cases w : wrongOf l = 0
  · simp only [w, hr, if_true, ne_eq, not_true, if_false]
    by_cases a1 : h < 0
    · rw [if_neg (show ¬ (0 ≤ h ∧ h ≤ 4095 ∧ 1 ≤ c ∧ c ≤ 8) by omega)]
      simp only [if_pos a1]; exact Ev.now _
    by_cases a2 : h > 4095
    · rw [if_neg (show ¬ (0 ≤ h ∧ h ≤ 4095 ∧ 1 ≤ c ∧ c ≤ 8) by omega)]
      simp only [if_neg a1, if_pos a2]; exact Ev.now _
    by_cases a3 : c < 1
    · rw [if_neg (show ¬ (0 ≤ h ∧ h ≤ 4095 ∧ 1 ≤ c ∧ c ≤ 8) by omega)]
      simp only [if_neg a1, if_neg a2, if_pos a3]; exact Ev.now _
    by_cases a4 : c > 8
    · rw [if_neg (show ¬ (0 ≤ h ∧ h ≤ 4095 ∧ 1 ≤ c ∧ c ≤ 8) by omega)]
      simp only [if_neg a1, if_neg a2, if_neg a3, if_pos a4]; exact Ev.now _
    · rw [if_pos (show (0 ≤ h ∧ h ≤ 4095 ∧ 1 ≤ c ∧ c ≤ 8) by omega)]
      simp only [if_neg a1, if_neg a2, if_neg a3, if_neg a4]; exact Ev.now _
  · simp only [w, if_false, ne_eq, not_false_eq_true, if_true]; exact Ev.now _

theorem fits20 (l : List S37) (hl : l.length ≤ 4096) (hf : fine l) (c : Nat) (c0 : 1 ≤ c) (c1 : c ≤ 8) (h : Int) : Ev (fun k => quireref20_fits.f k l (c : Int) h) (fitsB l c h) := by
  simp only [quireref20_fits.f]
  refine Ev.bind (refCols_tells l hl hf h (c : Int) (by omega) (by omega)) ?_
  have hw2 : wrap64 ((c : Int) - 1) = (c : Int) - 1 := w64 (by omega) (by omega)
  have e3 : (0 : Int) ≤ (c : Int) - 1 := by omega
  have e4 : (c : Int) - 1 < (((colsOf l h c 0).1.length : Nat) : Int) := by rw [colsOf_length]; omega
  simp only [Int.toNat_natCast, hw2, if_pos e3, if_pos e4, fitsB]
  by_cases e2 : (colsOf l h c 0).2 = true
  · simp only [e2, if_true, Bool.not_true, Bool.false_and]; exact Ev.now _
  · replace e2 := Bool.eq_false_iff.mpr e2
    simp only [e2, Bool.false_eq_true, if_false, Bool.not_false, Bool.true_and]
    have : (rd (colsOf l h c 0).1 ((c : Int) - 1) == (l.length : Int)) = decide (rd (colsOf l h c 0).1 ((c : Int) - 1) = (l.length : Int)) := by
      by_cases q : rd (colsOf l h c 0).1 ((c : Int) - 1) = (l.length : Int) <;> simp [q]
    rw [this]
    exact Ev.now _

theorem least20_high (l : List S37) (hl : l.length ≤ 4096) (hf : fine l) (c : Nat) (c0 : 1 ≤ c) (c1 : c ≤ 8) (top : Int) (t1 : top ≤ 4095) (d : Nat) :
    ∀ h : Int, 0 ≤ h → d = (top + 1 - h).toNat → Ev (fun k => quireref20_Least.l1 k l (c : Int) top h) (least l c d h) := by
  induction d with
  | zero =>
    intro h hh hd
    refine up ?_
    have e : ¬ h ≤ top := by omega
    simp only [quireref20_Least.l1, if_neg e, least]
    exact Ev.now _
  | succ d ih =>
    intro h hh hd
    have hrec := ih (h + 1) (by omega) (by omega)
    refine up ?_
    have e : h ≤ top := by omega
    have hw : wrap64 (h + 1) = h + 1 := w64 (by omega) (by omega)
    simp only [quireref20_Least.l1, if_pos e, least, hw]
    refine Ev.bind (fits20 l hl hf c c0 c1 h) ?_
    by_cases q : fitsB l c h = true
    · simp only [if_pos q]; exact Ev.now _
    · simp only [if_neg q]; exact hrec

theorem least20_loop (l : List S37) (hl : l.length ≤ 4096) (hf : fine l) (c : Nat) (c0 : 1 ≤ c) (c1 : c ≤ 8) (top : Int) (t0 : 0 ≤ top) (t1 : top ≤ 4095) (d : Nat) : ∀ i : Nat, l.length = i + d →
    Ev (fun k => quireref20_Least.l0 k l (c : Int) top (sumH l i) (most l i) (i : Int)) (leastOf l c top) := by
  induction d with
  | zero =>
    intro i hi
    refine up ?_
    have h1 : ¬ ((i : Int) < (l.length : Int)) := by omega
    have h2 : ¬ (c : Int) = 0 := by omega
    obtain rfl : i = l.length := by omega
    have hb := sumH_bound hf l.length
    simp only [quireref20_Least.l0, if_neg h1, if_neg h2, (ceil_bound (s := sumH l l.length) (c := (c : Int)) hb.1 (by omega) (by omega) (by omega)).1]
    exact least20_high l hl hf c c0 c1 top t1 _ _ (bound_nonneg hl hf (c : Int) (by omega) (by omega)) rfl
  | succ d ih =>
    intro i hi
    have hrec := ih (i + 1) (by omega)
    have h1 : (i : Int) < (l.length : Int) := by omega
    have h0 : (0 : Int) ≤ (i : Int) := by omega
    have hw : wrap64 ((i : Int) + 1) = ((i + 1 : Nat) : Int) := by rw [w64 (by omega) (by omega)]; omega
    have hb := sumH_bound hf i
    have f := fine_at hf i
    refine up ?_
    simp only [quireref20_Least.l0, if_pos h1, if_pos h0, rd_at, hw]
    rw [w64 (x := sumH l i + (at' l i).f0) (by omega) (by omega)]
    exact hrec

theorem Least20 (l : List S37) (hl : l.length ≤ 4096) (hf : fine l) (c : Nat) (c0 : 1 ≤ c) (c1 : c ≤ 8) (top : Int) (t0 : 0 ≤ top) (t1 : top ≤ 4095) :
    Ev (fun k => quireref20_Least.f k l (c : Int) top) (leastOf l c top) := least20_loop l hl hf c c0 c1 top t0 t1 l.length 0 (by omega)

theorem Columns20 (l : List S37) (hl : l.length ≤ 4096) (hf : fine l) (c : Nat) (c0 : 1 ≤ c) (c1 : c ≤ 8) (top : Int) (t0 : 0 ≤ top) (t1 : top ≤ 4095) :
    Ev (fun k => quireref20_Columns.f k l (c : Int) top) (colsOf l (if (leastOf l c top).2 = true then (leastOf l c top).1 else top) c 0).1 := by
  simp only [quireref20_Columns.f]
  refine Ev.bind (Least20 l hl hf c c0 c1 top t0 t1) ?_
  cases e : (leastOf l c top).2 with
  | true =>
    simp only [if_true]
    refine Ev.bind (refCols_tells l hl hf _ (c : Int) (by omega) (by omega)) ?_
    simp only [Int.toNat_natCast]; exact Ev.now _
  | false =>
    simp only [Bool.false_eq_true, if_false]
    refine Ev.bind (refCols_tells l hl hf _ (c : Int) (by omega) (by omega)) ?_
    simp only [Int.toNat_natCast]; exact Ev.now _

theorem cmp_loop (l : List S37) (hl : l.length ≤ 4200) (c h x8 : Int) (x9 : Bool) (x10 : Int) (x11 : List Int) (x12 : Int)
    (he : x10 = errOf l h c) (he2 : x12 = errOf l h c)
    (fin : Ev (fun k => quirelaw20_BalanceTells.j2 k l c h x8 x9 x11 (errOf l h c) false) true) (d : Nat) :
    ∀ i : Nat, l.length = i + d → Ev (fun k => quirelaw20_BalanceTells.l0 k l c h l x8 x9 x10 x11 x12 (i : Int)) true := by
  subst he he2
  induction d with
  | zero =>
    intro i hi
    refine up ?_
    have h1 : ¬ ((i : Int) < (l.length : Int)) := by omega
    simp only [quirelaw20_BalanceTells.l0, if_neg h1]
    refine Ev.bind (check20 l h c) ?_
    simp only [if_true, bne_self_eq_false]
    exact fin
  | succ d ih =>
    intro i hi
    have hrec := ih (i + 1) (by omega)
    have h1 : (i : Int) < (l.length : Int) := by omega
    have h0 : (0 : Int) ≤ (i : Int) := by omega
    have hw : wrap64 ((i : Int) + 1) = ((i + 1 : Nat) : Int) := by rw [w64 (by omega) (by omega)]; omega
    refine up ?_
    simp only [quirelaw20_BalanceTells.l0, if_pos h1, if_pos h0, beq_self_eq_true, Bool.not_true, Bool.or_false, Bool.false_eq_true, if_false, hw]
    exact hrec

theorem tells (l : List S37) (c h : Int) : ∃ k, quirelaw20_BalanceTells.f k l c h = some true := by
  refine Ev.rounds ?_
  have out : Ev (fun k => quirelaw20_BalanceTells.j0 k l c h true) true := by
    refine up ?_
    simp only [quirelaw20_BalanceTells.j0, if_true]
    exact Ev.now _
  have go : l.length ≤ 4200 → Ev (fun k => quirelaw20_BalanceTells.j0 k l c h false) true := by
    intro hl
    refine up ?_
    have hn : ([] : List S37).length + l.length < 5864062014805 := by simp; omega
    simp only [quirelaw20_BalanceTells.j0, Bool.false_eq_true, if_false, Option.bind_some, if_pos hn, List.nil_append]
    by_cases e : errOf l h c = 0
    · obtain ⟨l1, l2, h0, h1, c0, c1⟩ := errOf_zero e
      obtain ⟨n, rfl⟩ := Int.eq_ofNat_of_zero_le (show 0 ≤ c by omega)
      refine Ev.bind (Least_good l l1 l2 n (by omega) (by omega) h h0 h1) (Ev.bind (Columns2_good l l1 l2 n (by omega) (by omega) h h0 h1) ?_)
      refine cmp_loop l hl (n : Int) h _ _ _ _ _ e.symm e.symm ?_ l.length 0 (by omega)
      rw [e]
      refine up ?_
      simp only [quirelaw20_BalanceTells.j2, Bool.false_eq_true, if_false, if_true]
      refine Ev.bind (Least20 l l1 l2 n (by omega) (by omega) h h0 h1) ?_
      simp only [if_true, beq_self_eq_true]
      refine Ev.bind (Columns20 l l1 l2 n (by omega) (by omega) h h0 h1) ?_
      refine Ev.bind (same_self _ (by rw [colsOf_length]; omega)) ?_
      exact Ev.now _
    · refine Ev.bind (Least_bad l h c e) (Ev.bind (Columns2_bad l h c e) ?_)
      refine cmp_loop l hl c h _ _ _ _ _ rfl rfl ?_ l.length 0 (by omega)
      refine up ?_
      simp only [quirelaw20_BalanceTells.j2, Bool.false_eq_true, if_false, if_true, if_neg e, List.length_nil, Int.natCast_zero, beq_self_eq_true]
      exact Ev.now _
  simp only [quirelaw20_BalanceTells.f]
  by_cases b1 : (l.length : Int) > 40
  · simp only [if_pos b1]
    by_cases b2 : (l.length : Int) ≤ 4096
    · simp only [if_pos b2]; exact out
    · simp only [if_neg b2]
      by_cases b3 : (l.length : Int) > 4200
      · simp only [if_pos b3]; exact out
      · simp only [if_neg b3]
        by_cases b4 : h > 600
        · simp only [if_pos b4]
          by_cases b5 : h ≤ 4095
          · simp only [decide_eq_true b5]; exact out
          · simp only [decide_eq_false b5]; exact go (by omega)
        · simp only [if_neg b4]; exact go (by omega)
  · simp only [if_neg b1]
    by_cases b3 : (l.length : Int) > 4200
    · simp only [if_pos b3]; exact out
    · simp only [if_neg b3]
      by_cases b4 : h > 600
      · simp only [if_pos b4]
        by_cases b5 : h ≤ 4095
        · simp only [decide_eq_true b5]; exact out
        · simp only [decide_eq_false b5]; exact go (by omega)
      · simp only [if_neg b4]; exact go (by omega)

theorem BalanceTells (l : List S37) (c h : Int) {p q r s : Prop} (_ : p) (_ : q) (_ : r) (_ : s) : ∃ k, quirelaw20_BalanceTells.f k l c h = some true := tells l c h

end Go.Proofs.Ytoodiihimjalfaa.LBalanceTells
