/- Where clusters begin, and which boundaries are next: the reference's answers are the plain spec's. -/
import Derived.Test.YtgohmckmekijiaaCA
import Derived.Test.YtgohmckmekijiaaA6
namespace Go.Proofs.Ytgohmckmekijiaa.PAll
open Go.RowKit Go.Proofs.YtgohmckmekijiaaW.PrintWords Go.Proofs.YtgohmckmekijiaaW.PrintLast Go.Proofs.YtgohmckmekijiaaW.PrintMore
set_option linter.unusedVariables false
set_option linter.unusedSimpArgs false

theorem clus_rest (s : ByteArray) : clus s = rest s 0 := rfl

/-- Start's loop from cluster i on, which begins at a -/
theorem rstart_loop (s : ByteArray) (hs : s.size ≤ 4096) (x : Int) (l : List S28) (hl : l.length ≤ 4096) (d : Nat) : ∀ (a i : Nat), s.size ≤ a + d → a ≤ s.size → l.drop i = rest s a →
    Ev (fun k => quireref06_Start.l0 k x l (i : Int)) (if (a : Int) ≤ x ∧ x < (s.size : Int) then (startIn x (rest s a), 0) else (0, 5)) := by
  induction d with
  | zero =>
    intro a i h1 h2 hd
    rw [rest_nil s a (by omega)] at hd
    have h3 : ¬ ((i : Int) < (l.length : Int)) := by have := List.drop_eq_nil_iff.1 hd; omega
    refine up ?_
    simp only [quireref06_Start.l0, if_neg h3]
    rw [if_neg (by omega)]
    exact Ev.now _
  | succ d ih =>
    intro a i h1 h2 hd
    by_cases ha : a < s.size
    · have hr := rest_cons s a ha
      rw [hr] at hd
      obtain ⟨hc, hlt, hd1⟩ := rd_drop l i _ _ hd
      have g := endOf_gt s a
      have ge := endOf_le s a ha
      have hrec := ih (endOf s a) (i + 1) (by omega) ge hd1
      have h3 : (i : Int) < (l.length : Int) := by omega
      have h0 : (0 : Int) ≤ (i : Int) := by omega
      have hw : wrap64 ((i : Int) + 1) = ((i + 1 : Nat) : Int) := by rw [w64 (by omega) (by omega)]; omega
      refine up ?_
      simp only [quireref06_Start.l0, if_pos h3, if_pos h0, hc, hw]
      have f0 : (clOf s a).f0 = (a : Int) := rfl
      have f1 : (clOf s a).f1 = (endOf s a : Int) := rfl
      rw [hr]
      simp only [startIn, f0, f1]
      by_cases e1 : (a : Int) ≤ x
      · by_cases e2 : x < (endOf s a : Int)
        · simp only [if_pos e1, if_pos e2]
          rw [if_pos ⟨e1, by omega⟩]
          exact Ev.now _
        · simp only [if_pos e1, if_neg e2]
          by_cases e3 : x < (s.size : Int)
          · rw [if_pos ⟨e1, e3⟩]
            rw [if_pos ⟨by omega, e3⟩] at hrec
            exact hrec
          · rw [if_neg (fun h => e3 h.2)]
            rw [if_neg (fun h => e3 h.2)] at hrec
            exact hrec
      · simp only [if_neg e1]
        rw [if_neg (fun h => e1 h.1)]
        rw [if_neg (by omega)] at hrec
        exact hrec
    · have e : s.size ≤ a := by omega
      rw [rest_nil s a e] at hd
      have h3 : ¬ ((i : Int) < (l.length : Int)) := by have := List.drop_eq_nil_iff.1 hd; omega
      refine up ?_
      simp only [quireref06_Start.l0, if_neg h3]
      rw [if_neg (by omega)]
      exact Ev.now _
theorem rstart_tells (s : ByteArray) (x : Int) : Ev (fun k => quireref06_Start.f k s x) (startOf s x) := by
  unfold quireref06_Start.f
  refine (rsplit_tells s).bind ?_
  have hl := split_len s
  unfold splitOf at hl ⊢
  unfold startOf
  by_cases h : wrongOf s = 0
  · simp only [if_pos h, if_true] at hl ⊢
    have := rstart_loop s (wrong_le s h) x (clus s) hl s.size 0 0 (by omega) (by omega) rfl
    rw [if_neg (fun q => q h)]
    by_cases e : x < 0 ∨ (s.size : Int) ≤ x
    · rw [if_pos e]
      rw [if_neg (by omega)] at this
      exact this
    · rw [if_neg e]
      rw [if_pos (by omega)] at this
      exact this
  · simp only [if_neg h]
    rw [if_pos h]
    exact Ev.now _

def bounds (s : ByteArray) (a : Nat) : List Int := (a : Int) :: (rest s a).map (·.f1)
theorem rbounds_loop (l : List S28) (hl : l.length ≤ 4096) (d : Nat) : ∀ (i : Nat) (acc : List Int), l.length = i + d → acc.length ≤ i + 1 → Ev (fun k => quireref06_Bounds.l0 k l acc (i : Int)) (acc ++ (l.drop i).map (·.f1)) := by
  induction d with
  | zero =>
    intro i acc hi ha
    refine up ?_
    have h1 : ¬ ((i : Int) < (l.length : Int)) := by omega
    simp only [quireref06_Bounds.l0, if_neg h1]
    rw [List.drop_of_length_le (by omega)]
    simp
    exact Ev.now _
  | succ d ih =>
    intro i acc hi ha
    have h1 : (i : Int) < (l.length : Int) := by omega
    have h0 : (0 : Int) ≤ (i : Int) := by omega
    have h2 : acc.length < 17592186044416 := by omega
    have hw : wrap64 ((i : Int) + 1) = ((i + 1 : Nat) : Int) := by rw [w64 (by omega) (by omega)]; omega
    have hrec := ih (i + 1) (acc ++ [(rd_T28 l (i : Int)).f1]) (by omega) (by simp; omega)
    refine up ?_
    simp only [quireref06_Bounds.l0, if_pos h1, if_pos h0, if_pos h2, hw]
    have hlt : i < l.length := by omega
    have hd : l.drop i = rd_T28 l (i : Int) :: l.drop (i + 1) := by rw [List.drop_eq_getElem_cons hlt]; simp [rd_T28, hlt]
    rw [hd, List.map_cons]
    rw [List.append_assoc, List.singleton_append] at hrec
    exact hrec
theorem rbounds_tells (s : ByteArray) (h : wrongOf s = 0) : Ev (fun k => quireref06_Bounds.f k s) (bounds s 0) := by
  unfold quireref06_Bounds.f
  refine (rsplit_tells s).bind ?_
  have hl := split_len s
  unfold splitOf at hl ⊢
  simp only [if_pos h] at hl ⊢
  exact rbounds_loop (clus s) hl (clus s).length 0 [0] (by omega) (by simp)
theorem bounds_len (s : ByteArray) (h : wrongOf s = 0) : (bounds s 0).length ≤ 4097 := by
  have := clusFrom_le s s.size 0
  have := wrong_le s h
  unfold bounds rest
  simp; omega

def firstGt (n x : Int) : List Int → Int
  | [] => n
  | b :: l => if b > x then b else firstGt n x l
def bestLt (x best : Int) : List Int → Int
  | [] => best
  | b :: l => bestLt x (if b < x then b else best) l
def anyEq (x : Int) : List Int → Bool
  | [] => false
  | b :: l => if b = x then true else anyEq x l

theorem rnext_loop (s : ByteArray) (x : Int) (l : List Int) (hl : l.length ≤ 5000) (d : Nat) : ∀ i : Nat, l.length = i + d → Ev (fun k => quireref06_Next.l0 k s x l (i : Int)) (firstGt s.size x (l.drop i), 0) := by
  induction d with
  | zero =>
    intro i hi
    refine up ?_
    have h1 : ¬ ((i : Int) < (l.length : Int)) := by omega
    simp only [quireref06_Next.l0, if_neg h1]
    rw [List.drop_of_length_le (by omega)]
    exact Ev.now _
  | succ d ih =>
    intro i hi
    have h1 : (i : Int) < (l.length : Int) := by omega
    have h0 : (0 : Int) ≤ (i : Int) := by omega
    have hw : wrap64 ((i : Int) + 1) = ((i + 1 : Nat) : Int) := by rw [w64 (by omega) (by omega)]; omega
    have hrec := ih (i + 1) (by omega)
    have hlt : i < l.length := by omega
    have hd : l.drop i = rd l (i : Int) :: l.drop (i + 1) := by rw [List.drop_eq_getElem_cons hlt]; simp [rd, hlt]
    refine up ?_
    simp only [quireref06_Next.l0, if_pos h1, if_pos h0, hw]
    rw [hd]
    simp only [firstGt]
    by_cases e : rd l (i : Int) > x
    · simp only [if_pos e]; exact Ev.now _
    · simp only [if_neg e]; exact hrec
theorem rprev_loop (x : Int) (l : List Int) (hl : l.length ≤ 5000) (d : Nat) : ∀ (i : Nat) (best : Int), l.length = i + d → Ev (fun k => quireref06_Prev.l0 k x l best (i : Int)) (bestLt x best (l.drop i), 0) := by
  induction d with
  | zero =>
    intro i best hi
    refine up ?_
    have h1 : ¬ ((i : Int) < (l.length : Int)) := by omega
    simp only [quireref06_Prev.l0, if_neg h1]
    rw [List.drop_of_length_le (by omega)]
    exact Ev.now _
  | succ d ih =>
    intro i best hi
    have h1 : (i : Int) < (l.length : Int) := by omega
    have h0 : (0 : Int) ≤ (i : Int) := by omega
    have hw : wrap64 ((i : Int) + 1) = ((i + 1 : Nat) : Int) := by rw [w64 (by omega) (by omega)]; omega
    have hlt : i < l.length := by omega
    have hd : l.drop i = rd l (i : Int) :: l.drop (i + 1) := by rw [List.drop_eq_getElem_cons hlt]; simp [rd, hlt]
    refine up ?_
    simp only [quireref06_Prev.l0, if_pos h1, if_pos h0, hw]
    rw [hd]
    simp only [bestLt]
    by_cases e : rd l (i : Int) < x
    · simp only [if_pos e]; exact ih (i + 1) _ (by omega)
    · simp only [if_neg e]; exact ih (i + 1) _ (by omega)
theorem rbound_loop (x : Int) (l : List Int) (hl : l.length ≤ 5000) (d : Nat) : ∀ i : Nat, l.length = i + d → Ev (fun k => quireref06_Bound.l0 k x l (i : Int)) (anyEq x (l.drop i)) := by
  induction d with
  | zero =>
    intro i hi
    refine up ?_
    have h1 : ¬ ((i : Int) < (l.length : Int)) := by omega
    simp only [quireref06_Bound.l0, if_neg h1]
    rw [List.drop_of_length_le (by omega)]
    exact Ev.now _
  | succ d ih =>
    intro i hi
    have h1 : (i : Int) < (l.length : Int) := by omega
    have h0 : (0 : Int) ≤ (i : Int) := by omega
    have hw : wrap64 ((i : Int) + 1) = ((i + 1 : Nat) : Int) := by rw [w64 (by omega) (by omega)]; omega
    have hrec := ih (i + 1) (by omega)
    have hlt : i < l.length := by omega
    have hd : l.drop i = rd l (i : Int) :: l.drop (i + 1) := by rw [List.drop_eq_getElem_cons hlt]; simp [rd, hlt]
    refine up ?_
    simp only [quireref06_Bound.l0, if_pos h1, if_pos h0, hw]
    rw [hd]
    simp only [anyEq]
    by_cases e : rd l (i : Int) = x
    · simp only [if_pos e]; exact Ev.now _
    · simp only [if_neg e]; exact hrec

theorem firstGt_map (n x : Int) : ∀ l : List S28, firstGt n x (l.map (·.f1)) = nextIn n x l
  | [] => rfl
  | c :: l => by simp only [List.map_cons, firstGt, nextIn]; rw [firstGt_map n x l]
theorem bestLt_bounds (s : ByteArray) (x : Int) (hx : x ≤ s.size) (d : Nat) : ∀ (a : Nat) (best : Int), s.size ≤ a + d → a ≤ s.size → bestLt x best (bounds s a) = prevIn x best (rest s a) := by
  induction d with
  | zero =>
    intro a best h1 h2
    unfold bounds
    rw [rest_nil s a (by omega)]
    simp only [List.map_nil, bestLt, prevIn]
    rw [if_neg (by omega)]
  | succ d ih =>
    intro a best h1 h2
    by_cases ha : a < s.size
    · have g := endOf_gt s a
      unfold bounds
      rw [rest_cons s a ha]
      simp only [List.map_cons, bestLt, prevIn]
      exact ih (endOf s a) _ (by omega) (endOf_le s a ha)
    · unfold bounds
      rw [rest_nil s a (by omega)]
      simp only [List.map_nil, bestLt, prevIn]
      rw [if_neg (by omega)]
theorem boundIn_out (s : ByteArray) (x : Int) (d : Nat) : ∀ a : Nat, s.size ≤ a + d → a ≤ s.size → (x < a ∨ (s.size : Int) < x) → boundIn x (rest s a) = false := by
  induction d with
  | zero => intro a h1 h2 hx; rw [rest_nil s a (by omega)]; rfl
  | succ d ih =>
    intro a h1 h2 hx
    by_cases ha : a < s.size
    · have g := endOf_gt s a
      rw [rest_cons s a ha]
      simp only [boundIn]
      rw [if_neg (show ¬ ((clOf s a).f0 = x) from by show ¬ ((a : Int) = x); omega)]
      exact ih (endOf s a) (by omega) (endOf_le s a ha) (by omega)
    · rw [rest_nil s a (by omega)]; rfl
theorem anyEq_bounds (s : ByteArray) (x : Int) (d : Nat) : ∀ a : Nat, s.size ≤ a + d → a ≤ s.size → anyEq x (bounds s a) = (boundIn x (rest s a) || decide (x = (s.size : Int))) := by
  induction d with
  | zero =>
    intro a h1 h2
    unfold bounds
    rw [rest_nil s a (by omega)]
    simp only [List.map_nil, anyEq, boundIn, Bool.false_or]
    by_cases e : (a : Int) = x
    · rw [if_pos e]; symm; exact decide_eq_true (by omega)
    · rw [if_neg e]; symm; exact decide_eq_false (by omega)
  | succ d ih =>
    intro a h1 h2
    by_cases ha : a < s.size
    · have g := endOf_gt s a
      have hrec := ih (endOf s a) (by omega) (endOf_le s a ha)
      unfold bounds at hrec ⊢
      rw [rest_cons s a ha]
      simp only [List.map_cons, anyEq, boundIn] at hrec ⊢
      by_cases e : (a : Int) = x
      · rw [if_pos e, if_pos (show (clOf s a).f0 = x from e)]; rfl
      · rw [if_neg e, if_neg (show ¬ ((clOf s a).f0 = x) from e)]
        exact hrec
    · unfold bounds
      rw [rest_nil s a (by omega)]
      simp only [List.map_nil, anyEq, boundIn, Bool.false_or]
      by_cases e : (a : Int) = x
      · rw [if_pos e]; symm; exact decide_eq_true (by omega)
      · rw [if_neg e]; symm; exact decide_eq_false (by omega)

theorem rnext_tells (s : ByteArray) (x : Int) : Ev (fun k => quireref06_Next.f k s x) (nextOf s x) := by
  unfold quireref06_Next.f
  refine (rwrong_tells s).bind ?_
  unfold nextOf placeOf
  by_cases h : wrongOf s = 0
  · have hs := wrong_le s h
    simp only [if_pos h]
    have five : Ev (fun k => quireref06_Next.j0 k s x true) (0, 5) := up (by simp only [quireref06_Next.j0, if_true]; exact Ev.now _)
    by_cases e1 : x < 0
    · simp only [if_pos e1, if_pos (show x < 0 ∨ (s.size : Int) < x from .inl e1)]
      exact five
    · simp only [if_neg e1]
      by_cases e2 : (s.size : Int) < x
      · have e3 : decide (x > (s.size : Int)) = true := decide_eq_true e2
        simp only [e3, if_pos (show x < 0 ∨ (s.size : Int) < x from .inr e2)]
        exact five
      · have e3 : decide (x > (s.size : Int)) = false := decide_eq_false e2
        have e4 : ¬ (x < 0 ∨ (s.size : Int) < x) := fun q => q.elim e1 e2
        simp only [e3, if_neg e4, ne_eq, not_true_eq_false, if_false]
        refine up ?_
        simp only [quireref06_Next.j0, Bool.false_eq_true, if_false]
        refine (rbounds_tells s h).bind ?_
        have := rnext_loop s x (bounds s 0) (by have := bounds_len s h; omega) (bounds s 0).length 0 (by omega)
        rw [List.drop_zero] at this
        have hb : firstGt s.size x (bounds s 0) = nextIn s.size x (clus s) := by
          unfold bounds
          simp only [firstGt]
          rw [if_neg (by omega), firstGt_map]
          rfl
        rw [hb] at this
        exact this
  · simp only [if_neg h, if_pos h, ne_eq, not_false_eq_true, if_true]
    exact Ev.now _
theorem rprev_tells (s : ByteArray) (x : Int) : Ev (fun k => quireref06_Prev.f k s x) (prevOf s x) := by
  unfold quireref06_Prev.f
  refine (rwrong_tells s).bind ?_
  unfold prevOf placeOf
  by_cases h : wrongOf s = 0
  · have hs := wrong_le s h
    simp only [if_pos h]
    have five : Ev (fun k => quireref06_Prev.j0 k s x true) (0, 5) := up (by simp only [quireref06_Prev.j0, if_true]; exact Ev.now _)
    by_cases e1 : x < 0
    · simp only [if_pos e1, if_pos (show x < 0 ∨ (s.size : Int) < x from .inl e1)]
      exact five
    · simp only [if_neg e1]
      by_cases e2 : (s.size : Int) < x
      · have e3 : decide (x > (s.size : Int)) = true := decide_eq_true e2
        simp only [e3, if_pos (show x < 0 ∨ (s.size : Int) < x from .inr e2)]
        exact five
      · have e3 : decide (x > (s.size : Int)) = false := decide_eq_false e2
        have e4 : ¬ (x < 0 ∨ (s.size : Int) < x) := fun q => q.elim e1 e2
        simp only [e3, if_neg e4, ne_eq, not_true_eq_false, if_false]
        refine up ?_
        simp only [quireref06_Prev.j0, Bool.false_eq_true, if_false]
        refine (rbounds_tells s h).bind ?_
        have := rprev_loop x (bounds s 0) (by have := bounds_len s h; omega) (bounds s 0).length 0 0 (by omega)
        rw [List.drop_zero, bestLt_bounds s x (by omega) s.size 0 0 (by omega) (by omega)] at this
        exact this
  · simp only [if_neg h, if_pos h, ne_eq, not_false_eq_true, if_true]
    exact Ev.now _
theorem rbound_tells (s : ByteArray) (x : Int) : Ev (fun k => quireref06_Bound.f k s x) (boundOf s x) := by
  unfold quireref06_Bound.f
  refine (rwrong_tells s).bind ?_
  by_cases h : wrongOf s = 0
  · simp only [if_pos h]
    refine (rbounds_tells s h).bind ?_
    have := rbound_loop x (bounds s 0) (by have := bounds_len s h; omega) (bounds s 0).length 0 (by omega)
    rw [List.drop_zero, anyEq_bounds s x s.size 0 (by omega) (by omega)] at this
    have hb : boundOf s x = (boundIn x (rest s 0) || decide (x = (s.size : Int))) := by
      unfold boundOf
      by_cases e : x < 0 ∨ (s.size : Int) < x
      · rw [if_pos (.inr e), boundIn_out s x s.size 0 (by omega) (by omega) (by omega)]
        simp; omega
      · rw [if_neg (fun q => q.elim (fun q => q h) e)]; rfl
    rw [hb]
    exact this
  · simp only [if_neg h]
    unfold boundOf
    rw [if_pos (.inl h)]
    exact Ev.now _

theorem moves_holds : quirelaw06_ClusterMoves.Pure := by
  intro s x _ _
  refine Ev.rounds ?_
  unfold quirelaw06_ClusterMoves.f
  refine Ev.bind (a := startOf s x) (Ev.now _) ?_
  refine (rstart_tells s x).bind ?_
  refine Ev.bind (a := nextOf s x) (Ev.now _) ?_
  refine (rnext_tells s x).bind ?_
  refine Ev.bind (a := prevOf s x) (Ev.now _) ?_
  refine (rprev_tells s x).bind ?_
  simp only [if_true]
  refine Ev.bind (a := boundOf s x) (Ev.now _) ?_
  refine (rbound_tells s x).bind ?_
  simp only [beq_self_eq_true, if_true]
  exact awake_tells.bind (Ev.now _)
end Go.Proofs.Ytgohmckmekijiaa.PAll
