/- What column's inner functions answer, as plain functions of lists: for every list of slabs; bounds where they stand. -/
import Derived.Test.YtoodiihimjalfaaPBalanceLeastx1
import Derived.Test.YtoodiihimjalfaaPBalanceLeastx2
import Derived.Test.YtoodiihimjalfaaPBalanceLeastx3
import Derived.OpenShut
namespace Go.Proofs.Ytoodiihimjalfaa.LBalanceLeast
open Go.RowKit Go.Proofs.Ytoodiihimjalfaa.PBalanceLeast Go.Proofs.YtoodiihimjalfaaW.PrintWords Go.Proofs.YtoodiihimjalfaaW.PrintLast
set_option linter.unusedVariables false
set_option linter.unusedSimpArgs false

theorem w64 {x : Int} (h0 : -9223372036854775808 ≤ x) (h1 : x ≤ 9223372036854775807) : wrap64 x = x := by unfold wrap64; omega
theorem up {α : Type} {g : Nat → Option α} {r : α} (h : Ev (fun k => g (k + 1)) r) : Ev g r := Ev.step (fun _ => rfl) h

/-- slab i -/
def at' (l : List S37) (i : Nat) : S37 := l.getD i z37
theorem rd_at (l : List S37) (i : Nat) : rd_T37 l (i : Int) = at' l i := by simp [rd_T37, at']

def badS (s : S37) : Int := if 0 ≤ s.f0 ∧ s.f0 ≤ 4095 ∧ 0 ≤ s.f1 ∧ s.f1 ≤ 4095 then (if s.f2 = 0 ∨ s.f2 = 1 then 0 else 2) else 5
def firstBad : List S37 → Int
  | [] => 0
  | s :: t => if badS s = 0 then firstBad t else badS s
def wrongOf (l : List S37) : Int := if 4096 < l.length then 3 else firstBad l
/-- all slabs may be -/
def fine (l : List S37) : Prop := ∀ i, badS (at' l i) = 0

theorem badS_z : badS z37 = 0 := by decide

theorem fine_of (l : List S37) : firstBad l = 0 → fine l := by
  intro h i
  induction l generalizing i with
  | nil => simp [at', badS_z]
  | cons s t ih =>
    simp only [firstBad] at h
    split at h
    · rename_i hs
      cases i with
      | zero => simpa [at'] using hs
      | succ i => have := ih h i; simpa [at'] using this
    · rename_i hs
      exact absurd h hs

theorem fine_back (l : List S37) (h : fine l) : firstBad l = 0 := by
  induction l with
  | nil => rfl
  | cons s t ih =>
    have h0 : badS s = 0 := by simpa [at'] using h 0
    simp only [firstBad]
    rw [if_pos h0]
    exact ih (fun i => by simpa [at'] using h (i + 1))

theorem fine_at {l : List S37} (h : fine l) (i : Nat) : 0 ≤ (at' l i).f0 ∧ (at' l i).f0 ≤ 4095 ∧ 0 ≤ (at' l i).f1 ∧ (at' l i).f1 ≤ 4095 ∧ ((at' l i).f2 = 0 ∨ (at' l i).f2 = 1) := by
  have := h i
  unfold badS at this
  split at this
  · rename_i hc
    split at this
    · rename_i hk; exact ⟨hc.1, hc.2.1, hc.2.2.1, hc.2.2.2, hk⟩
    · omega
  · omega

theorem badS_cases (s : S37) : badS s = 0 ∨ badS s = 2 ∨ badS s = 5 := by
  unfold badS
  split
  · split <;> simp
  · simp

theorem drop_at (l : List S37) (i : Nat) (h : i < l.length) : l.drop i = at' l i :: l.drop (i + 1) := by
  rw [List.drop_eq_getElem_cons h]; simp [at', h]

theorem fits_tells (x : Int) : column_fits.f x = some (decide (0 ≤ x ∧ x ≤ 4095)) := by
  unfold column_fits.f
  by_cases h : x ≥ 0
  · rw [if_pos h]; simp [h]
  · rw [if_neg h]; simp; omega

theorem wrong_loop (l : List S37) (hl : l.length ≤ 4096) (d : Nat) : ∀ i : Nat, l.length = i + d → Ev (fun k => column_wrong.l0 k l (l.length : Int) (i : Int)) (firstBad (l.drop i)) := by
  induction d with
  | zero =>
    intro i hi
    refine up ?_
    have h1 : ¬ ((i : Int) < (l.length : Int)) := by omega
    simp only [column_wrong.l0, if_neg h1]
    rw [List.drop_of_length_le (by omega)]
    exact Ev.now _
  | succ d ih =>
    intro i hi
    have hrec := ih (i + 1) (by omega)
    have h1 : (i : Int) < (l.length : Int) := by omega
    have h0 : (0 : Int) ≤ (i : Int) := by omega
    have hw : wrap64 ((i : Int) + 1) = ((i + 1 : Nat) : Int) := by rw [w64 (by omega) (by omega)]; omega
    refine up ?_
    simp only [column_wrong.l0, if_pos h1, if_pos h0, rd_at, fits_tells, Option.bind_some]
    rw [drop_at l i (by omega)]
    generalize at' l i = s
    simp only [firstBad]
    by_cases a : 0 ≤ s.f0 ∧ s.f0 ≤ 4095
    · by_cases b : 0 ≤ s.f1 ∧ s.f1 ≤ 4095
      · simp only [a, b, decide_true, if_true, Bool.not_true, and_self]
        refine up ?_
        simp only [column_wrong.j1, hw, Bool.false_eq_true, if_false]
        by_cases c : s.f2 = 0
        · have hb : badS s = 0 := by unfold badS; rw [if_pos ⟨a.1, a.2, b.1, b.2⟩, if_pos (.inl c)]
          simp only [if_pos c, if_pos hb]
          exact hrec
        · by_cases c1 : s.f2 = 1
          · have hb : badS s = 0 := by unfold badS; rw [if_pos ⟨a.1, a.2, b.1, b.2⟩, if_pos (.inr c1)]
            simp only [if_neg c, if_pos c1, if_pos hb]
            exact hrec
          · have hb : badS s = 2 := by unfold badS; rw [if_pos ⟨a.1, a.2, b.1, b.2⟩, if_neg (by rintro (h | h); exact c h; exact c1 h)]
            simp only [if_neg c, if_neg c1, hb]
            exact Ev.now _
      · have hb : badS s = 5 := by unfold badS; rw [if_neg (fun h => b ⟨h.2.2.1, h.2.2.2⟩)]
        simp only [a, b, decide_true, decide_false, if_true, Bool.not_false, and_self, hb]
        refine up ?_
        simp only [column_wrong.j1, if_true]
        exact Ev.now _
    · have hb : badS s = 5 := by unfold badS; rw [if_neg (fun h => a ⟨h.1, h.2.1⟩)]
      simp only [a, decide_false, Bool.false_eq_true, if_false, hb]
      refine up ?_
      simp only [column_wrong.j1, if_true]
      exact Ev.now _

theorem wrong_tells (l : List S37) : Ev (fun k => column_wrong.f k l) (wrongOf l) := by
  unfold wrongOf
  simp only [column_wrong.f]
  by_cases h : 4096 < l.length
  · have h1 : (l.length : Int) > 4096 := by omega
    simp only [if_pos h1, if_pos h]
    exact Ev.now _
  · have h1 : ¬ (l.length : Int) > 4096 := by omega
    simp only [if_neg h1, if_neg h]
    exact wrong_loop l (by omega) l.length 0 (by omega)

theorem wrongOf_zero {l : List S37} (h : wrongOf l = 0) : l.length ≤ 4096 ∧ fine l := by
  unfold wrongOf at h
  split at h
  · omega
  · exact ⟨by omega, fine_of l h⟩

theorem wrongOf_fine {l : List S37} (hl : l.length ≤ 4096) (h : fine l) : wrongOf l = 0 := by
  unfold wrongOf
  rw [if_neg (by omega), fine_back l h]

/-- how high n slabs from a on are together -/
def hgt (l : List S37) (a : Nat) : Nat → Int
  | 0 => 0
  | n + 1 => hgt l a n + ((at' l (a + n)).f0 + if n = 0 then 0 else (at' l (a + n)).f1)

theorem hgt_bound {l : List S37} (h : fine l) (a n : Nat) : 0 ≤ hgt l a n ∧ hgt l a n ≤ (n : Int) * 8190 := by
  induction n with
  | zero => simp [hgt]
  | succ n ih =>
    have f := fine_at h (a + n)
    simp only [hgt]
    split <;> omega

theorem hgt_mono {l : List S37} (h : fine l) (a n m : Nat) (hm : n ≤ m) : hgt l a n ≤ hgt l a m := by
  induction m with
  | zero => obtain rfl : n = 0 := by omega
            exact Int.le_refl _
  | succ m ih =>
    by_cases e : n = m + 1
    · subst e; exact Int.le_refl _
    · have := ih (by omega)
      have f := fine_at h (a + m)
      simp only [hgt]
      split <;> omega

theorem hgt_sub (l : List S37) (a b : Nat) (hb : b ≤ l.length) : ∀ n, a + n ≤ b → hgt ((l.take b).drop a) 0 n = hgt l a n := by
  intro n
  induction n with
  | zero => intro _; rfl
  | succ n ih =>
    intro h
    have e : at' ((l.take b).drop a) (0 + n) = at' l (a + n) := by
      simp only [at', Nat.zero_add]
      rw [List.getD_eq_getElem?_getD, List.getD_eq_getElem?_getD, List.getElem?_drop, List.getElem?_take, if_pos (by omega)]
    simp only [hgt]
    rw [ih (by omega), e]

theorem fine_sub {l : List S37} (h : fine l) (a b : Nat) : fine ((l.take b).drop a) := by
  intro i
  by_cases hi : a + i < b
  · have e : at' ((l.take b).drop a) i = at' l (a + i) := by
      simp only [at']
      rw [List.getD_eq_getElem?_getD, List.getD_eq_getElem?_getD, List.getElem?_drop, List.getElem?_take, if_pos hi]
    rw [e]; exact h _
  · have e : at' ((l.take b).drop a) i = z37 := by
      simp only [at']
      rw [List.getD_eq_getElem?_getD, List.getElem?_drop, List.getElem?_take, if_neg hi]
      rfl
    rw [e]; exact badS_z

/-- a column filled: d slabs are left, i is next, up to last it may go by force, up to al it may go (0: nowhere yet) -/
def run (l : List S37) (a : Nat) (h : Int) : Nat → Nat → Nat → Nat → Nat × Bool
  | 0, _, last, al => if 0 < al then (al, false) else (last, true)
  | d + 1, i, last, al =>
    if h < hgt l a (i + 1 - a) then (if 0 < al then (al, false) else (last, true))
    else run l a h d (i + 1) (i + 1) (if i + 1 = l.length ∨ (at' l (i + 1)).f2 = 0 then i + 1 else al)
def fillOf (l : List S37) (a : Nat) (h : Int) : Nat × Bool := if a = l.length then (a, false) else run l a h (l.length - a) a (a + 1) 0

theorem hgt_step {l : List S37} (a i : Nat) (hi : a ≤ i) : hgt l a (i + 1 - a) = hgt l a (i - a) + ((at' l i).f0 + if i = a then 0 else (at' l i).f1) := by
  obtain ⟨n, rfl⟩ : ∃ n, i = a + n := ⟨i - a, by omega⟩
  rw [show a + n + 1 - a = n + 1 from by omega, show a + n - a = n from by omega]
  simp [hgt]

theorem fill_loop (l : List S37) (hl : l.length ≤ 4096) (hf : fine l) (a : Nat) (h : Int) (d : Nat) :
    ∀ i last al : Nat, a ≤ i → l.length = i + d → Ev (fun k => column_fill.l0 k l (a : Int) h (last : Int) (al : Int) (hgt l a (i - a)) (i : Int)) (((run l a h d i last al).1 : Int), (run l a h d i last al).2) := by
  induction d with
  | zero =>
    intro i last al ha hi
    refine up ?_
    have h1 : ¬ ((i : Int) < (l.length : Int)) := by omega
    simp only [column_fill.l0, if_neg h1, run]
    by_cases c : 0 < al
    · have c' : (al : Int) > 0 := by omega
      simp only [if_pos c, if_pos c']; exact Ev.now _
    · have c' : ¬ (al : Int) > 0 := by omega
      simp only [if_neg c, if_neg c']; exact Ev.now _
  | succ d ih =>
    intro i last al ha hi
    have h1 : (i : Int) < (l.length : Int) := by omega
    have h0 : (0 : Int) ≤ (i : Int) := by omega
    have h2 : (0 : Int) ≤ ((i + 1 : Nat) : Int) := by omega
    have hw : wrap64 ((i : Int) + 1) = ((i + 1 : Nat) : Int) := by rw [w64 (by omega) (by omega)]; omega
    have hb := hgt_bound hf a (i - a)
    have f := fine_at hf i
    have e := hgt_step (l := l) a i ha
    have base : Ev (fun k => column_fill.j1 k l (a : Int) h (last : Int) (al : Int) (hgt l a (i - a) + if i = a then 0 else (at' l i).f1) (i : Int)) (((run l a h (d + 1) i last al).1 : Int), (run l a h (d + 1) i last al).2) := by
      refine up ?_
      have es : wrap64 ((hgt l a (i - a) + if i = a then 0 else (at' l i).f1) + (at' l i).f0) = hgt l a (i + 1 - a) := by
        rw [w64 (by split <;> omega) (by split <;> omega), e]; omega
      simp only [column_fill.j1, if_pos h0, if_pos h1, rd_at, hw, es, run]
      by_cases c : h < hgt l a (i + 1 - a)
      · have c' : hgt l a (i + 1 - a) > h := c
        simp only [if_pos c, if_pos c']
        by_cases c2 : 0 < al
        · have c2' : (al : Int) > 0 := by omega
          simp only [if_pos c2, if_pos c2']; exact Ev.now _
        · have c2' : ¬ (al : Int) > 0 := by omega
          simp only [if_neg c2, if_neg c2']; exact Ev.now _
      · have c' : ¬ hgt l a (i + 1 - a) > h := c
        simp only [if_neg c, if_neg c']
        by_cases c3 : i + 1 = l.length
        · have c3' : ((i + 1 : Nat) : Int) = (l.length : Int) := by omega
          simp only [if_pos c3']
          have hrec := ih (i + 1) (i + 1) (i + 1) (by omega) (by omega)
          rw [if_pos (Or.inl c3)]
          exact hrec
        · have c3' : ¬ ((i + 1 : Nat) : Int) = (l.length : Int) := by omega
          have c4 : ((i + 1 : Nat) : Int) < (l.length : Int) := by omega
          simp only [if_neg c3', if_pos h2, if_pos c4]
          by_cases c5 : (at' l (i + 1)).f2 = 0
          · simp only [if_pos c5]
            rw [if_pos (Or.inr c5)]
            exact ih (i + 1) (i + 1) (i + 1) (by omega) (by omega)
          · simp only [if_neg c5]
            rw [if_neg (by rintro (q | q); exact c3 q; exact c5 q)]
            exact ih (i + 1) (i + 1) al (by omega) (by omega)
    refine up ?_
    simp only [column_fill.l0, if_pos h1, rd_at]
    by_cases c : i = a
    · have c' : ¬ (i : Int) > (a : Int) := by omega
      simp only [if_neg c']
      rw [if_pos c, Int.add_zero] at base
      exact base
    · have c' : (i : Int) > (a : Int) := by omega
      simp only [if_pos c', if_pos h0]
      rw [w64 (x := hgt l a (i - a) + (at' l i).f1) (by omega) (by omega)]
      rw [if_neg c] at base
      exact base

theorem fill_tells (l : List S37) (hl : l.length ≤ 4096) (hf : fine l) (a : Nat) (ha : a ≤ l.length) (h : Int) : Ev (fun k => column_fill.f k l (a : Int) h) (((fillOf l a h).1 : Int), (fillOf l a h).2) := by
  unfold fillOf
  simp only [column_fill.f]
  by_cases c : a = l.length
  · have c' : (a : Int) = (l.length : Int) := by omega
    simp only [if_pos c, if_pos c']
    exact Ev.now _
  · have c' : ¬ (a : Int) = (l.length : Int) := by omega
    have hw : wrap64 ((a : Int) + 1) = ((a + 1 : Nat) : Int) := by rw [w64 (by omega) (by omega)]; omega
    simp only [if_neg c, if_neg c', hw]
    have := fill_loop l hl hf a h (l.length - a) a (a + 1) 0 (by omega) (by omega)
    rw [show a - a = 0 from by omega] at this
    exact this

/-- what run tells lies ahead of it -/
theorem run_range (l : List S37) (a : Nat) (h : Int) (d : Nat) : ∀ i last al : Nat, a ≤ i → l.length = i + d → a < last → last ≤ l.length → (0 < al → a < al) → al ≤ i →
    a < (run l a h d i last al).1 ∧ (run l a h d i last al).1 ≤ l.length := by
  induction d with
  | zero =>
    intro i last al ha hi h1 h2 h3 h4
    simp only [run]
    split <;> simp <;> omega
  | succ d ih =>
    intro i last al ha hi h1 h2 h3 h4
    simp only [run]
    split
    · split <;> simp <;> omega
    · split
      · exact ih (i + 1) (i + 1) (i + 1) (by omega) (by omega) (by omega) (by omega) (by omega) (by omega)
      · exact ih (i + 1) (i + 1) al (by omega) (by omega) (by omega) (by omega) h3 (by omega)

theorem fillOf_range (l : List S37) (a : Nat) (h : Int) (ha : a ≤ l.length) : a ≤ (fillOf l a h).1 ∧ (fillOf l a h).1 ≤ l.length ∧ (a < l.length → a < (fillOf l a h).1) := by
  unfold fillOf
  split
  · simp; omega
  · have := run_range l a h (l.length - a) a (a + 1) 0 (by omega) (by omega) (by omega) (by omega) (by omega) (by omega)
    omega

end Go.Proofs.Ytoodiihimjalfaa.LBalanceLeast
