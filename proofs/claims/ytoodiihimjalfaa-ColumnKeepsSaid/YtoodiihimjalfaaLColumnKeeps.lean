/- Whatever stands in a column keeps orphans, widows and wholes as ColumnKeeps asks: for every five whole numbers and a bool; no further condition. -/
import Derived.Test.YtoodiihimjalfaaMColumnKeeps
import Derived.OpenShut
namespace Go.Proofs.Ytoodiihimjalfaa.LColumnKeeps
open Go.RowKit Go.Proofs.Ytoodiihimjalfaa.PColumnKeeps Go.Proofs.YtoodiihimjalfaaW.PrintWords Go.Proofs.YtoodiihimjalfaaW.PrintLast
set_option linter.unusedVariables false
set_option linter.unusedSimpArgs false

theorem w64 {x : Int} (h0 : -9223372036854775808 ≤ x) (h1 : x ≤ 9223372036854775807) : wrap64 x = x := by unfold wrap64; omega
theorem up {α : Type} {g : Nat → Option α} {r : α} (h : Ev (fun k => g (k + 1)) r) : Ev g r := Ev.step (fun _ => rfl) h

/-- What Split tells of what may be and does not fit whole. -/
def best (n fit o w wh : Int) (top : Bool) : Int :=
  if wh = 0 ∧ o ≤ (if fit ≤ n - w then fit else n - w) then (if fit ≤ n - w then fit else n - w) else if top = true then (if fit ≤ 1 then 1 else fit) else 0

/-- What is wrong with the numbers: as Fits says it. -/
def wrongs (n fit o w wh : Int) : Int := if n < 1 ∨ 4096 < n ∨ fit < 0 then 5 else if o < 1 ∨ 4 < o ∨ w < 1 ∨ 4 < w ∨ wh < 0 ∨ 1 < wh then 2 else 0

theorem split_tells (n fit o w wh : Int) (top : Bool) (k : Nat) (hn : n < 9223372036854775808) :
    column_Split.f (k + 3) n fit o w wh top = some (if wrongs n fit o w wh ≠ 0 then (0, wrongs n fit o w wh) else if n ≤ fit then (n, 0) else (best n fit o w wh top, 0)) := by
  unfold column_Split.f wrongs
  by_cases a : n < 1 ∨ 4096 < n ∨ fit < 0
  · rw [if_pos a]
    simp only [column_Split.j0]
    by_cases a1 : n < 1
    · rw [if_pos a1]; simp
    · by_cases a2 : n > 4096
      · rw [if_neg a1, if_pos a2]; simp
      · have : fit < 0 := by omega
        rw [if_neg a1, if_neg a2]; simp [this]
  · rw [if_neg a, if_neg (by omega), if_neg (by omega)]
    have hf : decide (fit < 0) = false := by simp; omega
    rw [hf]
    simp only [column_Split.j0, column_Split.j1, Bool.false_eq_true, if_false, if_true]
    by_cases b : o < 1 ∨ 4 < o ∨ w < 1 ∨ 4 < w ∨ wh < 0 ∨ 1 < wh
    · rw [if_pos b]
      have b0 : (2 : Int) ≠ 0 := by decide
      rw [if_pos b0]
      by_cases c1 : o < 1
      · rw [if_pos c1]
      rw [if_neg c1]
      by_cases c2 : o > 4
      · rw [if_pos c2]
      rw [if_neg c2]
      by_cases c3 : w < 1
      · rw [if_pos c3]
      rw [if_neg c3]
      by_cases c4 : w > 4
      · rw [if_pos c4]
      rw [if_neg c4, if_neg (by omega)]
      have : (wh != 1) = true := by rw [bne_iff_ne]; omega
      rw [if_pos this]
    · rw [if_neg b]
      have b0 : ¬ ((0 : Int) ≠ 0) := by decide
      rw [if_neg b0, if_neg (by omega), if_neg (by omega), if_neg (by omega), if_neg (by omega)]
      have e2 : wrap64 (n - w) = n - w := w64 (by omega) (by omega)
      have em : mn fit (n - w) = (if fit ≤ n - w then fit else n - w) := by unfold mn; split <;> split <;> omega
      have ex : mx fit 1 = (if fit ≤ 1 then 1 else fit) := by unfold mx; split <;> split <;> omega
      have hb1 : wh ≠ 0 → (wh != 1) = false := fun h => by rw [bne_eq_false_iff_eq]; omega
      rw [e2, em]
      simp only [column_Split.j2]
      rw [ex]
      generalize hm : (if fit ≤ n - w then fit else n - w) = m
      generalize hq : (if fit ≤ 1 then (1 : Int) else fit) = q
      by_cases c : n ≤ fit
      · by_cases c0 : wh = 0
        · simp [c0, c]
        · simp [c0, c, hb1 c0]
      · unfold best
        rw [hm, hq]
        by_cases c0 : wh = 0
        · by_cases c5 : o ≤ m
          · simp [c0, c, c5]
          · cases top <;> simp [c0, c, c5]
        · cases top <;> simp [c0, c, hb1 c0]

theorem mx_one (x : Int) : mx x 1 = (if x ≤ 1 then 1 else x) := by unfold mx; split <;> split <;> omega

theorem l0_loop (n fit o w wh : Int) (ok : Bool) (k0 : Int) (keeps : Bool) (hn0 : 1 ≤ n) (hn : n ≤ 4096)
    (fin : ∀ b : Int, Ev (fun k => quirelaw19_ColumnKeeps.j5 k n fit o w wh ok k0 keeps b false) true) (d : Nat) :
    ∀ b : Int, 0 ≤ b → b ≤ n + 1 → n + 1 - b = d → (∀ m, b ≤ m → m ≤ n → m ≤ fit → m ≠ n ∧ ¬ (o ≤ m ∧ w ≤ n - m ∧ wh = 0)) →
      Ev (fun k => quirelaw19_ColumnKeeps.l0 k n fit o w wh ok k0 keeps b) true := by
  induction d with
  | zero =>
    intro b h0 h1 hd hno
    refine up ?_
    have c : ¬ b ≤ n := by omega
    simp only [quirelaw19_ColumnKeeps.l0, if_neg c]
    exact fin b
  | succ d ih =>
    intro b h0 h1 hd hno
    refine up ?_
    have c : b ≤ n := by omega
    simp only [quirelaw19_ColumnKeeps.l0, if_pos c]
    by_cases e : b ≤ fit
    · simp only [decide_eq_true e]
      have hw : wrap64 (b + 1) = b + 1 := w64 (by omega) (by omega)
      have hw2 : wrap64 (n - b) = n - b := w64 (by omega) (by omega)
      have hrec := ih (b + 1) (by omega) (by omega) (by omega) (fun m hm => hno m (by omega))
      obtain ⟨g1, g2⟩ := hno b (Int.le_refl _) c e
      refine up ?_
      simp only [quirelaw19_ColumnKeeps.j5, if_true, if_neg g1, hw, hw2]
      by_cases a1 : b ≥ o
      · simp only [if_pos a1]
        by_cases a2 : n - b ≥ w
        · simp only [if_pos a2, if_neg (fun a3 => g2 ⟨a1, a2, a3⟩)]; exact hrec
        · simp only [if_neg a2]; exact hrec
      · simp only [if_neg a1]; exact hrec
    · simp only [decide_eq_false e]; exact fin b

theorem l1_loop (n fit o w wh : Int) (hn0 : 1 ≤ n) (hn : n ≤ 4096) (d : Nat) :
    ∀ b : Int, 1 ≤ b → b ≤ n → n - b = d → (∀ m, b ≤ m → m ≤ fit → m < n → ¬ (o ≤ m ∧ w ≤ n - m ∧ wh = 0)) →
      Ev (fun k => quirelaw19_ColumnKeeps.l1 k n fit o w wh true (mx fit 1) b) true := by
  have fin : ∀ b : Int, Ev (fun k => quirelaw19_ColumnKeeps.j7 k n fit o w wh true (mx fit 1) b false) true := by
    intro b
    refine up ?_
    simp only [quirelaw19_ColumnKeeps.j7, Bool.false_eq_true, if_false, if_true, beq_self_eq_true]
    exact Ev.now _
  induction d with
  | zero =>
    intro b h0 h1 hd hno
    refine up ?_
    have c : ¬ b < n := by omega
    simp only [quirelaw19_ColumnKeeps.l1, decide_eq_false c]
    by_cases e : b ≤ fit
    · simp only [if_pos e]; exact fin b
    · simp only [if_neg e]; exact fin b
  | succ d ih =>
    intro b h0 h1 hd hno
    refine up ?_
    have c : b < n := by omega
    simp only [quirelaw19_ColumnKeeps.l1, decide_eq_true c]
    by_cases e : b ≤ fit
    · simp only [if_pos e]
      have hw : wrap64 (b + 1) = b + 1 := w64 (by omega) (by omega)
      have hw2 : wrap64 (n - b) = n - b := w64 (by omega) (by omega)
      have hrec := ih (b + 1) (by omega) (by omega) (by omega) (fun m hm => hno m (by omega))
      have g2 := hno b (Int.le_refl _) e c
      refine up ?_
      simp only [quirelaw19_ColumnKeeps.j7, if_true, hw, hw2]
      by_cases a1 : b ≥ o
      · simp only [if_pos a1]
        by_cases a2 : n - b ≥ w
        · simp only [if_pos a2, if_neg (fun a3 => g2 ⟨a1, a2, a3⟩)]; exact hrec
        · simp only [if_neg a2]; exact hrec
      · simp only [if_neg a1]; exact hrec
    · simp only [if_neg e]; exact fin b

theorem awake_true : Ev (fun k => quirelaw19_awake.f k) true := Ev.of quirelaw19_awake.mono (k := 30) (by decide +kernel)

/-- from j1 on, for the number that is told -/
theorem from_j1 (n fit o w wh : Int) (top : Bool) (hn0 : 1 ≤ n) (hn : n ≤ 4096) (hf : 0 ≤ fit) (ho : 1 ≤ o) (hw1 : 1 ≤ w) (hwh : wh = 0 ∨ wh = 1) (s : Int)
    (h : (n ≤ fit ∧ s = n) ∨ (fit < n ∧ wh = 0 ∧ o ≤ s ∧ s ≤ fit ∧ s ≤ n - w ∧ (s = fit ∨ s = n - w)) ∨
      (fit < n ∧ ¬ (wh = 0 ∧ o ≤ fit ∧ o ≤ n - w) ∧ top = true ∧ s = mx fit 1) ∨ (fit < n ∧ ¬ (wh = 0 ∧ o ≤ fit ∧ o ≤ n - w) ∧ top = false ∧ s = 0)) :
    Ev (fun k => quirelaw19_ColumnKeeps.j1 k n fit o w wh top true s false) true := by
  have s0 : 0 ≤ s := by rw [mx_one] at h; split at h <;> omega
  have s1 : s ≤ n := by rw [mx_one] at h; split at h <;> omega
  have hw : wrap64 (s + 1) = s + 1 := w64 (by omega) (by omega)
  have hw2 : wrap64 (n - s) = n - s := w64 (by omega) (by omega)
  -- no further number serves
  have no : ∀ m, s + 1 ≤ m → m ≤ n → m ≤ fit → m ≠ n ∧ ¬ (o ≤ m ∧ w ≤ n - m ∧ wh = 0) := by
    intro m hm hmn hmf
    rcases h with ⟨h1, h2⟩ | ⟨h1, h2, h3, h4, h5, h6⟩ | ⟨h1, h2, h3, h4⟩ | ⟨h1, h2, h3, h4⟩
    · omega
    · exact ⟨by omega, fun q => by omega⟩
    · rw [mx_one] at h4; exact ⟨by omega, fun q => h2 ⟨q.2.2, by omega, by omega⟩⟩
    · exact ⟨by omega, fun q => h2 ⟨q.2.2, by omega, by omega⟩⟩
  have step3 : ∀ keeps : Bool, (keeps = false → top = true ∧ s = mx fit 1 ∧ ¬ (wh = 0 ∧ o ≤ fit ∧ o ≤ n - w)) → Ev (fun k => quirelaw19_ColumnKeeps.j3 k n fit o w wh true s keeps false) true := by
    intro keeps hk
    refine up ?_
    simp only [quirelaw19_ColumnKeeps.j3, Bool.false_eq_true, if_false, hw]
    refine l0_loop n fit o w wh true s keeps hn0 hn (fun b => ?_) (n - s).toNat (s + 1) (by omega) (by omega) (by omega) no
    refine up ?_
    simp only [quirelaw19_ColumnKeeps.j5, Bool.false_eq_true, if_false]
    cases keeps with
    | true => simp only [if_true]; exact Ev.now _
    | false =>
      simp only [Bool.false_eq_true, if_false]
      obtain ⟨h1, h2, h3⟩ := hk rfl
      rw [h2]
      exact l1_loop n fit o w wh hn0 hn (n - 1).toNat 1 (by omega) (by omega) (by omega) (fun m hm1 hm2 hm3 q => h3 ⟨q.2.2, by omega, by omega⟩)
  have step2 : ∀ keeps : Bool, (keeps = false → top = true ∧ s = mx fit 1 ∧ ¬ (wh = 0 ∧ o ≤ fit ∧ o ≤ n - w)) → Ev (fun k => quirelaw19_ColumnKeeps.j2 k n fit o w wh top true s keeps) true := by
    intro keeps hk
    have hs : top = true → (s == 0) = false := by
      intro ht
      rw [beq_eq_false_iff_ne]
      intro hs0
      rw [mx_one] at h
      rcases h with ⟨h1, h2⟩ | ⟨h1, h2, h3, h4, h5, h6⟩ | ⟨h1, h2, h3, h4⟩ | ⟨h1, h2, h3, h4⟩
      · omega
      · omega
      · split at h4 <;> omega
      · rw [ht] at h3; exact absurd h3 (by decide)
    have h3 := step3 keeps hk
    refine up ?_
    cases keeps with
    | true =>
      cases htop : top with
      | true => simp only [quirelaw19_ColumnKeeps.j2, if_true, hs htop]; exact h3
      | false => simp only [quirelaw19_ColumnKeeps.j2, if_true, Bool.false_eq_true, if_false]; exact h3
    | false =>
      have ht := (hk rfl).1
      simp only [quirelaw19_ColumnKeeps.j2, Bool.false_eq_true, if_false, ht, if_true, hs ht]; exact h3
  refine up ?_
  simp only [quirelaw19_ColumnKeeps.j1, Bool.false_eq_true, if_false, hw2]
  by_cases a1 : s = 0
  · simp only [if_pos a1]; exact step2 true (fun q => absurd q (by decide))
  by_cases a2 : s = n
  · simp only [if_neg a1, if_pos a2]; exact step2 true (fun q => absurd q (by decide))
  simp only [if_neg a1, if_neg a2]
  have forced : ¬ (o ≤ s ∧ w ≤ n - s ∧ wh = 0) → top = true ∧ s = mx fit 1 ∧ ¬ (wh = 0 ∧ o ≤ fit ∧ o ≤ n - w) := by
    intro q
    rcases h with ⟨h1, h2⟩ | ⟨h1, h2, h3, h4, h5, h6⟩ | ⟨h1, h2, h3, h4⟩ | ⟨h1, h2, h3, h4⟩
    · exact absurd h2 a2
    · exact absurd ⟨h3, by omega, h2⟩ q
    · exact ⟨h3, h4, h2⟩
    · exact absurd h4 a1
  by_cases a3 : s ≥ o
  · simp only [if_pos a3]
    by_cases a4 : n - s ≥ w
    · simp only [if_pos a4]
      exact step2 _ (fun q => forced (fun g => by rw [g.2.2] at q; exact absurd q (by decide)))
    · simp only [if_neg a4]; exact step2 false (fun _ => forced (fun g => a4 g.2.1))
  · simp only [if_neg a3]; exact step2 false (fun _ => forced (fun g => a3 g.1))

theorem keeps (n fit o w wh : Int) (top : Bool) (bn : n < 9223372036854775808) : ∃ k, quirelaw19_ColumnKeeps.f k n fit o w wh top = some true := by
  refine Ev.rounds ?_
  simp only [quirelaw19_ColumnKeeps.f]
  refine Ev.bind awake_true ?_
  have out : Ev (fun k => quirelaw19_ColumnKeeps.j0 k n fit o w wh top true true) true := by
    refine up ?_
    simp only [quirelaw19_ColumnKeeps.j0, if_true]
    exact Ev.now _
  by_cases c1 : n < 1
  · simp only [if_pos c1]; exact out
  by_cases c2 : n > 4096
  · simp only [if_neg c1, if_pos c2]; exact out
  by_cases c3 : fit < 0
  · simp only [if_neg c1, if_neg c2, if_pos c3]; exact out
  by_cases c4 : o < 1
  · simp only [if_neg c1, if_neg c2, if_neg c3, if_pos c4]; exact out
  by_cases c5 : o > 4
  · simp only [if_neg c1, if_neg c2, if_neg c3, if_neg c4, if_pos c5]; exact out
  by_cases c6 : w < 1
  · simp only [if_neg c1, if_neg c2, if_neg c3, if_neg c4, if_neg c5, if_pos c6]; exact out
  by_cases c7 : w > 4
  · simp only [if_neg c1, if_neg c2, if_neg c3, if_neg c4, if_neg c5, if_neg c6, if_pos c7]; exact out
  by_cases c8 : wh < 0
  · simp only [if_neg c1, if_neg c2, if_neg c3, if_neg c4, if_neg c5, if_neg c6, if_neg c7, if_pos c8]; exact out
  simp only [if_neg c1, if_neg c2, if_neg c3, if_neg c4, if_neg c5, if_neg c6, if_neg c7, if_neg c8]
  by_cases c9 : wh > 1
  · simp only [decide_eq_true c9]; exact out
  simp only [decide_eq_false c9]
  refine up ?_
  simp only [quirelaw19_ColumnKeeps.j0, Bool.false_eq_true, if_false]
  have hz : wrongs n fit o w wh = 0 := by unfold wrongs; rw [if_neg (by omega), if_neg (by omega)]
  have hs := split_tells n fit o w wh top 0 bn
  rw [hz] at hs
  simp only [ne_eq, not_true, if_false] at hs
  have hs' : Ev (fun k => column_Split.f k n fit o w wh top) ((if n ≤ fit then n else best n fit o w wh top), (0 : Int)) := by
    refine Ev.of (column_Split.mono n fit o w wh top) (k := 3) ?_
    rw [show (3 : Nat) = 0 + 3 from rfl, hs]
    split <;> rfl
  refine Ev.bind hs' ?_
  simp only [if_true]
  generalize hq : (if n ≤ fit then n else best n fit o w wh top) = s
  have h : (n ≤ fit ∧ s = n) ∨ (fit < n ∧ wh = 0 ∧ o ≤ s ∧ s ≤ fit ∧ s ≤ n - w ∧ (s = fit ∨ s = n - w)) ∨
      (fit < n ∧ ¬ (wh = 0 ∧ o ≤ fit ∧ o ≤ n - w) ∧ top = true ∧ s = mx fit 1) ∨ (fit < n ∧ ¬ (wh = 0 ∧ o ≤ fit ∧ o ≤ n - w) ∧ top = false ∧ s = 0) := by
    by_cases e : n ≤ fit
    · rw [if_pos e] at hq; exact .inl ⟨e, hq.symm⟩
    · rw [if_neg e] at hq
      unfold best at hq
      by_cases g : wh = 0 ∧ o ≤ (if fit ≤ n - w then fit else n - w)
      · rw [if_pos g] at hq
        refine .inr (.inl ?_)
        have g2 := g.2
        rw [hq] at g2
        refine ⟨by omega, g.1, g2, ?_⟩
        split at hq <;> omega
      · rw [if_neg g] at hq
        have g' : ¬ (wh = 0 ∧ o ≤ fit ∧ o ≤ n - w) := fun q => g ⟨q.1, by split <;> omega⟩
        cases top with
        | true => rw [if_pos rfl, ← mx_one] at hq; exact .inr (.inr (.inl ⟨by omega, g', rfl, hq.symm⟩))
        | false => rw [if_neg (by decide)] at hq; exact .inr (.inr (.inr ⟨by omega, g', rfl, hq.symm⟩))
  have fin := from_j1 n fit o w wh top (by omega) (by omega) (by omega) (by omega) (by omega) (by omega) s h
  have s0 : ¬ s < 0 := by rw [mx_one] at h; split at h <;> omega
  have s1 : ¬ s > n := by rw [mx_one] at h; split at h <;> omega
  simp only [if_neg s0, if_neg s1]
  by_cases e : s > fit
  · simp only [if_pos e]
    rw [mx_one] at h
    rcases h with ⟨h1, h2⟩ | ⟨h1, h2, h3, h4, h5, h6⟩ | ⟨h1, h2, h3, h4⟩ | ⟨h1, h2, h3, h4⟩
    · omega
    · omega
    · have e1 : s = 1 := by split at h4 <;> omega
      subst h3
      simp only [if_true, e1, beq_self_eq_true, Bool.not_true]
      rw [e1] at fin; exact fin
    · omega
  · simp only [if_neg e]; exact fin

theorem ColumnKeeps (n fit o w wh : Int) (top : Bool) (wn : (Lit.int .i64 n).wf = true) {q r s t : Prop} (_ : q) (_ : r) (_ : s) (_ : t) : ∃ k, quirelaw19_ColumnKeeps.f k n fit o w wh top = some true :=
  keeps n fit o w wh top (by have := bounds_i64 wn; omega)

end Go.Proofs.Ytoodiihimjalfaa.LColumnKeeps
