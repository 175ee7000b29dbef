/- A column is filled as ColumnTakes asks: for every list of slabs and every two whole numbers; no further condition. -/
import Derived.Test.YtoodiihimjalfaaLAColumnTakes
import Derived.Test.YtoodiihimjalfaaMColumnTakes
namespace Go.Proofs.Ytoodiihimjalfaa.LColumnTakes
open Go.RowKit Go.Proofs.Ytoodiihimjalfaa.PColumnTakes Go.Proofs.YtoodiihimjalfaaW.PrintWords Go.Proofs.YtoodiihimjalfaaW.PrintLast
set_option linter.unusedVariables false

theorem Fill_tells (l : List S37) (hl : l.length ≤ 4096) (hf : fine l) (a : Nat) (ha : a ≤ l.length) (h : Int) (h0 : 0 ≤ h) (h1 : h ≤ 4095) :
    Ev (fun k => column_Fill.f k l (a : Int) h) (((fillOf l a h).1 : Int), hgt l a ((fillOf l a h).1 - a), (fillOf l a h).2, 0) := by
  have r := fillOf_range l a h ha
  simp only [column_Fill.f]
  refine Ev.bind (wrong_tells l) ?_
  rw [wrongOf_fine hl hf]
  have c1 : ¬ (a : Int) < 0 := by omega
  have c2 : ¬ (a : Int) > (l.length : Int) := by omega
  simp only [if_true, if_neg c1, if_neg c2, fits_tells, Option.bind_some, h0, h1, and_self, decide_true, Bool.not_true]
  refine up ?_
  simp only [column_Fill.j0, Bool.false_eq_true, if_false]
  refine Ev.bind (fill_tells l hl hf a ha h) ?_
  have c3 : (0 : Int) ≤ (a : Int) := by omega
  have c4 : (a : Int) ≤ ((fillOf l a h).1 : Int) := by omega
  have c5 : ((fillOf l a h).1 : Int) ≤ (l.length : Int) := by omega
  simp only [if_pos c3, if_pos c4, if_pos c5, Int.toNat_natCast]
  exact Ev.bind (high_part l hl hf a _ r.1 r.2.1) (Ev.now _)

theorem Height_tells (l : List S37) (hl : l.length ≤ 4096) (hf : fine l) (a b : Nat) (hab : a ≤ b) (hb : b ≤ l.length) :
    Ev (fun k => column_Height.f k l (a : Int) (b : Int)) (hgt l a (b - a), 0) := by
  simp only [column_Height.f]
  refine Ev.bind (wrong_tells l) ?_
  rw [wrongOf_fine hl hf]
  have c1 : ¬ (a : Int) < 0 := by omega
  have c2 : ¬ (b : Int) < (a : Int) := by omega
  have c3 : ¬ (b : Int) > (l.length : Int) := by omega
  have c4 : (0 : Int) ≤ (a : Int) := by omega
  have c5 : (a : Int) ≤ (b : Int) := by omega
  have c6 : (b : Int) ≤ (l.length : Int) := by omega
  simp only [if_true, if_neg c1, if_neg c2, if_neg c3, if_pos c4, if_pos c5, if_pos c6, Int.toNat_natCast]
  exact Ev.bind (high_part l hl hf a b hab hb) (Ev.now _)

/-- may a column end ahead of slab b? -/
def brk (l : List S37) (b : Nat) : Prop := b = l.length ∨ (at' l b).f2 = 0

/-- What a filled column is. -/
structure Filled (l : List S37) (a : Nat) (h : Int) (r : Nat × Bool) : Prop where
  free : r.2 = false → hgt l a (r.1 - a) ≤ h ∧ brk l r.1 ∧ ∀ b, r.1 < b → b ≤ l.length → brk l b → h < hgt l a (b - a)
  forced : r.2 = true → (h < hgt l a (r.1 - a) → r.1 = a + 1) ∧ ∀ b, a < b → b ≤ l.length → brk l b → h < hgt l a (b - a)

theorem run_filled (l : List S37) (hf : fine l) (a : Nat) (h : Int) (d : Nat) : ∀ i last al : Nat, a ≤ i → l.length = i + d →
    (last = a + 1 ∨ hgt l a (last - a) ≤ h) → al ≤ i → (0 < al → hgt l a (al - a) ≤ h ∧ brk l al) →
    (∀ b, (if 0 < al then al else a) < b → b ≤ i → ¬ brk l b) → Filled l a h (run l a h d i last al) := by
  have stop : ∀ i last al : Nat, a ≤ i → (i = l.length ∨ h < hgt l a (i + 1 - a)) → (last = a + 1 ∨ hgt l a (last - a) ≤ h) → (0 < al → hgt l a (al - a) ≤ h ∧ brk l al) →
      (∀ b, (if 0 < al then al else a) < b → b ≤ i → ¬ brk l b) → Filled l a h (if 0 < al then (al, false) else (last, true)) := by
    intro i last al ha hend hlast hal hno
    have far : ∀ b, i < b → b ≤ l.length → h < hgt l a (b - a) := by
      intro b hb hbl
      rcases hend with e | e
      · omega
      · exact Int.lt_of_lt_of_le e (hgt_mono hf a _ _ (by omega))
    by_cases c : 0 < al
    · rw [if_pos c]
      refine ⟨fun _ => ⟨(hal c).1, (hal c).2, fun b hb hbl hbr => ?_⟩, fun hc => by simp at hc⟩
      rw [if_pos c] at hno
      by_cases hi : b ≤ i
      · exact absurd hbr (hno b hb hi)
      · exact far b (by omega) hbl
    · rw [if_neg c]
      refine ⟨fun hc => by simp at hc, fun _ => ⟨fun hlt => ?_, fun b hb hbl hbr => ?_⟩⟩
      · rcases hlast with e | e
        · exact e
        · exact absurd e (by simpa using hlt)
      · rw [if_neg c] at hno
        by_cases hi : b ≤ i
        · exact absurd hbr (hno b hb hi)
        · exact far b (by omega) hbl
  induction d with
  | zero =>
    intro i last al ha hi hlast hali hal hno
    exact stop i last al ha (.inl (by omega)) hlast hal hno
  | succ d ih =>
    intro i last al ha hi hlast hali hal hno
    simp only [run]
    by_cases c : h < hgt l a (i + 1 - a)
    · rw [if_pos c]
      exact stop i last al ha (.inr c) hlast hal hno
    · rw [if_neg c]
      by_cases c2 : i + 1 = l.length ∨ (at' l (i + 1)).f2 = 0
      · rw [if_pos c2]
        refine ih (i + 1) (i + 1) (i + 1) (by omega) (by omega) (.inr (by omega)) (by omega) (fun _ => ⟨by omega, c2⟩) ?_
        intro b hb hbi
        rw [if_pos (by omega)] at hb
        omega
      · rw [if_neg c2]
        refine ih (i + 1) (i + 1) al (by omega) (by omega) (.inr (by omega)) (by omega) hal ?_
        intro b hb hbi
        by_cases e : b = i + 1
        · subst e; exact c2
        · exact hno b hb (by omega)

theorem fillOf_filled (l : List S37) (hf : fine l) (a : Nat) (h : Int) (ha : a < l.length) : Filled l a h (fillOf l a h) := by
  unfold fillOf
  rw [if_neg (by omega)]
  exact run_filled l hf a h (l.length - a) a (a + 1) 0 (by omega) (by omega) (.inl rfl) (by omega) (fun h => absurd h (by omega)) (by intro b hb hbi; simp at hb; omega)

theorem last_loop (l : List S37) (hl : l.length ≤ 100) (hf : fine l) (a : Nat) (h : Int) (tw : Nat) (had : Bool) (ok : Bool)
    (hfil : Filled l a h (tw, had)) (d : Nat) : ∀ b : Nat, a < b → l.length + 1 = b + d →
    Ev (fun k => quirelaw19_ColumnTakes.l1 k l (a : Int) h ok (tw : Int) had (b : Int)) ok := by
  induction d with
  | zero =>
    intro b hb hd
    refine up ?_
    have c : ¬ (b : Int) ≤ (l.length : Int) := by omega
    simp only [quirelaw19_ColumnTakes.l1, if_neg c]
    exact Ev.now _
  | succ d ih =>
    intro b hb hd
    have hrec := ih (b + 1) (by omega) (by omega)
    have hw : wrap64 ((b : Int) + 1) = ((b + 1 : Nat) : Int) := by rw [w64 (by omega) (by omega)]; omega
    have c : (b : Int) ≤ (l.length : Int) := by omega
    have tail : ∀ q : Bool, (q = false → brk l b) → Ev (fun k => quirelaw19_ColumnTakes.j6 k l (a : Int) h ok (tw : Int) had (b : Int) q) ok := by
      intro q hq
      refine up ?_
      cases q with
      | true => simp only [quirelaw19_ColumnTakes.j6, if_true, hw]; exact hrec
      | false =>
        simp only [quirelaw19_ColumnTakes.j6, Bool.false_eq_true, if_false, hw]
        refine Ev.bind (Height_tells l (by omega) hf a b (by omega) (by omega)) ?_
        simp only [if_true]
        by_cases e : hgt l a (b - a) ≤ h
        · simp only [if_pos e]
          cases had with
          | true => exact absurd ((hfil.forced rfl).2 b hb (by omega) (hq rfl)) (by omega)
          | false =>
            simp only [Bool.false_eq_true, if_false]
            by_cases e2 : (b : Int) > (tw : Int)
            · exact absurd ((hfil.free rfl).2.2 b (by simpa using e2) (by omega) (hq rfl)) (by omega)
            · simp only [if_neg e2]; exact hrec
        · simp only [if_neg e]; exact hrec
    refine up ?_
    simp only [quirelaw19_ColumnTakes.l1, if_pos c, rd_at]
    by_cases e : b = l.length
    · have e' : (b : Int) = (l.length : Int) := by omega
      simp only [if_pos e']
      exact tail false (fun _ => .inl e)
    · have e' : ¬ (b : Int) = (l.length : Int) := by omega
      have e1 : (0 : Int) ≤ (b : Int) := by omega
      have e2 : (b : Int) < (l.length : Int) := by omega
      simp only [if_neg e', if_pos e1, if_pos e2]
      refine tail _ (fun hq => .inr ?_)
      have := (fine_at hf b).2.2.2.2
      rcases this with g | g
      · exact g
      · rw [g] at hq; simp at hq

theorem pick_tells (x : Int) (n : Nat) (hn : 0 < n) (hn' : n ≤ 100) : ∃ a : Nat, a < n ∧ quirekit_Pick.f x (n : Int) = some (a : Int) := by
  unfold quirekit_Pick.f
  rw [if_neg (by omega), if_neg (by omega)]
  have h1 := Int.tmod_lt_of_pos x (show (0 : Int) < (n : Int) by omega)
  have h2 : -(n : Int) < Int.tmod x n := by
    have h3 := Int.natAbs_tmod x (n : Int)
    have h4 := Nat.mod_lt x.natAbs (show 0 < (n : Int).natAbs by omega)
    omega
  by_cases c : Int.tmod x n < 0
  · rw [if_pos c, w64 (by omega) (by omega)]
    exact ⟨(Int.tmod x n + n).toNat, by omega, by congr 1; omega⟩
  · rw [if_neg c]
    exact ⟨(Int.tmod x n).toNat, by omega, by congr 1; omega⟩

theorem mid (l : List S37) (hl : l.length ≤ 100) (hl0 : 0 < l.length) (hf : fine l) (x h : Int) (h0 : 0 ≤ h) (h1 : h ≤ 4095) (ok : Bool) :
    Ev (fun k => (quirekit_Pick.f x (l.length : Int)).bind fun t148 => ((column_Fill.f k l t148 h).bind fun bt149 => (if bt149.2.2.2 = 0 then (if bt149.1 ≤ t148 then (quirelaw19_ColumnTakes.j2 k l t148 h ok bt149.1 bt149.2.1 bt149.2.2.1 true) else (quirelaw19_ColumnTakes.j2 k l t148 h ok bt149.1 bt149.2.1 bt149.2.2.1 (decide (bt149.1 > (l.length : Int))))) else (quirelaw19_ColumnTakes.j2 k l t148 h ok bt149.1 bt149.2.1 bt149.2.2.1 true)))) ok := by
  obtain ⟨a, ha, hp⟩ := pick_tells x l.length hl0 hl
  rw [hp]
  simp only [Option.bind_some]
  refine Ev.bind (Fill_tells l (by omega) hf a (by omega) h h0 h1) ?_
  have r := fillOf_range l a h (by omega)
  have fil := fillOf_filled l hf a h ha
  generalize fillOf l a h = t at r fil
  obtain ⟨tw, had⟩ := t
  simp only at r
  have r3 := r.2.2 ha
  have c1 : ¬ (tw : Int) ≤ (a : Int) := by omega
  have c2 : ¬ (tw : Int) > (l.length : Int) := by omega
  simp only [if_true, if_neg c1, decide_eq_false c2]
  refine up ?_
  simp only [quirelaw19_ColumnTakes.j2, Bool.false_eq_true, if_false]
  refine Ev.bind (Height_tells l (by omega) hf a tw (by omega) (by omega)) ?_
  have hw : wrap64 ((a : Int) + 1) = ((a + 1 : Nat) : Int) := by rw [w64 (by omega) (by omega)]; omega
  have fin : Ev (fun k => quirelaw19_ColumnTakes.j4 k l (a : Int) h ok (tw : Int) had false) ok := by
    refine up ?_
    simp only [quirelaw19_ColumnTakes.j4, Bool.false_eq_true, if_false, hw]
    exact last_loop l hl hf a h tw had ok fil (l.length - a) (a + 1) (by omega) (by omega)
  have tail : ∀ q : Bool, (had = false → q = true) → Ev (fun k => quirelaw19_ColumnTakes.j3 k l (a : Int) h ok (tw : Int) (hgt l a (tw - a)) had (hgt l a (tw - a)) 0 q) ok := by
    intro q hq
    refine up ?_
    simp only [quirelaw19_ColumnTakes.j3, if_true, hw]
    cases had with
    | true =>
      simp only [if_true]
      by_cases c : hgt l a (tw - a) > h
      · simp only [if_pos c]
        have := (fil.forced rfl).1 c
        simp only at this
        have e : (((tw : Int)) != ((a + 1 : Nat) : Int)) = false := by rw [bne_eq_false_iff_eq]; omega
        rw [e]; exact fin
      · simp only [if_neg c]; exact fin
    | false =>
      simp only [Bool.false_eq_true, if_false]
      have c : ¬ hgt l a (tw - a) > h := by have := (fil.free rfl).1; simpa using this
      simp only [if_neg c, hq rfl, if_true]
      exact fin
  by_cases e : tw = l.length
  · have e' : (tw : Int) = (l.length : Int) := by omega
    simp only [if_pos e']
    exact tail true (fun _ => rfl)
  · have e' : ¬ (tw : Int) = (l.length : Int) := by omega
    have e1 : (0 : Int) ≤ (tw : Int) := by omega
    have e2 : (tw : Int) < (l.length : Int) := by omega
    simp only [if_neg e', if_pos e1, if_pos e2, rd_at]
    refine tail _ (fun hh => ?_)
    subst hh
    have := (fil.free rfl).2.1
    rcases this with g | g
    · exact absurd g e
    · rw [show (at' l tw).f2 = 0 from g]; rfl

theorem check_loop (l : List S37) (hl : l.length ≤ 100) (hl0 : 0 < l.length) (x h : Int) (h0 : 0 ≤ h) (h1 : h ≤ 4095) (d : Nat) :
    ∀ i : Nat, l.length = i + d → (∀ j, j < i → badS (at' l j) = 0) → Ev (fun k => quirelaw19_ColumnTakes.l0 k l x h true (i : Int)) true := by
  induction d with
  | zero =>
    intro i hi hno
    refine up ?_
    have c : ¬ (i : Int) < (l.length : Int) := by omega
    simp only [quirelaw19_ColumnTakes.l0, if_neg c]
    refine mid l hl hl0 ?_ x h h0 h1 true
    intro j
    by_cases e : j < l.length
    · exact hno j (by omega)
    · rw [show at' l j = z37 from by simp [at', List.getD_eq_getElem?_getD, List.getElem?_eq_none (by omega : l.length ≤ j)]]; exact badS_z
  | succ d ih =>
    intro i hi hno
    have c : (i : Int) < (l.length : Int) := by omega
    have c0 : (0 : Int) ≤ (i : Int) := by omega
    have hw : wrap64 ((i : Int) + 1) = ((i + 1 : Nat) : Int) := by rw [w64 (by omega) (by omega)]; omega
    have hrec := ih (i + 1) (by omega)
    refine up ?_
    simp only [quirelaw19_ColumnTakes.l0, if_pos c, if_pos c0, rd_at, hw]
    by_cases e1 : (at' l i).f0 < 0
    · simp only [if_pos e1]; exact Ev.now _
    by_cases e2 : (at' l i).f0 > 4095
    · simp only [if_neg e1, if_pos e2]; exact Ev.now _
    by_cases e3 : (at' l i).f1 < 0
    · simp only [if_neg e1, if_neg e2, if_pos e3]; exact Ev.now _
    by_cases e4 : (at' l i).f1 > 4095
    · simp only [if_neg e1, if_neg e2, if_neg e3, if_pos e4]; exact Ev.now _
    by_cases e5 : (at' l i).f2 < 0
    · simp only [if_neg e1, if_neg e2, if_neg e3, if_neg e4, if_pos e5]; exact Ev.now _
    by_cases e6 : (at' l i).f2 > 1
    · simp only [if_neg e1, if_neg e2, if_neg e3, if_neg e4, if_neg e5, if_pos e6]; exact Ev.now _
    simp only [if_neg e1, if_neg e2, if_neg e3, if_neg e4, if_neg e5, if_neg e6]
    refine hrec (fun j hj => ?_)
    by_cases e : j = i
    · subst e
      unfold badS
      rw [if_pos ⟨by omega, by omega, by omega, by omega⟩, if_pos (by omega)]
    · exact hno j (by omega)

theorem awake_true : Ev (fun k => quirelaw19_awake.f k) true := Ev.of quirelaw19_awake.mono (k := 30) (by decide +kernel)

theorem takes (l : List S37) (x h : Int) : ∃ k, quirelaw19_ColumnTakes.f k l x h = some true := by
  refine Ev.rounds ?_
  simp only [quirelaw19_ColumnTakes.f]
  refine Ev.bind awake_true ?_
  have out : Ev (fun k => quirelaw19_ColumnTakes.j0 k l x h true true) true := by
    refine up ?_
    simp only [quirelaw19_ColumnTakes.j0, if_true]
    exact Ev.now _
  by_cases c1 : (l.length : Int) > 100
  · simp only [if_pos c1]; exact out
  by_cases c2 : (l.length : Int) = 0
  · simp only [if_neg c1, if_pos c2]; exact out
  by_cases c3 : h < 0
  · simp only [if_neg c1, if_neg c2, if_pos c3]; exact out
  by_cases c4 : h > 4095
  · simp only [if_neg c1, if_neg c2, if_neg c3, decide_eq_true c4]; exact out
  simp only [if_neg c1, if_neg c2, if_neg c3, decide_eq_false c4]
  refine up ?_
  simp only [quirelaw19_ColumnTakes.j0, Bool.false_eq_true, if_false]
  exact check_loop l (by omega) (by omega) x h (by omega) (by omega) l.length 0 (by omega) (by intro j; omega)

theorem ColumnTakes (l : List S37) (x h : Int) {p q r s : Prop} (_ : p) (_ : q) (_ : r) (_ : s) : ∃ k, quirelaw19_ColumnTakes.f k l x h = some true := takes l x h

end Go.Proofs.Ytoodiihimjalfaa.LColumnTakes
