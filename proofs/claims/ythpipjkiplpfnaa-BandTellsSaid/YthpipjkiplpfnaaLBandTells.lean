/- Which bands may be, lines' slots beside them, and where none is left are told as by the reference, or just its error: for every list of bands and every four whole numbers; no further condition. -/
import Derived.Test.YthpipjkiplpfnaaLRBandTells
import Derived.Test.YthpipjkiplpfnaaLSBandTells
import Derived.Test.YthpipjkiplpfnaaPBandTellsx6
namespace Go.Proofs.Ythpipjkiplpfnaa.LBandTells
open Go.RowKit Go.Proofs.Ythpipjkiplpfnaa.PBandTells Go.Proofs.YthpipjkiplpfnaaW.PrintWords Go.Proofs.YthpipjkiplpfnaaW.PrintLast
set_option linter.unusedVariables false
set_option linter.unusedSimpArgs false

theorem beside_tells (y p : Int) (b : S24) (y0 : 0 ≤ y) (y1 : y ≤ 100000) (p0 : 1 ≤ p) (p1 : p ≤ 255) (f1 : inD b.f1) (f2 : inD b.f2) : quireref15_beside.f y p b.f0 b.f1 b.f2 b.f3 = some (decide (beside b y p)) := by
  unfold inD at f1 f2
  unfold quireref15_beside.f
  rw [w64 (x := b.f1 + b.f2) (by omega) (by omega), w64 (x := y + p) (by omega) (by omega)]
  by_cases a1 : b.f2 > 0
  · by_cases a2 : y < b.f1 + b.f2
    · by_cases a3 : b.f1 < y + p
      · rw [if_pos a1, if_pos a2, decide_eq_true a3, decide_eq_true (show beside b y p from ⟨a1, a2, a3⟩)]
      · rw [if_pos a1, if_pos a2, decide_eq_false a3, decide_eq_false (fun q : beside b y p => a3 q.2.2)]
    · rw [if_pos a1, if_neg a2, decide_eq_false (fun q : beside b y p => a2 q.2.1)]
  · rw [if_neg a1, decide_eq_false (fun q : beside b y p => a1 q.1)]

theorem rslot_loop (w : Int) (hw0 : inD w) (l : List S24) (hl : l.length ≤ 64) (hf : fine l) (y p : Int) (y0 : 0 ≤ y) (y1 : y ≤ 100000) (p0 : 1 ≤ p) (p1 : p ≤ 255) (d : Nat) :
    ∀ (i : Nat) (a b : Int), l.length = i + d → 0 ≤ a → a ≤ 4095 → 0 ≤ b → b ≤ 4095 →
      Ev (fun k => quireref15_slot.l0 k w l y p a b (i : Int)) (taken l 0 y p d i a, mx (w - taken l 0 y p d i a - taken l 2 y p d i b) 0) := by
  induction d with
  | zero =>
    intro i a b hi a0 a1 b0 b1
    refine up ?_
    have c : ¬ ((i : Int) < (l.length : Int)) := by omega
    unfold inD at hw0
    simp only [quireref15_slot.l0, if_neg c, taken]
    rw [w64 (x := w - a) (by omega) (by omega), w64 (x := w - a - b) (by omega) (by omega)]
    exact Ev.now _
  | succ d ih =>
    intro i a b hi a0 a1 b0 b1
    have h1 : (i : Int) < (l.length : Int) := by omega
    have h0 : (0 : Int) ≤ (i : Int) := by omega
    have hw : wrap64 ((i : Int) + 1) = ((i + 1 : Nat) : Int) := by rw [w64 (by omega) (by omega)]; omega
    obtain ⟨fs, f1, f2, f3⟩ := fine_at hf i
    have g1 := mx_ge a (at' l i).f3
    have g2 := mx_ge b (at' l i).f3
    have f3' := f3
    unfold inD at f3'
    have hb := beside_tells y p _ y0 y1 p0 p1 f1 f2
    by_cases e : beside (at' l i) y p
    · rw [decide_eq_true e] at hb
      rcases fs with s | s
      · have s2 : ¬ (at' l i).f0 = 2 := by omega
        have s0 : ((at' l i).f0 == 0) = true := by rw [s]; rfl
        have t0 : taken l 0 y p (d + 1) i a = taken l 0 y p d (i + 1) (mx a (at' l i).f3) := by simp only [taken]; rw [if_pos ⟨s, e⟩]
        have t2 : taken l 2 y p (d + 1) i b = taken l 2 y p d (i + 1) b := by simp only [taken]; rw [if_neg (fun q => s2 q.1)]
        rw [t0, t2]
        refine up ?_
        simp only [quireref15_slot.l0, if_pos h1, if_pos h0, rd_at, hb, Option.bind_some, if_true, s0]
        refine up ?_
        simp only [quireref15_slot.j1, if_pos h1, if_pos h0, rd_at, hb, Option.bind_some, if_true, hw, if_neg s2]
        exact ih (i + 1) _ _ (by omega) (by omega) (by omega) (by omega) (by omega)
      · have s2 : ¬ (at' l i).f0 = 0 := by omega
        have s0 : ((at' l i).f0 == 0) = false := by rw [s]; rfl
        have t0 : taken l 0 y p (d + 1) i a = taken l 0 y p d (i + 1) a := by simp only [taken]; rw [if_neg (fun q => s2 q.1)]
        have t2 : taken l 2 y p (d + 1) i b = taken l 2 y p d (i + 1) (mx b (at' l i).f3) := by simp only [taken]; rw [if_pos ⟨s, e⟩]
        rw [t0, t2]
        refine up ?_
        simp only [quireref15_slot.l0, if_pos h1, if_pos h0, rd_at, hb, Option.bind_some, if_true, s0]
        refine up ?_
        simp only [quireref15_slot.j1, if_pos h1, if_pos h0, rd_at, hb, Option.bind_some, if_true, hw, if_pos s, Bool.false_eq_true, if_false]
        exact ih (i + 1) _ _ (by omega) (by omega) (by omega) (by omega) (by omega)
    · rw [decide_eq_false e] at hb
      have t0 : taken l 0 y p (d + 1) i a = taken l 0 y p d (i + 1) a := by simp only [taken]; rw [if_neg (fun q => e q.2)]
      have t2 : taken l 2 y p (d + 1) i b = taken l 2 y p d (i + 1) b := by simp only [taken]; rw [if_neg (fun q => e q.2)]
      rw [t0, t2]
      refine up ?_
      simp only [quireref15_slot.l0, if_pos h1, if_pos h0, rd_at, hb, Option.bind_some, Bool.false_eq_true, if_false]
      refine up ?_
      simp only [quireref15_slot.j1, if_pos h1, if_pos h0, rd_at, hb, Option.bind_some, hw, Bool.false_eq_true, if_false]
      exact ih (i + 1) _ _ (by omega) (by omega) (by omega) (by omega) (by omega)

theorem rslot_tells (w : Int) (hw0 : inD w) (l : List S24) (hl : l.length ≤ 64) (hf : fine l) (y p : Int) (y0 : 0 ≤ y) (y1 : y ≤ 100000) (p0 : 1 ≤ p) (p1 : p ≤ 255) :
    Ev (fun k => quireref15_slot.f k w l y p) ((slotOf w l y p).f0, (slotOf w l y p).f1) := by
  have := rslot_loop w hw0 l hl hf y p y0 y1 p0 p1 l.length 0 0 0 (by omega) (by omega) (by omega) (by omega) (by omega)
  rw [mx_comm] at this
  exact this

theorem rSlots_loop (w : Int) (hw0 : inD w) (l : List S24) (hl : l.length ≤ 64) (hf : fine l) (y p : Int) (y0 : 0 ≤ y) (y1 : y ≤ 4095) (p0 : 1 ≤ p) (p1 : p ≤ 255) (m : Nat) (hm : m ≤ 256) (d : Nat) :
    ∀ (c : Nat) (out : List S43), m = c + d → out.length = c →
      Ev (fun k => quireref15_Slots.l0 k w l y p (m : Int) out (c : Int)) (out ++ slotsOf w l p d (y + (c : Int) * p), 0) := by
  induction d with
  | zero =>
    intro c out hc ho
    refine up ?_
    have c1 : ¬ (c : Int) < (m : Int) := by omega
    simp only [quireref15_Slots.l0, if_neg c1, slotsOf, List.append_nil]
    exact Ev.now _
  | succ d ih =>
    intro c out hc ho
    have c1 : (c : Int) < (m : Int) := by omega
    have hw : wrap64 ((c : Int) + 1) = ((c + 1 : Nat) : Int) := by rw [w64 (by omega) (by omega)]; omega
    have ho' : out.length < 8796093022208 := by omega
    have hp0 : 0 ≤ (c : Int) * p := Int.mul_nonneg (by omega) (by omega)
    have hp1 : (c : Int) * p ≤ (c : Int) * 255 := Int.mul_le_mul_of_nonneg_left (by omega) (by omega)
    refine up ?_
    simp only [quireref15_Slots.l0, if_pos c1]
    rw [w64 (x := (c : Int) * p) (by omega) (by omega), w64 (x := y + (c : Int) * p) (by omega) (by omega)]
    refine Ev.bind (rslot_tells w hw0 l hl hf (y + (c : Int) * p) p (by omega) (by omega) p0 p1) ?_
    simp only [if_pos ho', hw]
    have := ih (c + 1) (out ++ [slotOf w l (y + (c : Int) * p) p]) (by omega) (by simp [ho])
    rw [List.append_assoc] at this
    have e : y + ((c + 1 : Nat) : Int) * p = y + (c : Int) * p + p := by rw [Int.natCast_add, Int.add_mul]; simp; omega
    rw [e] at this
    exact this

theorem rSlots_tells (w : Int) (l : List S24) (y p n : Int) : Ev (fun k => quireref15_Slots.f k w l y p n) (SlotsOf w l y p n) := by
  simp only [quireref15_Slots.f]
  refine Ev.bind (rCheck_tells l) ?_
  unfold SlotsOf
  have bad : ∀ q, q = true → Ev (fun k => quireref15_Slots.j0 k w l y p n q) (([] : List S43), (5 : Int)) := by
    intro q hq
    subst hq
    refine up ?_
    simp only [quireref15_Slots.j0, if_true]
    exact Ev.now _
  by_cases e : wrongOf l = 0
  · obtain ⟨hl, hf⟩ := wrongOf_zero e
    simp only [e, if_true, ne_eq, not_true, if_false, within_tells, Option.bind_some]
    by_cases a1 : inD w
    · by_cases a2 : inD y
      · simp only [decide_eq_true a1, decide_eq_true a2, if_true]
        by_cases c1 : p < 1
        · rw [if_neg (show ¬ (inD w ∧ inD y ∧ 1 ≤ p ∧ p ≤ 255 ∧ 0 ≤ n ∧ n ≤ 256) by omega)]
          simp only [if_pos c1]; exact bad _ rfl
        by_cases c2 : p > 255
        · rw [if_neg (show ¬ (inD w ∧ inD y ∧ 1 ≤ p ∧ p ≤ 255 ∧ 0 ≤ n ∧ n ≤ 256) by omega)]
          simp only [if_neg c1, if_pos c2]; exact bad _ rfl
        by_cases c3 : n < 0
        · rw [if_neg (show ¬ (inD w ∧ inD y ∧ 1 ≤ p ∧ p ≤ 255 ∧ 0 ≤ n ∧ n ≤ 256) by omega)]
          simp only [if_neg c1, if_neg c2, if_pos c3]; exact bad _ rfl
        by_cases c4 : n > 256
        · rw [if_neg (show ¬ (inD w ∧ inD y ∧ 1 ≤ p ∧ p ≤ 255 ∧ 0 ≤ n ∧ n ≤ 256) by omega)]
          simp only [if_neg c1, if_neg c2, if_neg c3, decide_eq_true c4]; exact bad _ rfl
        rw [if_pos (show inD w ∧ inD y ∧ 1 ≤ p ∧ p ≤ 255 ∧ 0 ≤ n ∧ n ≤ 256 from ⟨a1, a2, by omega, by omega, by omega, by omega⟩)]
        simp only [if_neg c1, if_neg c2, if_neg c3, decide_eq_false c4]
        refine up ?_
        simp only [quireref15_Slots.j0, Bool.false_eq_true, if_false]
        obtain ⟨m, rfl⟩ := Int.eq_ofNat_of_zero_le (show 0 ≤ n by omega)
        have hy := a2
        unfold inD at hy
        have := rSlots_loop w a1 l hl hf y p hy.1 hy.2 (by omega) (by omega) m (by omega) m 0 [] (by omega) rfl
        rw [List.nil_append, show y + ((0 : Nat) : Int) * p = y by simp] at this
        exact this
      · rw [if_neg (fun g => a2 g.2.1)]
        simp only [decide_eq_true a1, decide_eq_false a2, if_true, Bool.false_eq_true, if_false]; exact bad _ rfl
    · rw [if_neg (fun g => a1 g.1)]
      simp only [decide_eq_false a1, Bool.false_eq_true, if_false]; exact bad _ rfl
  · simp only [e, if_false, ne_eq, not_false_eq_true, if_true]
    exact Ev.now _

theorem rClear_loop (l : List S24) (hl : l.length ≤ 64) (hf : fine l) (d : Nat) : ∀ (i : Nat) (y : Int), l.length = i + d →
    Ev (fun k => quireref15_Clear.l0 k l y (i : Int)) (clearY l d i y, 0) := by
  induction d with
  | zero =>
    intro i y hi
    refine up ?_
    have c : ¬ ((i : Int) < (l.length : Int)) := by omega
    simp only [quireref15_Clear.l0, if_neg c, clearY]
    exact Ev.now _
  | succ d ih =>
    intro i y hi
    have h1 : (i : Int) < (l.length : Int) := by omega
    have h0 : (0 : Int) ≤ (i : Int) := by omega
    have hw : wrap64 ((i : Int) + 1) = ((i + 1 : Nat) : Int) := by rw [w64 (by omega) (by omega)]; omega
    obtain ⟨_, f1, f2, _⟩ := fine_at hf i
    unfold inD at f1 f2
    refine up ?_
    simp only [quireref15_Clear.l0, if_pos h1, if_pos h0, rd_at, hw, clearY]
    rw [w64 (x := (at' l i).f1 + (at' l i).f2) (by omega) (by omega)]
    exact ih (i + 1) _ (by omega)

theorem rClear_tells (l : List S24) (y : Int) : Ev (fun k => quireref15_Clear.f k l y) (ClearOf l y) := by
  simp only [quireref15_Clear.f]
  refine Ev.bind (rCheck_tells l) ?_
  unfold ClearOf
  by_cases e : wrongOf l = 0
  · obtain ⟨hl, hf⟩ := wrongOf_zero e
    simp only [e, if_true, ne_eq, not_true, if_false, within_tells, Option.bind_some]
    by_cases a : inD y
    · simp only [decide_eq_true a, if_true, if_pos a]
      exact rClear_loop l hl hf l.length 0 y (by omega)
    · simp only [decide_eq_false a, Bool.false_eq_true, if_false, if_neg a]; exact Ev.now _
  · simp only [e, if_false, ne_eq, not_false_eq_true, if_true]
    exact Ev.now _

theorem slots_loop (l : List S43) (hl : l.length ≤ 4096) (d : Nat) : ∀ i : Nat, l.length = i + d → Ev (fun k => quirelaw15_slots.l0 k l l (i : Int)) true := by
  induction d with
  | zero =>
    intro i hi
    refine up ?_
    have h1 : ¬ ((i : Int) < (l.length : Int)) := by omega
    simp only [quirelaw15_slots.l0, if_neg h1]
    exact Ev.now _
  | succ d ih =>
    intro i hi
    have hrec := ih (i + 1) (by omega)
    have h1 : (i : Int) < (l.length : Int) := by omega
    have h0 : (0 : Int) ≤ (i : Int) := by omega
    have hw : wrap64 ((i : Int) + 1) = ((i + 1 : Nat) : Int) := by rw [w64 (by omega) (by omega)]; omega
    refine up ?_
    simp only [quirelaw15_slots.l0, if_pos h1, if_pos h0, beq_self_eq_true, Bool.not_true, Bool.or_false, Bool.false_eq_true, if_false, hw]
    exact hrec

theorem slots_self (l : List S43) (hl : l.length ≤ 4096) : Ev (fun k => quirelaw15_slots.f k l l) true := by
  simp only [quirelaw15_slots.f, if_true]
  exact slots_loop l hl l.length 0 (by omega)

theorem SlotsOf_length (w : Int) (l : List S24) (y p n : Int) : (SlotsOf w l y p n).1.length ≤ 4096 := by
  unfold SlotsOf
  split
  · simp
  · split
    · rw [slotsOf_length]; omega
    · simp

theorem tells (l : List S24) (w y p n : Int) : ∃ k, quirelaw15_BandTells.f k l w y p n = some true := by
  refine Ev.rounds ?_
  simp only [quirelaw15_BandTells.f]
  by_cases c : (l.length : Int) > 100
  · simp only [if_pos c]; exact Ev.now _
  · have hn : ([] : List S24).length + l.length < 4398046511104 := by simp; omega
    simp only [if_neg c, Option.bind_some, if_pos hn, List.nil_append]
    refine Ev.bind (Slots_tells w l y p n) (Ev.bind (rSlots_tells w l y p n) (Ev.bind (Clear_tells l y) (Ev.bind (rClear_tells l y) (Ev.bind (Check_tells l) (Ev.bind (rCheck_tells l) ?_)))))
    simp only [if_true]
    refine Ev.bind (slots_self _ (SlotsOf_length w l y p n)) ?_
    simp only [if_true]
    exact Ev.bind (bands_self l (by omega)) (Ev.now _)

theorem BandTells (l : List S24) (w y p n : Int) {p1 p2 p3 p4 p5 p6 : Prop} (_ : p1) (_ : p2) (_ : p3) (_ : p4) (_ : p5) (_ : p6) : ∃ k, quirelaw15_BandTells.f k l w y p n = some true := tells l w y p n

end Go.Proofs.Ythpipjkiplpfnaa.LBandTells
