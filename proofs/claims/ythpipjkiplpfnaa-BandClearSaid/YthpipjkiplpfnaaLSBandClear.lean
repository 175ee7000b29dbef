/- What band.Slots and band.Clear answer, as plain functions of lists: for every list of bands. -/
import Derived.Test.YthpipjkiplpfnaaLABandClear
import Derived.Test.YthpipjkiplpfnaaMBandClear3
namespace Go.Proofs.Ythpipjkiplpfnaa.LBandClear
open Go.RowKit Go.Proofs.Ythpipjkiplpfnaa.PBandClear Go.Proofs.YthpipjkiplpfnaaW.PrintWords Go.Proofs.YthpipjkiplpfnaaW.PrintLast
set_option linter.unusedVariables false
set_option linter.unusedSimpArgs false

/-- is band b beside the line at y, so high? -/
def beside (b : S24) (y p : Int) : Prop := 0 < b.f2 ∧ y < b.f1 + b.f2 ∧ b.f1 < y + p
instance (b : S24) (y p : Int) : Decidable (beside b y p) := by unfold beside; infer_instance
/-- what d bands from i on take of side s, n is taken already -/
def taken (l : List S24) (s y p : Int) : Nat → Nat → Int → Int
  | 0, _, n => n
  | d + 1, i, n => taken l s y p d (i + 1) (if (at' l i).f0 = s ∧ beside (at' l i) y p then mx n (at' l i).f3 else n)

theorem taken_bound {l : List S24} (h : fine l) (s y p : Int) (d : Nat) : ∀ i n, 0 ≤ n → n ≤ 4095 → 0 ≤ taken l s y p d i n ∧ taken l s y p d i n ≤ 4095 := by
  induction d with
  | zero => intro i n h0 h1; exact ⟨h0, h1⟩
  | succ d ih =>
    intro i n h0 h1
    simp only [taken]
    obtain ⟨_, _, _, f3⟩ := fine_at h i
    unfold inD at f3
    have g := mx_ge n (at' l i).f3
    refine ih _ _ ?_ ?_ <;> split <;> omega

theorem taken_loop (l : List S24) (hl : l.length ≤ 64) (hf : fine l) (s y p : Int) (y0 : 0 ≤ y) (y1 : y ≤ 100000) (p0 : 1 ≤ p) (p1 : p ≤ 255) (d : Nat) : ∀ (i : Nat) (n : Int), l.length = i + d →
    Ev (fun k => band_taken.l0 k s y p n l (l.length : Int) (i : Int)) (taken l s y p d i n) := by
  induction d with
  | zero =>
    intro i n hi
    refine up ?_
    have c : ¬ ((i : Int) < (l.length : Int)) := by omega
    simp only [band_taken.l0, if_neg c, taken]
    exact Ev.now _
  | succ d ih =>
    intro i n hi
    have h1 : (i : Int) < (l.length : Int) := by omega
    have h0 : (0 : Int) ≤ (i : Int) := by omega
    have hw : wrap64 ((i : Int) + 1) = ((i + 1 : Nat) : Int) := by rw [w64 (by omega) (by omega)]; omega
    obtain ⟨_, f1, f2, _⟩ := fine_at hf i
    unfold inD at f1 f2
    refine up ?_
    simp only [band_taken.l0, if_pos h1, if_pos h0, rd_at, hw, taken]
    rw [w64 (x := (at' l i).f1 + (at' l i).f2) (by omega) (by omega), w64 (x := y + p) (by omega) (by omega)]
    by_cases e : (at' l i).f0 = s
    · simp only [if_pos e, e, true_and]
      by_cases a1 : (at' l i).f1 ≥ y + p
      · simp only [if_pos a1]
        rw [if_neg (fun q => by have := q.2.2; omega)]
        exact ih (i + 1) n (by omega)
      · by_cases a2 : (at' l i).f1 + (at' l i).f2 ≤ y
        · simp only [if_neg a1, if_pos a2]
          rw [if_neg (fun q => by have := q.2.1; omega)]
          exact ih (i + 1) n (by omega)
        · by_cases a3 : (at' l i).f2 = 0
          · simp only [if_neg a1, if_neg a2, if_pos a3]
            rw [if_neg (fun q => by have := q.1; omega)]
            exact ih (i + 1) n (by omega)
          · simp only [if_neg a1, if_neg a2, if_neg a3]
            rw [if_pos (show beside (at' l i) y p from ⟨by omega, by omega, by omega⟩)]
            exact ih (i + 1) _ (by omega)
    · simp only [if_neg e, e, false_and, if_false]
      exact ih (i + 1) n (by omega)

theorem taken_tells (l : List S24) (hl : l.length ≤ 64) (hf : fine l) (s y p : Int) (y0 : 0 ≤ y) (y1 : y ≤ 100000) (p0 : 1 ≤ p) (p1 : p ≤ 255) :
    Ev (fun k => band_taken.f k l s y p) (taken l s y p l.length 0 0) := taken_loop l hl hf s y p y0 y1 p0 p1 l.length 0 0 (by omega)

def slotOf (w : Int) (l : List S24) (y p : Int) : S43 := ⟨taken l 0 y p l.length 0 0, mx 0 (w - taken l 0 y p l.length 0 0 - taken l 2 y p l.length 0 0)⟩
/-- n slots, the first one's line at y -/
def slotsOf (w : Int) (l : List S24) (p : Int) : Nat → Int → List S43
  | 0, _ => []
  | n + 1, y => slotOf w l y p :: slotsOf w l p n (y + p)

theorem slotsOf_length (w : Int) (l : List S24) (p : Int) (n : Nat) : ∀ y, (slotsOf w l p n y).length = n := by
  induction n with
  | zero => intro y; rfl
  | succ n ih => intro y; simp [slotsOf, ih]

theorem Slots_loop (w : Int) (hw0 : inD w) (l : List S24) (hl : l.length ≤ 64) (hf : fine l) (p : Int) (p0 : 1 ≤ p) (p1 : p ≤ 255) (m : Nat) (hm : m ≤ 256) (d : Nat) :
    ∀ (c : Nat) (y : Int) (out : List S43), m = c + d → 0 ≤ y → y ≤ 4095 + (c : Int) * 255 → out.length = c →
      Ev (fun k => band_Slots.l0 k w l y p out (m : Int) (c : Int)) (out ++ slotsOf w l p d y, 0) := by
  induction d with
  | zero =>
    intro c y out hc hy0 hy1 ho
    refine up ?_
    have c1 : ¬ (c : Int) < (m : Int) := by omega
    simp only [band_Slots.l0, if_neg c1, slotsOf, List.append_nil]
    exact Ev.now _
  | succ d ih =>
    intro c y out hc hy0 hy1 ho
    have c1 : (c : Int) < (m : Int) := by omega
    have hw : wrap64 ((c : Int) + 1) = ((c + 1 : Nat) : Int) := by rw [w64 (by omega) (by omega)]; omega
    have ho' : out.length < 8796093022208 := by omega
    have hyp : wrap64 (y + p) = y + p := w64 (by omega) (by omega)
    have t0 := taken_bound hf 0 y p l.length 0 0 (by omega) (by omega)
    have t2 := taken_bound hf 2 y p l.length 0 0 (by omega) (by omega)
    unfold inD at hw0
    refine up ?_
    simp only [band_Slots.l0, if_pos c1]
    refine Ev.bind (taken_tells l hl hf 0 y p hy0 (by omega) p0 p1) (Ev.bind (taken_tells l hl hf 2 y p hy0 (by omega) p0 p1) ?_)
    simp only [if_pos ho', hw, hyp]
    rw [w64 (x := w - taken l 0 y p l.length 0 0) (by omega) (by omega), w64 (x := w - taken l 0 y p l.length 0 0 - taken l 2 y p l.length 0 0) (by omega) (by omega)]
    have := ih (c + 1) (y + p) (out ++ [slotOf w l y p]) (by omega) (by omega) (by omega) (by simp [ho])
    rw [List.append_assoc] at this
    exact this

def SlotsOf (w : Int) (l : List S24) (y p n : Int) : List S43 × Int :=
  if wrongOf l ≠ 0 then ([], wrongOf l) else if inD w ∧ inD y ∧ 1 ≤ p ∧ p ≤ 255 ∧ 0 ≤ n ∧ n ≤ 256 then (slotsOf w l p n.toNat y, 0) else ([], 5)

theorem Slots_tells (w : Int) (l : List S24) (y p n : Int) : Ev (fun k => band_Slots.f k w l y p n) (SlotsOf w l y p n) := by
  simp only [band_Slots.f]
  refine Ev.bind (Check_tells l) ?_
  unfold SlotsOf
  have bad : ∀ q, q = true → Ev (fun k => band_Slots.j0 k w l y p n q) (([] : List S43), (5 : Int)) := by
    intro q hq
    subst hq
    refine up ?_
    simp only [band_Slots.j0, if_true]
    exact Ev.now _
  by_cases e : wrongOf l = 0
  · obtain ⟨hl, hf⟩ := wrongOf_zero e
    simp only [e, if_true, ne_eq, not_true, if_false]
    refine Ev.bind (fits_tells _ (by simp)) ?_
    by_cases a : inD w ∧ inD y
    · have q : ∀ x ∈ [w, y], inD x := by simp [a]
      simp only [decide_eq_true q, if_true]
      by_cases c1 : p < 1
      · rw [if_neg (show ¬ (inD w ∧ inD y ∧ 1 ≤ p ∧ p ≤ 255 ∧ 0 ≤ n ∧ n ≤ 256) by omega)]
        simp only [if_pos c1]; exact bad _ rfl
      by_cases c2 : p > 255
      · rw [if_neg (show ¬ (inD w ∧ inD y ∧ 1 ≤ p ∧ p ≤ 255 ∧ 0 ≤ n ∧ n ≤ 256) by omega)]
        simp only [if_neg c1, if_pos c2]; exact bad _ rfl
      by_cases c3 : n < 0
      · rw [if_neg (show ¬ (inD w ∧ inD y ∧ 1 ≤ p ∧ p ≤ 255 ∧ 0 ≤ n ∧ n ≤ 256) by omega)]
        simp only [if_neg c1, if_neg c2, if_pos c3]; exact bad _ rfl
      by_cases c4 : n > 256
      · rw [if_neg (show ¬ (inD w ∧ inD y ∧ 1 ≤ p ∧ p ≤ 255 ∧ 0 ≤ n ∧ n ≤ 256) by omega)]
        simp only [if_neg c1, if_neg c2, if_neg c3, decide_eq_true c4]; exact bad _ rfl
      rw [if_pos (show inD w ∧ inD y ∧ 1 ≤ p ∧ p ≤ 255 ∧ 0 ≤ n ∧ n ≤ 256 from ⟨a.1, a.2, by omega, by omega, by omega, by omega⟩)]
      simp only [if_neg c1, if_neg c2, if_neg c3, decide_eq_false c4]
      refine up ?_
      simp only [band_Slots.j0, Bool.false_eq_true, if_false]
      obtain ⟨m, rfl⟩ := Int.eq_ofNat_of_zero_le (show 0 ≤ n by omega)
      have hy := a.2
      unfold inD at hy
      have := Slots_loop w a.1 l hl hf p (by omega) (by omega) m (by omega) m 0 y [] (by omega) (by omega) (by omega) rfl
      rw [List.nil_append] at this
      exact this
    · have q : ¬ ∀ x ∈ [w, y], inD x := by intro q; exact a ⟨q _ (by simp), q _ (by simp)⟩
      rw [if_neg (fun g => a ⟨g.1, g.2.1⟩)]
      simp only [decide_eq_false q, Bool.false_eq_true, if_false]; exact bad _ rfl
  · simp only [e, if_false, ne_eq, not_false_eq_true, if_true]
    exact Ev.now _

/-- behind d bands from i on -/
def clearY (l : List S24) : Nat → Nat → Int → Int
  | 0, _, y => y
  | d + 1, i, y => clearY l d (i + 1) (mx y ((at' l i).f1 + (at' l i).f2))
def ClearOf (l : List S24) (y : Int) : Int × Int := if wrongOf l ≠ 0 then (0, wrongOf l) else if inD y then (clearY l l.length 0 y, 0) else (0, 5)

theorem Clear_loop (l : List S24) (hl : l.length ≤ 64) (hf : fine l) (d : Nat) : ∀ (i : Nat) (y : Int), l.length = i + d →
    Ev (fun k => band_Clear.l0 k y l (l.length : Int) (i : Int)) (clearY l d i y, 0) := by
  induction d with
  | zero =>
    intro i y hi
    refine up ?_
    have c : ¬ ((i : Int) < (l.length : Int)) := by omega
    simp only [band_Clear.l0, if_neg c, clearY]
    exact Ev.now _
  | succ d ih =>
    intro i y hi
    have h1 : (i : Int) < (l.length : Int) := by omega
    have h0 : (0 : Int) ≤ (i : Int) := by omega
    have hw : wrap64 ((i : Int) + 1) = ((i + 1 : Nat) : Int) := by rw [w64 (by omega) (by omega)]; omega
    obtain ⟨_, f1, f2, _⟩ := fine_at hf i
    unfold inD at f1 f2
    refine up ?_
    simp only [band_Clear.l0, if_pos h1, if_pos h0, rd_at, hw, clearY]
    rw [w64 (x := (at' l i).f1 + (at' l i).f2) (by omega) (by omega)]
    exact ih (i + 1) _ (by omega)

theorem Clear_tells (l : List S24) (y : Int) : Ev (fun k => band_Clear.f k l y) (ClearOf l y) := by
  simp only [band_Clear.f]
  refine Ev.bind (Check_tells l) ?_
  unfold ClearOf
  by_cases e : wrongOf l = 0
  · obtain ⟨hl, hf⟩ := wrongOf_zero e
    simp only [e, if_true, ne_eq, not_true, if_false]
    refine Ev.bind (fits_tells _ (by simp)) ?_
    by_cases a : inD y
    · have q : ∀ x ∈ [y], inD x := by simp [a]
      simp only [decide_eq_true q, if_true, if_pos a]
      exact Clear_loop l hl hf l.length 0 y (by omega)
    · have q : ¬ ∀ x ∈ [y], inD x := by intro q; exact a (q _ (by simp))
      simp only [decide_eq_false q, Bool.false_eq_true, if_false, if_neg a]; exact Ev.now _
  · simp only [e, if_false, ne_eq, not_false_eq_true, if_true]
    exact Ev.now _

end Go.Proofs.Ythpipjkiplpfnaa.LBandClear
