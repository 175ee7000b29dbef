/- Which lists may be the looks of so many bytes is told as by the reference: for every list of runs and every whole number; no further condition. -/
import Derived.Test.YtmggbbeecmjalaaPSpanChecksx3
import Derived.OpenShut
namespace Go.Proofs.Ytmggbbeecmjalaa.LSpanChecks
open Go.RowKit Go.Proofs.Ytmggbbeecmjalaa.PSpanChecks Go.Proofs.YtmggbbeecmjalaaW.PrintWords Go.Proofs.YtmggbbeecmjalaaW.PrintLast
set_option linter.unusedVariables false
set_option linter.unusedSimpArgs false

theorem w64 {x : Int} (h0 : -9223372036854775808 ≤ x) (h1 : x ≤ 9223372036854775807) : wrap64 x = x := by unfold wrap64; omega
theorem up {α : Type} {g : Nat → Option α} {r : α} (h : Ev (fun k => g (k + 1)) r) : Ev g r := Ev.step (fun _ => rfl) h

def at' (l : List S60) (i : Nat) : S60 := l.getD i z60
theorem rd_at (l : List S60) (i : Nat) : rd_T60 l (i : Int) = at' l i := by simp [rd_T60, at']

/-- the lengths of d runs from i on, left bytes are to be told -/
def lens (l : List S60) : Nat → Nat → Int → Int
  | 0, _, left => if left = 0 then 0 else 5
  | d + 1, i, left => if (at' l i).f0 < 1 then 5 else if (at' l i).f0 > left then 5 else lens l d (i + 1) (wrap64 (left - (at' l i).f0))
def mays (l : List S60) : Nat → Nat → Int → Int
  | 0, _, n => lens l l.length 0 n
  | d + 1, i, n => if span_May.f (at' l i).f1.f0 (at' l i).f1.f1 (at' l i).f1.f2 = some true then mays l d (i + 1) n else 2

theorem may_same (a b c : Int) : quireref02_May.f a b c = span_May.f a b c := rfl
theorem may_some (a b c : Int) : ∃ q, span_May.f a b c = some q := by
  unfold span_May.f
  repeat' split
  all_goals exact ⟨_, rfl⟩

theorem lens_loop (l : List S60) (hl : l.length ≤ 4096) (d : Nat) : ∀ (i : Nat) (left : Int), l.length = i + d →
    Ev (fun k => span_Check.l1 k left l (l.length : Int) (i : Int)) (lens l d i left) ∧ Ev (fun k => quireref02_Check.l1 k l left (i : Int)) (lens l d i left) := by
  induction d with
  | zero =>
    intro i left hi
    have h1 : ¬ ((i : Int) < (l.length : Int)) := by omega
    refine ⟨up ?_, up ?_⟩
    · simp only [span_Check.l1, if_neg h1, lens]
      by_cases c : left = 0
      · simp only [if_pos c]; exact Ev.now _
      · simp only [if_neg c]; exact Ev.now _
    · simp only [quireref02_Check.l1, if_neg h1, lens]
      by_cases c : left = 0
      · simp only [if_pos c]; exact Ev.now _
      · simp only [if_neg c]; exact Ev.now _
  | succ d ih =>
    intro i left hi
    have h1 : (i : Int) < (l.length : Int) := by omega
    have h0 : (0 : Int) ≤ (i : Int) := by omega
    have hw : wrap64 ((i : Int) + 1) = ((i + 1 : Nat) : Int) := by rw [w64 (by omega) (by omega)]; omega
    have hrec := ih (i + 1) (wrap64 (left - (at' l i).f0)) (by omega)
    refine ⟨up ?_, up ?_⟩
    · simp only [span_Check.l1, if_pos h1, if_pos h0, rd_at, hw, lens]
      by_cases c1 : (at' l i).f0 < 1
      · simp only [if_pos c1]; exact Ev.now _
      by_cases c2 : (at' l i).f0 > left
      · simp only [if_neg c1, if_pos c2]; exact Ev.now _
      · simp only [if_neg c1, if_neg c2]; exact hrec.1
    · simp only [quireref02_Check.l1, if_pos h1, if_pos h0, rd_at, hw, lens]
      by_cases c1 : (at' l i).f0 < 1
      · simp only [if_pos c1]; exact Ev.now _
      by_cases c2 : (at' l i).f0 > left
      · simp only [if_neg c1, if_pos c2]; exact Ev.now _
      · simp only [if_neg c1, if_neg c2]; exact hrec.2

theorem mays_loop (l : List S60) (hl : l.length ≤ 4096) (n : Int) (d : Nat) : ∀ (i : Nat), l.length = i + d →
    Ev (fun k => span_Check.l0 k l n l (l.length : Int) (i : Int)) (mays l d i n) ∧ Ev (fun k => quireref02_Check.l0 k l n (i : Int)) (mays l d i n) := by
  induction d with
  | zero =>
    intro i hi
    have h1 : ¬ ((i : Int) < (l.length : Int)) := by omega
    have h := lens_loop l hl l.length 0 n (by omega)
    refine ⟨up ?_, up ?_⟩
    · simp only [span_Check.l0, if_neg h1, mays]; exact h.1
    · simp only [quireref02_Check.l0, if_neg h1, mays]; exact h.2
  | succ d ih =>
    intro i hi
    have h1 : (i : Int) < (l.length : Int) := by omega
    have h0 : (0 : Int) ≤ (i : Int) := by omega
    have hw : wrap64 ((i : Int) + 1) = ((i + 1 : Nat) : Int) := by rw [w64 (by omega) (by omega)]; omega
    have hrec := ih (i + 1) (by omega)
    obtain ⟨q, hq⟩ := may_some (at' l i).f1.f0 (at' l i).f1.f1 (at' l i).f1.f2
    refine ⟨up ?_, up ?_⟩
    · simp only [span_Check.l0, if_pos h1, if_pos h0, rd_at, hw, mays, hq, Option.bind_some]
      cases q with
      | true => simp only [if_true]; exact hrec.1
      | false => simp only [Bool.false_eq_true, if_false, Option.some.injEq]; exact Ev.now _
    · simp only [quireref02_Check.l0, if_pos h1, if_pos h0, rd_at, hw, mays, may_same, hq, Option.bind_some]
      cases q with
      | true => simp only [if_true]; exact hrec.2
      | false => simp only [Bool.false_eq_true, if_false, Option.some.injEq]; exact Ev.now _

theorem spans_loop (l : List S60) (hl : l.length ≤ 4096) (d : Nat) : ∀ i : Nat, l.length = i + d → Ev (fun k => quirelaw02_spans.l0 k l l (i : Int)) true := by
  induction d with
  | zero =>
    intro i hi
    refine up ?_
    have h1 : ¬ ((i : Int) < (l.length : Int)) := by omega
    simp only [quirelaw02_spans.l0, if_neg h1]
    exact Ev.now _
  | succ d ih =>
    intro i hi
    have hrec := ih (i + 1) (by omega)
    have h1 : (i : Int) < (l.length : Int) := by omega
    have h0 : (0 : Int) ≤ (i : Int) := by omega
    have hw : wrap64 ((i : Int) + 1) = ((i + 1 : Nat) : Int) := by rw [w64 (by omega) (by omega)]; omega
    refine up ?_
    simp only [quirelaw02_spans.l0, if_pos h1, if_pos h0, beq_self_eq_true, Bool.not_true, Bool.or_false, Bool.false_eq_true, if_false, hw]
    exact hrec

theorem checks (l : List S60) (n : Int) : ∃ k, quirelaw02_SpanChecks.f k l n = some true := by
  refine Ev.rounds ?_
  simp only [quirelaw02_SpanChecks.f]
  by_cases c : (l.length : Int) > 200
  · simp only [if_pos c]; exact Ev.now _
  · have hn : ([] : List S60).length + l.length < 4398046511104 := by simp; omega
    simp only [if_neg c, Option.bind_some, if_pos hn, List.nil_append]
    have h := mays_loop l (by omega) n l.length 0 (by omega)
    refine Ev.bind (a := mays l l.length 0 n) h.1 (Ev.bind (a := mays l l.length 0 n) h.2 ?_)
    simp only [if_true]
    refine Ev.bind (a := true) ?_ (Ev.now _)
    simp only [quirelaw02_spans.f, if_true]
    exact spans_loop l (by omega) l.length 0 (by omega)

theorem SpanChecks (l : List S60) (n : Int) {p1 p2 p3 : Prop} (_ : p1) (_ : p2) (_ : p3) : ∃ k, quirelaw02_SpanChecks.f k l n = some true := checks l n

end Go.Proofs.Ytmggbbeecmjalaa.LSpanChecks
