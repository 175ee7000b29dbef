/- Where one more object stands is told as by the reference, or just its error: for every list of bands and every five whole numbers; no further condition. -/
import Derived.Test.YthpipjkiplpfnaaLRBandPut
import Derived.Test.YthpipjkiplpfnaaLPBandPut
namespace Go.Proofs.Ythpipjkiplpfnaa.LBandPut
open Go.RowKit Go.Proofs.Ythpipjkiplpfnaa.PBandPut Go.Proofs.YthpipjkiplpfnaaW.PrintWords Go.Proofs.YthpipjkiplpfnaaW.PrintLast
set_option linter.unusedVariables false
set_option linter.unusedSimpArgs false

theorem rPut_loop (l : List S24) (hl : l.length ≤ 64) (hf : fine l) (s h wd : Int) (d : Nat) : ∀ (i : Nat) (y : Int), l.length = i + d → 0 ≤ y → y ≤ 8190 →
    Ev (fun k => quireref15_Put.l0 k l s (i : Int) s y h wd) (s, putY l s d i y, h, wd, 0) := by
  induction d with
  | zero =>
    intro i y hi h0 h1
    refine up ?_
    have c : ¬ ((i : Int) < (l.length : Int)) := by omega
    simp only [quireref15_Put.l0, if_neg c, putY]
    exact Ev.now _
  | succ d ih =>
    intro i y hi hy0 hy1
    have h1 : (i : Int) < (l.length : Int) := by omega
    have h0 : (0 : Int) ≤ (i : Int) := by omega
    have hw : wrap64 ((i : Int) + 1) = ((i + 1 : Nat) : Int) := by rw [w64 (by omega) (by omega)]; omega
    obtain ⟨_, f1, f2, _⟩ := fine_at hf i
    unfold inD at f1 f2
    have g := mx_ge y ((at' l i).f1 + (at' l i).f2)
    refine up ?_
    simp only [quireref15_Put.l0, if_pos h1, if_pos h0, rd_at, hw, putY]
    rw [w64 (x := (at' l i).f1 + (at' l i).f2) (by omega) (by omega)]
    by_cases e : (at' l i).f0 = s
    · simp only [if_pos e]
      exact ih (i + 1) _ (by omega) (by omega) (by omega)
    · simp only [if_neg e]
      exact ih (i + 1) _ (by omega) (by omega) (by omega)

theorem rPut_tells (w : Int) (l : List S24) (s y h wide : Int) : Ev (fun k => quireref15_Put.f k w l s y h wide) (PutOf w l s y h wide) := by
  simp only [quireref15_Put.f]
  refine Ev.bind (rCheck_tells l) ?_
  unfold PutOf
  have bad : ∀ q, q = true → Ev (fun k => quireref15_Put.j0 k w l s y h wide q) ((0 : Int), (0 : Int), (0 : Int), (0 : Int), (5 : Int)) := by
    intro q hq
    subst hq
    refine up ?_
    simp only [quireref15_Put.j0, if_true]
    exact Ev.now _
  by_cases e : wrongOf l = 0
  · obtain ⟨hl, hf⟩ := wrongOf_zero e
    simp only [e, if_true, ne_eq, not_true, if_false, rside_tells, within_tells, Option.bind_some]
    by_cases a : isSide s
    · simp only [decide_eq_true a, if_true, a, not_true, if_false]
      by_cases b1 : inD w
      · by_cases b2 : inD y
        · by_cases b3 : inD h
          · by_cases b4 : inD wide
            · simp only [decide_eq_true b1, decide_eq_true b2, decide_eq_true b3, decide_eq_true b4, if_true, Bool.not_true, if_pos (show inD w ∧ inD y ∧ inD h ∧ inD wide from ⟨b1, b2, b3, b4⟩)]
              refine up ?_
              have hy := b2
              unfold inD at hy
              have hb := b1
              unfold inD at hb
              have e2 : mn wide (wrap64 (mx (wrap64 (w - 10)) 0 / 2)) = wideOf w wide := by rw [mx_comm]; exact wide_wrap hb.1 hb.2
              simp only [quireref15_Put.j0, Bool.false_eq_true, if_false, e2]
              exact rPut_loop l hl hf s h _ l.length 0 y (by omega) (by omega) (by omega)
            · rw [if_neg (fun q => b4 q.2.2.2)]
              simp only [decide_eq_true b1, decide_eq_true b2, decide_eq_true b3, decide_eq_false b4, if_true, Bool.not_false]
              exact bad _ rfl
          · rw [if_neg (fun q => b3 q.2.2.1)]
            simp only [decide_eq_true b1, decide_eq_true b2, decide_eq_false b3, if_true, Bool.false_eq_true, if_false]
            exact bad _ rfl
        · rw [if_neg (fun q => b2 q.2.1)]
          simp only [decide_eq_true b1, decide_eq_false b2, if_true, Bool.false_eq_true, if_false]
          exact bad _ rfl
      · rw [if_neg (fun q => b1 q.1)]
        simp only [decide_eq_false b1, Bool.false_eq_true, if_false]
        exact bad _ rfl
    · simp only [decide_eq_false a, Bool.false_eq_true, if_false, a, not_false_eq_true, if_true]
      exact Ev.now _
  · simp only [e, if_false, ne_eq, not_false_eq_true, if_true]
    exact Ev.now _

theorem puts (l : List S24) (w s y h wide : Int) : ∃ k, quirelaw15_BandPut.f k l w s y h wide = some true := by
  refine Ev.rounds ?_
  simp only [quirelaw15_BandPut.f]
  by_cases c : (l.length : Int) > 100
  · simp only [if_pos c]; exact Ev.now _
  · have hn : ([] : List S24).length + l.length < 4398046511104 := by simp; omega
    simp only [if_neg c, Option.bind_some, if_pos hn, List.nil_append]
    refine Ev.bind (Put_tells w l s y h wide) (Ev.bind (rPut_tells w l s y h wide) ?_)
    simp only [beq_self_eq_true, Bool.and_self, if_true]
    exact Ev.bind (bands_self l (by omega)) (Ev.now _)

theorem BandPut (l : List S24) (w s y h wide : Int) {p1 p2 p3 p4 p5 p6 p7 : Prop} (_ : p1) (_ : p2) (_ : p3) (_ : p4) (_ : p5) (_ : p6) (_ : p7) : ∃ k, quirelaw15_BandPut.f k l w s y h wide = some true := puts l w s y h wide

end Go.Proofs.Ythpipjkiplpfnaa.LBandPut
