/- Clusters are the text, and boundaries lead there and back. -/
import Derived.Test.YtgohmckmekijiaaCC
import Derived.Test.YtgohmckmekijiaaA7
namespace Go.Proofs.Ytgohmckmekijiaa.PAll
open Go.RowKit Go.Proofs.YtgohmckmekijiaaW.PrintWords Go.Proofs.YtgohmckmekijiaaW.PrintLast Go.Proofs.YtgohmckmekijiaaW.PrintMore
set_option linter.unusedVariables false
set_option linter.unusedSimpArgs false

theorem whole_in (s : ByteArray) (hw : wrongOf s = 0) (l : List S28) (a i : Nat) (pre : List S28) (hc : Cut s a pre) (ha : a < s.size) (hrd : rd_T28 l (i : Int) = clOf s a) (hi : i < l.length)
    (hrec : Ev (fun k => quirelaw06_ClusterWhole.l0 k s true l ((endOf s a : Nat) : Int) (wrap64 ((i : Int) + 1))) true) (d : Nat) :
    ∀ x : Nat, endOf s a = x + d → a < x → Ev (fun k => quirelaw06_ClusterWhole.l1 k s true l (a : Int) (i : Int) (x : Int)) true := by
  have hs := wrong_le s hw
  have g := endOf_gt s a
  have ge := endOf_le s a ha
  have h0 : (0 : Int) ≤ (i : Int) := by omega
  have h1 : (i : Int) < (l.length : Int) := by omega
  have f1 : (clOf s a).f1 = ((endOf s a : Nat) : Int) := rfl
  induction d with
  | zero =>
    intro x hx hax
    have h2 : ¬ ((x : Int) < ((endOf s a : Nat) : Int)) := by omega
    refine up ?_
    simp only [quirelaw06_ClusterWhole.l1, if_pos h0, if_pos h1, hrd, f1, if_neg h2]
    exact hrec
  | succ d ih =>
    intro x hx hax
    have hgo := ih (x + 1) (by omega) (by omega)
    have h2 : (x : Int) < ((endOf s a : Nat) : Int) := by omega
    have hwx : wrap64 ((x : Int) + 1) = ((x + 1 : Nat) : Int) := by rw [w64 (by omega) (by omega)]; omega
    have hst := Cut.start hw hc ha x (by omega) (by omega)
    have hb := Cut.none hw hc ha x hax (by omega)
    refine up ?_
    simp only [quirelaw06_ClusterWhole.l1, if_pos h0, if_pos h1, hrd, f1, if_pos h2, cluster_Start.f, cluster_Bound.f, Option.bind_some, hst, hb, Bool.false_eq_true, if_false, quirelaw06_is.f, if_true, beq_self_eq_true, hwx]
    exact hgo

theorem whole_loop (s : ByteArray) (hw : wrongOf s = 0) (d : Nat) : ∀ (a i : Nat) (pre : List S28), s.size ≤ a + d → Cut s a pre → i ≤ a → (clus s).drop i = rest s a → Ev (fun k => quirelaw06_ClusterWhole.l0 k s true (clus s) (a : Int) (i : Int)) true := by
  have hs := wrong_le s hw
  induction d with
  | zero =>
    intro a i pre h1 hc hia hd
    have hle := hc.le
    rw [rest_nil s a (by omega)] at hd
    have h3 : ¬ ((i : Int) < ((clus s).length : Int)) := by have := List.drop_eq_nil_iff.1 hd; omega
    have h4 : (a : Int) = (s.size : Int) := by omega
    have hb := Cut.bound hw hc
    refine up ?_
    simp only [quirelaw06_ClusterWhole.l0, if_neg h3, if_true, if_pos h4, cluster_Bound.f, Option.bind_some, hb]
    exact Ev.now _
  | succ d ih =>
    intro a i pre h1 hc hia hd
    by_cases ha : a < s.size
    · have hr := rest_cons s a ha
      rw [hr] at hd
      obtain ⟨hrd, hlt, hd1⟩ := rd_drop (clus s) i _ _ hd
      have g := endOf_gt s a
      have ge := endOf_le s a ha
      have hwi : wrap64 ((i : Int) + 1) = ((i + 1 : Nat) : Int) := by rw [w64 (by omega) (by omega)]; omega
      have hwa : wrap64 ((a : Int) + 1) = ((a + 1 : Nat) : Int) := by rw [w64 (by omega) (by omega)]; omega
      have hrec := ih (endOf s a) (i + 1) _ (by omega) (hc.step ha) (by omega) hd1
      have hin := whole_in s hw (clus s) a i pre hc ha hrd hlt (by rw [hwi]; exact hrec) (endOf s a - (a + 1)) (a + 1) (by omega) (by omega)
      have h3 : (i : Int) < ((clus s).length : Int) := by omega
      have h0 : (0 : Int) ≤ (i : Int) := by omega
      have f0 : (clOf s a).f0 = (a : Int) := rfl
      have f1 : (clOf s a).f1 = ((endOf s a : Nat) : Int) := rfl
      have h4 : ¬ (((endOf s a : Nat) : Int) ≤ (a : Int)) := by omega
      have h5 : decide (((endOf s a : Nat) : Int) > (s.size : Int)) = false := decide_eq_false (by omega)
      refine up ?_
      simp only [quirelaw06_ClusterWhole.l0, if_pos h3, if_pos h0, hrd, f0, f1, if_true, if_neg h4, h5]
      refine up ?_
      simp only [quirelaw06_ClusterWhole.j2, Bool.false_eq_true, if_false, cluster_Next.f, cluster_Prev.f, cluster_Bound.f, Option.bind_some, if_pos h3, if_pos h0, hrd, f1, Cut.next hw hc ha, Cut.prev hw hc ha, quirelaw06_is.f, if_true, beq_self_eq_true, Cut.bound hw hc, Bool.not_true]
      refine up ?_
      simp only [quirelaw06_ClusterWhole.j3, Bool.false_eq_true, if_false, hwa]
      exact hin
    · have hle := hc.le
      rw [rest_nil s a (by omega)] at hd
      have h3 : ¬ ((i : Int) < ((clus s).length : Int)) := by have := List.drop_eq_nil_iff.1 hd; omega
      have h4 : (a : Int) = (s.size : Int) := by omega
      have hb := Cut.bound hw hc
      refine up ?_
      simp only [quirelaw06_ClusterWhole.l0, if_neg h3, if_true, if_pos h4, cluster_Bound.f, Option.bind_some, hb]
      exact Ev.now _
theorem whole_holds : quirelaw06_ClusterWhole.Pure := by
  intro s _
  refine Ev.rounds ?_
  unfold quirelaw06_ClusterWhole.f
  refine known_tells.bind ?_
  refine Ev.bind (a := splitOf s) (Ev.now _) ?_
  unfold splitOf
  by_cases h : wrongOf s = 0
  · simp only [if_pos h, if_true]
    by_cases e : (s.size : Int) > 600
    · simp only [e, decide_true]
      refine up ?_
      simp only [quirelaw06_ClusterWhole.j0, if_true]
      exact Ev.now _
    · simp only [e, decide_false]
      refine up ?_
      simp only [quirelaw06_ClusterWhole.j0, Bool.false_eq_true, if_false]
      exact whole_loop s h s.size 0 0 [] (by omega) (Cut.zero s) (by omega) rfl
  · simp only [if_neg h]
    refine up ?_
    simp only [quirelaw06_ClusterWhole.j0, if_true, if_neg h, List.length_nil]
    exact Ev.now _
end Go.Proofs.Ytgohmckmekijiaa.PAll
