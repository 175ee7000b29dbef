/- The walk of the statements' Go functions to their answers in plain Lean; no further condition. -/
import Derived.Test.YtgohmckmekijiaaHand
import Derived.Test.YtgohmckmekijiaaA0
import Derived.Test.YtgohmckmekijiaaA2
import Derived.Test.YtgohmckmekijiaaA3
import Derived.Test.YtgohmckmekijiaaA6
namespace Go.Proofs.Ytgohmckmekijiaa.PAll
open Go.RowKit Go.Proofs.YtgohmckmekijiaaW.PrintWords Go.Proofs.YtgohmckmekijiaaW.PrintLast Go.Proofs.YtgohmckmekijiaaW.PrintMore
attribute [local go_sem] max2_int min2_int max_two min_two max_three min_three max_four min_four   -- for this text's walks alone
set_option linter.unusedVariables false
set_option linter.unusedSimpArgs false

/-! ### quirelaw06_ClusterParts: function 7 -/
mutual
def quirelaw06_ClusterParts.j0 : Nat → ByteArray → ByteArray → Bool → Bool → Option (Bool)
  | 0, _, _, _, _ => none
  | k + 1, x0, x1, x5, x44 => if x44 = true then (some x5) else ((cluster_Split.f k x0).bind fun bt296 => ((cluster_Split.f k x1).bind fun bt300 => (if x0.size + x1.size ≤ 9223372036854775807 then ((cluster_Split.f k (x0 ++ x1)).bind fun bt304 => (if bt296.2 = 0 then (quirelaw06_ClusterParts.j1 k x0 x5 bt296.1 bt300.1 bt304.1 bt304.2 (bt300.2 != 0)) else (quirelaw06_ClusterParts.j1 k x0 x5 bt296.1 bt300.1 bt304.1 bt304.2 true))) else (none))))
def quirelaw06_ClusterParts.j1 : Nat → ByteArray → Bool → List (S28) → List (S28) → List (S28) → Int → Bool → Option (Bool)
  | 0, _, _, _, _, _, _, _ => none
  | k + 1, x0, x5, x6, x8, x10, x11, x68 => if x68 = true then (if x5 = true then (some (x11 == 4)) else (some false)) else (quirelaw06_ClusterParts.l0 k x0 x5 x6 x8 x10 x11 0)
def quirelaw06_ClusterParts.l0 : Nat → ByteArray → Bool → List (S28) → List (S28) → List (S28) → Int → Int → Option (Bool)
  | 0, _, _, _, _, _, _, _ => none
  | k + 1, x0, x5, x6, x8, x10, x11, x12 => if x12 < (x8.length : Int) then (if 0 ≤ x12 then ((some (x8.set (x12 : Int).toNat (⟨wrap64 (((rd_T28 x8 x12).f0) + (x0.size : Int)), (rd_T28 x8 x12).f1, (rd_T28 x8 x12).f2⟩ : S28) : List (S28))).bind fun y309 => (quirelaw06_ClusterParts.l0 k x0 x5 x6 (y309.set (x12 : Int).toNat (⟨(rd_T28 y309 x12).f0, wrap64 (((rd_T28 y309 x12).f1) + (x0.size : Int)), (rd_T28 y309 x12).f2⟩ : S28)) x10 x11 (wrap64 (x12 + 1)))) else (none)) else (if x5 = true then (if x11 = 0 then (if x6.length + x8.length < 5864062014805 then ((quirelaw06_same.f k x10 (x6 ++ x8)).bind fun t315 => (some t315)) else (none)) else (some false)) else (some false))
end
def quirelaw06_ClusterParts.f (k : Nat) (a0 : ByteArray) (a1 : ByteArray) : Option (Bool) := (quirelaw06_ClusterKnown.f k).bind fun t295 => (if (a0.size : Int) > 4096 then (quirelaw06_ClusterParts.j0 k a0 a1 t295 true) else (if (a1.size : Int) > (wrap64 (4096 - (a0.size : Int))) then (quirelaw06_ClusterParts.j0 k a0 a1 t295 true) else (if (a1.size : Int) > 0 then (if 0 < (a1.size : Int) then (if (bt a1 0) = 94 then (quirelaw06_ClusterParts.j0 k a0 a1 t295 true) else (if (bt a1 0) = 96 then (quirelaw06_ClusterParts.j0 k a0 a1 t295 true) else (quirelaw06_ClusterParts.j0 k a0 a1 t295 ((bt a1 0) == 126)))) else (none)) else (quirelaw06_ClusterParts.j0 k a0 a1 t295 false))))
theorem quirelaw06_ClusterParts.mono_l : ∀ k, (∀ y0 y1 y2 y3, LeO (quirelaw06_ClusterParts.j0 k y0 y1 y2 y3) (quirelaw06_ClusterParts.j0 (k + 1) y0 y1 y2 y3)) ∧ (∀ y0 y1 y2 y3 y4 y5 y6, LeO (quirelaw06_ClusterParts.j1 k y0 y1 y2 y3 y4 y5 y6) (quirelaw06_ClusterParts.j1 (k + 1) y0 y1 y2 y3 y4 y5 y6)) ∧ (∀ y0 y1 y2 y3 y4 y5 y6, LeO (quirelaw06_ClusterParts.l0 k y0 y1 y2 y3 y4 y5 y6) (quirelaw06_ClusterParts.l0 (k + 1) y0 y1 y2 y3 y4 y5 y6))
  | 0 => ⟨fun _ _ _ _ r h => by simp [quirelaw06_ClusterParts.j0] at h, fun _ _ _ _ _ _ _ r h => by simp [quirelaw06_ClusterParts.j1] at h, fun _ _ _ _ _ _ _ r h => by simp [quirelaw06_ClusterParts.l0] at h⟩
  | k + 1 => by
    obtain ⟨ih0, ih1, ih2⟩ := quirelaw06_ClusterParts.mono_l k
    refine ⟨?_, ?_, ?_⟩
    · intro y0 y1 y2 y3
      unfold quirelaw06_ClusterParts.j0
      repeat' first
      | (with_reducible exact ih0 _ _ _ _)
      | (with_reducible exact ih1 _ _ _ _ _ _ _)
      | (with_reducible exact ih2 _ _ _ _ _ _ _)
      | (with_reducible exact cluster_Split.mono _ _)
      | (with_reducible exact quirelaw06_ClusterKnown.mono _)
      | (with_reducible exact quirelaw06_same.mono _ _ _)
      | (with_reducible exact LeO.refl _)
      | (with_reducible exact LeO.none _)
      | (with_reducible refine LeO.ite ?_ ?_)
      | (with_reducible refine LeO.bind ?_ (fun _ => ?_))
      | exact ih0 _ _ _ _
      | exact ih1 _ _ _ _ _ _ _
      | exact ih2 _ _ _ _ _ _ _
      | exact cluster_Split.mono _ _
      | exact quirelaw06_ClusterKnown.mono _
      | exact quirelaw06_same.mono _ _ _
      | exact LeO.none _
      | refine LeO.ite ?_ ?_
      | refine LeO.bind ?_ (fun _ => ?_)
    · intro y0 y1 y2 y3 y4 y5 y6
      unfold quirelaw06_ClusterParts.j1
      repeat' first
      | (with_reducible exact ih0 _ _ _ _)
      | (with_reducible exact ih1 _ _ _ _ _ _ _)
      | (with_reducible exact ih2 _ _ _ _ _ _ _)
      | (with_reducible exact cluster_Split.mono _ _)
      | (with_reducible exact quirelaw06_ClusterKnown.mono _)
      | (with_reducible exact quirelaw06_same.mono _ _ _)
      | (with_reducible exact LeO.refl _)
      | (with_reducible exact LeO.none _)
      | (with_reducible refine LeO.ite ?_ ?_)
      | (with_reducible refine LeO.bind ?_ (fun _ => ?_))
      | exact ih0 _ _ _ _
      | exact ih1 _ _ _ _ _ _ _
      | exact ih2 _ _ _ _ _ _ _
      | exact cluster_Split.mono _ _
      | exact quirelaw06_ClusterKnown.mono _
      | exact quirelaw06_same.mono _ _ _
      | exact LeO.none _
      | refine LeO.ite ?_ ?_
      | refine LeO.bind ?_ (fun _ => ?_)
    · intro y0 y1 y2 y3 y4 y5 y6
      unfold quirelaw06_ClusterParts.l0
      repeat' first
      | (with_reducible exact ih0 _ _ _ _)
      | (with_reducible exact ih1 _ _ _ _ _ _ _)
      | (with_reducible exact ih2 _ _ _ _ _ _ _)
      | (with_reducible exact cluster_Split.mono _ _)
      | (with_reducible exact quirelaw06_ClusterKnown.mono _)
      | (with_reducible exact quirelaw06_same.mono _ _ _)
      | (with_reducible exact LeO.refl _)
      | (with_reducible exact LeO.none _)
      | (with_reducible refine LeO.ite ?_ ?_)
      | (with_reducible refine LeO.bind ?_ (fun _ => ?_))
      | exact ih0 _ _ _ _
      | exact ih1 _ _ _ _ _ _ _
      | exact ih2 _ _ _ _ _ _ _
      | exact cluster_Split.mono _ _
      | exact quirelaw06_ClusterKnown.mono _
      | exact quirelaw06_same.mono _ _ _
      | exact LeO.none _
      | refine LeO.ite ?_ ?_
      | refine LeO.bind ?_ (fun _ => ?_)
theorem quirelaw06_ClusterParts.mono : ∀ a0 a1 k, LeO (quirelaw06_ClusterParts.f k a0 a1) (quirelaw06_ClusterParts.f (k + 1) a0 a1) := by
  intro a0 a1 k
  obtain ⟨ih0, ih1, ih2⟩ := quirelaw06_ClusterParts.mono_l k
  unfold quirelaw06_ClusterParts.f
  repeat' first
      | (with_reducible exact ih0 _ _ _ _)
      | (with_reducible exact ih1 _ _ _ _ _ _ _)
      | (with_reducible exact ih2 _ _ _ _ _ _ _)
      | (with_reducible exact cluster_Split.mono _ _)
      | (with_reducible exact quirelaw06_ClusterKnown.mono _)
      | (with_reducible exact quirelaw06_same.mono _ _ _)
      | (with_reducible exact LeO.refl _)
      | (with_reducible exact LeO.none _)
      | (with_reducible refine LeO.ite ?_ ?_)
      | (with_reducible refine LeO.bind ?_ (fun _ => ?_))
      | exact ih0 _ _ _ _
      | exact ih1 _ _ _ _ _ _ _
      | exact ih2 _ _ _ _ _ _ _
      | exact cluster_Split.mono _ _
      | exact quirelaw06_ClusterKnown.mono _
      | exact quirelaw06_same.mono _ _ _
      | exact LeO.none _
      | refine LeO.ite ?_ ?_
      | refine LeO.bind ?_ (fun _ => ?_)
set_option maxHeartbeats 8000000 in
set_option maxRecDepth 100000 in
theorem quirelaw06_ClusterParts.calls (k : Nat) (a0 : ByteArray) (a1 : ByteArray) (r : Bool) (w : World) (h : quirelaw06_ClusterParts.f k a0 a1 = some r) :
    Calls Try.prog 7 #[.string a0, .string a1] w fun e w' => e = .returned (.bool r) ∧ Below w.heap.size w w' := by
  have HB := Aside0.mk (Below.refl w.heap.size w)
  have H : ((quirelaw06_ClusterKnown.f k).bind fun t295 => (if (a0.size : Int) > 4096 then (quirelaw06_ClusterParts.j0 k a0 a1 t295 true) else (if (a1.size : Int) > (wrap64 (4096 - (a0.size : Int))) then (quirelaw06_ClusterParts.j0 k a0 a1 t295 true) else (if (a1.size : Int) > 0 then (if 0 < (a1.size : Int) then (if (bt a1 0) = 94 then (quirelaw06_ClusterParts.j0 k a0 a1 t295 true) else (if (bt a1 0) = 96 then (quirelaw06_ClusterParts.j0 k a0 a1 t295 true) else (quirelaw06_ClusterParts.j0 k a0 a1 t295 ((bt a1 0) == 126)))) else (none)) else (quirelaw06_ClusterParts.j0 k a0 a1 t295 false))))) = some r := h
  clear h
  replace H := Option.bind_eq_some_iff.mp H
  obtain ⟨t295, A30, H⟩ := H
  replace H : (if (a0.size : Int) > 4096 then (quirelaw06_ClusterParts.j0 k a0 a1 t295 true) else (if (a1.size : Int) > (wrap64 (4096 - (a0.size : Int))) then (quirelaw06_ClusterParts.j0 k a0 a1 t295 true) else (if (a1.size : Int) > 0 then (if 0 < (a1.size : Int) then (if (bt a1 0) = 94 then (quirelaw06_ClusterParts.j0 k a0 a1 t295 true) else (if (bt a1 0) = 96 then (quirelaw06_ClusterParts.j0 k a0 a1 t295 true) else (quirelaw06_ClusterParts.j0 k a0 a1 t295 ((bt a1 0) == 126)))) else (none)) else (quirelaw06_ClusterParts.j0 k a0 a1 t295 false)))) = some r := H
  have A3 := Aside0.mk A30
  clear A30
  have HC4 := Aside0.mk H
  clear H
  go_enter Try.func7, Try.ntmps7
  go_upto_region 2 with (first | ((with_reducible refine gate_callee (f := 5) rfl ?_); refine goesL_ (some 13) rfl rfl Try.func5 (by kernel_rfl) rfl #[] rfl (by (try simp only [List.map_toArray, List.map_cons, List.map_nil]); first | done | rfl | (simp only [List.length_drop, List.length_take]; rfl)) ?_; (with_reducible refine (quirelaw06_ClusterKnown.calls k  t295 _ A3.out).mono ?_); rintro e w5 ⟨rfl, hb⟩; refine ⟨_, rfl, ?_⟩; have n0_ := Aside0.mk (below_step (by repeat (first | (with_reducible first | exact HB.out | apply below_alloc | apply pw_below_drewN | apply below_drew1) | exact HB.out)) hb); clear HB; have HB := n0_; clear n0_; (try clear hb); (try clear hb2); (try clear hk); (try clear hi)))
  (try simp only [Act.put, List.setIfInBounds_toArray, List.set_cons_zero, List.set_cons_succ])
  go_cut [44] (fun v44 wc => ∃ (kq : Nat) (x44_3 : Bool), v44 = .bool x44_3 ∧ Aside0 (quirelaw06_ClusterParts.j0 kq a0 a1 t295 x44_3 = some r) ∧ Aside0 (kq ≤ k) ∧ Aside0 (Below w.heap.size w wc))
  case first =>
    have H := HC4.out
    clear HC4
    by_cases c6 : (a0.size : Int) > 4096
    · rw [if_pos c6] at H
      have c6b0 : decide (4096 < (a0.size : Int)) = true := decide_eq_true c6
      have c6b1 : decide (4096 < a0.size) = true := decide_eq_true (by omega)
      clear c6
      (first | rw [c6b0] | (simp only [i64_w, i32_w]; rw [c6b0]) | skip)
      have H' := Aside0.mk H
      clear H
      go_wp2
      go_meet
      case rel => exact ⟨_, (true), (by first | rfl | (simp; done) | (simp [*]; done)), H', ⟨by first | omega | exact Nat.le_refl _⟩, ⟨by repeat (first | (with_reducible first | exact HB.out | apply below_alloc | apply pw_below_drewN | apply below_drew1) | exact HB.out)⟩⟩
    · rw [if_neg c6] at H
      have c6b0 : decide (4096 < (a0.size : Int)) = false := decide_eq_false c6
      have c6b1 : decide (4096 < a0.size) = false := decide_eq_false (by omega)
      clear c6
      (first | rw [c6b0] | (simp only [i64_w, i32_w]; rw [c6b0]) | skip)
      by_cases c7 : (a1.size : Int) > (wrap64 (4096 - (a0.size : Int)))
      · rw [if_pos c7] at H
        have c7b0 : decide ((wrap64 (4096 - (a0.size : Int))) < (a1.size : Int)) = true := decide_eq_true c7
        clear c7
        have H' := Aside0.mk H
        clear H
        go_wp2
        go_meet
        case rel => exact ⟨_, (true), (by first | rfl | (simp; done) | (simp [*]; done)), H', ⟨by first | omega | exact Nat.le_refl _⟩, ⟨by repeat (first | (with_reducible first | exact HB.out | apply below_alloc | apply pw_below_drewN | apply below_drew1) | exact HB.out)⟩⟩
      · rw [if_neg c7] at H
        have c7b0 : decide ((wrap64 (4096 - (a0.size : Int))) < (a1.size : Int)) = false := decide_eq_false c7
        clear c7
        by_cases c8 : (a1.size : Int) > 0
        · rw [if_pos c8] at H
          have c8b0 : decide (0 < (a1.size : Int)) = true := decide_eq_true c8
          have c8b1 : decide (0 < a1.size) = true := decide_eq_true (by omega)
          clear c8
          by_cases c9 : 0 < (a1.size : Int)
          · rw [if_pos c9] at H
            have c9b0 : decide (0 < (a1.size : Int)) = true := decide_eq_true c9
            have c9b1 : decide (0 < a1.size) = true := decide_eq_true (by omega)
            clear c9
            by_cases c11 : (bt a1 0) = 94
            · rw [if_pos c11] at H
              have c11b0 : ((bt a1 0) == 94) = true := beq_iff_eq.mpr c11
              have c11b1 : ((bt a1 0) != 94) = false := bne_eq_false_iff_eq.mpr c11
              clear c11
              have H' := Aside0.mk H
              clear H
              have p10 : 0 ≤ (0 : Int) := (by omega)
              have q10 : 0 < a1.size := (by have : (0 : Int) < (a1.size : Int) := of_decide_eq_true (by first | (with_reducible assumption) | assumption); omega)
              have hx10 : ∀ h : 0 < a1.size, ((a1[0]'h).toNat : Int) = bt a1 0 := bt_at a1 0
              clear p10
              have qi10 : (0 < (a1.size : Int)) = True := eq_true (of_decide_eq_true (by first | (with_reducible assumption) | assumption))
              replace q10 := eq_true q10
              go_wp2
              go_meet
              case rel => exact ⟨_, (true), (by first | rfl | (simp; done) | (simp [*]; done)), H', ⟨by first | omega | exact Nat.le_refl _⟩, ⟨by repeat (first | (with_reducible first | exact HB.out | apply below_alloc | apply pw_below_drewN | apply below_drew1) | exact HB.out)⟩⟩
            · rw [if_neg c11] at H
              have c11b0 : ((bt a1 0) == 94) = false := beq_eq_false_iff_ne.mpr c11
              have c11b1 : ((bt a1 0) != 94) = true := bne_iff_ne.mpr c11
              by_cases c13 : (bt a1 0) = 96
              · rw [if_pos c13] at H
                have c13b0 : ((bt a1 0) == 96) = true := beq_iff_eq.mpr c13
                have c13b1 : ((bt a1 0) != 96) = false := bne_eq_false_iff_eq.mpr c13
                clear c13
                have H' := Aside0.mk H
                clear H
                have p10 : 0 ≤ (0 : Int) := (by omega)
                have q10 : 0 < a1.size := (by have : (0 : Int) < (a1.size : Int) := of_decide_eq_true (by first | (with_reducible assumption) | assumption); omega)
                have hx10 : ∀ h : 0 < a1.size, ((a1[0]'h).toNat : Int) = bt a1 0 := bt_at a1 0
                clear p10
                have qi10 : (0 < (a1.size : Int)) = True := eq_true (of_decide_eq_true (by first | (with_reducible assumption) | assumption))
                replace q10 := eq_true q10
                have p12 : 0 ≤ (0 : Int) := (by omega)
                have q12 : 0 < a1.size := (by have : (0 : Int) < (a1.size : Int) := of_decide_eq_true (by first | (with_reducible assumption) | assumption); omega)
                have hx12 : ∀ h : 0 < a1.size, ((a1[0]'h).toNat : Int) = bt a1 0 := bt_at a1 0
                clear p12
                have qi12 : (0 < (a1.size : Int)) = True := eq_true (of_decide_eq_true (by first | (with_reducible assumption) | assumption))
                replace q12 := eq_true q12
                go_wp2
                go_meet
                case rel => exact ⟨_, (true), (by first | rfl | (simp; done) | (simp [*]; done)), H', ⟨by first | omega | exact Nat.le_refl _⟩, ⟨by repeat (first | (with_reducible first | exact HB.out | apply below_alloc | apply pw_below_drewN | apply below_drew1) | exact HB.out)⟩⟩
              · rw [if_neg c13] at H
                have c13b0 : ((bt a1 0) == 96) = false := beq_eq_false_iff_ne.mpr c13
                have c13b1 : ((bt a1 0) != 96) = true := bne_iff_ne.mpr c13
                have H' := Aside0.mk H
                clear H
                have p10 : 0 ≤ (0 : Int) := (by omega)
                have q10 : 0 < a1.size := (by have : (0 : Int) < (a1.size : Int) := of_decide_eq_true (by first | (with_reducible assumption) | assumption); omega)
                have hx10 : ∀ h : 0 < a1.size, ((a1[0]'h).toNat : Int) = bt a1 0 := bt_at a1 0
                clear p10
                have qi10 : (0 < (a1.size : Int)) = True := eq_true (of_decide_eq_true (by first | (with_reducible assumption) | assumption))
                replace q10 := eq_true q10
                have p12 : 0 ≤ (0 : Int) := (by omega)
                have q12 : 0 < a1.size := (by have : (0 : Int) < (a1.size : Int) := of_decide_eq_true (by first | (with_reducible assumption) | assumption); omega)
                have hx12 : ∀ h : 0 < a1.size, ((a1[0]'h).toNat : Int) = bt a1 0 := bt_at a1 0
                clear p12
                have qi12 : (0 < (a1.size : Int)) = True := eq_true (of_decide_eq_true (by first | (with_reducible assumption) | assumption))
                replace q12 := eq_true q12
                have p14 : 0 ≤ (0 : Int) := (by omega)
                have q14 : 0 < a1.size := (by have : (0 : Int) < (a1.size : Int) := of_decide_eq_true (by first | (with_reducible assumption) | assumption); omega)
                have hx14 : ∀ h : 0 < a1.size, ((a1[0]'h).toNat : Int) = bt a1 0 := bt_at a1 0
                clear p14
                have qi14 : (0 < (a1.size : Int)) = True := eq_true (of_decide_eq_true (by first | (with_reducible assumption) | assumption))
                replace q14 := eq_true q14
                go_wp2
                go_meet
                case rel => exact ⟨_, (((bt a1 0) == 126)), (by first | rfl | (simp; done) | (simp [*]; done)), H', ⟨by first | omega | exact Nat.le_refl _⟩, ⟨by repeat (first | (with_reducible first | exact HB.out | apply below_alloc | apply pw_below_drewN | apply below_drew1) | exact HB.out)⟩⟩
          · rw [if_neg c9] at H
            exact absurd H (by simp)
        · rw [if_neg c8] at H
          have c8b0 : decide (0 < (a1.size : Int)) = false := decide_eq_false c8
          have c8b1 : decide (0 < a1.size) = false := decide_eq_false (by omega)
          clear c8
          have H' := Aside0.mk H
          clear H
          go_wp2
          go_meet
          case rel => exact ⟨_, (false), (by first | rfl | (simp; done) | (simp [*]; done)), H', ⟨by first | omega | exact Nat.le_refl _⟩, ⟨by repeat (first | (with_reducible first | exact HB.out | apply below_alloc | apply pw_below_drewN | apply below_drew1) | exact HB.out)⟩⟩
  case rest =>
    clear HC4
    try clear c1
    try clear p1
    try clear q1
    try clear hx1
    try clear qi1
    try clear p2
    try clear c5
    try clear c6
    try clear c6b0
    try clear c6b1
    try clear p6
    try clear c7
    try clear c7b0
    try clear c8
    try clear c8b0
    try clear c8b1
    try clear c9
    try clear c9b0
    try clear c9b1
    try clear p10
    try clear q10
    try clear hx10
    try clear qi10
    try clear c11
    try clear c11b0
    try clear c11b1
    try clear p12
    try clear q12
    try clear hx12
    try clear qi12
    try clear c13
    try clear c13b0
    try clear c13b1
    try clear p14
    try clear q14
    try clear hx14
    try clear qi14
    try clear p10
    try clear p12
    try clear p14
    try clear q10
    try clear q12
    try clear q14
    obtain ⟨kq, x44_3, rfl, HA, HJ3, HB⟩ := hcut
    cases kq with
    | zero => exact absurd HA.out (by simp [quirelaw06_ClusterParts.j0])
    | succ kj3 =>
      have H := HA.out
      clear HA
      simp only [quirelaw06_ClusterParts.j0] at H
      by_cases c15 : x44_3 = true
      · subst c15
        have H1 : (some t295) = some r := by rw [if_pos rfl] at H; exact H
        clear H
        have H := H1
        clear H1
        obtain rfl := Option.some.inj H
        go_wp2
        go_ret
        exact ⟨by first | rfl | (simp [errW_none, errW_some] <;> rfl) | (simp [*, errW_none, errW_some] <;> rfl), by repeat (first | (with_reducible first | exact HB.out | apply below_alloc | apply pw_below_drewN | apply below_drew1) | exact HB.out)⟩
      · replace c15 := Bool.eq_false_iff.mpr c15
        subst c15
        have H1 : ((cluster_Split.f kj3 a0).bind fun bt296 => ((cluster_Split.f kj3 a1).bind fun bt300 => (if a0.size + a1.size ≤ 9223372036854775807 then ((cluster_Split.f kj3 (a0 ++ a1)).bind fun bt304 => (if bt296.2 = 0 then (quirelaw06_ClusterParts.j1 kj3 a0 t295 bt296.1 bt300.1 bt304.1 bt304.2 (bt300.2 != 0)) else (quirelaw06_ClusterParts.j1 kj3 a0 t295 bt296.1 bt300.1 bt304.1 bt304.2 true))) else (none)))) = some r := by rw [if_neg (show ¬ (false = true) by decide)] at H; exact H
        clear H
        have H := H1
        clear H1
        replace H := Option.bind_eq_some_iff.mp H
        obtain ⟨⟨t296, t297⟩, A160, H⟩ := H
        replace H : ((cluster_Split.f kj3 a1).bind fun bt300 => (if a0.size + a1.size ≤ 9223372036854775807 then ((cluster_Split.f kj3 (a0 ++ a1)).bind fun bt304 => (if t297 = 0 then (quirelaw06_ClusterParts.j1 kj3 a0 t295 t296 bt300.1 bt304.1 bt304.2 (bt300.2 != 0)) else (quirelaw06_ClusterParts.j1 kj3 a0 t295 t296 bt300.1 bt304.1 bt304.2 true))) else (none))) = some r := H
        have A16 := Aside0.mk A160
        clear A160
        replace H := Option.bind_eq_some_iff.mp H
        obtain ⟨⟨t300, t301⟩, A170, H⟩ := H
        replace H : (if a0.size + a1.size ≤ 9223372036854775807 then ((cluster_Split.f kj3 (a0 ++ a1)).bind fun bt304 => (if t297 = 0 then (quirelaw06_ClusterParts.j1 kj3 a0 t295 t296 t300 bt304.1 bt304.2 (t301 != 0)) else (quirelaw06_ClusterParts.j1 kj3 a0 t295 t296 t300 bt304.1 bt304.2 true))) else (none)) = some r := H
        have A17 := Aside0.mk A170
        clear A170
        by_cases c18 : a0.size + a1.size ≤ 9223372036854775807
        · rw [if_pos c18] at H
          have c18b0 := eq_true c18
          have c18b1 : decide (a0.size + a1.size ≤ 9223372036854775807) = true := decide_eq_true c18
          try have c18b2 : (9223372036854775807 < a0.size + a1.size) = False := eq_false (Nat.not_lt.2 c18)
          replace H := Option.bind_eq_some_iff.mp H
          obtain ⟨⟨t304, t305⟩, A190, H⟩ := H
          replace H : (if t297 = 0 then (quirelaw06_ClusterParts.j1 kj3 a0 t295 t296 t300 t304 t305 (t301 != 0)) else (quirelaw06_ClusterParts.j1 kj3 a0 t295 t296 t300 t304 t305 true)) = some r := H
          have A19 := Aside0.mk A190
          clear A190
          have HC20 := Aside0.mk H
          clear H
          go_upto_region 7 with (first | ((with_reducible refine gate_callee (f := 8) rfl ?_); refine goesL_ (some 48) rfl rfl Try.func8 (by kernel_rfl) rfl #[.string a0] rfl (by (try simp only [List.map_toArray, List.map_cons, List.map_nil]); first | done | rfl | (simp only [List.length_drop, List.length_take]; rfl)) ?_; (with_reducible refine (cluster_Split.calls kj3 a0 t296 t297 _ A16.out).mono ?_); rintro e w21 ⟨v298, rfl, ho0, hb⟩; refine ⟨_, rfl, ?_⟩; have n0_ := Aside0.mk (Kd.R_lower ho0 (below_size (by repeat (first | (with_reducible first | exact HB.out | apply below_alloc | apply pw_below_drewN | apply below_drew1) | exact HB.out)))); have n1_ := Aside0.mk (below_step (by repeat (first | (with_reducible first | exact HB.out | apply below_alloc | apply pw_below_drewN | apply below_drew1) | exact HB.out)) hb); clear HB; have HO299 := n0_; have HB := n1_; clear n0_ n1_; (try clear hb); (try clear hb2); (try clear hk); (try clear hi); (try clear ho0)) | ((with_reducible refine gate_callee (f := 8) rfl ?_); refine goesL_ (some 53) rfl rfl Try.func8 (by kernel_rfl) rfl #[.string a1] rfl (by (try simp only [List.map_toArray, List.map_cons, List.map_nil]); first | done | rfl | (simp only [List.length_drop, List.length_take]; rfl)) ?_; (with_reducible refine (cluster_Split.calls kj3 a1 t300 t301 _ A17.out).mono ?_); rintro e w22 ⟨v302, rfl, ho0, hb⟩; refine ⟨_, rfl, ?_⟩; have n0_ := Aside0.mk (Kd.R_elder' (by (with_reducible repeat (first | apply Kd.R_alloc | apply Kd.R_drewN | apply Kd.R_drew)); exact HO299.out) (Kd.R_base ho0) hb); have n1_ := Aside0.mk (Kd.R_lower (Kd.R_new' ho0 (Kd.R_lt (by (with_reducible repeat (first | apply Kd.R_alloc | apply Kd.R_drewN | apply Kd.R_drew)); exact HO299.out))) (below_size (by repeat (first | (with_reducible first | exact HB.out | apply below_alloc | apply pw_below_drewN | apply below_drew1) | exact HB.out)))); have n2_ := Aside0.mk (below_step (by repeat (first | (with_reducible first | exact HB.out | apply below_alloc | apply pw_below_drewN | apply below_drew1) | exact HB.out)) hb); clear HO299; clear HB; have HO299 := n0_; have HO303 := n1_; have HB := n2_; clear n0_ n1_ n2_; (try clear hb); (try clear hb2); (try clear hk); (try clear hi); (try clear ho0)) | ((with_reducible refine gate_callee (f := 8) rfl ?_); refine goesL_ (some 60) rfl rfl Try.func8 (by kernel_rfl) rfl #[.string (a0 ++ a1)] rfl (by (try simp only [List.map_toArray, List.map_cons, List.map_nil]); first | done | rfl | (simp only [List.length_drop, List.length_take]; rfl)) ?_; (with_reducible refine (cluster_Split.calls kj3 (a0 ++ a1) t304 t305 _ A19.out).mono ?_); rintro e w23 ⟨v306, rfl, ho0, hb⟩; refine ⟨_, rfl, ?_⟩; have n0_ := Aside0.mk (Kd.R_elder' (by (with_reducible repeat (first | apply Kd.R_alloc | apply Kd.R_drewN | apply Kd.R_drew)); exact HO299.out) (Kd.R_base ho0) hb); have n1_ := Aside0.mk (Kd.R_elder' (by (with_reducible repeat (first | apply Kd.R_alloc | apply Kd.R_drewN | apply Kd.R_drew)); exact HO303.out) (Kd.R_base ho0) hb); have n2_ := Aside0.mk (Kd.R_lower (Kd.R_new' (Kd.R_new' ho0 (Kd.R_lt (by (with_reducible repeat (first | apply Kd.R_alloc | apply Kd.R_drewN | apply Kd.R_drew)); exact HO299.out))) (Kd.R_lt (by (with_reducible repeat (first | apply Kd.R_alloc | apply Kd.R_drewN | apply Kd.R_drew)); exact HO303.out))) (below_size (by repeat (first | (with_reducible first | exact HB.out | apply below_alloc | apply pw_below_drewN | apply below_drew1) | exact HB.out)))); have n3_ := Aside0.mk (below_step (by repeat (first | (with_reducible first | exact HB.out | apply below_alloc | apply pw_below_drewN | apply below_drew1) | exact HB.out)) hb); clear HO299; clear HO303; clear HB; have HO299 := n0_; have HO303 := n1_; have HO307 := n2_; have HB := n3_; clear n0_ n1_ n2_ n3_; (try clear hb); (try clear hb2); (try clear hk); (try clear hi); (try clear ho0)))
          (try simp only [Act.put, List.setIfInBounds_toArray, List.set_cons_zero, List.set_cons_succ])
          go_cut [68] (fun v68 wc => ∃ (kq : Nat) (x68_19 : Bool), v68 = .bool x68_19 ∧ Aside0 (quirelaw06_ClusterParts.j1 kq a0 t295 t296 t300 t304 t305 x68_19 = some r) ∧ Aside0 (kq ≤ kj3) ∧ Aside0 (Kd.R k28 28 wc w.heap.size (fun k_ => some k_ ≠ (v302 : Value).ownBlock ∧ some k_ ≠ (v306 : Value).ownBlock) v298 t296) ∧ Aside0 (Kd.R k28 28 wc w.heap.size (fun k_ => some k_ ≠ (v298 : Value).ownBlock ∧ some k_ ≠ (v306 : Value).ownBlock) v302 t300) ∧ Aside0 (Kd.R k28 28 wc w.heap.size (fun k_ => some k_ ≠ (v298 : Value).ownBlock ∧ some k_ ≠ (v302 : Value).ownBlock) v306 t304) ∧ Aside0 (Below w.heap.size w wc))
          case first =>
            have H := HC20.out
            clear HC20
            by_cases c24 : t297 = 0
            · rw [if_pos c24] at H
              have c24b0 : (t297 == 0) = true := beq_iff_eq.mpr c24
              have c24b1 : (t297 != 0) = false := bne_eq_false_iff_eq.mpr c24
              clear c24
              (first | rw [c24b0] | (simp only [i64_w, i32_w]; rw [c24b0]) | skip)
              have H' := Aside0.mk H
              clear H
              go_wp2
              go_meet
              case rel => exact ⟨_, ((t301 != 0)), (by first | rfl | (simp; done) | (simp [*]; done)), H', ⟨by have := HJ3.out; first | omega | exact Nat.le_refl _⟩, ⟨by (with_reducible repeat (first | apply Kd.R_alloc | apply Kd.R_drewN | apply Kd.R_drew)); exact Kd.R_mono HO299.out (fun _ hk => ⟨hk.1.2, hk.2⟩)⟩, ⟨by (with_reducible repeat (first | apply Kd.R_alloc | apply Kd.R_drewN | apply Kd.R_drew)); exact Kd.R_mono HO303.out (fun _ hk => ⟨hk.1.2, hk.2⟩)⟩, ⟨by (with_reducible repeat (first | apply Kd.R_alloc | apply Kd.R_drewN | apply Kd.R_drew)); exact Kd.R_mono HO307.out (fun _ hk => ⟨hk.1.2, hk.2⟩)⟩, ⟨by repeat (first | (with_reducible first | exact HB.out | apply below_alloc | apply pw_below_drewN | apply below_drew1) | exact HB.out)⟩⟩
            · rw [if_neg c24] at H
              have c24b0 : (t297 == 0) = false := beq_eq_false_iff_ne.mpr c24
              have c24b1 : (t297 != 0) = true := bne_iff_ne.mpr c24
              (first | rw [c24b0] | (simp only [i64_w, i32_w]; rw [c24b0]) | skip)
              have H' := Aside0.mk H
              clear H
              go_wp2
              go_meet
              case rel => exact ⟨_, (true), (by first | rfl | (simp; done) | (simp [*]; done)), H', ⟨by have := HJ3.out; first | omega | exact Nat.le_refl _⟩, ⟨by (with_reducible repeat (first | apply Kd.R_alloc | apply Kd.R_drewN | apply Kd.R_drew)); exact Kd.R_mono HO299.out (fun _ hk => ⟨hk.1.2, hk.2⟩)⟩, ⟨by (with_reducible repeat (first | apply Kd.R_alloc | apply Kd.R_drewN | apply Kd.R_drew)); exact Kd.R_mono HO303.out (fun _ hk => ⟨hk.1.2, hk.2⟩)⟩, ⟨by (with_reducible repeat (first | apply Kd.R_alloc | apply Kd.R_drewN | apply Kd.R_drew)); exact Kd.R_mono HO307.out (fun _ hk => ⟨hk.1.2, hk.2⟩)⟩, ⟨by repeat (first | (with_reducible first | exact HB.out | apply below_alloc | apply pw_below_drewN | apply below_drew1) | exact HB.out)⟩⟩
          case rest =>
            clear HC20
            try clear c1
            try clear p1
            try clear q1
            try clear hx1
            try clear qi1
            try clear c2
            try clear p2
            try clear c5
            try clear c6
            try clear c6b0
            try clear c6b1
            try clear p6
            try clear c7
            try clear c7b0
            try clear c8
            try clear c8b0
            try clear c8b1
            try clear c9
            try clear c9b0
            try clear c9b1
            try clear p10
            try clear q10
            try clear hx10
            try clear qi10
            try clear c11
            try clear c11b0
            try clear c11b1
            try clear p12
            try clear q12
            try clear hx12
            try clear qi12
            try clear c13
            try clear c13b0
            try clear c13b1
            try clear p14
            try clear q14
            try clear hx14
            try clear qi14
            try clear c15
            try clear c18
            try clear c18b0
            try clear c18b1
            try clear c18b2
            try clear c24
            try clear c24b0
            try clear c24b1
            try clear p1
            try clear p10
            try clear p12
            try clear p14
            try clear p2
            try clear p6
            try clear q1
            try clear q10
            try clear q12
            try clear q14
            obtain ⟨kq, x68_19, rfl, HA, HJ19, HO_6, HO_8, HO_10, HB⟩ := hcut
            cases kq with
            | zero => exact absurd HA.out (by simp [quirelaw06_ClusterParts.j1])
            | succ kj19 =>
              have H := HA.out
              clear HA
              simp only [quirelaw06_ClusterParts.j1] at H
              by_cases c25 : x68_19 = true
              · subst c25
                have H1 : (if t295 = true then (some (t305 == 4)) else (some false)) = some r := by rw [if_pos rfl] at H; exact H
                clear H
                have H := H1
                clear H1
                by_cases c26 : t295 = true
                · subst c26
                  have H1 : (some (t305 == 4)) = some r := by rw [if_pos rfl] at H; exact H
                  clear H
                  have H := H1
                  clear H1
                  obtain rfl := Option.some.inj H
                  go_wp2
                  go_ret
                  exact ⟨by first | rfl | (simp [errW_none, errW_some] <;> rfl) | (simp [*, errW_none, errW_some] <;> rfl), by repeat (first | (with_reducible first | exact HB.out | apply below_alloc | apply pw_below_drewN | apply below_drew1) | exact HB.out)⟩
                · replace c26 := Bool.eq_false_iff.mpr c26
                  subst c26
                  have H1 : (some false) = some r := by rw [if_neg (show ¬ (false = true) by decide)] at H; exact H
                  clear H
                  have H := H1
                  clear H1
                  obtain rfl := Option.some.inj H
                  go_wp2
                  go_ret
                  exact ⟨by first | rfl | (simp [errW_none, errW_some] <;> rfl) | (simp [*, errW_none, errW_some] <;> rfl), by repeat (first | (with_reducible first | exact HB.out | apply below_alloc | apply pw_below_drewN | apply below_drew1) | exact HB.out)⟩
              · replace c25 := Bool.eq_false_iff.mpr c25
                subst c25
                have H1 : (quirelaw06_ClusterParts.l0 kj19 a0 t295 t296 t300 t304 t305 0) = some r := by rw [if_neg (show ¬ (false = true) by decide)] at H; exact H
                clear H
                have H := H1
                clear H1
                have H' := Aside0.mk H
                clear H
                go_wp2
                go_loopg [12] kj19 (fun kq v12 w' => ∃ (x8_3 : List (S28)) (x12_3 : Int), v12 = .int .i64 x12_3 ∧ Aside0 (quirelaw06_ClusterParts.l0 kq a0 t295 t296 x8_3 t304 t305 x12_3 = some r) ∧ Aside0 (kq ≤ kj19) ∧ Aside0 (Kd.R k28 28 w' w.heap.size (fun k_ => some k_ ≠ (v302 : Value).ownBlock ∧ some k_ ≠ (v306 : Value).ownBlock) v298 t296) ∧ Aside0 (Kd.R k28 28 w' w.heap.size (fun k_ => some k_ ≠ (v298 : Value).ownBlock ∧ some k_ ≠ (v306 : Value).ownBlock) v302 x8_3) ∧ Aside0 (Kd.R k28 28 w' w.heap.size (fun k_ => some k_ ≠ (v298 : Value).ownBlock ∧ some k_ ≠ (v302 : Value).ownBlock) v306 t304) ∧ Aside0 (Below w.heap.size w w'))
                case atStart => exact ⟨(t300), (0), (by first | rfl | (simp; done) | (simp [*]; done)), H', ⟨Nat.le_refl _⟩, ⟨by (with_reducible repeat (first | apply Kd.R_alloc | apply Kd.R_drewN | apply Kd.R_drew)); exact HO_6.out⟩, ⟨by (with_reducible repeat (first | apply Kd.R_alloc | apply Kd.R_drewN | apply Kd.R_drew)); exact HO_8.out⟩, ⟨by (with_reducible repeat (first | apply Kd.R_alloc | apply Kd.R_drewN | apply Kd.R_drew)); exact HO_10.out⟩, ⟨by repeat (first | (with_reducible first | exact HB.out | apply below_alloc | apply pw_below_drewN | apply below_drew1) | exact HB.out)⟩⟩
                case round =>
                  clear H'
                  try clear c1
                  try clear p1
                  try clear q1
                  try clear hx1
                  try clear qi1
                  try clear c2
                  try clear p2
                  try clear c5
                  try clear c6
                  try clear c6b0
                  try clear c6b1
                  try clear p6
                  try clear c7
                  try clear c7b0
                  try clear c8
                  try clear c8b0
                  try clear c8b1
                  try clear c9
                  try clear c9b0
                  try clear c9b1
                  try clear p10
                  try clear q10
                  try clear hx10
                  try clear qi10
                  try clear c11
                  try clear c11b0
                  try clear c11b1
                  try clear p12
                  try clear q12
                  try clear hx12
                  try clear qi12
                  try clear c13
                  try clear c13b0
                  try clear c13b1
                  try clear p14
                  try clear q14
                  try clear hx14
                  try clear qi14
                  try clear c15
                  try clear c18
                  try clear c18b0
                  try clear c18b1
                  try clear c18b2
                  try clear c24
                  try clear c24b0
                  try clear c24b1
                  try clear c25
                  try clear c26
                  try clear p1
                  try clear p10
                  try clear p12
                  try clear p14
                  try clear p2
                  try clear p6
                  try clear q1
                  try clear q10
                  try clear q12
                  try clear q14
                  obtain ⟨x8_3, x12_3, rfl, HA, HK3, HO_6, HO_8, HO_10, HB⟩ := hrel
                  cases gk with
                  | zero => exact absurd HA.out (by simp [quirelaw06_ClusterParts.l0])
                  | succ k3 =>
                    have H := HA.out
                    clear HA
                    simp only [quirelaw06_ClusterParts.l0] at H
                    by_cases c27 : x12_3 < (x8_3.length : Int)
                    · rw [if_pos c27] at H
                      have c27b0 : decide (x12_3 < (x8_3.length : Int)) = true := decide_eq_true c27
                      clear c27
                      by_cases c28 : 0 ≤ x12_3
                      · rw [if_pos c28] at H
                        have c28b0 : decide (0 ≤ x12_3) = true := decide_eq_true c28
                        clear c28
                        obtain ⟨y309, hy309⟩ : ∃ y_ : List (S28), y_ = (x8_3.set (x12_3 : Int).toNat (⟨wrap64 (((rd_T28 x8_3 x12_3).f0) + (a0.size : Int)), (rd_T28 x8_3 x12_3).f1, (rd_T28 x8_3 x12_3).f2⟩ : S28)) := ⟨_, rfl⟩
                        replace H : (quirelaw06_ClusterParts.l0 k3 a0 t295 t296 (y309.set (x12_3 : Int).toNat (⟨(rd_T28 y309 x12_3).f0, wrap64 (((rd_T28 y309 x12_3).f1) + (a0.size : Int)), (rd_T28 y309 x12_3).f2⟩ : S28)) t304 t305 (wrap64 (x12_3 + 1))) = some r := by first | (rw [hy309]; with_reducible exact H) | (have H2_ := (Option.bind_some _ _).symm.trans H; rw [hy309]; with_reducible exact H2_) | (have H2_ := (Option.bind_some _ _).symm.trans H; with_reducible exact H2_) | with_reducible exact H | (rw [hy309]; exact H) | exact H
                        have Ny309 := Aside0.mk hy309
                        clear hy309
                        obtain ⟨y311, hy311⟩ : ∃ y_ : List (S28), y_ = (y309.set (x12_3 : Int).toNat (⟨(rd_T28 y309 x12_3).f0, wrap64 (((rd_T28 y309 x12_3).f1) + (a0.size : Int)), (rd_T28 y309 x12_3).f2⟩ : S28)) := ⟨_, rfl⟩
                        replace H : (quirelaw06_ClusterParts.l0 k3 a0 t295 t296 y311 t304 t305 (wrap64 (x12_3 + 1))) = some r := by first | (rw [hy311]; with_reducible exact H) | (have H2_ := (Option.bind_some _ _).symm.trans H; rw [hy311]; with_reducible exact H2_) | (have H2_ := (Option.bind_some _ _).symm.trans H; with_reducible exact H2_) | with_reducible exact H | (rw [hy311]; exact H) | exact H
                        have Ny311 := Aside0.mk hy311
                        clear hy311
                        have H' := Aside0.mk H
                        clear H
                        obtain ⟨Ao31, co31, eo31⟩ := Kd.R_slice HO_8.out
                        subst eo31
                        have p308 : 0 ≤ (x12_3 : Int) := of_decide_eq_true (by first | (with_reducible assumption) | assumption)
                        have q308 : x12_3 < (x8_3.length : Int) := of_decide_eq_true (by first | (with_reducible assumption) | assumption)
                        obtain ⟨ad308, e308, hx308_0, hx308_1, hx308_2⟩ := at_T28 (Kd.R_reads' HO_8.out).2.2 x12_3 p308 q308
                        cases e308
                        replace p308 := eq_true p308
                        replace q308 := eq_true q308
                        have p29 : 0 ≤ (x12_3 : Int) := of_decide_eq_true (by first | (with_reducible assumption) | assumption)
                        have q29 : (x12_3 : Int) < ((x8_3.length : Int) : Int) := of_decide_eq_true (by first | (with_reducible assumption) | assumption)
                        obtain ⟨go29, co29, eo29, gb29, gl29, cl29, HG29⟩ := Kd.R_form HO_8.out (by omega)
                        (first | cases eo29 | (injection eo29 with ea_ en_ ec_; (first | subst ea_ | (injection ea_ with ea_; subst ea_)); subst ec_; clear en_))
                        have GB29 := Aside0.mk gb29
                        have GG29 := Aside0.mk HG29
                        clear gb29 gl29 HG29
                        (first | simp only [add_plain] at hx308_0 | skip)
                        (first | simp only [add_plain] at hx308_1 | skip)
                        (first | simp only [add_plain] at hx308_2 | skip)
                        obtain ⟨ce29, hcl29, hM29, hcc29, hfr29⟩ := Kd.R_elem HO_8.out z28 (x12_3 : Int) p29 q29
                        obtain rfl := k28_openM hM29
                        have hx29_0 : wr.cell? ⟨go29, (x12_3 : Int).toNat * 3, none⟩ = some (.int .i64 ((rd_T28 x8_3 x12_3).f0)) := hcc29 0 _ rfl
                        have hx29_1 : wr.cell? ⟨go29, (x12_3 : Int).toNat * 3 + 1, none⟩ = some (.int .i64 ((rd_T28 x8_3 x12_3).f1)) := hcc29 1 _ rfl
                        have hx29_2 : wr.cell? ⟨go29, (x12_3 : Int).toNat * 3 + 2, none⟩ = some (.int .i64 ((rd_T28 x8_3 x12_3).f2)) := hcc29 2 _ rfl
                        have hf29_0 : wr.frozen? ⟨go29, (x12_3 : Int).toNat * 3, none⟩ = false := hfr29 0
                        have hf29_1 : wr.frozen? ⟨go29, (x12_3 : Int).toNat * 3 + 1, none⟩ = false := hfr29 1
                        have hf29_2 : wr.frozen? ⟨go29, (x12_3 : Int).toNat * 3 + 2, none⟩ = false := hfr29 2
                        clear hcl29 hcc29 hfr29 hM29
                        replace p29 := eq_true p29
                        replace q29 := eq_true q29
                        have HX32 := Aside0.mk (show Kd.R k28 28 wr w.heap.size (fun k_ => some k_ ≠ (v298 : Value).ownBlock ∧ some k_ ≠ (v306 : Value).ownBlock) (.slice (some ⟨go29, 0, none⟩) x8_3.length co31) x8_3 from (by (with_reducible repeat (first | apply Kd.R_alloc | apply Kd.R_drewN | apply Kd.R_drew)); exact HO_8.out))
                        obtain ⟨ce32, hcl32, hM32, hcc32, hfr32⟩ := Kd.R_elem HX32.out z28 (x12_3 : Int) (of_decide_eq_true (by first | (with_reducible assumption) | assumption)) (by have h_ : (x12_3 : Int) < ((x8_3.length : Int) : Int) := of_decide_eq_true (by first | (with_reducible assumption) | assumption); first | exact h_ | (have e_ := (Kd.R_reads' HO_8.out).1; omega) | simpa using h_)
                        obtain rfl := k28_openM hM32
                        have HP32 := Kd.R_seg HX32.out (x12_3 : Int) (of_decide_eq_true (by first | (with_reducible assumption) | assumption)) (by have h_ : (x12_3 : Int) < ((x8_3.length : Int) : Int) := of_decide_eq_true (by first | (with_reducible assumption) | assumption); first | exact h_ | (have e_ := (Kd.R_reads' HO_8.out).1; omega) | simpa using h_) (seg := [.int .i64 (wrap64 (((rd_T28 x8_3 x12_3).f0) + (a0.size : Int)))]) (j := 0) hcl32 hcc32 (show 1 ≤ 3 from by decide) (x' := (⟨wrap64 (((rd_T28 x8_3 x12_3).f0) + (a0.size : Int)), (rd_T28 x8_3 x12_3).f1, (rd_T28 x8_3 x12_3).f2⟩ : S28)) (k28_mkM _ _ _ (⟨wrap64 (((rd_T28 x8_3 x12_3).f0) + (a0.size : Int)), (rd_T28 x8_3 x12_3).f1, (rd_T28 x8_3 x12_3).f2⟩ : S28) ) (fun _ hk => hk)
                        have hx32_0 := hcc32 0 _ rfl
                        (try simp only [show (k28).sz = 3 from rfl, Nat.mul_one, Nat.add_zero] at hx32_0)
                        have hf32_0 := hfr32 0
                        (try simp only [show (k28).sz = 3 from rfl, Nat.mul_one, Nat.add_zero] at hf32_0)
                        clear hcl32 hcc32 hfr32 hM32
                        go_wp2_with (first | ((with_reducible refine gate_store (t := 3) (p := 91) rfl ?_); refine store_event (t := 3) (p := 91) (v := ?vo_w33) (w1 := (wr.setCell ⟨go29, (x12_3 : Int).toNat * 3, none⟩ (.int .i64 (wrap64 (((rd_T28 x8_3 x12_3).f0) + (a0.size : Int)))))) ?hg ?ho ?hn ?hr ?_; (case ho => rfl); (case hg => rfl); (case hn => rfl); (case hr => first | (go_simp; done) | (go_simp; rfl)); intro w33 hw; have hg : wr.grownBy w33 (some go29) := (by rw [hw]; exact HP32.2); have hp_ : Kd.R k28 28 w33 w.heap.size (fun k_ => some k_ ≠ (v298 : Value).ownBlock ∧ some k_ ≠ (v306 : Value).ownBlock) (.slice (some ⟨go29, 0, none⟩) x8_3.length co31) y309 := (by rw [hw, Ny309.out]; exact HP32.1); clear HP32; have n0_ := Aside0.mk (Kd.R_after (v := (.slice (some ⟨go29, 0, none⟩) x8_3.length co31)) (v1 := (.slice (some ⟨go29, 0, none⟩) x8_3.length co31)) (ok := (fun k_ => some k_ ≠ (v306 : Value).ownBlock)) (by (with_reducible repeat (first | apply Kd.R_alloc | apply Kd.R_drewN | apply Kd.R_drew)); exact Kd.R_mono HO_6.out (fun _ hk => ⟨hk.2, hk.1⟩)) hg (.inl rfl)); have n1_ := Aside0.mk (hp_); have n2_ := Aside0.mk (Kd.R_after (v := (.slice (some ⟨go29, 0, none⟩) x8_3.length co31)) (v1 := (.slice (some ⟨go29, 0, none⟩) x8_3.length co31)) (ok := (fun k_ => some k_ ≠ (v298 : Value).ownBlock)) (by (with_reducible repeat (first | apply Kd.R_alloc | apply Kd.R_drewN | apply Kd.R_drew)); exact HO_10.out) hg (.inl rfl)); have n3_ := Aside0.mk ((by rw [hw]; exact below_set (HB.out) GB29.out : Below w.heap.size w w33)); clear HO_6; clear HO_8; clear HO_10; clear HB; have HO_6 := n0_; have HO_8 := n1_; have HO_10 := n2_; have HB := n3_; clear n0_ n1_ n2_ n3_; clear hg hw hp_; have p310 : 0 ≤ (x12_3 : Int) := of_decide_eq_true (by first | (with_reducible assumption) | assumption); have q310 : x12_3 < (y309.length : Int) := (by have h_ : (x12_3 : Int) < ((x8_3.length : Int) : Int) := of_decide_eq_true (by first | (with_reducible assumption) | assumption); first | (have e_ := (Kd.R_reads' HO_8.out).1; omega) | simpa only [Ny309.out, List.length_set] using h_); have ql310 : ((x12_3 : Int) < ((x8_3.length : Int) : Int)) = True := eq_true (of_decide_eq_true (by first | (with_reducible assumption) | assumption)); obtain ⟨ad310, e310, hx310_0, hx310_1, hx310_2⟩ := at_T28 (Kd.R_reads' HO_8.out).2.2 x12_3 p310 q310; obtain rfl : (⟨go29, 0, none⟩ : Addr) = ad310 := (by injection e310); (first | simp only [add_plain] at hx310_0 | simp only [add_at] at hx310_0 | simp only [Addr.add, Nat.zero_add] at hx310_0 | skip); (first | simp only [add_plain] at hx310_1 | simp only [add_at] at hx310_1 | simp only [Addr.add, Nat.zero_add] at hx310_1 | skip); (first | simp only [add_plain] at hx310_2 | simp only [add_at] at hx310_2 | simp only [Addr.add, Nat.zero_add] at hx310_2 | skip); replace p310 := eq_true p310; replace q310 := eq_true q310; have p30 : 0 ≤ (x12_3 : Int) := of_decide_eq_true (by first | (with_reducible assumption) | assumption); have q30 : (x12_3 : Int) < ((x8_3.length : Int) : Int) := of_decide_eq_true (by first | (with_reducible assumption) | assumption); obtain ⟨ce30, hcl30, hM30, hcc30, hfr30⟩ := Kd.R_elem HO_8.out z28 (x12_3 : Int) p30 q30; obtain rfl := k28_openM hM30; have hx30_0 : w33.cell? ⟨go29, (x12_3 : Int).toNat * 3, none⟩ = some (.int .i64 ((rd_T28 y309 x12_3).f0)) := hcc30 0 _ rfl; have hx30_1 : w33.cell? ⟨go29, (x12_3 : Int).toNat * 3 + 1, none⟩ = some (.int .i64 ((rd_T28 y309 x12_3).f1)) := hcc30 1 _ rfl; have hx30_2 : w33.cell? ⟨go29, (x12_3 : Int).toNat * 3 + 2, none⟩ = some (.int .i64 ((rd_T28 y309 x12_3).f2)) := hcc30 2 _ rfl; have hf30_0 : w33.frozen? ⟨go29, (x12_3 : Int).toNat * 3, none⟩ = false := hfr30 0; have hf30_1 : w33.frozen? ⟨go29, (x12_3 : Int).toNat * 3 + 1, none⟩ = false := hfr30 1; have hf30_2 : w33.frozen? ⟨go29, (x12_3 : Int).toNat * 3 + 2, none⟩ = false := hfr30 2; clear hcl30 hcc30 hfr30 hM30; replace p30 := eq_true p30; replace q30 := eq_true q30; have HX34 := Aside0.mk (show Kd.R k28 28 w33 w.heap.size (fun k_ => some k_ ≠ (v298 : Value).ownBlock ∧ some k_ ≠ (v306 : Value).ownBlock) (.slice (some ⟨go29, 0, none⟩) x8_3.length co31) y309 from (by (with_reducible repeat (first | apply Kd.R_alloc | apply Kd.R_drewN | apply Kd.R_drew)); exact HO_8.out)); obtain ⟨ce34, hcl34, hM34, hcc34, hfr34⟩ := Kd.R_elem HX34.out z28 (x12_3 : Int) (of_decide_eq_true (by first | (with_reducible assumption) | assumption)) (by have h_ : (x12_3 : Int) < ((x8_3.length : Int) : Int) := of_decide_eq_true (by first | (with_reducible assumption) | assumption); first | exact h_ | (have e_ := (Kd.R_reads' HO_8.out).1; omega) | simpa using h_); obtain rfl := k28_openM hM34; have HP34 := Kd.R_seg HX34.out (x12_3 : Int) (of_decide_eq_true (by first | (with_reducible assumption) | assumption)) (by have h_ : (x12_3 : Int) < ((x8_3.length : Int) : Int) := of_decide_eq_true (by first | (with_reducible assumption) | assumption); first | exact h_ | (have e_ := (Kd.R_reads' HO_8.out).1; omega) | simpa using h_) (seg := [.int .i64 (wrap64 (((rd_T28 y309 x12_3).f1) + (a0.size : Int)))]) (j := 1) hcl34 hcc34 (show 2 ≤ 3 from by decide) (x' := (⟨(rd_T28 y309 x12_3).f0, wrap64 (((rd_T28 y309 x12_3).f1) + (a0.size : Int)), (rd_T28 y309 x12_3).f2⟩ : S28)) (k28_mkM _ _ _ (⟨(rd_T28 y309 x12_3).f0, wrap64 (((rd_T28 y309 x12_3).f1) + (a0.size : Int)), (rd_T28 y309 x12_3).f2⟩ : S28) ) (fun _ hk => hk); have hx34_1 := hcc34 1 _ rfl; (try simp only [show (k28).sz = 3 from rfl, Nat.mul_one, Nat.add_zero] at hx34_1); have hf34_1 := hfr34 1; (try simp only [show (k28).sz = 3 from rfl, Nat.mul_one, Nat.add_zero] at hf34_1); clear hcl34 hcc34 hfr34 hM34) | ((with_reducible refine gate_store (t := 3) (p := 103) rfl ?_); refine store_event (t := 3) (p := 103) (v := ?vo_w35) (w1 := (w33.setCell ⟨go29, (x12_3 : Int).toNat * 3 + 1, none⟩ (.int .i64 (wrap64 (((rd_T28 y309 x12_3).f1) + (a0.size : Int)))))) ?hg ?ho ?hn ?hr ?_; (case ho => rfl); (case hg => rfl); (case hn => rfl); (case hr => first | (go_simp; done) | (go_simp; rfl)); intro w35 hw; have hg : w33.grownBy w35 (some go29) := (by rw [hw]; exact HP34.2); have hp_ : Kd.R k28 28 w35 w.heap.size (fun k_ => some k_ ≠ (v298 : Value).ownBlock ∧ some k_ ≠ (v306 : Value).ownBlock) (.slice (some ⟨go29, 0, none⟩) x8_3.length co31) y311 := (by rw [hw, Ny311.out]; exact HP34.1); clear HP34; have n0_ := Aside0.mk (Kd.R_after (v := (.slice (some ⟨go29, 0, none⟩) x8_3.length co31)) (v1 := (.slice (some ⟨go29, 0, none⟩) x8_3.length co31)) (ok := (fun k_ => some k_ ≠ (v306 : Value).ownBlock)) (by (with_reducible repeat (first | apply Kd.R_alloc | apply Kd.R_drewN | apply Kd.R_drew)); exact HO_6.out) hg (.inl rfl)); have n1_ := Aside0.mk (hp_); have n2_ := Aside0.mk (Kd.R_after (v := (.slice (some ⟨go29, 0, none⟩) x8_3.length co31)) (v1 := (.slice (some ⟨go29, 0, none⟩) x8_3.length co31)) (ok := (fun k_ => some k_ ≠ (v298 : Value).ownBlock)) (by (with_reducible repeat (first | apply Kd.R_alloc | apply Kd.R_drewN | apply Kd.R_drew)); exact HO_10.out) hg (.inl rfl)); have n3_ := Aside0.mk ((by rw [hw]; exact below_set (HB.out) GB29.out : Below w.heap.size w w35)); clear HO_6; clear HO_8; clear HO_10; clear HB; have HO_6 := n0_; have HO_8 := n1_; have HO_10 := n2_; have HB := n3_; clear n0_ n1_ n2_ n3_; clear hg hw hp_))
                        go_roundg k3
                        case measure => have := HJ3.out; have := HJ19.out; have := HK3.out; omega
                        case rel => exact ⟨(y311), (wrap64 (x12_3 + 1)), (by first | rfl | (simp; done) | (simp [*]; done)), H', ⟨by have := HJ3.out; have := HJ19.out; have := HK3.out; omega⟩, ⟨by (with_reducible repeat (first | apply Kd.R_alloc | apply Kd.R_drewN | apply Kd.R_drew)); exact Kd.R_mono HO_6.out (fun _ hk => ⟨hk.2, hk.1⟩)⟩, ⟨by (with_reducible repeat (first | apply Kd.R_alloc | apply Kd.R_drewN | apply Kd.R_drew)); exact HO_8.out⟩, ⟨by (with_reducible repeat (first | apply Kd.R_alloc | apply Kd.R_drewN | apply Kd.R_drew)); exact HO_10.out⟩, ⟨by repeat (first | (with_reducible first | exact HB.out | apply below_alloc | apply pw_below_drewN | apply below_drew1) | exact HB.out)⟩⟩
                      · rw [if_neg c28] at H
                        exact absurd H (by simp)
                    · rw [if_neg c27] at H
                      have c27b0 : decide (x12_3 < (x8_3.length : Int)) = false := decide_eq_false c27
                      clear c27
                      by_cases c36 : t295 = true
                      · subst c36
                        have H1 : (if t305 = 0 then (if t296.length + x8_3.length < 5864062014805 then ((quirelaw06_same.f k3 t304 (t296 ++ x8_3)).bind fun t315 => (some t315)) else (none)) else (some false)) = some r := by rw [if_pos rfl] at H; exact H
                        clear H
                        have H := H1
                        clear H1
                        by_cases c37 : t305 = 0
                        · rw [if_pos c37] at H
                          have c37b0 : (t305 == 0) = true := beq_iff_eq.mpr c37
                          have c37b1 : (t305 != 0) = false := bne_eq_false_iff_eq.mpr c37
                          clear c37
                          by_cases c38 : t296.length + x8_3.length < 5864062014805
                          · rw [if_pos c38] at H
                            have LMc38 := Aside0.mk c38
                            clear c38
                            obtain ⟨y312, hy312⟩ : ∃ y_ : List (S28), y_ = (t296 ++ x8_3) := ⟨_, rfl⟩
                            replace H : ((quirelaw06_same.f k3 t304 y312).bind fun t315 => (some t315)) = some r := by first | (rw [hy312]; with_reducible exact H) | (have H2_ := (Option.bind_some _ _).symm.trans H; rw [hy312]; with_reducible exact H2_) | (have H2_ := (Option.bind_some _ _).symm.trans H; with_reducible exact H2_) | with_reducible exact H | (rw [hy312]; exact H) | exact H
                            have Ny312 := Aside0.mk hy312
                            clear hy312
                            replace H := Option.bind_eq_some_iff.mp H
                            obtain ⟨t315, A390, H⟩ := H
                            replace H : (some t315) = some r := H
                            have A39 := Aside0.mk A390
                            clear A390
                            obtain rfl := Option.some.inj H
                            obtain ⟨Ao40, co40, eo40⟩ := Kd.R_slice HO_8.out
                            subst eo40
                            go_wp2_with (first | ((with_reducible refine gate_builtin (b := .append) (xs := #[.tmp 111, .tmp 112]) rfl ?_); (try (refine gate_guard (by rfl) ?_; dsimp only)); at_builtin; refine Kd.R_append_rows k28 (w0 := w) w.heap.size rfl (.tmp 111) (.tmp 112) 22 28 (.agg #[(.int .i64 0), (.int .i64 0), (.int .i64 0)]) 24 rfl Try.underlying22 info28 rfl (by decide) (by omega) v298 t296 x8_3 _ _ _ (fun k_ => some k_ ≠ (.slice Ao40 x8_3.length co40 : Value).ownBlock ∧ some k_ ≠ (v306 : Value).ownBlock) (fun _ => False) rfl rfl ?aO ?aR (fun _ _ h => h) (fun _ h => h.elim) ?aF ?aB ?aS ?aL ?_; (case aR => repeat (first | exact (Kd.R_reads' HO_8.out).2.2 | (with_reducible refine Kd.C_alloc ?_ _) | (with_reducible refine Kd.C_drewN ?_ _) | (with_reducible refine Kd.C_drew ?_))); (case aB => exact (by repeat (first | (with_reducible first | exact HB.out | apply below_alloc | apply pw_below_drewN | apply below_drew1) | exact HB.out))); (case aF => exact (fun k_ hk => ⟨Kd.fresh' (Kd.R_lt (by (with_reducible repeat (first | apply Kd.R_alloc | apply Kd.R_drewN | apply Kd.R_drew)); exact HO_8.out)) k_ hk, Kd.fresh' (Kd.R_lt (by (with_reducible repeat (first | apply Kd.R_alloc | apply Kd.R_drewN | apply Kd.R_drew)); exact HO_10.out)) k_ hk⟩)); (case aO => exact (by (with_reducible repeat (first | apply Kd.R_alloc | apply Kd.R_drewN | apply Kd.R_drew)); exact HO_6.out)); (case aS => exact (below_size (by repeat (first | (with_reducible first | exact HB.out | apply below_alloc | apply pw_below_drewN | apply below_drew1) | exact HB.out)))); (case aL => have := LMc38.out; omega); intro v313 w41 ho hb hg hat; rw [← Ny312.out] at ho; have n0_ := Aside0.mk (Kd.R_after (ok := (fun k_ => some k_ ≠ (v306 : Value).ownBlock)) (by (with_reducible repeat (first | apply Kd.R_alloc | apply Kd.R_drewN | apply Kd.R_drew)); exact Kd.R_mono HO_8.out (fun _ hk => ⟨hk.2, hk.1⟩)) hg hat); have n1_ := Aside0.mk (Kd.R_after (ok := (fun k_ => some k_ ≠ (.slice Ao40 x8_3.length co40 : Value).ownBlock)) (by (with_reducible repeat (first | apply Kd.R_alloc | apply Kd.R_drewN | apply Kd.R_drew)); exact Kd.R_mono HO_10.out (fun _ hk => ⟨hk.2, hk.1⟩)) hg hat); have n2_ := Aside0.mk (hb); have n3_ := Aside0.mk (ho); clear HO_8; clear HO_10; clear HB; clear HO_6; have HO_8 := n0_; have HO_10 := n1_; have HB := n2_; have HO314 := n3_; clear n0_ n1_ n2_ n3_; clear ho hb hg hat; obtain ⟨Ao42, co42, eo42⟩ := Kd.R_slice HO_10.out; subst eo42; obtain ⟨Ao43, co43, eo43⟩ := Kd.R_slice HO314.out; subst eo43) | (go_at_call 10; (with_reducible refine (quirelaw06_same.calls k3 _ _ t304 _ _ y312 t315 _ ?side1 ?side2 ?side3 ?side4 A39.out).mono ?_); (case side1 => repeat (first | exact (Kd.R_reads' HO_10.out).2.2 | (with_reducible refine Kd.C_alloc ?_ _) | (with_reducible refine Kd.C_drewN ?_ _) | (with_reducible refine Kd.C_drew ?_))); (case side2 => exact (Kd.R_reads' HO_10.out).2.1); (case side3 => repeat (first | exact (Kd.R_reads' HO314.out).2.2 | (with_reducible refine Kd.C_alloc ?_ _) | (with_reducible refine Kd.C_drewN ?_ _) | (with_reducible refine Kd.C_drew ?_))); (case side4 => exact (Kd.R_reads' HO314.out).2.1); rintro e w' ⟨rfl, ⟨nd, rfl⟩⟩))
                            go_ret
                            exact ⟨by first | rfl | (simp [errW_none, errW_some] <;> rfl) | (simp [*, errW_none, errW_some] <;> rfl), by repeat (first | (with_reducible first | exact HB.out | apply below_alloc | apply pw_below_drewN | apply below_drew1) | exact HB.out)⟩
                          · rw [if_neg c38] at H
                            exact absurd H (by simp)
                        · rw [if_neg c37] at H
                          have c37b0 : (t305 == 0) = false := beq_eq_false_iff_ne.mpr c37
                          have c37b1 : (t305 != 0) = true := bne_iff_ne.mpr c37
                          obtain rfl := Option.some.inj H
                          obtain ⟨Ao44, co44, eo44⟩ := Kd.R_slice HO_8.out
                          subst eo44
                          go_wp2
                          go_ret
                          exact ⟨by first | rfl | (simp [errW_none, errW_some] <;> rfl) | (simp [*, errW_none, errW_some] <;> rfl), by repeat (first | (with_reducible first | exact HB.out | apply below_alloc | apply pw_below_drewN | apply below_drew1) | exact HB.out)⟩
                      · replace c36 := Bool.eq_false_iff.mpr c36
                        subst c36
                        have H1 : (some false) = some r := by rw [if_neg (show ¬ (false = true) by decide)] at H; exact H
                        clear H
                        have H := H1
                        clear H1
                        obtain rfl := Option.some.inj H
                        obtain ⟨Ao45, co45, eo45⟩ := Kd.R_slice HO_8.out
                        subst eo45
                        go_wp2
                        go_ret
                        exact ⟨by first | rfl | (simp [errW_none, errW_some] <;> rfl) | (simp [*, errW_none, errW_some] <;> rfl), by repeat (first | (with_reducible first | exact HB.out | apply below_alloc | apply pw_below_drewN | apply below_drew1) | exact HB.out)⟩
        · rw [if_neg c18] at H
          exact absurd H (by simp)

/-- THE ONE PURE STATEMENT of quirelaw06_ClusterParts: yours. -/
def quirelaw06_ClusterParts.Pure : Prop := ∀ (a0 : ByteArray) (a1 : ByteArray), a0.size ≤ 140737488351232 → a1.size ≤ 140737488351232 → ∃ k, quirelaw06_ClusterParts.f k a0 a1 = some true
theorem quirelaw06_ClusterParts.walk (P : quirelaw06_ClusterParts.Pure) (a0 : ByteArray) (a1 : ByteArray) (w : World) (w0 : a0.size ≤ 140737488351232) (w1 : a1.size ≤ 140737488351232) :
    Calls Try.prog 7 #[.string a0, .string a1] w fun e w' => e = .returned (.bool true) ∧ Below w.heap.size w w' := by
  obtain ⟨k, h⟩ := P a0 a1 w0 w1
  refine (quirelaw06_ClusterParts.calls k a0 a1 true w h).mono ?_
  rintro e w' ⟨rfl, hd⟩
  exact ⟨rfl, hd⟩

end Go.Proofs.Ytgohmckmekijiaa.PAll
