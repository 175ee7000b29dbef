/- The walk of the statements' Go functions to their answers in plain Lean; no further condition. -/
import Derived.Test.YtgohmckmekijiaaHand
import Derived.Test.YtgohmckmekijiaaA0
import Derived.Test.YtgohmckmekijiaaA2
import Derived.Test.YtgohmckmekijiaaA4
import Derived.Test.YtgohmckmekijiaaA5
import Derived.Test.YtgohmckmekijiaaA6
namespace Go.Proofs.Ytgohmckmekijiaa.PAll
open Go.RowKit Go.Proofs.YtgohmckmekijiaaW.PrintWords Go.Proofs.YtgohmckmekijiaaW.PrintLast Go.Proofs.YtgohmckmekijiaaW.PrintMore
attribute [local go_sem] max2_int min2_int max_two min_two max_three min_three max_four min_four   -- for this text's walks alone
set_option linter.unusedVariables false
set_option linter.unusedSimpArgs false

/-! ### quirelaw06_ClusterWhole: function 6 -/
mutual
def quirelaw06_ClusterWhole.j0 : Nat → ByteArray → Bool → List (S28) → Int → Bool → Option (Bool)
  | 0, _, _, _, _, _ => none
  | k + 1, x0, x3, x4, x5, x27 => if x27 = true then (if x3 = true then (if x5 = 0 then (some true) else (some ((x4.length : Int) == 0))) else (some false)) else (quirelaw06_ClusterWhole.l0 k x0 x3 x4 0 0)
def quirelaw06_ClusterWhole.l0 : Nat → ByteArray → Bool → List (S28) → Int → Int → Option (Bool)
  | 0, _, _, _, _, _ => none
  | k + 1, x0, x3, x4, x6, x7 => if x7 < (x4.length : Int) then (if 0 ≤ x7 then (if ((rd_T28 x4 x7).f0) = x6 then (if ((rd_T28 x4 x7).f1) ≤ x6 then (quirelaw06_ClusterWhole.j2 k x0 x3 x4 x6 x7 true) else (quirelaw06_ClusterWhole.j2 k x0 x3 x4 x6 x7 (decide (((rd_T28 x4 x7).f1) > (x0.size : Int))))) else (quirelaw06_ClusterWhole.j2 k x0 x3 x4 x6 x7 true)) else (none)) else (if x3 = true then (if x6 = (x0.size : Int) then ((cluster_Bound.f k x0 x6).bind fun t276 => (some t276)) else (some false)) else (some false))
def quirelaw06_ClusterWhole.j2 : Nat → ByteArray → Bool → List (S28) → Int → Int → Bool → Option (Bool)
  | 0, _, _, _, _, _, _ => none
  | k + 1, x0, x3, x4, x6, x7, x69 => if x69 = true then (some false) else ((cluster_Next.f k x0 x6).bind fun bt280 => (if 0 ≤ x7 then (if x7 < (x4.length : Int) then ((cluster_Prev.f k x0 ((rd_T28 x4 x7).f1)).bind fun bt283 => ((quirelaw06_is.f bt280.1 bt280.2 ((rd_T28 x4 x7).f1)).bind fun t286 => (if t286 = true then ((quirelaw06_is.f bt283.1 bt283.2 x6).bind fun t287 => (if t287 = true then ((cluster_Bound.f k x0 x6).bind fun t288 => (quirelaw06_ClusterWhole.j3 k x0 x3 x4 x6 x7 (!t288))) else (quirelaw06_ClusterWhole.j3 k x0 x3 x4 x6 x7 true))) else (quirelaw06_ClusterWhole.j3 k x0 x3 x4 x6 x7 true)))) else (none)) else (none)))
def quirelaw06_ClusterWhole.j3 : Nat → ByteArray → Bool → List (S28) → Int → Int → Bool → Option (Bool)
  | 0, _, _, _, _, _, _ => none
  | k + 1, x0, x3, x4, x6, x7, x107 => if x107 = true then (some false) else (quirelaw06_ClusterWhole.l1 k x0 x3 x4 x6 x7 (wrap64 (x6 + 1)))
def quirelaw06_ClusterWhole.l1 : Nat → ByteArray → Bool → List (S28) → Int → Int → Int → Option (Bool)
  | 0, _, _, _, _, _, _ => none
  | k + 1, x0, x3, x4, x6, x7, x12 => if 0 ≤ x7 then (if x7 < (x4.length : Int) then (if x12 < ((rd_T28 x4 x7).f1) then ((cluster_Start.f k x0 x12).bind fun bt291 => ((cluster_Bound.f k x0 x12).bind fun t293 => (if t293 = true then (some false) else ((quirelaw06_is.f bt291.1 bt291.2 x6).bind fun t294 => (if t294 = true then (quirelaw06_ClusterWhole.l1 k x0 x3 x4 x6 x7 (wrap64 (x12 + 1))) else (some false)))))) else (quirelaw06_ClusterWhole.l0 k x0 x3 x4 ((rd_T28 x4 x7).f1) (wrap64 (x7 + 1)))) else (none)) else (none)
end
def quirelaw06_ClusterWhole.f (k : Nat) (a0 : ByteArray) : Option (Bool) := (quirelaw06_ClusterKnown.f k).bind fun t271 => ((cluster_Split.f k a0).bind fun bt272 => (if bt272.2 = 0 then (quirelaw06_ClusterWhole.j0 k a0 t271 bt272.1 bt272.2 (decide ((a0.size : Int) > 600))) else (quirelaw06_ClusterWhole.j0 k a0 t271 bt272.1 bt272.2 true)))
theorem quirelaw06_ClusterWhole.mono_l : ∀ k, (∀ y0 y1 y2 y3 y4, LeO (quirelaw06_ClusterWhole.j0 k y0 y1 y2 y3 y4) (quirelaw06_ClusterWhole.j0 (k + 1) y0 y1 y2 y3 y4)) ∧ (∀ y0 y1 y2 y3 y4, LeO (quirelaw06_ClusterWhole.l0 k y0 y1 y2 y3 y4) (quirelaw06_ClusterWhole.l0 (k + 1) y0 y1 y2 y3 y4)) ∧ (∀ y0 y1 y2 y3 y4 y5, LeO (quirelaw06_ClusterWhole.j2 k y0 y1 y2 y3 y4 y5) (quirelaw06_ClusterWhole.j2 (k + 1) y0 y1 y2 y3 y4 y5)) ∧ (∀ y0 y1 y2 y3 y4 y5, LeO (quirelaw06_ClusterWhole.j3 k y0 y1 y2 y3 y4 y5) (quirelaw06_ClusterWhole.j3 (k + 1) y0 y1 y2 y3 y4 y5)) ∧ (∀ y0 y1 y2 y3 y4 y5, LeO (quirelaw06_ClusterWhole.l1 k y0 y1 y2 y3 y4 y5) (quirelaw06_ClusterWhole.l1 (k + 1) y0 y1 y2 y3 y4 y5))
  | 0 => ⟨fun _ _ _ _ _ r h => by simp [quirelaw06_ClusterWhole.j0] at h, fun _ _ _ _ _ r h => by simp [quirelaw06_ClusterWhole.l0] at h, fun _ _ _ _ _ _ r h => by simp [quirelaw06_ClusterWhole.j2] at h, fun _ _ _ _ _ _ r h => by simp [quirelaw06_ClusterWhole.j3] at h, fun _ _ _ _ _ _ r h => by simp [quirelaw06_ClusterWhole.l1] at h⟩
  | k + 1 => by
    obtain ⟨ih0, ih1, ih2, ih3, ih4⟩ := quirelaw06_ClusterWhole.mono_l k
    refine ⟨?_, ?_, ?_, ?_, ?_⟩
    · intro y0 y1 y2 y3 y4
      unfold quirelaw06_ClusterWhole.j0
      repeat' first
      | (with_reducible exact ih0 _ _ _ _ _)
      | (with_reducible exact ih1 _ _ _ _ _)
      | (with_reducible exact ih2 _ _ _ _ _ _)
      | (with_reducible exact ih3 _ _ _ _ _ _)
      | (with_reducible exact ih4 _ _ _ _ _ _)
      | (with_reducible exact cluster_Bound.mono _ _ _)
      | (with_reducible exact cluster_Next.mono _ _ _)
      | (with_reducible exact cluster_Prev.mono _ _ _)
      | (with_reducible exact cluster_Split.mono _ _)
      | (with_reducible exact cluster_Start.mono _ _ _)
      | (with_reducible exact quirelaw06_ClusterKnown.mono _)
      | (with_reducible exact LeO.refl _)
      | (with_reducible exact LeO.none _)
      | (with_reducible refine LeO.ite ?_ ?_)
      | (with_reducible refine LeO.bind ?_ (fun _ => ?_))
      | exact ih0 _ _ _ _ _
      | exact ih1 _ _ _ _ _
      | exact ih2 _ _ _ _ _ _
      | exact ih3 _ _ _ _ _ _
      | exact ih4 _ _ _ _ _ _
      | exact cluster_Bound.mono _ _ _
      | exact cluster_Next.mono _ _ _
      | exact cluster_Prev.mono _ _ _
      | exact cluster_Split.mono _ _
      | exact cluster_Start.mono _ _ _
      | exact quirelaw06_ClusterKnown.mono _
      | exact LeO.none _
      | refine LeO.ite ?_ ?_
      | refine LeO.bind ?_ (fun _ => ?_)
    · intro y0 y1 y2 y3 y4
      unfold quirelaw06_ClusterWhole.l0
      repeat' first
      | (with_reducible exact ih0 _ _ _ _ _)
      | (with_reducible exact ih1 _ _ _ _ _)
      | (with_reducible exact ih2 _ _ _ _ _ _)
      | (with_reducible exact ih3 _ _ _ _ _ _)
      | (with_reducible exact ih4 _ _ _ _ _ _)
      | (with_reducible exact cluster_Bound.mono _ _ _)
      | (with_reducible exact cluster_Next.mono _ _ _)
      | (with_reducible exact cluster_Prev.mono _ _ _)
      | (with_reducible exact cluster_Split.mono _ _)
      | (with_reducible exact cluster_Start.mono _ _ _)
      | (with_reducible exact quirelaw06_ClusterKnown.mono _)
      | (with_reducible exact LeO.refl _)
      | (with_reducible exact LeO.none _)
      | (with_reducible refine LeO.ite ?_ ?_)
      | (with_reducible refine LeO.bind ?_ (fun _ => ?_))
      | exact ih0 _ _ _ _ _
      | exact ih1 _ _ _ _ _
      | exact ih2 _ _ _ _ _ _
      | exact ih3 _ _ _ _ _ _
      | exact ih4 _ _ _ _ _ _
      | exact cluster_Bound.mono _ _ _
      | exact cluster_Next.mono _ _ _
      | exact cluster_Prev.mono _ _ _
      | exact cluster_Split.mono _ _
      | exact cluster_Start.mono _ _ _
      | exact quirelaw06_ClusterKnown.mono _
      | exact LeO.none _
      | refine LeO.ite ?_ ?_
      | refine LeO.bind ?_ (fun _ => ?_)
    · intro y0 y1 y2 y3 y4 y5
      unfold quirelaw06_ClusterWhole.j2
      repeat' first
      | (with_reducible exact ih0 _ _ _ _ _)
      | (with_reducible exact ih1 _ _ _ _ _)
      | (with_reducible exact ih2 _ _ _ _ _ _)
      | (with_reducible exact ih3 _ _ _ _ _ _)
      | (with_reducible exact ih4 _ _ _ _ _ _)
      | (with_reducible exact cluster_Bound.mono _ _ _)
      | (with_reducible exact cluster_Next.mono _ _ _)
      | (with_reducible exact cluster_Prev.mono _ _ _)
      | (with_reducible exact cluster_Split.mono _ _)
      | (with_reducible exact cluster_Start.mono _ _ _)
      | (with_reducible exact quirelaw06_ClusterKnown.mono _)
      | (with_reducible exact LeO.refl _)
      | (with_reducible exact LeO.none _)
      | (with_reducible refine LeO.ite ?_ ?_)
      | (with_reducible refine LeO.bind ?_ (fun _ => ?_))
      | exact ih0 _ _ _ _ _
      | exact ih1 _ _ _ _ _
      | exact ih2 _ _ _ _ _ _
      | exact ih3 _ _ _ _ _ _
      | exact ih4 _ _ _ _ _ _
      | exact cluster_Bound.mono _ _ _
      | exact cluster_Next.mono _ _ _
      | exact cluster_Prev.mono _ _ _
      | exact cluster_Split.mono _ _
      | exact cluster_Start.mono _ _ _
      | exact quirelaw06_ClusterKnown.mono _
      | exact LeO.none _
      | refine LeO.ite ?_ ?_
      | refine LeO.bind ?_ (fun _ => ?_)
    · intro y0 y1 y2 y3 y4 y5
      unfold quirelaw06_ClusterWhole.j3
      repeat' first
      | (with_reducible exact ih0 _ _ _ _ _)
      | (with_reducible exact ih1 _ _ _ _ _)
      | (with_reducible exact ih2 _ _ _ _ _ _)
      | (with_reducible exact ih3 _ _ _ _ _ _)
      | (with_reducible exact ih4 _ _ _ _ _ _)
      | (with_reducible exact cluster_Bound.mono _ _ _)
      | (with_reducible exact cluster_Next.mono _ _ _)
      | (with_reducible exact cluster_Prev.mono _ _ _)
      | (with_reducible exact cluster_Split.mono _ _)
      | (with_reducible exact cluster_Start.mono _ _ _)
      | (with_reducible exact quirelaw06_ClusterKnown.mono _)
      | (with_reducible exact LeO.refl _)
      | (with_reducible exact LeO.none _)
      | (with_reducible refine LeO.ite ?_ ?_)
      | (with_reducible refine LeO.bind ?_ (fun _ => ?_))
      | exact ih0 _ _ _ _ _
      | exact ih1 _ _ _ _ _
      | exact ih2 _ _ _ _ _ _
      | exact ih3 _ _ _ _ _ _
      | exact ih4 _ _ _ _ _ _
      | exact cluster_Bound.mono _ _ _
      | exact cluster_Next.mono _ _ _
      | exact cluster_Prev.mono _ _ _
      | exact cluster_Split.mono _ _
      | exact cluster_Start.mono _ _ _
      | exact quirelaw06_ClusterKnown.mono _
      | exact LeO.none _
      | refine LeO.ite ?_ ?_
      | refine LeO.bind ?_ (fun _ => ?_)
    · intro y0 y1 y2 y3 y4 y5
      unfold quirelaw06_ClusterWhole.l1
      repeat' first
      | (with_reducible exact ih0 _ _ _ _ _)
      | (with_reducible exact ih1 _ _ _ _ _)
      | (with_reducible exact ih2 _ _ _ _ _ _)
      | (with_reducible exact ih3 _ _ _ _ _ _)
      | (with_reducible exact ih4 _ _ _ _ _ _)
      | (with_reducible exact cluster_Bound.mono _ _ _)
      | (with_reducible exact cluster_Next.mono _ _ _)
      | (with_reducible exact cluster_Prev.mono _ _ _)
      | (with_reducible exact cluster_Split.mono _ _)
      | (with_reducible exact cluster_Start.mono _ _ _)
      | (with_reducible exact quirelaw06_ClusterKnown.mono _)
      | (with_reducible exact LeO.refl _)
      | (with_reducible exact LeO.none _)
      | (with_reducible refine LeO.ite ?_ ?_)
      | (with_reducible refine LeO.bind ?_ (fun _ => ?_))
      | exact ih0 _ _ _ _ _
      | exact ih1 _ _ _ _ _
      | exact ih2 _ _ _ _ _ _
      | exact ih3 _ _ _ _ _ _
      | exact ih4 _ _ _ _ _ _
      | exact cluster_Bound.mono _ _ _
      | exact cluster_Next.mono _ _ _
      | exact cluster_Prev.mono _ _ _
      | exact cluster_Split.mono _ _
      | exact cluster_Start.mono _ _ _
      | exact quirelaw06_ClusterKnown.mono _
      | exact LeO.none _
      | refine LeO.ite ?_ ?_
      | refine LeO.bind ?_ (fun _ => ?_)
theorem quirelaw06_ClusterWhole.mono : ∀ a0 k, LeO (quirelaw06_ClusterWhole.f k a0) (quirelaw06_ClusterWhole.f (k + 1) a0) := by
  intro a0 k
  obtain ⟨ih0, ih1, ih2, ih3, ih4⟩ := quirelaw06_ClusterWhole.mono_l k
  unfold quirelaw06_ClusterWhole.f
  repeat' first
      | (with_reducible exact ih0 _ _ _ _ _)
      | (with_reducible exact ih1 _ _ _ _ _)
      | (with_reducible exact ih2 _ _ _ _ _ _)
      | (with_reducible exact ih3 _ _ _ _ _ _)
      | (with_reducible exact ih4 _ _ _ _ _ _)
      | (with_reducible exact cluster_Bound.mono _ _ _)
      | (with_reducible exact cluster_Next.mono _ _ _)
      | (with_reducible exact cluster_Prev.mono _ _ _)
      | (with_reducible exact cluster_Split.mono _ _)
      | (with_reducible exact cluster_Start.mono _ _ _)
      | (with_reducible exact quirelaw06_ClusterKnown.mono _)
      | (with_reducible exact LeO.refl _)
      | (with_reducible exact LeO.none _)
      | (with_reducible refine LeO.ite ?_ ?_)
      | (with_reducible refine LeO.bind ?_ (fun _ => ?_))
      | exact ih0 _ _ _ _ _
      | exact ih1 _ _ _ _ _
      | exact ih2 _ _ _ _ _ _
      | exact ih3 _ _ _ _ _ _
      | exact ih4 _ _ _ _ _ _
      | exact cluster_Bound.mono _ _ _
      | exact cluster_Next.mono _ _ _
      | exact cluster_Prev.mono _ _ _
      | exact cluster_Split.mono _ _
      | exact cluster_Start.mono _ _ _
      | exact quirelaw06_ClusterKnown.mono _
      | exact LeO.none _
      | refine LeO.ite ?_ ?_
      | refine LeO.bind ?_ (fun _ => ?_)
set_option maxHeartbeats 8000000 in
set_option maxRecDepth 100000 in
theorem quirelaw06_ClusterWhole.calls (k : Nat) (a0 : ByteArray) (r : Bool) (w : World) (h : quirelaw06_ClusterWhole.f k a0 = some r) :
    Calls Try.prog 6 #[.string a0] w fun e w' => e = .returned (.bool r) ∧ Below w.heap.size w w' := by
  have HB := Aside0.mk (Below.refl w.heap.size w)
  have H : ((quirelaw06_ClusterKnown.f k).bind fun t271 => ((cluster_Split.f k a0).bind fun bt272 => (if bt272.2 = 0 then (quirelaw06_ClusterWhole.j0 k a0 t271 bt272.1 bt272.2 (decide ((a0.size : Int) > 600))) else (quirelaw06_ClusterWhole.j0 k a0 t271 bt272.1 bt272.2 true)))) = some r := h
  clear h
  replace H := Option.bind_eq_some_iff.mp H
  obtain ⟨t271, A20, H⟩ := H
  replace H : ((cluster_Split.f k a0).bind fun bt272 => (if bt272.2 = 0 then (quirelaw06_ClusterWhole.j0 k a0 t271 bt272.1 bt272.2 (decide ((a0.size : Int) > 600))) else (quirelaw06_ClusterWhole.j0 k a0 t271 bt272.1 bt272.2 true))) = some r := H
  have A2 := Aside0.mk A20
  clear A20
  replace H := Option.bind_eq_some_iff.mp H
  obtain ⟨⟨t272, t273⟩, A30, H⟩ := H
  replace H : (if t273 = 0 then (quirelaw06_ClusterWhole.j0 k a0 t271 t272 t273 (decide ((a0.size : Int) > 600))) else (quirelaw06_ClusterWhole.j0 k a0 t271 t272 t273 true)) = some r := H
  have A3 := Aside0.mk A30
  clear A30
  have HC4 := Aside0.mk H
  clear H
  go_enter Try.func6, Try.ntmps6
  go_upto_region 3 with (first | ((with_reducible refine gate_callee (f := 5) rfl ?_); refine goesL_ (some 15) rfl rfl Try.func5 (by kernel_rfl) rfl #[] rfl (by (try simp only [List.map_toArray, List.map_cons, List.map_nil]); first | done | rfl | (simp only [List.length_drop, List.length_take]; rfl)) ?_; (with_reducible refine (quirelaw06_ClusterKnown.calls k  t271 _ A2.out).mono ?_); rintro e w5 ⟨rfl, hb⟩; refine ⟨_, rfl, ?_⟩; have n0_ := Aside0.mk (below_step (by repeat (first | (with_reducible first | exact HB.out | apply below_alloc | apply pw_below_drewN | apply below_drew1) | exact HB.out)) hb); clear HB; have HB := n0_; clear n0_; (try clear hb); (try clear hb2); (try clear hk); (try clear hi)) | ((with_reducible refine gate_callee (f := 8) rfl ?_); refine goesL_ (some 18) rfl rfl Try.func8 (by kernel_rfl) rfl #[.string a0] rfl (by (try simp only [List.map_toArray, List.map_cons, List.map_nil]); first | done | rfl | (simp only [List.length_drop, List.length_take]; rfl)) ?_; (with_reducible refine (cluster_Split.calls k a0 t272 t273 _ A3.out).mono ?_); rintro e w6 ⟨v274, rfl, ho0, hb⟩; refine ⟨_, rfl, ?_⟩; have n0_ := Aside0.mk (Kd.R_lower ho0 (below_size (by repeat (first | (with_reducible first | exact HB.out | apply below_alloc | apply pw_below_drewN | apply below_drew1) | exact HB.out)))); have n1_ := Aside0.mk (below_step (by repeat (first | (with_reducible first | exact HB.out | apply below_alloc | apply pw_below_drewN | apply below_drew1) | exact HB.out)) hb); clear HB; have HO275 := n0_; have HB := n1_; clear n0_ n1_; (try clear hb); (try clear hb2); (try clear hk); (try clear hi); (try clear ho0)))
  (try simp only [Act.put, List.setIfInBounds_toArray, List.set_cons_zero, List.set_cons_succ])
  go_cut [27] (fun v27 wc => ∃ (kq : Nat) (x27_3 : Bool), v27 = .bool x27_3 ∧ Aside0 (quirelaw06_ClusterWhole.j0 kq a0 t271 t272 t273 x27_3 = some r) ∧ Aside0 (kq ≤ k) ∧ Aside0 (Kd.R k28 28 wc w.heap.size (fun _ => True) v274 t272) ∧ Aside0 (Below w.heap.size w wc))
  case first =>
    have H := HC4.out
    clear HC4
    by_cases c7 : t273 = 0
    · rw [if_pos c7] at H
      have c7b0 : (t273 == 0) = true := beq_iff_eq.mpr c7
      have c7b1 : (t273 != 0) = false := bne_eq_false_iff_eq.mpr c7
      clear c7
      (first | rw [c7b0] | (simp only [i64_w, i32_w]; rw [c7b0]) | skip)
      have H' := Aside0.mk H
      clear H
      go_wp2
      go_meet
      case rel => exact ⟨_, (decide ((a0.size : Int) > 600)), (by first | rfl | (simp; done) | (simp [*]; done)), H', ⟨by first | omega | exact Nat.le_refl _⟩, ⟨by (with_reducible repeat (first | apply Kd.R_alloc | apply Kd.R_drewN | apply Kd.R_drew)); exact HO275.out⟩, ⟨by repeat (first | (with_reducible first | exact HB.out | apply below_alloc | apply pw_below_drewN | apply below_drew1) | exact HB.out)⟩⟩
    · rw [if_neg c7] at H
      have c7b0 : (t273 == 0) = false := beq_eq_false_iff_ne.mpr c7
      have c7b1 : (t273 != 0) = true := bne_iff_ne.mpr c7
      (first | rw [c7b0] | (simp only [i64_w, i32_w]; rw [c7b0]) | skip)
      have H' := Aside0.mk H
      clear H
      go_wp2
      go_meet
      case rel => exact ⟨_, (true), (by first | rfl | (simp; done) | (simp [*]; done)), H', ⟨by first | omega | exact Nat.le_refl _⟩, ⟨by (with_reducible repeat (first | apply Kd.R_alloc | apply Kd.R_drewN | apply Kd.R_drew)); exact HO275.out⟩, ⟨by repeat (first | (with_reducible first | exact HB.out | apply below_alloc | apply pw_below_drewN | apply below_drew1) | exact HB.out)⟩⟩
  case rest =>
    clear HC4
    try clear p2
    try clear c5
    try clear c6
    try clear c7
    try clear c7b0
    try clear c7b1
    obtain ⟨kq, x27_3, rfl, HA, HJ3, HO_4, HB⟩ := hcut
    cases kq with
    | zero => exact absurd HA.out (by simp [quirelaw06_ClusterWhole.j0])
    | succ kj3 =>
      have H := HA.out
      clear HA
      simp only [quirelaw06_ClusterWhole.j0] at H
      by_cases c8 : x27_3 = true
      · subst c8
        have H1 : (if t271 = true then (if t273 = 0 then (some true) else (some ((t272.length : Int) == 0))) else (some false)) = some r := by rw [if_pos rfl] at H; exact H
        clear H
        have H := H1
        clear H1
        by_cases c9 : t271 = true
        · subst c9
          have H1 : (if t273 = 0 then (some true) else (some ((t272.length : Int) == 0))) = some r := by rw [if_pos rfl] at H; exact H
          clear H
          have H := H1
          clear H1
          by_cases c10 : t273 = 0
          · rw [if_pos c10] at H
            have c10b0 : (t273 == 0) = true := beq_iff_eq.mpr c10
            have c10b1 : (t273 != 0) = false := bne_eq_false_iff_eq.mpr c10
            clear c10
            obtain rfl := Option.some.inj H
            go_wp2
            go_ret
            exact ⟨by first | rfl | (simp [errW_none, errW_some] <;> rfl) | (simp [*, errW_none, errW_some] <;> rfl), by repeat (first | (with_reducible first | exact HB.out | apply below_alloc | apply pw_below_drewN | apply below_drew1) | exact HB.out)⟩
          · rw [if_neg c10] at H
            have c10b0 : (t273 == 0) = false := beq_eq_false_iff_ne.mpr c10
            have c10b1 : (t273 != 0) = true := bne_iff_ne.mpr c10
            obtain rfl := Option.some.inj H
            obtain ⟨Ao11, co11, eo11⟩ := Kd.R_slice HO_4.out
            subst eo11
            go_wp2
            go_ret
            exact ⟨by first | rfl | (simp [errW_none, errW_some] <;> rfl) | (simp [*, errW_none, errW_some] <;> rfl), by repeat (first | (with_reducible first | exact HB.out | apply below_alloc | apply pw_below_drewN | apply below_drew1) | exact HB.out)⟩
        · replace c9 := Bool.eq_false_iff.mpr c9
          subst c9
          have H1 : (some false) = some r := by rw [if_neg (show ¬ (false = true) by decide)] at H; exact H
          clear H
          have H := H1
          clear H1
          obtain rfl := Option.some.inj H
          go_wp2
          go_ret
          exact ⟨by first | rfl | (simp [errW_none, errW_some] <;> rfl) | (simp [*, errW_none, errW_some] <;> rfl), by repeat (first | (with_reducible first | exact HB.out | apply below_alloc | apply pw_below_drewN | apply below_drew1) | exact HB.out)⟩
      · replace c8 := Bool.eq_false_iff.mpr c8
        subst c8
        have H1 : (quirelaw06_ClusterWhole.l0 kj3 a0 t271 t272 0 0) = some r := by rw [if_neg (show ¬ (false = true) by decide)] at H; exact H
        clear H
        have H := H1
        clear H1
        have H' := Aside0.mk H
        clear H
        go_wp2
        go_loopg [6, 7] kj3 (fun kq v6 v7 w' => ∃ (x6_2 : Int) (x7_2 : Int), v6 = .int .i64 x6_2 ∧ v7 = .int .i64 x7_2 ∧ Aside0 (quirelaw06_ClusterWhole.l0 kq a0 t271 t272 x6_2 x7_2 = some r) ∧ Aside0 (kq ≤ kj3) ∧ Aside0 (Kd.R k28 28 w' w.heap.size (fun _ => True) v274 t272) ∧ Aside0 (Below w.heap.size w w'))
        case atStart => exact ⟨(0), (0), (by first | rfl | (simp; done) | (simp [*]; done)), (by first | rfl | (simp; done) | (simp [*]; done)), H', ⟨Nat.le_refl _⟩, ⟨by (with_reducible repeat (first | apply Kd.R_alloc | apply Kd.R_drewN | apply Kd.R_drew)); exact HO_4.out⟩, ⟨by repeat (first | (with_reducible first | exact HB.out | apply below_alloc | apply pw_below_drewN | apply below_drew1) | exact HB.out)⟩⟩
        case round =>
          clear H'
          try clear c1
          try clear p2
          try clear c5
          try clear c6
          try clear c7
          try clear c7b0
          try clear c7b1
          try clear c8
          try clear c9
          try clear c10
          try clear c10b0
          try clear c10b1
          try clear p2
          obtain ⟨x6_2, x7_2, rfl, rfl, HA, HK2, HO_4, HB⟩ := hrel
          cases gk with
          | zero => exact absurd HA.out (by simp [quirelaw06_ClusterWhole.l0])
          | succ k2 =>
            have H := HA.out
            clear HA
            simp only [quirelaw06_ClusterWhole.l0] at H
            by_cases c12 : x7_2 < (t272.length : Int)
            · rw [if_pos c12] at H
              have c12b0 : decide (x7_2 < (t272.length : Int)) = true := decide_eq_true c12
              clear c12
              have HC13 := Aside0.mk H
              clear H
              obtain ⟨Ao14, co14, eo14⟩ := Kd.R_slice HO_4.out
              subst eo14
              go_upto_region 9 with (fail)
              go_cut [69] (fun v69 wc => ∃ (kq : Nat) (x69_12 : Bool), v69 = .bool x69_12 ∧ Aside0 (quirelaw06_ClusterWhole.j2 kq a0 t271 t272 x6_2 x7_2 x69_12 = some r) ∧ Aside0 (kq ≤ k2) ∧ Aside0 (Kd.R k28 28 wc w.heap.size (fun _ => True) (.slice Ao14 t272.length co14) t272) ∧ Aside0 (Below w.heap.size w wc))
              case first =>
                have H := HC13.out
                clear HC13
                by_cases c15 : 0 ≤ x7_2
                · rw [if_pos c15] at H
                  have c15b0 : decide (0 ≤ x7_2) = true := decide_eq_true c15
                  clear c15
                  (first | rw [c15b0] | (simp only [i64_w, i32_w]; rw [c15b0]) | skip)
                  by_cases c16 : ((rd_T28 t272 x7_2).f0) = x6_2
                  · rw [if_pos c16] at H
                    have c16b0 : (((rd_T28 t272 x7_2).f0) == x6_2) = true := beq_iff_eq.mpr c16
                    have c16b1 : (((rd_T28 t272 x7_2).f0) != x6_2) = false := bne_eq_false_iff_eq.mpr c16
                    clear c16
                    by_cases c17 : ((rd_T28 t272 x7_2).f1) ≤ x6_2
                    · rw [if_pos c17] at H
                      have c17b0 : decide (((rd_T28 t272 x7_2).f1) ≤ x6_2) = true := decide_eq_true c17
                      clear c17
                      have H' := Aside0.mk H
                      clear H
                      have p277 : 0 ≤ (x7_2 : Int) := of_decide_eq_true (by first | (with_reducible assumption) | assumption)
                      have q277 : x7_2 < (t272.length : Int) := of_decide_eq_true (by first | (with_reducible assumption) | assumption)
                      obtain ⟨ad277, e277, hx277_0, hx277_1, hx277_2⟩ := at_T28 (Kd.R_reads' HO_4.out).2.2 x7_2 p277 q277
                      cases e277
                      replace p277 := eq_true p277
                      replace q277 := eq_true q277
                      have p278 : 0 ≤ (x7_2 : Int) := of_decide_eq_true (by first | (with_reducible assumption) | assumption)
                      have q278 : x7_2 < (t272.length : Int) := of_decide_eq_true (by first | (with_reducible assumption) | assumption)
                      obtain ⟨ad278, e278, hx278_0, hx278_1, hx278_2⟩ := at_T28 (Kd.R_reads' HO_4.out).2.2 x7_2 p278 q278
                      obtain rfl : ad277 = ad278 := (by injection e278)
                      replace p278 := eq_true p278
                      replace q278 := eq_true q278
                      go_wp2
                      go_meet
                      case rel => exact ⟨_, (true), (by first | rfl | (simp; done) | (simp [*]; done)), H', ⟨by have := HJ3.out; have := HK2.out; first | omega | exact Nat.le_refl _⟩, ⟨by (with_reducible repeat (first | apply Kd.R_alloc | apply Kd.R_drewN | apply Kd.R_drew)); exact HO_4.out⟩, ⟨by repeat (first | (with_reducible first | exact HB.out | apply below_alloc | apply pw_below_drewN | apply below_drew1) | exact HB.out)⟩⟩
                    · rw [if_neg c17] at H
                      have c17b0 : decide (((rd_T28 t272 x7_2).f1) ≤ x6_2) = false := decide_eq_false c17
                      clear c17
                      have H' := Aside0.mk H
                      clear H
                      have p277 : 0 ≤ (x7_2 : Int) := of_decide_eq_true (by first | (with_reducible assumption) | assumption)
                      have q277 : x7_2 < (t272.length : Int) := of_decide_eq_true (by first | (with_reducible assumption) | assumption)
                      obtain ⟨ad277, e277, hx277_0, hx277_1, hx277_2⟩ := at_T28 (Kd.R_reads' HO_4.out).2.2 x7_2 p277 q277
                      cases e277
                      replace p277 := eq_true p277
                      replace q277 := eq_true q277
                      have p278 : 0 ≤ (x7_2 : Int) := of_decide_eq_true (by first | (with_reducible assumption) | assumption)
                      have q278 : x7_2 < (t272.length : Int) := of_decide_eq_true (by first | (with_reducible assumption) | assumption)
                      obtain ⟨ad278, e278, hx278_0, hx278_1, hx278_2⟩ := at_T28 (Kd.R_reads' HO_4.out).2.2 x7_2 p278 q278
                      obtain rfl : ad277 = ad278 := (by injection e278)
                      replace p278 := eq_true p278
                      replace q278 := eq_true q278
                      have p279 : 0 ≤ (x7_2 : Int) := of_decide_eq_true (by first | (with_reducible assumption) | assumption)
                      have q279 : x7_2 < (t272.length : Int) := of_decide_eq_true (by first | (with_reducible assumption) | assumption)
                      obtain ⟨ad279, e279, hx279_0, hx279_1, hx279_2⟩ := at_T28 (Kd.R_reads' HO_4.out).2.2 x7_2 p279 q279
                      obtain rfl : ad277 = ad279 := (by injection e279)
                      replace p279 := eq_true p279
                      replace q279 := eq_true q279
                      go_wp2
                      go_meet
                      case rel => exact ⟨_, (decide (((rd_T28 t272 x7_2).f1) > (a0.size : Int))), (by first | rfl | (simp; done) | (simp [*]; done)), H', ⟨by have := HJ3.out; have := HK2.out; first | omega | exact Nat.le_refl _⟩, ⟨by (with_reducible repeat (first | apply Kd.R_alloc | apply Kd.R_drewN | apply Kd.R_drew)); exact HO_4.out⟩, ⟨by repeat (first | (with_reducible first | exact HB.out | apply below_alloc | apply pw_below_drewN | apply below_drew1) | exact HB.out)⟩⟩
                  · rw [if_neg c16] at H
                    have c16b0 : (((rd_T28 t272 x7_2).f0) == x6_2) = false := beq_eq_false_iff_ne.mpr c16
                    have c16b1 : (((rd_T28 t272 x7_2).f0) != x6_2) = true := bne_iff_ne.mpr c16
                    have H' := Aside0.mk H
                    clear H
                    have p277 : 0 ≤ (x7_2 : Int) := of_decide_eq_true (by first | (with_reducible assumption) | assumption)
                    have q277 : x7_2 < (t272.length : Int) := of_decide_eq_true (by first | (with_reducible assumption) | assumption)
                    obtain ⟨ad277, e277, hx277_0, hx277_1, hx277_2⟩ := at_T28 (Kd.R_reads' HO_4.out).2.2 x7_2 p277 q277
                    cases e277
                    replace p277 := eq_true p277
                    replace q277 := eq_true q277
                    go_wp2
                    go_meet
                    case rel => exact ⟨_, (true), (by first | rfl | (simp; done) | (simp [*]; done)), H', ⟨by have := HJ3.out; have := HK2.out; first | omega | exact Nat.le_refl _⟩, ⟨by (with_reducible repeat (first | apply Kd.R_alloc | apply Kd.R_drewN | apply Kd.R_drew)); exact HO_4.out⟩, ⟨by repeat (first | (with_reducible first | exact HB.out | apply below_alloc | apply pw_below_drewN | apply below_drew1) | exact HB.out)⟩⟩
                · rw [if_neg c15] at H
                  exact absurd H (by simp)
              case rest =>
                clear HC13
                try clear c1
                try clear p2
                try clear q2
                try clear hx2
                try clear c5
                try clear c6
                try clear c7
                try clear c7b0
                try clear c7b1
                try clear c8
                try clear c9
                try clear c10
                try clear c10b0
                try clear c10b1
                try clear c12
                try clear c12b0
                try clear c15
                try clear c15b0
                try clear c16
                try clear c16b0
                try clear c16b1
                try clear c17
                try clear c17b0
                try clear hx277_0
                try clear hx277_1
                try clear hx277_2
                try clear hx278_0
                try clear hx278_1
                try clear hx278_2
                try clear hx279_0
                try clear hx279_1
                try clear hx279_2
                try clear p2
                try clear p277
                try clear p278
                try clear p279
                try clear q277
                try clear q278
                try clear q279
                obtain ⟨kq, x69_12, rfl, HA, HJ12, HO_4, HB⟩ := hcut
                cases kq with
                | zero => exact absurd HA.out (by simp [quirelaw06_ClusterWhole.j2])
                | succ kj12 =>
                  have H := HA.out
                  clear HA
                  simp only [quirelaw06_ClusterWhole.j2] at H
                  by_cases c18 : x69_12 = true
                  · subst c18
                    have H1 : (some false) = some r := by rw [if_pos rfl] at H; exact H
                    clear H
                    have H := H1
                    clear H1
                    obtain rfl := Option.some.inj H
                    go_wp2
                    go_ret
                    exact ⟨by first | rfl | (simp [errW_none, errW_some] <;> rfl) | (simp [*, errW_none, errW_some] <;> rfl), by repeat (first | (with_reducible first | exact HB.out | apply below_alloc | apply pw_below_drewN | apply below_drew1) | exact HB.out)⟩
                  · replace c18 := Bool.eq_false_iff.mpr c18
                    subst c18
                    have H1 : ((cluster_Next.f kj12 a0 x6_2).bind fun bt280 => (if 0 ≤ x7_2 then (if x7_2 < (t272.length : Int) then ((cluster_Prev.f kj12 a0 ((rd_T28 t272 x7_2).f1)).bind fun bt283 => ((quirelaw06_is.f bt280.1 bt280.2 ((rd_T28 t272 x7_2).f1)).bind fun t286 => (if t286 = true then ((quirelaw06_is.f bt283.1 bt283.2 x6_2).bind fun t287 => (if t287 = true then ((cluster_Bound.f kj12 a0 x6_2).bind fun t288 => (quirelaw06_ClusterWhole.j3 kj12 a0 t271 t272 x6_2 x7_2 (!t288))) else (quirelaw06_ClusterWhole.j3 kj12 a0 t271 t272 x6_2 x7_2 true))) else (quirelaw06_ClusterWhole.j3 kj12 a0 t271 t272 x6_2 x7_2 true)))) else (none)) else (none))) = some r := by rw [if_neg (show ¬ (false = true) by decide)] at H; exact H
                    clear H
                    have H := H1
                    clear H1
                    replace H := Option.bind_eq_some_iff.mp H
                    obtain ⟨⟨t280, t281⟩, A190, H⟩ := H
                    replace H : (if 0 ≤ x7_2 then (if x7_2 < (t272.length : Int) then ((cluster_Prev.f kj12 a0 ((rd_T28 t272 x7_2).f1)).bind fun bt283 => ((quirelaw06_is.f t280 t281 ((rd_T28 t272 x7_2).f1)).bind fun t286 => (if t286 = true then ((quirelaw06_is.f bt283.1 bt283.2 x6_2).bind fun t287 => (if t287 = true then ((cluster_Bound.f kj12 a0 x6_2).bind fun t288 => (quirelaw06_ClusterWhole.j3 kj12 a0 t271 t272 x6_2 x7_2 (!t288))) else (quirelaw06_ClusterWhole.j3 kj12 a0 t271 t272 x6_2 x7_2 true))) else (quirelaw06_ClusterWhole.j3 kj12 a0 t271 t272 x6_2 x7_2 true)))) else (none)) else (none)) = some r := H
                    have A19 := Aside0.mk A190
                    clear A190
                    by_cases c20 : 0 ≤ x7_2
                    · rw [if_pos c20] at H
                      have c20b0 : decide (0 ≤ x7_2) = true := decide_eq_true c20
                      clear c20
                      by_cases c21 : x7_2 < (t272.length : Int)
                      · rw [if_pos c21] at H
                        have c21b0 : decide (x7_2 < (t272.length : Int)) = true := decide_eq_true c21
                        clear c21
                        replace H := Option.bind_eq_some_iff.mp H
                        obtain ⟨⟨t283, t284⟩, A220, H⟩ := H
                        replace H : ((quirelaw06_is.f t280 t281 ((rd_T28 t272 x7_2).f1)).bind fun t286 => (if t286 = true then ((quirelaw06_is.f t283 t284 x6_2).bind fun t287 => (if t287 = true then ((cluster_Bound.f kj12 a0 x6_2).bind fun t288 => (quirelaw06_ClusterWhole.j3 kj12 a0 t271 t272 x6_2 x7_2 (!t288))) else (quirelaw06_ClusterWhole.j3 kj12 a0 t271 t272 x6_2 x7_2 true))) else (quirelaw06_ClusterWhole.j3 kj12 a0 t271 t272 x6_2 x7_2 true))) = some r := H
                        have A22 := Aside0.mk A220
                        clear A220
                        have HC23 := Aside0.mk H
                        clear H
                        go_upto_region 13 with (first | ((with_reducible refine gate_callee (f := 14) rfl ?_); refine goesL_ (some 73) rfl rfl Try.func14 (by kernel_rfl) rfl #[.string a0, .int .i64 x6_2] rfl (by (try simp only [List.map_toArray, List.map_cons, List.map_nil]); first | done | rfl | (simp only [List.length_drop, List.length_take]; rfl)) ?_; (with_reducible refine (cluster_Next.calls kj12 a0 x6_2 t280 t281 _ A19.out).mono ?_); rintro e w24 ⟨rfl, hb⟩; refine ⟨_, rfl, ?_⟩; have n0_ := Aside0.mk (Kd.R_below (by (with_reducible repeat (first | apply Kd.R_alloc | apply Kd.R_drewN | apply Kd.R_drew)); exact HO_4.out) hb); have n1_ := Aside0.mk (below_step (by repeat (first | (with_reducible first | exact HB.out | apply below_alloc | apply pw_below_drewN | apply below_drew1) | exact HB.out)) hb); clear HO_4; clear HB; have HO_4 := n0_; have HB := n1_; clear n0_ n1_; (try clear hb); (try clear hb2); (try clear hk); (try clear hi); have p282 : 0 ≤ (x7_2 : Int) := of_decide_eq_true (by first | (with_reducible assumption) | assumption); have q282 : x7_2 < (t272.length : Int) := of_decide_eq_true (by first | (with_reducible assumption) | assumption); obtain ⟨ad282, e282, hx282_0, hx282_1, hx282_2⟩ := at_T28 (Kd.R_reads' HO_4.out).2.2 x7_2 p282 q282; cases e282; replace p282 := eq_true p282; replace q282 := eq_true q282) | ((with_reducible refine gate_callee (f := 16) rfl ?_); refine goesL_ (some 83) rfl rfl Try.func16 (by kernel_rfl) rfl #[.string a0, .int .i64 ((rd_T28 t272 x7_2).f1)] rfl (by (try simp only [List.map_toArray, List.map_cons, List.map_nil]); first | done | rfl | (simp only [List.length_drop, List.length_take]; rfl)) ?_; (with_reducible refine (cluster_Prev.calls kj12 a0 ((rd_T28 t272 x7_2).f1) t283 t284 _ A22.out).mono ?_); rintro e w25 ⟨rfl, hb⟩; refine ⟨_, rfl, ?_⟩; have n0_ := Aside0.mk (Kd.R_below (by (with_reducible repeat (first | apply Kd.R_alloc | apply Kd.R_drewN | apply Kd.R_drew)); exact HO_4.out) hb); have n1_ := Aside0.mk (below_step (by repeat (first | (with_reducible first | exact HB.out | apply below_alloc | apply pw_below_drewN | apply below_drew1) | exact HB.out)) hb); clear HO_4; clear HB; have HO_4 := n0_; have HB := n1_; clear n0_ n1_; (try clear hb); (try clear hb2); (try clear hk); (try clear hi)))
                        (try simp only [Act.put, List.setIfInBounds_toArray, List.set_cons_zero, List.set_cons_succ])
                        go_cut [107] (fun v107 wc => ∃ (kq : Nat) (x107_22 : Bool), v107 = .bool x107_22 ∧ Aside0 (quirelaw06_ClusterWhole.j3 kq a0 t271 t272 x6_2 x7_2 x107_22 = some r) ∧ Aside0 (kq ≤ kj12) ∧ Aside0 (Kd.R k28 28 wc w.heap.size (fun _ => True) (.slice (some ad282) t272.length co14) t272) ∧ Aside0 (Below w.heap.size w wc))
                        case first =>
                          have H := HC23.out
                          clear HC23
                          replace H := Option.bind_eq_some_iff.mp H
                          obtain ⟨t286, A260, H⟩ := H
                          replace H : (if t286 = true then ((quirelaw06_is.f t283 t284 x6_2).bind fun t287 => (if t287 = true then ((cluster_Bound.f kj12 a0 x6_2).bind fun t288 => (quirelaw06_ClusterWhole.j3 kj12 a0 t271 t272 x6_2 x7_2 (!t288))) else (quirelaw06_ClusterWhole.j3 kj12 a0 t271 t272 x6_2 x7_2 true))) else (quirelaw06_ClusterWhole.j3 kj12 a0 t271 t272 x6_2 x7_2 true)) = some r := H
                          have A26 := Aside0.mk A260
                          clear A260
                          by_cases c27 : t286 = true
                          · subst c27
                            have H1 : ((quirelaw06_is.f t283 t284 x6_2).bind fun t287 => (if t287 = true then ((cluster_Bound.f kj12 a0 x6_2).bind fun t288 => (quirelaw06_ClusterWhole.j3 kj12 a0 t271 t272 x6_2 x7_2 (!t288))) else (quirelaw06_ClusterWhole.j3 kj12 a0 t271 t272 x6_2 x7_2 true))) = some r := by rw [if_pos rfl] at H; exact H
                            clear H
                            have H := H1
                            clear H1
                            replace H := Option.bind_eq_some_iff.mp H
                            obtain ⟨t287, A280, H⟩ := H
                            replace H : (if t287 = true then ((cluster_Bound.f kj12 a0 x6_2).bind fun t288 => (quirelaw06_ClusterWhole.j3 kj12 a0 t271 t272 x6_2 x7_2 (!t288))) else (quirelaw06_ClusterWhole.j3 kj12 a0 t271 t272 x6_2 x7_2 true)) = some r := H
                            have A28 := Aside0.mk A280
                            clear A280
                            by_cases c29 : t287 = true
                            · subst c29
                              have H1 : ((cluster_Bound.f kj12 a0 x6_2).bind fun t288 => (quirelaw06_ClusterWhole.j3 kj12 a0 t271 t272 x6_2 x7_2 (!t288))) = some r := by rw [if_pos rfl] at H; exact H
                              clear H
                              have H := H1
                              clear H1
                              replace H := Option.bind_eq_some_iff.mp H
                              obtain ⟨t288, A300, H⟩ := H
                              replace H : (quirelaw06_ClusterWhole.j3 kj12 a0 t271 t272 x6_2 x7_2 (!t288)) = some r := H
                              have A30 := Aside0.mk A300
                              clear A300
                              have H' := Aside0.mk H
                              clear H
                              have p285 : 0 ≤ (x7_2 : Int) := of_decide_eq_true (by first | (with_reducible assumption) | assumption)
                              have q285 : x7_2 < (t272.length : Int) := of_decide_eq_true (by first | (with_reducible assumption) | assumption)
                              obtain ⟨ad285, e285, hx285_0, hx285_1, hx285_2⟩ := at_T28 (Kd.R_reads' HO_4.out).2.2 x7_2 p285 q285
                              obtain rfl : ad282 = ad285 := (by injection e285)
                              replace p285 := eq_true p285
                              replace q285 := eq_true q285
                              go_wp2_with (first | ((with_reducible refine gate_callee (f := 21) rfl ?_); refine goesL_ (some 93) rfl rfl Try.func21 (by kernel_rfl) rfl #[.int .i64 t280, .int .i64 t281, .int .i64 ((rd_T28 t272 x7_2).f1)] rfl (by (try simp only [List.map_toArray, List.map_cons, List.map_nil]); first | done | rfl | (simp only [List.length_drop, List.length_take]; rfl)) ?_; (with_reducible refine (quirelaw06_is.calls t280 t281 ((rd_T28 t272 x7_2).f1) true _ A26.out).mono ?_); rintro e w' ⟨rfl, ⟨nd, rfl⟩⟩; refine ⟨_, rfl, ?_⟩) | (go_at_call 21; (with_reducible refine (quirelaw06_is.calls t283 t284 x6_2 true _ A28.out).mono ?_); rintro e w' ⟨rfl, ⟨nd, rfl⟩⟩) | (go_at_call 18; (with_reducible refine (cluster_Bound.calls kj12 a0 x6_2 t288 _ A30.out).mono ?_); rintro e w31 ⟨rfl, hb⟩; have n0_ := Aside0.mk (Kd.R_below (by (with_reducible repeat (first | apply Kd.R_alloc | apply Kd.R_drewN | apply Kd.R_drew)); exact HO_4.out) hb); have n1_ := Aside0.mk (below_step (by repeat (first | (with_reducible first | exact HB.out | apply below_alloc | apply pw_below_drewN | apply below_drew1) | exact HB.out)) hb); clear HO_4; clear HB; have HO_4 := n0_; have HB := n1_; clear n0_ n1_; (try clear hb); (try clear hb2); (try clear hk); (try clear hi)))
                              go_meet
                              case rel => exact ⟨_, (!t288), (by first | rfl | (simp; done) | (simp [*]; done)), H', ⟨by have := HJ3.out; have := HK2.out; have := HJ12.out; first | omega | exact Nat.le_refl _⟩, ⟨by (with_reducible repeat (first | apply Kd.R_alloc | apply Kd.R_drewN | apply Kd.R_drew)); exact HO_4.out⟩, ⟨by repeat (first | (with_reducible first | exact HB.out | apply below_alloc | apply pw_below_drewN | apply below_drew1) | exact HB.out)⟩⟩
                            · replace c29 := Bool.eq_false_iff.mpr c29
                              subst c29
                              have H1 : (quirelaw06_ClusterWhole.j3 kj12 a0 t271 t272 x6_2 x7_2 true) = some r := by rw [if_neg (show ¬ (false = true) by decide)] at H; exact H
                              clear H
                              have H := H1
                              clear H1
                              have H' := Aside0.mk H
                              clear H
                              have p285 : 0 ≤ (x7_2 : Int) := of_decide_eq_true (by first | (with_reducible assumption) | assumption)
                              have q285 : x7_2 < (t272.length : Int) := of_decide_eq_true (by first | (with_reducible assumption) | assumption)
                              obtain ⟨ad285, e285, hx285_0, hx285_1, hx285_2⟩ := at_T28 (Kd.R_reads' HO_4.out).2.2 x7_2 p285 q285
                              obtain rfl : ad282 = ad285 := (by injection e285)
                              replace p285 := eq_true p285
                              replace q285 := eq_true q285
                              go_wp2_with (first | ((with_reducible refine gate_callee (f := 21) rfl ?_); refine goesL_ (some 93) rfl rfl Try.func21 (by kernel_rfl) rfl #[.int .i64 t280, .int .i64 t281, .int .i64 ((rd_T28 t272 x7_2).f1)] rfl (by (try simp only [List.map_toArray, List.map_cons, List.map_nil]); first | done | rfl | (simp only [List.length_drop, List.length_take]; rfl)) ?_; (with_reducible refine (quirelaw06_is.calls t280 t281 ((rd_T28 t272 x7_2).f1) true _ A26.out).mono ?_); rintro e w' ⟨rfl, ⟨nd, rfl⟩⟩; refine ⟨_, rfl, ?_⟩) | (go_at_call 21; (with_reducible refine (quirelaw06_is.calls t283 t284 x6_2 false _ A28.out).mono ?_); rintro e w' ⟨rfl, ⟨nd, rfl⟩⟩))
                              go_meet
                              case rel => exact ⟨_, (true), (by first | rfl | (simp; done) | (simp [*]; done)), H', ⟨by have := HJ3.out; have := HK2.out; have := HJ12.out; first | omega | exact Nat.le_refl _⟩, ⟨by (with_reducible repeat (first | apply Kd.R_alloc | apply Kd.R_drewN | apply Kd.R_drew)); exact HO_4.out⟩, ⟨by repeat (first | (with_reducible first | exact HB.out | apply below_alloc | apply pw_below_drewN | apply below_drew1) | exact HB.out)⟩⟩
                          · replace c27 := Bool.eq_false_iff.mpr c27
                            subst c27
                            have H1 : (quirelaw06_ClusterWhole.j3 kj12 a0 t271 t272 x6_2 x7_2 true) = some r := by rw [if_neg (show ¬ (false = true) by decide)] at H; exact H
                            clear H
                            have H := H1
                            clear H1
                            have H' := Aside0.mk H
                            clear H
                            have p285 : 0 ≤ (x7_2 : Int) := of_decide_eq_true (by first | (with_reducible assumption) | assumption)
                            have q285 : x7_2 < (t272.length : Int) := of_decide_eq_true (by first | (with_reducible assumption) | assumption)
                            obtain ⟨ad285, e285, hx285_0, hx285_1, hx285_2⟩ := at_T28 (Kd.R_reads' HO_4.out).2.2 x7_2 p285 q285
                            obtain rfl : ad282 = ad285 := (by injection e285)
                            replace p285 := eq_true p285
                            replace q285 := eq_true q285
                            go_wp2_with (first | ((with_reducible refine gate_callee (f := 21) rfl ?_); refine goesL_ (some 93) rfl rfl Try.func21 (by kernel_rfl) rfl #[.int .i64 t280, .int .i64 t281, .int .i64 ((rd_T28 t272 x7_2).f1)] rfl (by (try simp only [List.map_toArray, List.map_cons, List.map_nil]); first | done | rfl | (simp only [List.length_drop, List.length_take]; rfl)) ?_; (with_reducible refine (quirelaw06_is.calls t280 t281 ((rd_T28 t272 x7_2).f1) false _ A26.out).mono ?_); rintro e w' ⟨rfl, ⟨nd, rfl⟩⟩; refine ⟨_, rfl, ?_⟩))
                            go_meet
                            case rel => exact ⟨_, (true), (by first | rfl | (simp; done) | (simp [*]; done)), H', ⟨by have := HJ3.out; have := HK2.out; have := HJ12.out; first | omega | exact Nat.le_refl _⟩, ⟨by (with_reducible repeat (first | apply Kd.R_alloc | apply Kd.R_drewN | apply Kd.R_drew)); exact HO_4.out⟩, ⟨by repeat (first | (with_reducible first | exact HB.out | apply below_alloc | apply pw_below_drewN | apply below_drew1) | exact HB.out)⟩⟩
                        case rest =>
                          clear HC23
                          try clear c1
                          try clear c2
                          try clear p2
                          try clear q2
                          try clear hx2
                          try clear c5
                          try clear c6
                          try clear c7
                          try clear c7b0
                          try clear c7b1
                          try clear c8
                          try clear c9
                          try clear c10
                          try clear c10b0
                          try clear c10b1
                          try clear c12
                          try clear c12b0
                          try clear c14
                          try clear c15
                          try clear c15b0
                          try clear c16
                          try clear c16b0
                          try clear c16b1
                          try clear c17
                          try clear c17b0
                          try clear c18
                          try clear c20
                          try clear c20b0
                          try clear c21
                          try clear c21b0
                          try clear c27
                          try clear p27
                          try clear q27
                          try clear hx27
                          try clear p28
                          try clear q28
                          try clear hx28
                          try clear c29
                          try clear hx277_0
                          try clear hx277_1
                          try clear hx277_2
                          try clear hx278_0
                          try clear hx278_1
                          try clear hx278_2
                          try clear hx279_0
                          try clear hx279_1
                          try clear hx279_2
                          try clear hx282_0
                          try clear hx282_1
                          try clear hx282_2
                          try clear hx285_0
                          try clear hx285_1
                          try clear hx285_2
                          try clear p2
                          try clear p277
                          try clear p278
                          try clear p279
                          try clear p282
                          try clear p285
                          try clear q2
                          try clear q277
                          try clear q278
                          try clear q279
                          try clear q282
                          try clear q285
                          obtain ⟨kq, x107_22, rfl, HA, HJ22, HO_4, HB⟩ := hcut
                          cases kq with
                          | zero => exact absurd HA.out (by simp [quirelaw06_ClusterWhole.j3])
                          | succ kj22 =>
                            have H := HA.out
                            clear HA
                            simp only [quirelaw06_ClusterWhole.j3] at H
                            by_cases c32 : x107_22 = true
                            · subst c32
                              have H1 : (some false) = some r := by rw [if_pos rfl] at H; exact H
                              clear H
                              have H := H1
                              clear H1
                              obtain rfl := Option.some.inj H
                              go_wp2
                              go_ret
                              exact ⟨by first | rfl | (simp [errW_none, errW_some] <;> rfl) | (simp [*, errW_none, errW_some] <;> rfl), by repeat (first | (with_reducible first | exact HB.out | apply below_alloc | apply pw_below_drewN | apply below_drew1) | exact HB.out)⟩
                            · replace c32 := Bool.eq_false_iff.mpr c32
                              subst c32
                              have H1 : (quirelaw06_ClusterWhole.l1 kj22 a0 t271 t272 x6_2 x7_2 (wrap64 (x6_2 + 1))) = some r := by rw [if_neg (show ¬ (false = true) by decide)] at H; exact H
                              clear H
                              have H := H1
                              clear H1
                              have H' := Aside0.mk H
                              clear H
                              go_wp2
                              go_loopg [12] kj22 (fun kq v12 w' => ∃ (x12_5 : Int), v12 = .int .i64 x12_5 ∧ Aside0 (quirelaw06_ClusterWhole.l1 kq a0 t271 t272 x6_2 x7_2 x12_5 = some r) ∧ Aside0 (kq ≤ kj22) ∧ Aside0 (Kd.R k28 28 w' w.heap.size (fun _ => True) (.slice (some ad282) t272.length co14) t272) ∧ Aside0 (Below w.heap.size w w'))
                              case atStart => exact ⟨(wrap64 (x6_2 + 1)), (by first | rfl | (simp; done) | (simp [*]; done)), H', ⟨Nat.le_refl _⟩, ⟨by (with_reducible repeat (first | apply Kd.R_alloc | apply Kd.R_drewN | apply Kd.R_drew)); exact HO_4.out⟩, ⟨by repeat (first | (with_reducible first | exact HB.out | apply below_alloc | apply pw_below_drewN | apply below_drew1) | exact HB.out)⟩⟩
                              case round =>
                                clear H'
                                try clear c1
                                try clear c2
                                try clear p2
                                try clear q2
                                try clear hx2
                                try clear c3
                                try clear c5
                                try clear c6
                                try clear p6
                                try clear c7
                                try clear c7b0
                                try clear c7b1
                                try clear c8
                                try clear c9
                                try clear c10
                                try clear c10b0
                                try clear c10b1
                                try clear c12
                                try clear c12b0
                                try clear c14
                                try clear c15
                                try clear c15b0
                                try clear c16
                                try clear c16b0
                                try clear c16b1
                                try clear c17
                                try clear c17b0
                                try clear c18
                                try clear c20
                                try clear c20b0
                                try clear c21
                                try clear c21b0
                                try clear c27
                                try clear p27
                                try clear q27
                                try clear hx27
                                try clear p28
                                try clear q28
                                try clear hx28
                                try clear c29
                                try clear c32
                                try clear hx277_0
                                try clear hx277_1
                                try clear hx277_2
                                try clear hx278_0
                                try clear hx278_1
                                try clear hx278_2
                                try clear hx279_0
                                try clear hx279_1
                                try clear hx279_2
                                try clear hx282_0
                                try clear hx282_1
                                try clear hx282_2
                                try clear hx285_0
                                try clear hx285_1
                                try clear hx285_2
                                try clear p2
                                try clear p27
                                try clear p277
                                try clear p278
                                try clear p279
                                try clear p28
                                try clear p282
                                try clear p285
                                try clear q2
                                try clear q27
                                try clear q277
                                try clear q278
                                try clear q279
                                try clear q28
                                try clear q282
                                try clear q285
                                obtain ⟨x12_5, rfl, HA, HK5, HO_4, HB⟩ := hrel
                                cases gk with
                                | zero => exact absurd HA.out (by simp [quirelaw06_ClusterWhole.l1])
                                | succ k5 =>
                                  have H := HA.out
                                  clear HA
                                  simp only [quirelaw06_ClusterWhole.l1] at H
                                  by_cases c33 : 0 ≤ x7_2
                                  · rw [if_pos c33] at H
                                    have c33b0 : decide (0 ≤ x7_2) = true := decide_eq_true c33
                                    clear c33
                                    by_cases c34 : x7_2 < (t272.length : Int)
                                    · rw [if_pos c34] at H
                                      have c34b0 : decide (x7_2 < (t272.length : Int)) = true := decide_eq_true c34
                                      clear c34
                                      by_cases c35 : x12_5 < ((rd_T28 t272 x7_2).f1)
                                      · rw [if_pos c35] at H
                                        have c35b0 : decide (x12_5 < ((rd_T28 t272 x7_2).f1)) = true := decide_eq_true c35
                                        clear c35
                                        replace H := Option.bind_eq_some_iff.mp H
                                        obtain ⟨⟨t291, t292⟩, A360, H⟩ := H
                                        replace H : ((cluster_Bound.f k5 a0 x12_5).bind fun t293 => (if t293 = true then (some false) else ((quirelaw06_is.f t291 t292 x6_2).bind fun t294 => (if t294 = true then (quirelaw06_ClusterWhole.l1 k5 a0 t271 t272 x6_2 x7_2 (wrap64 (x12_5 + 1))) else (some false))))) = some r := H
                                        have A36 := Aside0.mk A360
                                        clear A360
                                        replace H := Option.bind_eq_some_iff.mp H
                                        obtain ⟨t293, A370, H⟩ := H
                                        replace H : (if t293 = true then (some false) else ((quirelaw06_is.f t291 t292 x6_2).bind fun t294 => (if t294 = true then (quirelaw06_ClusterWhole.l1 k5 a0 t271 t272 x6_2 x7_2 (wrap64 (x12_5 + 1))) else (some false)))) = some r := H
                                        have A37 := Aside0.mk A370
                                        clear A370
                                        by_cases c38 : t293 = true
                                        · subst c38
                                          have H1 : (some false) = some r := by rw [if_pos rfl] at H; exact H
                                          clear H
                                          have H := H1
                                          clear H1
                                          obtain rfl := Option.some.inj H
                                          have p289 : 0 ≤ (x7_2 : Int) := of_decide_eq_true (by first | (with_reducible assumption) | assumption)
                                          have q289 : x7_2 < (t272.length : Int) := of_decide_eq_true (by first | (with_reducible assumption) | assumption)
                                          obtain ⟨ad289, e289, hx289_0, hx289_1, hx289_2⟩ := at_T28 (Kd.R_reads' HO_4.out).2.2 x7_2 p289 q289
                                          obtain rfl : ad282 = ad289 := (by injection e289)
                                          replace p289 := eq_true p289
                                          replace q289 := eq_true q289
                                          go_wp2_with (first | ((with_reducible refine gate_callee (f := 12) rfl ?_); refine goesL_ (some 122) rfl rfl Try.func12 (by kernel_rfl) rfl #[.string a0, .int .i64 x12_5] rfl (by (try simp only [List.map_toArray, List.map_cons, List.map_nil]); first | done | rfl | (simp only [List.length_drop, List.length_take]; rfl)) ?_; (with_reducible refine (cluster_Start.calls k5 a0 x12_5 t291 t292 _ A36.out).mono ?_); rintro e w39 ⟨rfl, hb⟩; refine ⟨_, rfl, ?_⟩; have n0_ := Aside0.mk (Kd.R_below (by (with_reducible repeat (first | apply Kd.R_alloc | apply Kd.R_drewN | apply Kd.R_drew)); exact HO_4.out) hb); have n1_ := Aside0.mk (below_step (by repeat (first | (with_reducible first | exact HB.out | apply below_alloc | apply pw_below_drewN | apply below_drew1) | exact HB.out)) hb); clear HO_4; clear HB; have HO_4 := n0_; have HB := n1_; clear n0_ n1_; (try clear hb); (try clear hb2); (try clear hk); (try clear hi)) | ((with_reducible refine gate_callee (f := 18) rfl ?_); refine goesL_ (some 127) rfl rfl Try.func18 (by kernel_rfl) rfl #[.string a0, .int .i64 x12_5] rfl (by (try simp only [List.map_toArray, List.map_cons, List.map_nil]); first | done | rfl | (simp only [List.length_drop, List.length_take]; rfl)) ?_; (with_reducible refine (cluster_Bound.calls k5 a0 x12_5 true _ A37.out).mono ?_); rintro e w40 ⟨rfl, hb⟩; refine ⟨_, rfl, ?_⟩; have n0_ := Aside0.mk (Kd.R_below (by (with_reducible repeat (first | apply Kd.R_alloc | apply Kd.R_drewN | apply Kd.R_drew)); exact HO_4.out) hb); have n1_ := Aside0.mk (below_step (by repeat (first | (with_reducible first | exact HB.out | apply below_alloc | apply pw_below_drewN | apply below_drew1) | exact HB.out)) hb); clear HO_4; clear HB; have HO_4 := n0_; have HB := n1_; clear n0_ n1_; (try clear hb); (try clear hb2); (try clear hk); (try clear hi)))
                                          go_ret
                                          exact ⟨by first | rfl | (simp [errW_none, errW_some] <;> rfl) | (simp [*, errW_none, errW_some] <;> rfl), by repeat (first | (with_reducible first | exact HB.out | apply below_alloc | apply pw_below_drewN | apply below_drew1) | exact HB.out)⟩
                                        · replace c38 := Bool.eq_false_iff.mpr c38
                                          subst c38
                                          have H1 : ((quirelaw06_is.f t291 t292 x6_2).bind fun t294 => (if t294 = true then (quirelaw06_ClusterWhole.l1 k5 a0 t271 t272 x6_2 x7_2 (wrap64 (x12_5 + 1))) else (some false))) = some r := by rw [if_neg (show ¬ (false = true) by decide)] at H; exact H
                                          clear H
                                          have H := H1
                                          clear H1
                                          replace H := Option.bind_eq_some_iff.mp H
                                          obtain ⟨t294, A410, H⟩ := H
                                          replace H : (if t294 = true then (quirelaw06_ClusterWhole.l1 k5 a0 t271 t272 x6_2 x7_2 (wrap64 (x12_5 + 1))) else (some false)) = some r := H
                                          have A41 := Aside0.mk A410
                                          clear A410
                                          by_cases c42 : t294 = true
                                          · subst c42
                                            have H1 : (quirelaw06_ClusterWhole.l1 k5 a0 t271 t272 x6_2 x7_2 (wrap64 (x12_5 + 1))) = some r := by rw [if_pos rfl] at H; exact H
                                            clear H
                                            have H := H1
                                            clear H1
                                            have H' := Aside0.mk H
                                            clear H
                                            have p289 : 0 ≤ (x7_2 : Int) := of_decide_eq_true (by first | (with_reducible assumption) | assumption)
                                            have q289 : x7_2 < (t272.length : Int) := of_decide_eq_true (by first | (with_reducible assumption) | assumption)
                                            obtain ⟨ad289, e289, hx289_0, hx289_1, hx289_2⟩ := at_T28 (Kd.R_reads' HO_4.out).2.2 x7_2 p289 q289
                                            obtain rfl : ad282 = ad289 := (by injection e289)
                                            replace p289 := eq_true p289
                                            replace q289 := eq_true q289
                                            go_wp2_with (first | ((with_reducible refine gate_callee (f := 12) rfl ?_); refine goesL_ (some 122) rfl rfl Try.func12 (by kernel_rfl) rfl #[.string a0, .int .i64 x12_5] rfl (by (try simp only [List.map_toArray, List.map_cons, List.map_nil]); first | done | rfl | (simp only [List.length_drop, List.length_take]; rfl)) ?_; (with_reducible refine (cluster_Start.calls k5 a0 x12_5 t291 t292 _ A36.out).mono ?_); rintro e w43 ⟨rfl, hb⟩; refine ⟨_, rfl, ?_⟩; have n0_ := Aside0.mk (Kd.R_below (by (with_reducible repeat (first | apply Kd.R_alloc | apply Kd.R_drewN | apply Kd.R_drew)); exact HO_4.out) hb); have n1_ := Aside0.mk (below_step (by repeat (first | (with_reducible first | exact HB.out | apply below_alloc | apply pw_below_drewN | apply below_drew1) | exact HB.out)) hb); clear HO_4; clear HB; have HO_4 := n0_; have HB := n1_; clear n0_ n1_; (try clear hb); (try clear hb2); (try clear hk); (try clear hi)) | ((with_reducible refine gate_callee (f := 18) rfl ?_); refine goesL_ (some 127) rfl rfl Try.func18 (by kernel_rfl) rfl #[.string a0, .int .i64 x12_5] rfl (by (try simp only [List.map_toArray, List.map_cons, List.map_nil]); first | done | rfl | (simp only [List.length_drop, List.length_take]; rfl)) ?_; (with_reducible refine (cluster_Bound.calls k5 a0 x12_5 false _ A37.out).mono ?_); rintro e w44 ⟨rfl, hb⟩; refine ⟨_, rfl, ?_⟩; have n0_ := Aside0.mk (Kd.R_below (by (with_reducible repeat (first | apply Kd.R_alloc | apply Kd.R_drewN | apply Kd.R_drew)); exact HO_4.out) hb); have n1_ := Aside0.mk (below_step (by repeat (first | (with_reducible first | exact HB.out | apply below_alloc | apply pw_below_drewN | apply below_drew1) | exact HB.out)) hb); clear HO_4; clear HB; have HO_4 := n0_; have HB := n1_; clear n0_ n1_; (try clear hb); (try clear hb2); (try clear hk); (try clear hi)) | (go_at_call 21; (with_reducible refine (quirelaw06_is.calls t291 t292 x6_2 true _ A41.out).mono ?_); rintro e w' ⟨rfl, ⟨nd, rfl⟩⟩))
                                            go_roundg k5
                                            case measure => have := HJ3.out; have := HK2.out; have := HJ12.out; have := HJ22.out; have := HK5.out; omega
                                            case rel => exact ⟨(wrap64 (x12_5 + 1)), (by first | rfl | (simp; done) | (simp [*]; done)), H', ⟨by have := HJ3.out; have := HK2.out; have := HJ12.out; have := HJ22.out; have := HK5.out; omega⟩, ⟨by (with_reducible repeat (first | apply Kd.R_alloc | apply Kd.R_drewN | apply Kd.R_drew)); exact HO_4.out⟩, ⟨by repeat (first | (with_reducible first | exact HB.out | apply below_alloc | apply pw_below_drewN | apply below_drew1) | exact HB.out)⟩⟩
                                          · replace c42 := Bool.eq_false_iff.mpr c42
                                            subst c42
                                            have H1 : (some false) = some r := by rw [if_neg (show ¬ (false = true) by decide)] at H; exact H
                                            clear H
                                            have H := H1
                                            clear H1
                                            obtain rfl := Option.some.inj H
                                            have p289 : 0 ≤ (x7_2 : Int) := of_decide_eq_true (by first | (with_reducible assumption) | assumption)
                                            have q289 : x7_2 < (t272.length : Int) := of_decide_eq_true (by first | (with_reducible assumption) | assumption)
                                            obtain ⟨ad289, e289, hx289_0, hx289_1, hx289_2⟩ := at_T28 (Kd.R_reads' HO_4.out).2.2 x7_2 p289 q289
                                            obtain rfl : ad282 = ad289 := (by injection e289)
                                            replace p289 := eq_true p289
                                            replace q289 := eq_true q289
                                            go_wp2_with (first | ((with_reducible refine gate_callee (f := 12) rfl ?_); refine goesL_ (some 122) rfl rfl Try.func12 (by kernel_rfl) rfl #[.string a0, .int .i64 x12_5] rfl (by (try simp only [List.map_toArray, List.map_cons, List.map_nil]); first | done | rfl | (simp only [List.length_drop, List.length_take]; rfl)) ?_; (with_reducible refine (cluster_Start.calls k5 a0 x12_5 t291 t292 _ A36.out).mono ?_); rintro e w45 ⟨rfl, hb⟩; refine ⟨_, rfl, ?_⟩; have n0_ := Aside0.mk (Kd.R_below (by (with_reducible repeat (first | apply Kd.R_alloc | apply Kd.R_drewN | apply Kd.R_drew)); exact HO_4.out) hb); have n1_ := Aside0.mk (below_step (by repeat (first | (with_reducible first | exact HB.out | apply below_alloc | apply pw_below_drewN | apply below_drew1) | exact HB.out)) hb); clear HO_4; clear HB; have HO_4 := n0_; have HB := n1_; clear n0_ n1_; (try clear hb); (try clear hb2); (try clear hk); (try clear hi)) | ((with_reducible refine gate_callee (f := 18) rfl ?_); refine goesL_ (some 127) rfl rfl Try.func18 (by kernel_rfl) rfl #[.string a0, .int .i64 x12_5] rfl (by (try simp only [List.map_toArray, List.map_cons, List.map_nil]); first | done | rfl | (simp only [List.length_drop, List.length_take]; rfl)) ?_; (with_reducible refine (cluster_Bound.calls k5 a0 x12_5 false _ A37.out).mono ?_); rintro e w46 ⟨rfl, hb⟩; refine ⟨_, rfl, ?_⟩; have n0_ := Aside0.mk (Kd.R_below (by (with_reducible repeat (first | apply Kd.R_alloc | apply Kd.R_drewN | apply Kd.R_drew)); exact HO_4.out) hb); have n1_ := Aside0.mk (below_step (by repeat (first | (with_reducible first | exact HB.out | apply below_alloc | apply pw_below_drewN | apply below_drew1) | exact HB.out)) hb); clear HO_4; clear HB; have HO_4 := n0_; have HB := n1_; clear n0_ n1_; (try clear hb); (try clear hb2); (try clear hk); (try clear hi)) | (go_at_call 21; (with_reducible refine (quirelaw06_is.calls t291 t292 x6_2 false _ A41.out).mono ?_); rintro e w' ⟨rfl, ⟨nd, rfl⟩⟩))
                                            go_ret
                                            exact ⟨by first | rfl | (simp [errW_none, errW_some] <;> rfl) | (simp [*, errW_none, errW_some] <;> rfl), by repeat (first | (with_reducible first | exact HB.out | apply below_alloc | apply pw_below_drewN | apply below_drew1) | exact HB.out)⟩
                                      · rw [if_neg c35] at H
                                        have c35b0 : decide (x12_5 < ((rd_T28 t272 x7_2).f1)) = false := decide_eq_false c35
                                        clear c35
                                        have H' := Aside0.mk H
                                        clear H
                                        have p289 : 0 ≤ (x7_2 : Int) := of_decide_eq_true (by first | (with_reducible assumption) | assumption)
                                        have q289 : x7_2 < (t272.length : Int) := of_decide_eq_true (by first | (with_reducible assumption) | assumption)
                                        obtain ⟨ad289, e289, hx289_0, hx289_1, hx289_2⟩ := at_T28 (Kd.R_reads' HO_4.out).2.2 x7_2 p289 q289
                                        obtain rfl : ad282 = ad289 := (by injection e289)
                                        replace p289 := eq_true p289
                                        replace q289 := eq_true q289
                                        have p290 : 0 ≤ (x7_2 : Int) := of_decide_eq_true (by first | (with_reducible assumption) | assumption)
                                        have q290 : x7_2 < (t272.length : Int) := of_decide_eq_true (by first | (with_reducible assumption) | assumption)
                                        obtain ⟨ad290, e290, hx290_0, hx290_1, hx290_2⟩ := at_T28 (Kd.R_reads' HO_4.out).2.2 x7_2 p290 q290
                                        obtain rfl : ad282 = ad290 := (by injection e290)
                                        replace p290 := eq_true p290
                                        replace q290 := eq_true q290
                                        go_wp2
                                        go_roundg k5
                                        case measure => have := HJ3.out; have := HK2.out; have := HJ12.out; have := HJ22.out; have := HK5.out; omega
                                        case rel => exact ⟨((rd_T28 t272 x7_2).f1), (wrap64 (x7_2 + 1)), (by first | rfl | (simp; done) | (simp [*]; done)), (by first | rfl | (simp; done) | (simp [*]; done)), H', ⟨by have := HJ3.out; have := HK2.out; have := HJ12.out; have := HJ22.out; have := HK5.out; omega⟩, ⟨by (with_reducible repeat (first | apply Kd.R_alloc | apply Kd.R_drewN | apply Kd.R_drew)); exact HO_4.out⟩, ⟨by repeat (first | (with_reducible first | exact HB.out | apply below_alloc | apply pw_below_drewN | apply below_drew1) | exact HB.out)⟩⟩
                                    · rw [if_neg c34] at H
                                      exact absurd H (by simp)
                                  · rw [if_neg c33] at H
                                    exact absurd H (by simp)
                      · rw [if_neg c21] at H
                        exact absurd H (by simp)
                    · rw [if_neg c20] at H
                      exact absurd H (by simp)
            · rw [if_neg c12] at H
              have c12b0 : decide (x7_2 < (t272.length : Int)) = false := decide_eq_false c12
              clear c12
              by_cases c47 : t271 = true
              · subst c47
                have H1 : (if x6_2 = (a0.size : Int) then ((cluster_Bound.f k2 a0 x6_2).bind fun t276 => (some t276)) else (some false)) = some r := by rw [if_pos rfl] at H; exact H
                clear H
                have H := H1
                clear H1
                by_cases c48 : x6_2 = (a0.size : Int)
                · rw [if_pos c48] at H
                  have c48b0 : (x6_2 == (a0.size : Int)) = true := beq_iff_eq.mpr c48
                  have c48b1 : (x6_2 != (a0.size : Int)) = false := bne_eq_false_iff_eq.mpr c48
                  clear c48
                  replace H := Option.bind_eq_some_iff.mp H
                  obtain ⟨t276, A490, H⟩ := H
                  replace H : (some t276) = some r := H
                  have A49 := Aside0.mk A490
                  clear A490
                  obtain rfl := Option.some.inj H
                  obtain ⟨Ao50, co50, eo50⟩ := Kd.R_slice HO_4.out
                  subst eo50
                  go_wp2_with (first | (go_at_call 18; (with_reducible refine (cluster_Bound.calls k2 a0 x6_2 t276 _ A49.out).mono ?_); rintro e w51 ⟨rfl, hb⟩; have n0_ := Aside0.mk (Kd.R_below (by (with_reducible repeat (first | apply Kd.R_alloc | apply Kd.R_drewN | apply Kd.R_drew)); exact HO_4.out) hb); have n1_ := Aside0.mk (below_step (by repeat (first | (with_reducible first | exact HB.out | apply below_alloc | apply pw_below_drewN | apply below_drew1) | exact HB.out)) hb); clear HO_4; clear HB; have HO_4 := n0_; have HB := n1_; clear n0_ n1_; (try clear hb); (try clear hb2); (try clear hk); (try clear hi)))
                  go_ret
                  exact ⟨by first | rfl | (simp [errW_none, errW_some] <;> rfl) | (simp [*, errW_none, errW_some] <;> rfl), by repeat (first | (with_reducible first | exact HB.out | apply below_alloc | apply pw_below_drewN | apply below_drew1) | exact HB.out)⟩
                · rw [if_neg c48] at H
                  have c48b0 : (x6_2 == (a0.size : Int)) = false := beq_eq_false_iff_ne.mpr c48
                  have c48b1 : (x6_2 != (a0.size : Int)) = true := bne_iff_ne.mpr c48
                  obtain rfl := Option.some.inj H
                  obtain ⟨Ao52, co52, eo52⟩ := Kd.R_slice HO_4.out
                  subst eo52
                  go_wp2
                  go_ret
                  exact ⟨by first | rfl | (simp [errW_none, errW_some] <;> rfl) | (simp [*, errW_none, errW_some] <;> rfl), by repeat (first | (with_reducible first | exact HB.out | apply below_alloc | apply pw_below_drewN | apply below_drew1) | exact HB.out)⟩
              · replace c47 := Bool.eq_false_iff.mpr c47
                subst c47
                have H1 : (some false) = some r := by rw [if_neg (show ¬ (false = true) by decide)] at H; exact H
                clear H
                have H := H1
                clear H1
                obtain rfl := Option.some.inj H
                obtain ⟨Ao53, co53, eo53⟩ := Kd.R_slice HO_4.out
                subst eo53
                go_wp2
                go_ret
                exact ⟨by first | rfl | (simp [errW_none, errW_some] <;> rfl) | (simp [*, errW_none, errW_some] <;> rfl), by repeat (first | (with_reducible first | exact HB.out | apply below_alloc | apply pw_below_drewN | apply below_drew1) | exact HB.out)⟩

/-- THE ONE PURE STATEMENT of quirelaw06_ClusterWhole: yours. -/
def quirelaw06_ClusterWhole.Pure : Prop := ∀ (a0 : ByteArray), a0.size ≤ 140737488351232 → ∃ k, quirelaw06_ClusterWhole.f k a0 = some true
theorem quirelaw06_ClusterWhole.walk (P : quirelaw06_ClusterWhole.Pure) (a0 : ByteArray) (w : World) (w0 : a0.size ≤ 140737488351232) :
    Calls Try.prog 6 #[.string a0] w fun e w' => e = .returned (.bool true) ∧ Below w.heap.size w w' := by
  obtain ⟨k, h⟩ := P a0 w0
  refine (quirelaw06_ClusterWhole.calls k a0 true w h).mono ?_
  rintro e w' ⟨rfl, hd⟩
  exact ⟨rfl, hd⟩

end Go.Proofs.Ytgohmckmekijiaa.PAll
