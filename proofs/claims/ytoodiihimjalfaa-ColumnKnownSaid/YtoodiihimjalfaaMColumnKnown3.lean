/- The walk of a statement's Go functions to their answers in plain Lean: for every list that can be read; no further condition. -/
import Derived.Test.YtoodiihimjalfaaPColumnKnownx0
import Derived.Test.YtoodiihimjalfaaPColumnKnownx1
import Derived.Test.YtoodiihimjalfaaPColumnKnownx2
namespace Go.Proofs.Ytoodiihimjalfaa.PColumnKnown
open Go.RowKit Go.Proofs.YtoodiihimjalfaaW.PrintWords Go.Proofs.YtoodiihimjalfaaW.PrintLast Go.Proofs.YtoodiihimjalfaaW.PrintMore
attribute [local go_sem] max2_int min2_int max_two min_two max_three min_three max_four min_four   -- for this text's walks alone
set_option linter.unusedVariables false
set_option linter.unusedSimpArgs false

/-! ### column_Columns: function 17 -/
mutual
def column_Columns.j0 : Nat → List (S37) → Int → Int → List Int → Bool → Bool → Option (List Int × Bool × Int)
  | 0, _, _, _, _, _, _ => none
  | k + 1, x0, x1, x2, x6, x7, x28 => if x28 = true then (some (([] : List Int), false, 5)) else (column_Columns.l0 k x0 x1 x6 x7 0 x2 0)
def column_Columns.l0 : Nat → List (S37) → Int → List Int → Bool → Int → Int → Int → Option (List Int × Bool × Int)
  | 0, _, _, _, _, _, _, _ => none
  | k + 1, x0, x1, x6, x7, x10, x29, x30 => if x30 < x29 then ((column_fill.f k x0 x10 x1).bind fun bt143 => (if x7 = true then (if x6.length < 17592186044416 then (column_Columns.l0 k x0 x1 (x6 ++ [bt143.1]) true bt143.1 x29 (wrap64 (x30 + 1))) else (none)) else (if x6.length < 17592186044416 then (column_Columns.l0 k x0 x1 (x6 ++ [bt143.1]) bt143.2 bt143.1 x29 (wrap64 (x30 + 1))) else (none)))) else (some (x6, x7, 0))
end
def column_Columns.f (k : Nat) (l0 : List (S37)) (a1 : Int) (a2 : Int) : Option (List Int × Bool × Int) := (column_wrong.f k l0).bind fun t141 => (if t141 = 0 then ((column_fits.f a1).bind fun t142 => (if t142 = true then (if a2 < 1 then (column_Columns.j0 k l0 a1 a2 ([] : List Int) false true) else (column_Columns.j0 k l0 a1 a2 ([] : List Int) false (decide (a2 > 8)))) else (column_Columns.j0 k l0 a1 a2 ([] : List Int) false true))) else (some (([] : List Int), false, t141)))
theorem column_Columns.mono_l : ∀ k, (∀ y0 y1 y2 y3 y4 y5, LeO (column_Columns.j0 k y0 y1 y2 y3 y4 y5) (column_Columns.j0 (k + 1) y0 y1 y2 y3 y4 y5)) ∧ (∀ y0 y1 y2 y3 y4 y5 y6, LeO (column_Columns.l0 k y0 y1 y2 y3 y4 y5 y6) (column_Columns.l0 (k + 1) y0 y1 y2 y3 y4 y5 y6))
  | 0 => ⟨fun _ _ _ _ _ _ r h => by simp [column_Columns.j0] at h, fun _ _ _ _ _ _ _ r h => by simp [column_Columns.l0] at h⟩
  | k + 1 => by
    obtain ⟨ih0, ih1⟩ := column_Columns.mono_l k
    refine ⟨?_, ?_⟩
    · intro y0 y1 y2 y3 y4 y5
      unfold column_Columns.j0
      repeat' first
      | (with_reducible exact ih0 _ _ _ _ _ _)
      | (with_reducible exact ih1 _ _ _ _ _ _ _)
      | (with_reducible exact column_fill.mono _ _ _ _)
      | (with_reducible exact column_wrong.mono _ _)
      | (with_reducible exact LeO.refl _)
      | (with_reducible exact LeO.none _)
      | (with_reducible refine LeO.ite ?_ ?_)
      | (with_reducible refine LeO.bind ?_ (fun _ => ?_))
      | exact ih0 _ _ _ _ _ _
      | exact ih1 _ _ _ _ _ _ _
      | exact column_fill.mono _ _ _ _
      | exact column_wrong.mono _ _
      | exact LeO.none _
      | refine LeO.ite ?_ ?_
      | refine LeO.bind ?_ (fun _ => ?_)
    · intro y0 y1 y2 y3 y4 y5 y6
      unfold column_Columns.l0
      repeat' first
      | (with_reducible exact ih0 _ _ _ _ _ _)
      | (with_reducible exact ih1 _ _ _ _ _ _ _)
      | (with_reducible exact column_fill.mono _ _ _ _)
      | (with_reducible exact column_wrong.mono _ _)
      | (with_reducible exact LeO.refl _)
      | (with_reducible exact LeO.none _)
      | (with_reducible refine LeO.ite ?_ ?_)
      | (with_reducible refine LeO.bind ?_ (fun _ => ?_))
      | exact ih0 _ _ _ _ _ _
      | exact ih1 _ _ _ _ _ _ _
      | exact column_fill.mono _ _ _ _
      | exact column_wrong.mono _ _
      | exact LeO.none _
      | refine LeO.ite ?_ ?_
      | refine LeO.bind ?_ (fun _ => ?_)
theorem column_Columns.mono : ∀ a0 a1 a2 k, LeO (column_Columns.f k a0 a1 a2) (column_Columns.f (k + 1) a0 a1 a2) := by
  intro a0 a1 a2 k
  obtain ⟨ih0, ih1⟩ := column_Columns.mono_l k
  unfold column_Columns.f
  repeat' first
      | (with_reducible exact ih0 _ _ _ _ _ _)
      | (with_reducible exact ih1 _ _ _ _ _ _ _)
      | (with_reducible exact column_fill.mono _ _ _ _)
      | (with_reducible exact column_wrong.mono _ _)
      | (with_reducible exact LeO.refl _)
      | (with_reducible exact LeO.none _)
      | (with_reducible refine LeO.ite ?_ ?_)
      | (with_reducible refine LeO.bind ?_ (fun _ => ?_))
      | exact ih0 _ _ _ _ _ _
      | exact ih1 _ _ _ _ _ _ _
      | exact column_fill.mono _ _ _ _
      | exact column_wrong.mono _ _
      | exact LeO.none _
      | refine LeO.ite ?_ ?_
      | refine LeO.bind ?_ (fun _ => ?_)
set_option maxHeartbeats 8000000 in
set_option maxRecDepth 100000 in
theorem column_Columns.calls (k : Nat) (A0 : Option Addr) (c0 : Nat) (l0 : List (S37)) (a1 : Int) (a2 : Int) (r1 : List Int) (r2 : Bool) (r3 : Int) (w : World) (hr0 : Kd.C k37 w A0 l0.length l0) (hc0 : l0.length ≤ c0) (h : column_Columns.f k l0 a1 a2 = some (r1, r2, r3)) :
    Calls Try.prog 17 #[.slice A0 l0.length c0, .int .i64 a1, .int .i64 a2] w fun e w' => ∃ v0_ : Value, e = .returned (.tuple #[v0_, .bool r2, .int .i64 r3]) ∧ Kd.R (Kd.int .i64) 3 w' w.heap.size (fun _ => True) v0_ r1 ∧ Below w.heap.size w w' := by
  have HR0 := Aside0.mk hr0
  have HC0 := Aside0.mk hc0
  clear hr0 hc0
  have HB := Aside0.mk (Below.refl w.heap.size w)
  have H : ((column_wrong.f k l0).bind fun t141 => (if t141 = 0 then ((column_fits.f a1).bind fun t142 => (if t142 = true then (if a2 < 1 then (column_Columns.j0 k l0 a1 a2 ([] : List Int) false true) else (column_Columns.j0 k l0 a1 a2 ([] : List Int) false (decide (a2 > 8)))) else (column_Columns.j0 k l0 a1 a2 ([] : List Int) false true))) else (some (([] : List Int), false, t141)))) = some (r1, r2, r3) := h
  clear h
  replace H := Option.bind_eq_some_iff.mp H
  obtain ⟨t141, A40, H⟩ := H
  replace H : (if t141 = 0 then ((column_fits.f a1).bind fun t142 => (if t142 = true then (if a2 < 1 then (column_Columns.j0 k l0 a1 a2 ([] : List Int) false true) else (column_Columns.j0 k l0 a1 a2 ([] : List Int) false (decide (a2 > 8)))) else (column_Columns.j0 k l0 a1 a2 ([] : List Int) false true))) else (some (([] : List Int), false, t141))) = some (r1, r2, r3) := H
  have A4 := Aside0.mk A40
  clear A40
  by_cases c5 : t141 = 0
  · rw [if_pos c5] at H
    have c5b0 : (t141 == 0) = true := beq_iff_eq.mpr c5
    have c5b1 : (t141 != 0) = false := bne_eq_false_iff_eq.mpr c5
    clear c5
    have HC6 := Aside0.mk H
    clear H
    go_enter Try.func17, Try.ntmps17
    go_upto_region 4 with (first | ((with_reducible refine gate_callee (f := 35) rfl ?_); refine goesL_ (some 14) rfl rfl Try.func35 (by kernel_rfl) rfl #[.slice A0 l0.length c0] rfl (by (try simp only [List.map_toArray, List.map_cons, List.map_nil]); first | done | rfl | (simp only [List.length_drop, List.length_take]; rfl)) ?_; (with_reducible refine (column_wrong.calls k _ _ l0 t141 _ ?side1 ?side2 A4.out).mono ?_); (case side1 => repeat (first | exact HR0.out | (with_reducible refine Kd.C_alloc ?_ _) | (with_reducible refine Kd.C_drewN ?_ _) | (with_reducible refine Kd.C_drew ?_))); (case side2 => exact HC0.out); rintro e w7 ⟨rfl, hb⟩; refine ⟨_, rfl, ?_⟩; have n0_ := Aside0.mk (below_step (by repeat (first | (with_reducible first | exact HB.out | apply below_alloc | apply pw_below_drewN | apply below_drew1) | exact HB.out)) hb); clear HB; have HB := n0_; clear n0_; (try clear hb); (try clear hb2); (try clear hk); (try clear hi)))
    (try simp only [Act.put, List.setIfInBounds_toArray, List.set_cons_zero, List.set_cons_succ])
    go_cut [28] (fun v28 wc => ∃ (kq : Nat) (x28_5 : Bool), v28 = .bool x28_5 ∧ Aside0 (column_Columns.j0 kq l0 a1 a2 ([] : List Int) false x28_5 = some (r1, r2, r3)) ∧ Aside0 (kq ≤ k) ∧ Aside0 (Kd.R (Kd.int .i64) 3 wc w.heap.size (fun _ => True) (.slice none 0 0) ([] : List Int)) ∧ Aside0 (Below w.heap.size w wc))
    case first =>
      have H := HC6.out
      clear HC6
      replace H := Option.bind_eq_some_iff.mp H
      obtain ⟨t142, A80, H⟩ := H
      replace H : (if t142 = true then (if a2 < 1 then (column_Columns.j0 k l0 a1 a2 ([] : List Int) false true) else (column_Columns.j0 k l0 a1 a2 ([] : List Int) false (decide (a2 > 8)))) else (column_Columns.j0 k l0 a1 a2 ([] : List Int) false true)) = some (r1, r2, r3) := H
      have A8 := Aside0.mk A80
      clear A80
      by_cases c9 : t142 = true
      · subst c9
        have H1 : (if a2 < 1 then (column_Columns.j0 k l0 a1 a2 ([] : List Int) false true) else (column_Columns.j0 k l0 a1 a2 ([] : List Int) false (decide (a2 > 8)))) = some (r1, r2, r3) := by rw [if_pos rfl] at H; exact H
        clear H
        have H := H1
        clear H1
        by_cases c10 : a2 < 1
        · rw [if_pos c10] at H
          have c10b0 : decide (a2 < 1) = true := decide_eq_true c10
          clear c10
          (first | rw [c10b0] | (simp only [i64_w, i32_w]; rw [c10b0]) | skip)
          have H' := Aside0.mk H
          clear H
          go_wp2_with (first | ((with_reducible refine gate_callee (f := 37) rfl ?_); refine goesL_ (some 19) rfl rfl Try.func37 (by kernel_rfl) rfl #[.int .i64 a1] rfl (by (try simp only [List.map_toArray, List.map_cons, List.map_nil]); first | done | rfl | (simp only [List.length_drop, List.length_take]; rfl)) ?_; (with_reducible refine (column_fits.calls a1 true _ A8.out).mono ?_); rintro e w' ⟨rfl, ⟨nd, rfl⟩⟩; refine ⟨_, rfl, ?_⟩))
          go_meet
          case rel => exact ⟨_, (true), (by first | rfl | (simp; done) | (simp [*]; done)), H', ⟨by first | omega | exact Nat.le_refl _⟩, ⟨by first | exact Kd.R_nil _ _ _ _ _ | exact Kd.N_nil _ _ _ _ _ | exact Kd.V_nil _ _ _ _ _ | exact Kd.Q_nil _ _ _ _ _ | exact Kd.S_nil _ _ _ _ _⟩, ⟨by repeat (first | (with_reducible first | exact HB.out | apply below_alloc | apply pw_below_drewN | apply below_drew1) | exact HB.out)⟩⟩
        · rw [if_neg c10] at H
          have c10b0 : decide (a2 < 1) = false := decide_eq_false c10
          clear c10
          (first | rw [c10b0] | (simp only [i64_w, i32_w]; rw [c10b0]) | skip)
          have H' := Aside0.mk H
          clear H
          go_wp2_with (first | ((with_reducible refine gate_callee (f := 37) rfl ?_); refine goesL_ (some 19) rfl rfl Try.func37 (by kernel_rfl) rfl #[.int .i64 a1] rfl (by (try simp only [List.map_toArray, List.map_cons, List.map_nil]); first | done | rfl | (simp only [List.length_drop, List.length_take]; rfl)) ?_; (with_reducible refine (column_fits.calls a1 true _ A8.out).mono ?_); rintro e w' ⟨rfl, ⟨nd, rfl⟩⟩; refine ⟨_, rfl, ?_⟩))
          go_meet
          case rel => exact ⟨_, (decide (a2 > 8)), (by first | rfl | (simp; done) | (simp [*]; done)), H', ⟨by first | omega | exact Nat.le_refl _⟩, ⟨by first | exact Kd.R_nil _ _ _ _ _ | exact Kd.N_nil _ _ _ _ _ | exact Kd.V_nil _ _ _ _ _ | exact Kd.Q_nil _ _ _ _ _ | exact Kd.S_nil _ _ _ _ _⟩, ⟨by repeat (first | (with_reducible first | exact HB.out | apply below_alloc | apply pw_below_drewN | apply below_drew1) | exact HB.out)⟩⟩
      · replace c9 := Bool.eq_false_iff.mpr c9
        subst c9
        have H1 : (column_Columns.j0 k l0 a1 a2 ([] : List Int) false true) = some (r1, r2, r3) := by rw [if_neg (show ¬ (false = true) by decide)] at H; exact H
        clear H
        have H := H1
        clear H1
        have H' := Aside0.mk H
        clear H
        go_wp2_with (first | ((with_reducible refine gate_callee (f := 37) rfl ?_); refine goesL_ (some 19) rfl rfl Try.func37 (by kernel_rfl) rfl #[.int .i64 a1] rfl (by (try simp only [List.map_toArray, List.map_cons, List.map_nil]); first | done | rfl | (simp only [List.length_drop, List.length_take]; rfl)) ?_; (with_reducible refine (column_fits.calls a1 false _ A8.out).mono ?_); rintro e w' ⟨rfl, ⟨nd, rfl⟩⟩; refine ⟨_, rfl, ?_⟩))
        go_meet
        case rel => exact ⟨_, (true), (by first | rfl | (simp; done) | (simp [*]; done)), H', ⟨by first | omega | exact Nat.le_refl _⟩, ⟨by first | exact Kd.R_nil _ _ _ _ _ | exact Kd.N_nil _ _ _ _ _ | exact Kd.V_nil _ _ _ _ _ | exact Kd.Q_nil _ _ _ _ _ | exact Kd.S_nil _ _ _ _ _⟩, ⟨by repeat (first | (with_reducible first | exact HB.out | apply below_alloc | apply pw_below_drewN | apply below_drew1) | exact HB.out)⟩⟩
    case rest =>
      clear HC6
      try clear c1
      try clear p2
      try clear c3
      try clear c5
      try clear c5b0
      try clear c5b1
      try clear c9
      try clear c10
      try clear c10b0
      obtain ⟨kq, x28_5, rfl, HA, HJ5, HO_6, HB⟩ := hcut
      cases kq with
      | zero => exact absurd HA.out (by simp [column_Columns.j0])
      | succ kj5 =>
        have H := HA.out
        clear HA
        simp only [column_Columns.j0] at H
        by_cases c11 : x28_5 = true
        · subst c11
          have H1 : (some (([] : List Int), false, 5)) = some (r1, r2, r3) := by rw [if_pos rfl] at H; exact H
          clear H
          have H := H1
          clear H1
          simp only [Option.some.injEq, Prod.mk.injEq] at H
          obtain ⟨rfl, rfl, rfl⟩ := H
          go_wp2
          go_ret3
          exact ⟨_, by first | rfl | (simp [errW_none, errW_some] <;> rfl) | (simp [*, errW_none, errW_some] <;> rfl), by first | exact Kd.R_nil _ _ _ _ _ | exact Kd.N_nil _ _ _ _ _ | exact Kd.V_nil _ _ _ _ _ | exact Kd.Q_nil _ _ _ _ _ | exact Kd.S_nil _ _ _ _ _, by repeat (first | (with_reducible first | exact HB.out | apply below_alloc | apply pw_below_drewN | apply below_drew1) | exact HB.out)⟩
        · replace c11 := Bool.eq_false_iff.mpr c11
          subst c11
          have H1 : (column_Columns.l0 kj5 l0 a1 ([] : List Int) false 0 a2 0) = some (r1, r2, r3) := by rw [if_neg (show ¬ (false = true) by decide)] at H; exact H
          clear H
          have H := H1
          clear H1
          have H' := Aside0.mk H
          clear H
          go_wp2
          go_loopg [6, 7, 10, 30] kj5 (fun kq v6 v7 v10 v30 w' => ∃ (x6_2 : List Int) (x7_2 : Bool) (x10_2 : Int) (x30_2 : Int), v7 = .bool x7_2 ∧ v10 = .int .i64 x10_2 ∧ v30 = .int .i64 x30_2 ∧ Aside0 (column_Columns.l0 kq l0 a1 x6_2 x7_2 x10_2 a2 x30_2 = some (r1, r2, r3)) ∧ Aside0 (kq ≤ kj5) ∧ Aside0 (Kd.R (Kd.int .i64) 3 w' w.heap.size (fun _ => True) v6 x6_2) ∧ Aside0 (Below w.heap.size w w'))
          case atStart => exact ⟨(([] : List Int)), (false), (0), (0), (by first | rfl | (simp; done) | (simp [*]; done)), (by first | rfl | (simp; done) | (simp [*]; done)), (by first | rfl | (simp; done) | (simp [*]; done)), H', ⟨Nat.le_refl _⟩, ⟨by (with_reducible repeat (first | apply Kd.R_alloc | apply Kd.R_drewN | apply Kd.R_drew)); exact HO_6.out⟩, ⟨by repeat (first | (with_reducible first | exact HB.out | apply below_alloc | apply pw_below_drewN | apply below_drew1) | exact HB.out)⟩⟩
          case round =>
            clear H'
            try clear c1
            try clear p2
            try clear c3
            try clear c5
            try clear c5b0
            try clear c5b1
            try clear c9
            try clear c10
            try clear c10b0
            try clear c11
            try clear p2
            obtain ⟨x6_2, x7_2, x10_2, x30_2, rfl, rfl, rfl, HA, HK2, HO_6, HB⟩ := hrel
            cases gk with
            | zero => exact absurd HA.out (by simp [column_Columns.l0])
            | succ k2 =>
              have H := HA.out
              clear HA
              simp only [column_Columns.l0] at H
              by_cases c12 : x30_2 < a2
              · rw [if_pos c12] at H
                have c12b0 : decide (x30_2 < a2) = true := decide_eq_true c12
                clear c12
                replace H := Option.bind_eq_some_iff.mp H
                obtain ⟨⟨t143, t144⟩, A130, H⟩ := H
                replace H : (if x7_2 = true then (if x6_2.length < 17592186044416 then (column_Columns.l0 k2 l0 a1 (x6_2 ++ [t143]) true t143 a2 (wrap64 (x30_2 + 1))) else (none)) else (if x6_2.length < 17592186044416 then (column_Columns.l0 k2 l0 a1 (x6_2 ++ [t143]) t144 t143 a2 (wrap64 (x30_2 + 1))) else (none))) = some (r1, r2, r3) := H
                have A13 := Aside0.mk A130
                clear A130
                by_cases c14 : x7_2 = true
                · subst c14
                  have H1 : (if x6_2.length < 17592186044416 then (column_Columns.l0 k2 l0 a1 (x6_2 ++ [t143]) true t143 a2 (wrap64 (x30_2 + 1))) else (none)) = some (r1, r2, r3) := by rw [if_pos rfl] at H; exact H
                  clear H
                  have H := H1
                  clear H1
                  by_cases c15 : x6_2.length < 17592186044416
                  · rw [if_pos c15] at H
                    have LMc15 := Aside0.mk c15
                    clear c15
                    obtain ⟨y145, hy145⟩ : ∃ y_ : List Int, y_ = (x6_2 ++ [t143]) := ⟨_, rfl⟩
                    replace H : (column_Columns.l0 k2 l0 a1 y145 true t143 a2 (wrap64 (x30_2 + 1))) = some (r1, r2, r3) := by first | (rw [hy145]; with_reducible exact H) | (have H2_ := (Option.bind_some _ _).symm.trans H; rw [hy145]; with_reducible exact H2_) | (have H2_ := (Option.bind_some _ _).symm.trans H; with_reducible exact H2_) | with_reducible exact H | (rw [hy145]; exact H) | exact H
                    have Ny145 := Aside0.mk hy145
                    clear hy145
                    have H' := Aside0.mk H
                    clear H
                    go_wp2_with (first | ((with_reducible refine gate_callee (f := 38) rfl ?_); refine goesL_ (some 36) rfl rfl Try.func38 (by kernel_rfl) rfl #[.slice A0 l0.length c0, .int .i64 x10_2, .int .i64 a1] rfl (by (try simp only [List.map_toArray, List.map_cons, List.map_nil]); first | done | rfl | (simp only [List.length_drop, List.length_take]; rfl)) ?_; (with_reducible refine (column_fill.calls k2 _ _ l0 x10_2 a1 t143 t144 _ ?side1 ?side2 A13.out).mono ?_); (case side1 => repeat (first | exact (Kd.C_below HR0.out HB.out) | (with_reducible refine Kd.C_alloc ?_ _) | (with_reducible refine Kd.C_drewN ?_ _) | (with_reducible refine Kd.C_drew ?_))); (case side2 => exact HC0.out); rintro e w' ⟨rfl, ⟨nd, rfl⟩⟩; refine ⟨_, rfl, ?_⟩) | ((with_reducible refine gate_builtin (b := .append) (xs := #[.tmp 43, .tmp 45]) rfl ?_); at_builtin; refine Kd.R_append (Kd.int .i64) (w0 := w) w.heap.size rfl (.tmp 43) (.tmp 45) 33 3 (.int .i64 0) 8 rfl Try.underlying33 info3 rfl (by decide) (by omega) u6 x6_2 t143 [.int .i64 t143] (fun _ => True) (fun _ => False) rfl rfl ?aP (fun _ hk => hk.elim) ?aF ?aO ?aB ?aS ?aL ?_; (case aP => exact rfl); (case aB => exact (by repeat (first | (with_reducible first | exact HB.out | apply below_alloc | apply pw_below_drewN | apply below_drew1) | exact HB.out))); (case aF => exact (fun _ _ => trivial)); (case aO => exact (by (with_reducible repeat (first | apply Kd.R_alloc | apply Kd.R_drewN | apply Kd.R_drew)); exact HO_6.out)); (case aS => exact (below_size (by repeat (first | (with_reducible first | exact HB.out | apply below_alloc | apply pw_below_drewN | apply below_drew1) | exact HB.out)))); (case aL => have := LMc15.out; omega); intro v146 w16 ho hb hg hat; rw [← Ny145.out] at ho; have n0_ := Aside0.mk (hb); have n1_ := Aside0.mk (ho); clear HB; clear HO_6; have HB := n0_; have HO147 := n1_; clear n0_ n1_; clear ho hb hg hat))
                    go_roundg k2
                    case measure => have := HJ5.out; have := HK2.out; omega
                    case rel => exact ⟨(y145), (true), (t143), (wrap64 (x30_2 + 1)), (by first | rfl | (simp; done) | (simp [*]; done)), (by first | rfl | (simp; done) | (simp [*]; done)), (by first | rfl | (simp; done) | (simp [*]; done)), H', ⟨by have := HJ5.out; have := HK2.out; omega⟩, ⟨by (with_reducible repeat (first | apply Kd.R_alloc | apply Kd.R_drewN | apply Kd.R_drew)); exact HO147.out⟩, ⟨by repeat (first | (with_reducible first | exact HB.out | apply below_alloc | apply pw_below_drewN | apply below_drew1) | exact HB.out)⟩⟩
                  · rw [if_neg c15] at H
                    exact absurd H (by simp)
                · replace c14 := Bool.eq_false_iff.mpr c14
                  subst c14
                  have H1 : (if x6_2.length < 17592186044416 then (column_Columns.l0 k2 l0 a1 (x6_2 ++ [t143]) t144 t143 a2 (wrap64 (x30_2 + 1))) else (none)) = some (r1, r2, r3) := by rw [if_neg (show ¬ (false = true) by decide)] at H; exact H
                  clear H
                  have H := H1
                  clear H1
                  by_cases c17 : x6_2.length < 17592186044416
                  · rw [if_pos c17] at H
                    have LMc17 := Aside0.mk c17
                    clear c17
                    obtain ⟨y148, hy148⟩ : ∃ y_ : List Int, y_ = (x6_2 ++ [t143]) := ⟨_, rfl⟩
                    replace H : (column_Columns.l0 k2 l0 a1 y148 t144 t143 a2 (wrap64 (x30_2 + 1))) = some (r1, r2, r3) := by first | (rw [hy148]; with_reducible exact H) | (have H2_ := (Option.bind_some _ _).symm.trans H; rw [hy148]; with_reducible exact H2_) | (have H2_ := (Option.bind_some _ _).symm.trans H; with_reducible exact H2_) | with_reducible exact H | (rw [hy148]; exact H) | exact H
                    have Ny148 := Aside0.mk hy148
                    clear hy148
                    have H' := Aside0.mk H
                    clear H
                    go_wp2_with (first | ((with_reducible refine gate_callee (f := 38) rfl ?_); refine goesL_ (some 36) rfl rfl Try.func38 (by kernel_rfl) rfl #[.slice A0 l0.length c0, .int .i64 x10_2, .int .i64 a1] rfl (by (try simp only [List.map_toArray, List.map_cons, List.map_nil]); first | done | rfl | (simp only [List.length_drop, List.length_take]; rfl)) ?_; (with_reducible refine (column_fill.calls k2 _ _ l0 x10_2 a1 t143 t144 _ ?side1 ?side2 A13.out).mono ?_); (case side1 => repeat (first | exact (Kd.C_below HR0.out HB.out) | (with_reducible refine Kd.C_alloc ?_ _) | (with_reducible refine Kd.C_drewN ?_ _) | (with_reducible refine Kd.C_drew ?_))); (case side2 => exact HC0.out); rintro e w' ⟨rfl, ⟨nd, rfl⟩⟩; refine ⟨_, rfl, ?_⟩) | ((with_reducible refine gate_builtin (b := .append) (xs := #[.tmp 43, .tmp 45]) rfl ?_); at_builtin; refine Kd.R_append (Kd.int .i64) (w0 := w) w.heap.size rfl (.tmp 43) (.tmp 45) 33 3 (.int .i64 0) 8 rfl Try.underlying33 info3 rfl (by decide) (by omega) u6 x6_2 t143 [.int .i64 t143] (fun _ => True) (fun _ => False) rfl rfl ?aP (fun _ hk => hk.elim) ?aF ?aO ?aB ?aS ?aL ?_; (case aP => exact rfl); (case aB => exact (by repeat (first | (with_reducible first | exact HB.out | apply below_alloc | apply pw_below_drewN | apply below_drew1) | exact HB.out))); (case aF => exact (fun _ _ => trivial)); (case aO => exact (by (with_reducible repeat (first | apply Kd.R_alloc | apply Kd.R_drewN | apply Kd.R_drew)); exact HO_6.out)); (case aS => exact (below_size (by repeat (first | (with_reducible first | exact HB.out | apply below_alloc | apply pw_below_drewN | apply below_drew1) | exact HB.out)))); (case aL => have := LMc17.out; omega); intro v149 w18 ho hb hg hat; rw [← Ny148.out] at ho; have n0_ := Aside0.mk (hb); have n1_ := Aside0.mk (ho); clear HB; clear HO_6; have HB := n0_; have HO150 := n1_; clear n0_ n1_; clear ho hb hg hat))
                    go_roundg k2
                    case measure => have := HJ5.out; have := HK2.out; omega
                    case rel => exact ⟨(y148), (t144), (t143), (wrap64 (x30_2 + 1)), (by first | rfl | (simp; done) | (simp [*]; done)), (by first | rfl | (simp; done) | (simp [*]; done)), (by first | rfl | (simp; done) | (simp [*]; done)), H', ⟨by have := HJ5.out; have := HK2.out; omega⟩, ⟨by (with_reducible repeat (first | apply Kd.R_alloc | apply Kd.R_drewN | apply Kd.R_drew)); exact HO150.out⟩, ⟨by repeat (first | (with_reducible first | exact HB.out | apply below_alloc | apply pw_below_drewN | apply below_drew1) | exact HB.out)⟩⟩
                  · rw [if_neg c17] at H
                    exact absurd H (by simp)
              · rw [if_neg c12] at H
                have c12b0 : decide (x30_2 < a2) = false := decide_eq_false c12
                clear c12
                simp only [Option.some.injEq, Prod.mk.injEq] at H
                obtain ⟨rfl, rfl, rfl⟩ := H
                go_wp2
                go_ret3
                exact ⟨_, by first | rfl | (simp [errW_none, errW_some] <;> rfl) | (simp [*, errW_none, errW_some] <;> rfl), by (with_reducible repeat (first | apply Kd.R_alloc | apply Kd.R_drewN | apply Kd.R_drew)); exact HO_6.out, by repeat (first | (with_reducible first | exact HB.out | apply below_alloc | apply pw_below_drewN | apply below_drew1) | exact HB.out)⟩
  · rw [if_neg c5] at H
    have c5b0 : (t141 == 0) = false := beq_eq_false_iff_ne.mpr c5
    have c5b1 : (t141 != 0) = true := bne_iff_ne.mpr c5
    simp only [Option.some.injEq, Prod.mk.injEq] at H
    obtain ⟨rfl, rfl, rfl⟩ := H
    go_enter Try.func17, Try.ntmps17
    go_wp2_with (first | ((with_reducible refine gate_callee (f := 35) rfl ?_); refine goesL_ (some 14) rfl rfl Try.func35 (by kernel_rfl) rfl #[.slice A0 l0.length c0] rfl (by (try simp only [List.map_toArray, List.map_cons, List.map_nil]); first | done | rfl | (simp only [List.length_drop, List.length_take]; rfl)) ?_; (with_reducible refine (column_wrong.calls k _ _ l0 t141 _ ?side1 ?side2 A4.out).mono ?_); (case side1 => repeat (first | exact HR0.out | (with_reducible refine Kd.C_alloc ?_ _) | (with_reducible refine Kd.C_drewN ?_ _) | (with_reducible refine Kd.C_drew ?_))); (case side2 => exact HC0.out); rintro e w19 ⟨rfl, hb⟩; refine ⟨_, rfl, ?_⟩; have n0_ := Aside0.mk (below_step (by repeat (first | (with_reducible first | exact HB.out | apply below_alloc | apply pw_below_drewN | apply below_drew1) | exact HB.out)) hb); clear HB; have HB := n0_; clear n0_; (try clear hb); (try clear hb2); (try clear hk); (try clear hi)))
    go_ret3
    exact ⟨_, by first | rfl | (simp [errW_none, errW_some] <;> rfl) | (simp [*, errW_none, errW_some] <;> rfl), by first | exact Kd.R_nil _ _ _ _ _ | exact Kd.N_nil _ _ _ _ _ | exact Kd.V_nil _ _ _ _ _ | exact Kd.Q_nil _ _ _ _ _ | exact Kd.S_nil _ _ _ _ _, by repeat (first | (with_reducible first | exact HB.out | apply below_alloc | apply pw_below_drewN | apply below_drew1) | exact HB.out)⟩

/-! ### quirekit_SameInts: function 22 -/
def quirekit_SameInts.l0 : Nat → List Int → List Int → Int → Option (Bool)
  | 0, _, _, _ => none
  | k + 1, x0, x1, x5 => if x5 < (x0.length : Int) then (if 0 ≤ x5 then (if x5 < (x1.length : Int) then (if (rd x0 x5) = (rd x1 x5) then (quirekit_SameInts.l0 k x0 x1 (wrap64 (x5 + 1))) else (some false)) else (none)) else (none)) else (some true)
def quirekit_SameInts.f (k : Nat) (l0 : List Int) (l1 : List Int) : Option (Bool) := if (l0.length : Int) = (l1.length : Int) then (quirekit_SameInts.l0 k l0 l1 0) else (some false)
theorem quirekit_SameInts.mono_l : ∀ k, (∀ y0 y1 y2, LeO (quirekit_SameInts.l0 k y0 y1 y2) (quirekit_SameInts.l0 (k + 1) y0 y1 y2))
  | 0 => fun _ _ _ r h => by simp [quirekit_SameInts.l0] at h
  | k + 1 => by
    have ih0 := quirekit_SameInts.mono_l k
    · intro y0 y1 y2
      unfold quirekit_SameInts.l0
      repeat' first
      | (with_reducible exact ih0 _ _ _)
      | (with_reducible exact LeO.refl _)
      | (with_reducible exact LeO.none _)
      | (with_reducible refine LeO.ite ?_ ?_)
      | (with_reducible refine LeO.bind ?_ (fun _ => ?_))
      | exact ih0 _ _ _
      | exact LeO.none _
      | refine LeO.ite ?_ ?_
      | refine LeO.bind ?_ (fun _ => ?_)
theorem quirekit_SameInts.mono : ∀ a0 a1 k, LeO (quirekit_SameInts.f k a0 a1) (quirekit_SameInts.f (k + 1) a0 a1) := by
  intro a0 a1 k
  have ih0 := quirekit_SameInts.mono_l k
  unfold quirekit_SameInts.f
  repeat' first
      | (with_reducible exact ih0 _ _ _)
      | (with_reducible exact LeO.refl _)
      | (with_reducible exact LeO.none _)
      | (with_reducible refine LeO.ite ?_ ?_)
      | (with_reducible refine LeO.bind ?_ (fun _ => ?_))
      | exact ih0 _ _ _
      | exact LeO.none _
      | refine LeO.ite ?_ ?_
      | refine LeO.bind ?_ (fun _ => ?_)
set_option maxHeartbeats 8000000 in
set_option maxRecDepth 100000 in
theorem quirekit_SameInts.calls (k : Nat) (A0 : Option Addr) (c0 : Nat) (l0 : List Int) (A1 : Option Addr) (c1 : Nat) (l1 : List Int) (r : Bool) (w : World) (hr0 : Kd.C (Kd.int .i64) w A0 l0.length l0) (hc0 : l0.length ≤ c0) (hr1 : Kd.C (Kd.int .i64) w A1 l1.length l1) (hc1 : l1.length ≤ c1) (h : quirekit_SameInts.f k l0 l1 = some r) :
    Calls Try.prog 22 #[.slice A0 l0.length c0, .slice A1 l1.length c1] w fun e w' => e = .returned (.bool r) ∧ Drawn0 w w' := by
  have HR0 := Aside0.mk hr0
  have HC0 := Aside0.mk hc0
  clear hr0 hc0
  have HR1 := Aside0.mk hr1
  have HC1 := Aside0.mk hc1
  clear hr1 hc1
  have H : (if (l0.length : Int) = (l1.length : Int) then (quirekit_SameInts.l0 k l0 l1 0) else (some false)) = some r := h
  clear h
  by_cases c3 : (l0.length : Int) = (l1.length : Int)
  · rw [if_pos c3] at H
    have c3b0 : ((l0.length : Int) == (l1.length : Int)) = true := beq_iff_eq.mpr c3
    have c3b1 : ((l0.length : Int) != (l1.length : Int)) = false := bne_eq_false_iff_eq.mpr c3
    have c3b2 : (l0.length == l1.length) = true := by first | simpa using c3 | (simp at c3 ⊢; omega)
    clear c3
    have H' := Aside0.mk H
    clear H
    go_enter Try.func22, Try.ntmps22
    go_wp2
    repeat (go_quiet (fail); try go_wp2)
    go_loopg [5] k (fun kq v5 w' => ∃ (x5_1 : Int), v5 = .int .i64 x5_1 ∧ Aside0 (quirekit_SameInts.l0 kq l0 l1 x5_1 = some r) ∧ Aside0 (kq ≤ k) ∧ Drawn0 w w')
    case atStart => exact ⟨(0), (by first | rfl | (simp; done) | (simp [*]; done)), H', ⟨Nat.le_refl _⟩, by repeat (first | exact Drawn0.refl _ | apply Drawn0.step)⟩
    case round =>
      clear H'
      try clear c1
      try clear c2
      try clear p2
      try clear c3
      try clear c3b0
      try clear c3b1
      try clear c3b2
      obtain ⟨x5_1, rfl, HA, HK1, ⟨m1, rfl⟩⟩ := hrel
      cases gk with
      | zero => exact absurd HA.out (by simp [quirekit_SameInts.l0])
      | succ k1 =>
        have H := HA.out
        clear HA
        simp only [quirekit_SameInts.l0] at H
        by_cases c4 : x5_1 < (l0.length : Int)
        · rw [if_pos c4] at H
          have c4b0 : decide (x5_1 < (l0.length : Int)) = true := decide_eq_true c4
          clear c4
          by_cases c5 : 0 ≤ x5_1
          · rw [if_pos c5] at H
            have c5b0 : decide (0 ≤ x5_1) = true := decide_eq_true c5
            clear c5
            by_cases c6 : x5_1 < (l1.length : Int)
            · rw [if_pos c6] at H
              have c6b0 : decide (x5_1 < (l1.length : Int)) = true := decide_eq_true c6
              clear c6
              by_cases c7 : (rd l0 x5_1) = (rd l1 x5_1)
              · rw [if_pos c7] at H
                have c7b0 : ((rd l0 x5_1) == (rd l1 x5_1)) = true := beq_iff_eq.mpr c7
                have c7b1 : ((rd l0 x5_1) != (rd l1 x5_1)) = false := bne_eq_false_iff_eq.mpr c7
                clear c7
                have H' := Aside0.mk H
                clear H
                have p151 : 0 ≤ (x5_1 : Int) := of_decide_eq_true (by first | (with_reducible assumption) | assumption)
                have q151 : x5_1 < (l0.length : Int) := of_decide_eq_true (by first | (with_reducible assumption) | assumption)
                obtain ⟨ad151, e151, hx151_0⟩ := Kd.at_int HR0.out x5_1 p151 q151
                cases e151
                replace p151 := eq_true p151
                replace q151 := eq_true q151
                have p152 : 0 ≤ (x5_1 : Int) := of_decide_eq_true (by first | (with_reducible assumption) | assumption)
                have q152 : x5_1 < (l1.length : Int) := of_decide_eq_true (by first | (with_reducible assumption) | assumption)
                obtain ⟨ad152, e152, hx152_0⟩ := Kd.at_int HR1.out x5_1 p152 q152
                cases e152
                replace p152 := eq_true p152
                replace q152 := eq_true q152
                go_wp2
                repeat (go_quiet (fail); try go_wp2)
                go_roundg k1
                case measure => have := HK1.out; omega
                case rel => exact ⟨(wrap64 (x5_1 + 1)), (by first | rfl | (simp; done) | (simp [*]; done)), H', ⟨by have := HK1.out; omega⟩, by repeat (first | exact Drawn0.refl _ | apply Drawn0.step)⟩
              · rw [if_neg c7] at H
                have c7b0 : ((rd l0 x5_1) == (rd l1 x5_1)) = false := beq_eq_false_iff_ne.mpr c7
                have c7b1 : ((rd l0 x5_1) != (rd l1 x5_1)) = true := bne_iff_ne.mpr c7
                obtain rfl := Option.some.inj H
                have p151 : 0 ≤ (x5_1 : Int) := of_decide_eq_true (by first | (with_reducible assumption) | assumption)
                have q151 : x5_1 < (l0.length : Int) := of_decide_eq_true (by first | (with_reducible assumption) | assumption)
                obtain ⟨ad151, e151, hx151_0⟩ := Kd.at_int HR0.out x5_1 p151 q151
                cases e151
                replace p151 := eq_true p151
                replace q151 := eq_true q151
                have p152 : 0 ≤ (x5_1 : Int) := of_decide_eq_true (by first | (with_reducible assumption) | assumption)
                have q152 : x5_1 < (l1.length : Int) := of_decide_eq_true (by first | (with_reducible assumption) | assumption)
                obtain ⟨ad152, e152, hx152_0⟩ := Kd.at_int HR1.out x5_1 p152 q152
                cases e152
                replace p152 := eq_true p152
                replace q152 := eq_true q152
                go_wp2
                repeat (go_quiet (fail); try go_wp2)
                go_ret
                exact ⟨by first | rfl | (simp; done) | (simp [*]; done), by repeat (first | exact Drawn0.refl _ | apply Drawn0.step)⟩
            · rw [if_neg c6] at H
              exact absurd H (by simp)
          · rw [if_neg c5] at H
            exact absurd H (by simp)
        · rw [if_neg c4] at H
          have c4b0 : decide (x5_1 < (l0.length : Int)) = false := decide_eq_false c4
          clear c4
          obtain rfl := Option.some.inj H
          go_wp2
          repeat (go_quiet (fail); try go_wp2)
          go_ret
          exact ⟨by first | rfl | (simp; done) | (simp [*]; done), by repeat (first | exact Drawn0.refl _ | apply Drawn0.step)⟩
  · rw [if_neg c3] at H
    have c3b0 : ((l0.length : Int) == (l1.length : Int)) = false := beq_eq_false_iff_ne.mpr c3
    have c3b1 : ((l0.length : Int) != (l1.length : Int)) = true := bne_iff_ne.mpr c3
    have c3b2 : (l0.length == l1.length) = false := by first | simpa using c3 | (simp at c3 ⊢; omega)
    obtain rfl := Option.some.inj H
    go_enter Try.func22, Try.ntmps22
    go_wp2
    repeat (go_quiet (fail); try go_wp2)
    go_ret
    exact ⟨by first | rfl | (simp; done) | (simp [*]; done), by repeat (first | exact Drawn0.refl _ | apply Drawn0.step)⟩

/-! ### quirelaw19_ColumnKnown: function 7 -/
def quirelaw19_ColumnKnown.j0 : Nat → Bool → Option (Bool)
  | 0, _ => none
  | k + 1, x1 => (quirelaw19_example.f).bind fun t158 => ((column_Height.f k t158 0 3).bind fun bt161 => ((quirelaw19_example.f).bind fun t163 => ((column_Height.f k t163 1 3).bind fun bt166 => ((quirelaw19_example.f).bind fun t168 => ((column_Columns.f k t168 30 3).bind fun bt171 => ((column_Split.f k 0 0 1 1 0 false).bind fun bt176 => ((quirelaw19_example.f).bind fun t178 => ((column_Fill.f k t178 5 9).bind fun bt181 => ((quirelaw19_example.f).bind fun t185 => ((column_Fill.f k t185 0 (-1)).bind fun bt188 => ((quirelaw19_awake.f k).bind fun t192 => (if t192 = true then (if x1 = true then (if bt161.1 = 35 then (if bt166.1 = 20 then ((quirelaw19_fill.f k 0 30 1 10 false).bind fun t193 => (if t193 = true then ((quirelaw19_fill.f k 1 15 2 10 true).bind fun t194 => (if t194 = true then ((quirekit_SameInts.f k bt171.1 (([1, 3, 4] : List Int))).bind fun t198 => (if t198 = true then (if bt171.2.1 = true then (some false) else (if bt171.2.2 = 0 then (if bt176.2 = 5 then (if bt181.2.2.2 = 5 then (some (bt188.2.2.2 == 5)) else (some false)) else (some false)) else (some false))) else (some false))) else (some false))) else (some false))) else (some false)) else (some false)) else (some false)) else (some false)))))))))))))
def quirelaw19_ColumnKnown.f (k : Nat)  : Option (Bool) := (quirelaw19_split.f k 5 5 2 2 0 false 5).bind fun t153 => (if t153 = true then ((quirelaw19_split.f k 5 1 2 2 0 false 0).bind fun t154 => (if t154 = true then ((quirelaw19_split.f k 3 2 2 2 0 false 0).bind fun t155 => (if t155 = true then ((quirelaw19_split.f k 3 2 1 1 1 false 0).bind fun t156 => (if t156 = true then ((quirelaw19_split.f k 3 0 1 1 0 true 1).bind fun t157 => (quirelaw19_ColumnKnown.j0 k t157)) else (quirelaw19_ColumnKnown.j0 k false))) else (quirelaw19_ColumnKnown.j0 k false))) else (quirelaw19_ColumnKnown.j0 k false))) else (quirelaw19_ColumnKnown.j0 k false))
theorem quirelaw19_ColumnKnown.mono_l : ∀ k, (∀ y0, LeO (quirelaw19_ColumnKnown.j0 k y0) (quirelaw19_ColumnKnown.j0 (k + 1) y0))
  | 0 => fun _ r h => by simp [quirelaw19_ColumnKnown.j0] at h
  | k + 1 => by
    have ih0 := quirelaw19_ColumnKnown.mono_l k
    · intro y0
      unfold quirelaw19_ColumnKnown.j0
      repeat' first
      | (with_reducible exact ih0 _)
      | (with_reducible exact column_Columns.mono _ _ _ _)
      | (with_reducible exact column_Fill.mono _ _ _ _)
      | (with_reducible exact column_Height.mono _ _ _ _)
      | (with_reducible exact column_Split.mono _ _ _ _ _ _ _)
      | (with_reducible exact quirekit_SameInts.mono _ _ _)
      | (with_reducible exact quirelaw19_awake.mono _)
      | (with_reducible exact quirelaw19_fill.mono _ _ _ _ _ _)
      | (with_reducible exact quirelaw19_split.mono _ _ _ _ _ _ _ _)
      | (with_reducible exact LeO.refl _)
      | (with_reducible exact LeO.none _)
      | (with_reducible refine LeO.ite ?_ ?_)
      | (with_reducible refine LeO.bind ?_ (fun _ => ?_))
      | exact ih0 _
      | exact column_Columns.mono _ _ _ _
      | exact column_Fill.mono _ _ _ _
      | exact column_Height.mono _ _ _ _
      | exact column_Split.mono _ _ _ _ _ _ _
      | exact quirekit_SameInts.mono _ _ _
      | exact quirelaw19_awake.mono _
      | exact quirelaw19_fill.mono _ _ _ _ _ _
      | exact quirelaw19_split.mono _ _ _ _ _ _ _ _
      | exact LeO.none _
      | refine LeO.ite ?_ ?_
      | refine LeO.bind ?_ (fun _ => ?_)
theorem quirelaw19_ColumnKnown.mono : ∀ k, LeO (quirelaw19_ColumnKnown.f k ) (quirelaw19_ColumnKnown.f (k + 1) ) := by
  intro  k
  have ih0 := quirelaw19_ColumnKnown.mono_l k
  unfold quirelaw19_ColumnKnown.f
  repeat' first
      | (with_reducible exact ih0 _)
      | (with_reducible exact column_Columns.mono _ _ _ _)
      | (with_reducible exact column_Fill.mono _ _ _ _)
      | (with_reducible exact column_Height.mono _ _ _ _)
      | (with_reducible exact column_Split.mono _ _ _ _ _ _ _)
      | (with_reducible exact quirekit_SameInts.mono _ _ _)
      | (with_reducible exact quirelaw19_awake.mono _)
      | (with_reducible exact quirelaw19_fill.mono _ _ _ _ _ _)
      | (with_reducible exact quirelaw19_split.mono _ _ _ _ _ _ _ _)
      | (with_reducible exact LeO.refl _)
      | (with_reducible exact LeO.none _)
      | (with_reducible refine LeO.ite ?_ ?_)
      | (with_reducible refine LeO.bind ?_ (fun _ => ?_))
      | exact ih0 _
      | exact column_Columns.mono _ _ _ _
      | exact column_Fill.mono _ _ _ _
      | exact column_Height.mono _ _ _ _
      | exact column_Split.mono _ _ _ _ _ _ _
      | exact quirekit_SameInts.mono _ _ _
      | exact quirelaw19_awake.mono _
      | exact quirelaw19_fill.mono _ _ _ _ _ _
      | exact quirelaw19_split.mono _ _ _ _ _ _ _ _
      | exact LeO.none _
      | refine LeO.ite ?_ ?_
      | refine LeO.bind ?_ (fun _ => ?_)
set_option maxHeartbeats 8000000 in
set_option maxRecDepth 100000 in
theorem quirelaw19_ColumnKnown.calls (k : Nat)  (w : World) (h : quirelaw19_ColumnKnown.f k  = some true) :
    Calls Try.prog 7 #[] w fun e w' => e = .returned (.bool true) ∧ Below w.heap.size w w' := by
  have HB := Aside0.mk (Below.refl w.heap.size w)
  have H : ((quirelaw19_split.f k 5 5 2 2 0 false 5).bind fun t153 => (if t153 = true then ((quirelaw19_split.f k 5 1 2 2 0 false 0).bind fun t154 => (if t154 = true then ((quirelaw19_split.f k 3 2 2 2 0 false 0).bind fun t155 => (if t155 = true then ((quirelaw19_split.f k 3 2 1 1 1 false 0).bind fun t156 => (if t156 = true then ((quirelaw19_split.f k 3 0 1 1 0 true 1).bind fun t157 => (quirelaw19_ColumnKnown.j0 k t157)) else (quirelaw19_ColumnKnown.j0 k false))) else (quirelaw19_ColumnKnown.j0 k false))) else (quirelaw19_ColumnKnown.j0 k false))) else (quirelaw19_ColumnKnown.j0 k false))) = some true := h
  clear h
  have HC1 := Aside0.mk H
  clear H
  go_enter Try.func7, Try.ntmps7
  go_upto_region 1 with (fail)
  go_cut [1] (fun v1 wc => ∃ (kq : Nat) (x1_0 : Bool), v1 = .bool x1_0 ∧ Aside0 (quirelaw19_ColumnKnown.j0 kq x1_0 = some true) ∧ Aside0 (kq ≤ k) ∧ Aside0 (Below w.heap.size w wc))
  case first =>
    have H := HC1.out
    clear HC1
    replace H := Option.bind_eq_some_iff.mp H
    obtain ⟨t153, A20, H⟩ := H
    replace H : (if t153 = true then ((quirelaw19_split.f k 5 1 2 2 0 false 0).bind fun t154 => (if t154 = true then ((quirelaw19_split.f k 3 2 2 2 0 false 0).bind fun t155 => (if t155 = true then ((quirelaw19_split.f k 3 2 1 1 1 false 0).bind fun t156 => (if t156 = true then ((quirelaw19_split.f k 3 0 1 1 0 true 1).bind fun t157 => (quirelaw19_ColumnKnown.j0 k t157)) else (quirelaw19_ColumnKnown.j0 k false))) else (quirelaw19_ColumnKnown.j0 k false))) else (quirelaw19_ColumnKnown.j0 k false))) else (quirelaw19_ColumnKnown.j0 k false)) = some true := H
    have A2 := Aside0.mk A20
    clear A20
    by_cases c3 : t153 = true
    · subst c3
      have H1 : ((quirelaw19_split.f k 5 1 2 2 0 false 0).bind fun t154 => (if t154 = true then ((quirelaw19_split.f k 3 2 2 2 0 false 0).bind fun t155 => (if t155 = true then ((quirelaw19_split.f k 3 2 1 1 1 false 0).bind fun t156 => (if t156 = true then ((quirelaw19_split.f k 3 0 1 1 0 true 1).bind fun t157 => (quirelaw19_ColumnKnown.j0 k t157)) else (quirelaw19_ColumnKnown.j0 k false))) else (quirelaw19_ColumnKnown.j0 k false))) else (quirelaw19_ColumnKnown.j0 k false))) = some true := by rw [if_pos rfl] at H; exact H
      clear H
      have H := H1
      clear H1
      replace H := Option.bind_eq_some_iff.mp H
      obtain ⟨t154, A40, H⟩ := H
      replace H : (if t154 = true then ((quirelaw19_split.f k 3 2 2 2 0 false 0).bind fun t155 => (if t155 = true then ((quirelaw19_split.f k 3 2 1 1 1 false 0).bind fun t156 => (if t156 = true then ((quirelaw19_split.f k 3 0 1 1 0 true 1).bind fun t157 => (quirelaw19_ColumnKnown.j0 k t157)) else (quirelaw19_ColumnKnown.j0 k false))) else (quirelaw19_ColumnKnown.j0 k false))) else (quirelaw19_ColumnKnown.j0 k false)) = some true := H
      have A4 := Aside0.mk A40
      clear A40
      by_cases c5 : t154 = true
      · subst c5
        have H1 : ((quirelaw19_split.f k 3 2 2 2 0 false 0).bind fun t155 => (if t155 = true then ((quirelaw19_split.f k 3 2 1 1 1 false 0).bind fun t156 => (if t156 = true then ((quirelaw19_split.f k 3 0 1 1 0 true 1).bind fun t157 => (quirelaw19_ColumnKnown.j0 k t157)) else (quirelaw19_ColumnKnown.j0 k false))) else (quirelaw19_ColumnKnown.j0 k false))) = some true := by rw [if_pos rfl] at H; exact H
        clear H
        have H := H1
        clear H1
        replace H := Option.bind_eq_some_iff.mp H
        obtain ⟨t155, A60, H⟩ := H
        replace H : (if t155 = true then ((quirelaw19_split.f k 3 2 1 1 1 false 0).bind fun t156 => (if t156 = true then ((quirelaw19_split.f k 3 0 1 1 0 true 1).bind fun t157 => (quirelaw19_ColumnKnown.j0 k t157)) else (quirelaw19_ColumnKnown.j0 k false))) else (quirelaw19_ColumnKnown.j0 k false)) = some true := H
        have A6 := Aside0.mk A60
        clear A60
        by_cases c7 : t155 = true
        · subst c7
          have H1 : ((quirelaw19_split.f k 3 2 1 1 1 false 0).bind fun t156 => (if t156 = true then ((quirelaw19_split.f k 3 0 1 1 0 true 1).bind fun t157 => (quirelaw19_ColumnKnown.j0 k t157)) else (quirelaw19_ColumnKnown.j0 k false))) = some true := by rw [if_pos rfl] at H; exact H
          clear H
          have H := H1
          clear H1
          replace H := Option.bind_eq_some_iff.mp H
          obtain ⟨t156, A80, H⟩ := H
          replace H : (if t156 = true then ((quirelaw19_split.f k 3 0 1 1 0 true 1).bind fun t157 => (quirelaw19_ColumnKnown.j0 k t157)) else (quirelaw19_ColumnKnown.j0 k false)) = some true := H
          have A8 := Aside0.mk A80
          clear A80
          by_cases c9 : t156 = true
          · subst c9
            have H1 : ((quirelaw19_split.f k 3 0 1 1 0 true 1).bind fun t157 => (quirelaw19_ColumnKnown.j0 k t157)) = some true := by rw [if_pos rfl] at H; exact H
            clear H
            have H := H1
            clear H1
            replace H := Option.bind_eq_some_iff.mp H
            obtain ⟨t157, A100, H⟩ := H
            replace H : (quirelaw19_ColumnKnown.j0 k t157) = some true := H
            have A10 := Aside0.mk A100
            clear A100
            have H' := Aside0.mk H
            clear H
            go_wp2_with (first | ((with_reducible refine gate_callee (f := 24) rfl ?_); refine goesL_ (some 19) rfl rfl Try.func24 (by kernel_rfl) rfl #[.int .i64 5, .int .i64 5, .int .i64 2, .int .i64 2, .int .i64 0, .bool false, .int .i64 5] rfl (by (try simp only [List.map_toArray, List.map_cons, List.map_nil]); first | done | rfl | (simp only [List.length_drop, List.length_take]; rfl)) ?_; (with_reducible refine (quirelaw19_split.calls k 5 5 2 2 0 false 5 true _ A2.out).mono ?_); rintro e w11 ⟨rfl, hb⟩; refine ⟨_, rfl, ?_⟩; have n0_ := Aside0.mk (below_step (by repeat (first | (with_reducible first | exact HB.out | apply below_alloc | apply pw_below_drewN | apply below_drew1) | exact HB.out)) hb); clear HB; have HB := n0_; clear n0_; (try clear hb); (try clear hb2); (try clear hk); (try clear hi)) | (go_at_call 24; (with_reducible refine (quirelaw19_split.calls k 5 1 2 2 0 false 0 true _ A4.out).mono ?_); rintro e w12 ⟨rfl, hb⟩; have n0_ := Aside0.mk (below_step (by repeat (first | (with_reducible first | exact HB.out | apply below_alloc | apply pw_below_drewN | apply below_drew1) | exact HB.out)) hb); clear HB; have HB := n0_; clear n0_; (try clear hb); (try clear hb2); (try clear hk); (try clear hi)) | (go_at_call 24; (with_reducible refine (quirelaw19_split.calls k 3 2 2 2 0 false 0 true _ A6.out).mono ?_); rintro e w13 ⟨rfl, hb⟩; have n0_ := Aside0.mk (below_step (by repeat (first | (with_reducible first | exact HB.out | apply below_alloc | apply pw_below_drewN | apply below_drew1) | exact HB.out)) hb); clear HB; have HB := n0_; clear n0_; (try clear hb); (try clear hb2); (try clear hk); (try clear hi)) | (go_at_call 24; (with_reducible refine (quirelaw19_split.calls k 3 2 1 1 1 false 0 true _ A8.out).mono ?_); rintro e w14 ⟨rfl, hb⟩; have n0_ := Aside0.mk (below_step (by repeat (first | (with_reducible first | exact HB.out | apply below_alloc | apply pw_below_drewN | apply below_drew1) | exact HB.out)) hb); clear HB; have HB := n0_; clear n0_; (try clear hb); (try clear hb2); (try clear hk); (try clear hi)) | (go_at_call 24; (with_reducible refine (quirelaw19_split.calls k 3 0 1 1 0 true 1 t157 _ A10.out).mono ?_); rintro e w15 ⟨rfl, hb⟩; have n0_ := Aside0.mk (below_step (by repeat (first | (with_reducible first | exact HB.out | apply below_alloc | apply pw_below_drewN | apply below_drew1) | exact HB.out)) hb); clear HB; have HB := n0_; clear n0_; (try clear hb); (try clear hb2); (try clear hk); (try clear hi)))
            go_meet
            case rel => exact ⟨_, (t157), (by first | rfl | (simp; done) | (simp [*]; done)), H', ⟨by first | omega | exact Nat.le_refl _⟩, ⟨by repeat (first | (with_reducible first | exact HB.out | apply below_alloc | apply pw_below_drewN | apply below_drew1) | exact HB.out)⟩⟩
          · replace c9 := Bool.eq_false_iff.mpr c9
            subst c9
            have H1 : (quirelaw19_ColumnKnown.j0 k false) = some true := by rw [if_neg (show ¬ (false = true) by decide)] at H; exact H
            clear H
            have H := H1
            clear H1
            have H' := Aside0.mk H
            clear H
            go_wp2_with (first | ((with_reducible refine gate_callee (f := 24) rfl ?_); refine goesL_ (some 19) rfl rfl Try.func24 (by kernel_rfl) rfl #[.int .i64 5, .int .i64 5, .int .i64 2, .int .i64 2, .int .i64 0, .bool false, .int .i64 5] rfl (by (try simp only [List.map_toArray, List.map_cons, List.map_nil]); first | done | rfl | (simp only [List.length_drop, List.length_take]; rfl)) ?_; (with_reducible refine (quirelaw19_split.calls k 5 5 2 2 0 false 5 true _ A2.out).mono ?_); rintro e w16 ⟨rfl, hb⟩; refine ⟨_, rfl, ?_⟩; have n0_ := Aside0.mk (below_step (by repeat (first | (with_reducible first | exact HB.out | apply below_alloc | apply pw_below_drewN | apply below_drew1) | exact HB.out)) hb); clear HB; have HB := n0_; clear n0_; (try clear hb); (try clear hb2); (try clear hk); (try clear hi)) | (go_at_call 24; (with_reducible refine (quirelaw19_split.calls k 5 1 2 2 0 false 0 true _ A4.out).mono ?_); rintro e w17 ⟨rfl, hb⟩; have n0_ := Aside0.mk (below_step (by repeat (first | (with_reducible first | exact HB.out | apply below_alloc | apply pw_below_drewN | apply below_drew1) | exact HB.out)) hb); clear HB; have HB := n0_; clear n0_; (try clear hb); (try clear hb2); (try clear hk); (try clear hi)) | (go_at_call 24; (with_reducible refine (quirelaw19_split.calls k 3 2 2 2 0 false 0 true _ A6.out).mono ?_); rintro e w18 ⟨rfl, hb⟩; have n0_ := Aside0.mk (below_step (by repeat (first | (with_reducible first | exact HB.out | apply below_alloc | apply pw_below_drewN | apply below_drew1) | exact HB.out)) hb); clear HB; have HB := n0_; clear n0_; (try clear hb); (try clear hb2); (try clear hk); (try clear hi)) | (go_at_call 24; (with_reducible refine (quirelaw19_split.calls k 3 2 1 1 1 false 0 false _ A8.out).mono ?_); rintro e w19 ⟨rfl, hb⟩; have n0_ := Aside0.mk (below_step (by repeat (first | (with_reducible first | exact HB.out | apply below_alloc | apply pw_below_drewN | apply below_drew1) | exact HB.out)) hb); clear HB; have HB := n0_; clear n0_; (try clear hb); (try clear hb2); (try clear hk); (try clear hi)))
            go_meet
            case rel => exact ⟨_, (false), (by first | rfl | (simp; done) | (simp [*]; done)), H', ⟨by first | omega | exact Nat.le_refl _⟩, ⟨by repeat (first | (with_reducible first | exact HB.out | apply below_alloc | apply pw_below_drewN | apply below_drew1) | exact HB.out)⟩⟩
        · replace c7 := Bool.eq_false_iff.mpr c7
          subst c7
          have H1 : (quirelaw19_ColumnKnown.j0 k false) = some true := by rw [if_neg (show ¬ (false = true) by decide)] at H; exact H
          clear H
          have H := H1
          clear H1
          have H' := Aside0.mk H
          clear H
          go_wp2_with (first | ((with_reducible refine gate_callee (f := 24) rfl ?_); refine goesL_ (some 19) rfl rfl Try.func24 (by kernel_rfl) rfl #[.int .i64 5, .int .i64 5, .int .i64 2, .int .i64 2, .int .i64 0, .bool false, .int .i64 5] rfl (by (try simp only [List.map_toArray, List.map_cons, List.map_nil]); first | done | rfl | (simp only [List.length_drop, List.length_take]; rfl)) ?_; (with_reducible refine (quirelaw19_split.calls k 5 5 2 2 0 false 5 true _ A2.out).mono ?_); rintro e w20 ⟨rfl, hb⟩; refine ⟨_, rfl, ?_⟩; have n0_ := Aside0.mk (below_step (by repeat (first | (with_reducible first | exact HB.out | apply below_alloc | apply pw_below_drewN | apply below_drew1) | exact HB.out)) hb); clear HB; have HB := n0_; clear n0_; (try clear hb); (try clear hb2); (try clear hk); (try clear hi)) | (go_at_call 24; (with_reducible refine (quirelaw19_split.calls k 5 1 2 2 0 false 0 true _ A4.out).mono ?_); rintro e w21 ⟨rfl, hb⟩; have n0_ := Aside0.mk (below_step (by repeat (first | (with_reducible first | exact HB.out | apply below_alloc | apply pw_below_drewN | apply below_drew1) | exact HB.out)) hb); clear HB; have HB := n0_; clear n0_; (try clear hb); (try clear hb2); (try clear hk); (try clear hi)) | (go_at_call 24; (with_reducible refine (quirelaw19_split.calls k 3 2 2 2 0 false 0 false _ A6.out).mono ?_); rintro e w22 ⟨rfl, hb⟩; have n0_ := Aside0.mk (below_step (by repeat (first | (with_reducible first | exact HB.out | apply below_alloc | apply pw_below_drewN | apply below_drew1) | exact HB.out)) hb); clear HB; have HB := n0_; clear n0_; (try clear hb); (try clear hb2); (try clear hk); (try clear hi)))
          go_meet
          case rel => exact ⟨_, (false), (by first | rfl | (simp; done) | (simp [*]; done)), H', ⟨by first | omega | exact Nat.le_refl _⟩, ⟨by repeat (first | (with_reducible first | exact HB.out | apply below_alloc | apply pw_below_drewN | apply below_drew1) | exact HB.out)⟩⟩
      · replace c5 := Bool.eq_false_iff.mpr c5
        subst c5
        have H1 : (quirelaw19_ColumnKnown.j0 k false) = some true := by rw [if_neg (show ¬ (false = true) by decide)] at H; exact H
        clear H
        have H := H1
        clear H1
        have H' := Aside0.mk H
        clear H
        go_wp2_with (first | ((with_reducible refine gate_callee (f := 24) rfl ?_); refine goesL_ (some 19) rfl rfl Try.func24 (by kernel_rfl) rfl #[.int .i64 5, .int .i64 5, .int .i64 2, .int .i64 2, .int .i64 0, .bool false, .int .i64 5] rfl (by (try simp only [List.map_toArray, List.map_cons, List.map_nil]); first | done | rfl | (simp only [List.length_drop, List.length_take]; rfl)) ?_; (with_reducible refine (quirelaw19_split.calls k 5 5 2 2 0 false 5 true _ A2.out).mono ?_); rintro e w23 ⟨rfl, hb⟩; refine ⟨_, rfl, ?_⟩; have n0_ := Aside0.mk (below_step (by repeat (first | (with_reducible first | exact HB.out | apply below_alloc | apply pw_below_drewN | apply below_drew1) | exact HB.out)) hb); clear HB; have HB := n0_; clear n0_; (try clear hb); (try clear hb2); (try clear hk); (try clear hi)) | (go_at_call 24; (with_reducible refine (quirelaw19_split.calls k 5 1 2 2 0 false 0 false _ A4.out).mono ?_); rintro e w24 ⟨rfl, hb⟩; have n0_ := Aside0.mk (below_step (by repeat (first | (with_reducible first | exact HB.out | apply below_alloc | apply pw_below_drewN | apply below_drew1) | exact HB.out)) hb); clear HB; have HB := n0_; clear n0_; (try clear hb); (try clear hb2); (try clear hk); (try clear hi)))
        go_meet
        case rel => exact ⟨_, (false), (by first | rfl | (simp; done) | (simp [*]; done)), H', ⟨by first | omega | exact Nat.le_refl _⟩, ⟨by repeat (first | (with_reducible first | exact HB.out | apply below_alloc | apply pw_below_drewN | apply below_drew1) | exact HB.out)⟩⟩
    · replace c3 := Bool.eq_false_iff.mpr c3
      subst c3
      have H1 : (quirelaw19_ColumnKnown.j0 k false) = some true := by rw [if_neg (show ¬ (false = true) by decide)] at H; exact H
      clear H
      have H := H1
      clear H1
      have H' := Aside0.mk H
      clear H
      go_wp2_with (first | ((with_reducible refine gate_callee (f := 24) rfl ?_); refine goesL_ (some 19) rfl rfl Try.func24 (by kernel_rfl) rfl #[.int .i64 5, .int .i64 5, .int .i64 2, .int .i64 2, .int .i64 0, .bool false, .int .i64 5] rfl (by (try simp only [List.map_toArray, List.map_cons, List.map_nil]); first | done | rfl | (simp only [List.length_drop, List.length_take]; rfl)) ?_; (with_reducible refine (quirelaw19_split.calls k 5 5 2 2 0 false 5 false _ A2.out).mono ?_); rintro e w25 ⟨rfl, hb⟩; refine ⟨_, rfl, ?_⟩; have n0_ := Aside0.mk (below_step (by repeat (first | (with_reducible first | exact HB.out | apply below_alloc | apply pw_below_drewN | apply below_drew1) | exact HB.out)) hb); clear HB; have HB := n0_; clear n0_; (try clear hb); (try clear hb2); (try clear hk); (try clear hi)))
      go_meet
      case rel => exact ⟨_, (false), (by first | rfl | (simp; done) | (simp [*]; done)), H', ⟨by first | omega | exact Nat.le_refl _⟩, ⟨by repeat (first | (with_reducible first | exact HB.out | apply below_alloc | apply pw_below_drewN | apply below_drew1) | exact HB.out)⟩⟩
  case rest =>
    clear HC1
    try clear c2
    try clear p2
    try clear c3
    try clear c5
    try clear c7
    try clear c9
    try clear c24
    obtain ⟨kq, x1_0, rfl, HA, HJ0, HB⟩ := hcut
    cases kq with
    | zero => exact absurd HA.out (by simp [quirelaw19_ColumnKnown.j0])
    | succ kj0 =>
      have H := HA.out
      clear HA
      simp only [quirelaw19_ColumnKnown.j0] at H
      replace H := Option.bind_eq_some_iff.mp H
      obtain ⟨t158, A260, H⟩ := H
      replace H : ((column_Height.f kj0 t158 0 3).bind fun bt161 => ((quirelaw19_example.f).bind fun t163 => ((column_Height.f kj0 t163 1 3).bind fun bt166 => ((quirelaw19_example.f).bind fun t168 => ((column_Columns.f kj0 t168 30 3).bind fun bt171 => ((column_Split.f kj0 0 0 1 1 0 false).bind fun bt176 => ((quirelaw19_example.f).bind fun t178 => ((column_Fill.f kj0 t178 5 9).bind fun bt181 => ((quirelaw19_example.f).bind fun t185 => ((column_Fill.f kj0 t185 0 (-1)).bind fun bt188 => ((quirelaw19_awake.f kj0).bind fun t192 => (if t192 = true then (if x1_0 = true then (if bt161.1 = 35 then (if bt166.1 = 20 then ((quirelaw19_fill.f kj0 0 30 1 10 false).bind fun t193 => (if t193 = true then ((quirelaw19_fill.f kj0 1 15 2 10 true).bind fun t194 => (if t194 = true then ((quirekit_SameInts.f kj0 bt171.1 (([1, 3, 4] : List Int))).bind fun t198 => (if t198 = true then (if bt171.2.1 = true then (some false) else (if bt171.2.2 = 0 then (if bt176.2 = 5 then (if bt181.2.2.2 = 5 then (some (bt188.2.2.2 == 5)) else (some false)) else (some false)) else (some false))) else (some false))) else (some false))) else (some false))) else (some false)) else (some false)) else (some false)) else (some false))))))))))))) = some true := H
      have A26 := Aside0.mk A260
      clear A260
      replace H := Option.bind_eq_some_iff.mp H
      obtain ⟨⟨t161, t162⟩, A270, H⟩ := H
      replace H : ((quirelaw19_example.f).bind fun t163 => ((column_Height.f kj0 t163 1 3).bind fun bt166 => ((quirelaw19_example.f).bind fun t168 => ((column_Columns.f kj0 t168 30 3).bind fun bt171 => ((column_Split.f kj0 0 0 1 1 0 false).bind fun bt176 => ((quirelaw19_example.f).bind fun t178 => ((column_Fill.f kj0 t178 5 9).bind fun bt181 => ((quirelaw19_example.f).bind fun t185 => ((column_Fill.f kj0 t185 0 (-1)).bind fun bt188 => ((quirelaw19_awake.f kj0).bind fun t192 => (if t192 = true then (if x1_0 = true then (if t161 = 35 then (if bt166.1 = 20 then ((quirelaw19_fill.f kj0 0 30 1 10 false).bind fun t193 => (if t193 = true then ((quirelaw19_fill.f kj0 1 15 2 10 true).bind fun t194 => (if t194 = true then ((quirekit_SameInts.f kj0 bt171.1 (([1, 3, 4] : List Int))).bind fun t198 => (if t198 = true then (if bt171.2.1 = true then (some false) else (if bt171.2.2 = 0 then (if bt176.2 = 5 then (if bt181.2.2.2 = 5 then (some (bt188.2.2.2 == 5)) else (some false)) else (some false)) else (some false))) else (some false))) else (some false))) else (some false))) else (some false)) else (some false)) else (some false)) else (some false)))))))))))) = some true := H
      have A27 := Aside0.mk A270
      clear A270
      replace H := Option.bind_eq_some_iff.mp H
      obtain ⟨t163, A280, H⟩ := H
      replace H : ((column_Height.f kj0 t163 1 3).bind fun bt166 => ((quirelaw19_example.f).bind fun t168 => ((column_Columns.f kj0 t168 30 3).bind fun bt171 => ((column_Split.f kj0 0 0 1 1 0 false).bind fun bt176 => ((quirelaw19_example.f).bind fun t178 => ((column_Fill.f kj0 t178 5 9).bind fun bt181 => ((quirelaw19_example.f).bind fun t185 => ((column_Fill.f kj0 t185 0 (-1)).bind fun bt188 => ((quirelaw19_awake.f kj0).bind fun t192 => (if t192 = true then (if x1_0 = true then (if t161 = 35 then (if bt166.1 = 20 then ((quirelaw19_fill.f kj0 0 30 1 10 false).bind fun t193 => (if t193 = true then ((quirelaw19_fill.f kj0 1 15 2 10 true).bind fun t194 => (if t194 = true then ((quirekit_SameInts.f kj0 bt171.1 (([1, 3, 4] : List Int))).bind fun t198 => (if t198 = true then (if bt171.2.1 = true then (some false) else (if bt171.2.2 = 0 then (if bt176.2 = 5 then (if bt181.2.2.2 = 5 then (some (bt188.2.2.2 == 5)) else (some false)) else (some false)) else (some false))) else (some false))) else (some false))) else (some false))) else (some false)) else (some false)) else (some false)) else (some false))))))))))) = some true := H
      have A28 := Aside0.mk A280
      clear A280
      replace H := Option.bind_eq_some_iff.mp H
      obtain ⟨⟨t166, t167⟩, A290, H⟩ := H
      replace H : ((quirelaw19_example.f).bind fun t168 => ((column_Columns.f kj0 t168 30 3).bind fun bt171 => ((column_Split.f kj0 0 0 1 1 0 false).bind fun bt176 => ((quirelaw19_example.f).bind fun t178 => ((column_Fill.f kj0 t178 5 9).bind fun bt181 => ((quirelaw19_example.f).bind fun t185 => ((column_Fill.f kj0 t185 0 (-1)).bind fun bt188 => ((quirelaw19_awake.f kj0).bind fun t192 => (if t192 = true then (if x1_0 = true then (if t161 = 35 then (if t166 = 20 then ((quirelaw19_fill.f kj0 0 30 1 10 false).bind fun t193 => (if t193 = true then ((quirelaw19_fill.f kj0 1 15 2 10 true).bind fun t194 => (if t194 = true then ((quirekit_SameInts.f kj0 bt171.1 (([1, 3, 4] : List Int))).bind fun t198 => (if t198 = true then (if bt171.2.1 = true then (some false) else (if bt171.2.2 = 0 then (if bt176.2 = 5 then (if bt181.2.2.2 = 5 then (some (bt188.2.2.2 == 5)) else (some false)) else (some false)) else (some false))) else (some false))) else (some false))) else (some false))) else (some false)) else (some false)) else (some false)) else (some false)))))))))) = some true := H
      have A29 := Aside0.mk A290
      clear A290
      replace H := Option.bind_eq_some_iff.mp H
      obtain ⟨t168, A300, H⟩ := H
      replace H : ((column_Columns.f kj0 t168 30 3).bind fun bt171 => ((column_Split.f kj0 0 0 1 1 0 false).bind fun bt176 => ((quirelaw19_example.f).bind fun t178 => ((column_Fill.f kj0 t178 5 9).bind fun bt181 => ((quirelaw19_example.f).bind fun t185 => ((column_Fill.f kj0 t185 0 (-1)).bind fun bt188 => ((quirelaw19_awake.f kj0).bind fun t192 => (if t192 = true then (if x1_0 = true then (if t161 = 35 then (if t166 = 20 then ((quirelaw19_fill.f kj0 0 30 1 10 false).bind fun t193 => (if t193 = true then ((quirelaw19_fill.f kj0 1 15 2 10 true).bind fun t194 => (if t194 = true then ((quirekit_SameInts.f kj0 bt171.1 (([1, 3, 4] : List Int))).bind fun t198 => (if t198 = true then (if bt171.2.1 = true then (some false) else (if bt171.2.2 = 0 then (if bt176.2 = 5 then (if bt181.2.2.2 = 5 then (some (bt188.2.2.2 == 5)) else (some false)) else (some false)) else (some false))) else (some false))) else (some false))) else (some false))) else (some false)) else (some false)) else (some false)) else (some false))))))))) = some true := H
      have A30 := Aside0.mk A300
      clear A300
      replace H := Option.bind_eq_some_iff.mp H
      obtain ⟨⟨t171, t172, t173⟩, A310, H⟩ := H
      replace H : ((column_Split.f kj0 0 0 1 1 0 false).bind fun bt176 => ((quirelaw19_example.f).bind fun t178 => ((column_Fill.f kj0 t178 5 9).bind fun bt181 => ((quirelaw19_example.f).bind fun t185 => ((column_Fill.f kj0 t185 0 (-1)).bind fun bt188 => ((quirelaw19_awake.f kj0).bind fun t192 => (if t192 = true then (if x1_0 = true then (if t161 = 35 then (if t166 = 20 then ((quirelaw19_fill.f kj0 0 30 1 10 false).bind fun t193 => (if t193 = true then ((quirelaw19_fill.f kj0 1 15 2 10 true).bind fun t194 => (if t194 = true then ((quirekit_SameInts.f kj0 t171 (([1, 3, 4] : List Int))).bind fun t198 => (if t198 = true then (if t172 = true then (some false) else (if t173 = 0 then (if bt176.2 = 5 then (if bt181.2.2.2 = 5 then (some (bt188.2.2.2 == 5)) else (some false)) else (some false)) else (some false))) else (some false))) else (some false))) else (some false))) else (some false)) else (some false)) else (some false)) else (some false)))))))) = some true := H
      have A31 := Aside0.mk A310
      clear A310
      replace H := Option.bind_eq_some_iff.mp H
      obtain ⟨⟨t176, t177⟩, A320, H⟩ := H
      replace H : ((quirelaw19_example.f).bind fun t178 => ((column_Fill.f kj0 t178 5 9).bind fun bt181 => ((quirelaw19_example.f).bind fun t185 => ((column_Fill.f kj0 t185 0 (-1)).bind fun bt188 => ((quirelaw19_awake.f kj0).bind fun t192 => (if t192 = true then (if x1_0 = true then (if t161 = 35 then (if t166 = 20 then ((quirelaw19_fill.f kj0 0 30 1 10 false).bind fun t193 => (if t193 = true then ((quirelaw19_fill.f kj0 1 15 2 10 true).bind fun t194 => (if t194 = true then ((quirekit_SameInts.f kj0 t171 (([1, 3, 4] : List Int))).bind fun t198 => (if t198 = true then (if t172 = true then (some false) else (if t173 = 0 then (if t177 = 5 then (if bt181.2.2.2 = 5 then (some (bt188.2.2.2 == 5)) else (some false)) else (some false)) else (some false))) else (some false))) else (some false))) else (some false))) else (some false)) else (some false)) else (some false)) else (some false))))))) = some true := H
      have A32 := Aside0.mk A320
      clear A320
      replace H := Option.bind_eq_some_iff.mp H
      obtain ⟨t178, A330, H⟩ := H
      replace H : ((column_Fill.f kj0 t178 5 9).bind fun bt181 => ((quirelaw19_example.f).bind fun t185 => ((column_Fill.f kj0 t185 0 (-1)).bind fun bt188 => ((quirelaw19_awake.f kj0).bind fun t192 => (if t192 = true then (if x1_0 = true then (if t161 = 35 then (if t166 = 20 then ((quirelaw19_fill.f kj0 0 30 1 10 false).bind fun t193 => (if t193 = true then ((quirelaw19_fill.f kj0 1 15 2 10 true).bind fun t194 => (if t194 = true then ((quirekit_SameInts.f kj0 t171 (([1, 3, 4] : List Int))).bind fun t198 => (if t198 = true then (if t172 = true then (some false) else (if t173 = 0 then (if t177 = 5 then (if bt181.2.2.2 = 5 then (some (bt188.2.2.2 == 5)) else (some false)) else (some false)) else (some false))) else (some false))) else (some false))) else (some false))) else (some false)) else (some false)) else (some false)) else (some false)))))) = some true := H
      have A33 := Aside0.mk A330
      clear A330
      replace H := Option.bind_eq_some_iff.mp H
      obtain ⟨⟨t181, t182, t183, t184⟩, A340, H⟩ := H
      replace H : ((quirelaw19_example.f).bind fun t185 => ((column_Fill.f kj0 t185 0 (-1)).bind fun bt188 => ((quirelaw19_awake.f kj0).bind fun t192 => (if t192 = true then (if x1_0 = true then (if t161 = 35 then (if t166 = 20 then ((quirelaw19_fill.f kj0 0 30 1 10 false).bind fun t193 => (if t193 = true then ((quirelaw19_fill.f kj0 1 15 2 10 true).bind fun t194 => (if t194 = true then ((quirekit_SameInts.f kj0 t171 (([1, 3, 4] : List Int))).bind fun t198 => (if t198 = true then (if t172 = true then (some false) else (if t173 = 0 then (if t177 = 5 then (if t184 = 5 then (some (bt188.2.2.2 == 5)) else (some false)) else (some false)) else (some false))) else (some false))) else (some false))) else (some false))) else (some false)) else (some false)) else (some false)) else (some false))))) = some true := H
      have A34 := Aside0.mk A340
      clear A340
      replace H := Option.bind_eq_some_iff.mp H
      obtain ⟨t185, A350, H⟩ := H
      replace H : ((column_Fill.f kj0 t185 0 (-1)).bind fun bt188 => ((quirelaw19_awake.f kj0).bind fun t192 => (if t192 = true then (if x1_0 = true then (if t161 = 35 then (if t166 = 20 then ((quirelaw19_fill.f kj0 0 30 1 10 false).bind fun t193 => (if t193 = true then ((quirelaw19_fill.f kj0 1 15 2 10 true).bind fun t194 => (if t194 = true then ((quirekit_SameInts.f kj0 t171 (([1, 3, 4] : List Int))).bind fun t198 => (if t198 = true then (if t172 = true then (some false) else (if t173 = 0 then (if t177 = 5 then (if t184 = 5 then (some (bt188.2.2.2 == 5)) else (some false)) else (some false)) else (some false))) else (some false))) else (some false))) else (some false))) else (some false)) else (some false)) else (some false)) else (some false)))) = some true := H
      have A35 := Aside0.mk A350
      clear A350
      replace H := Option.bind_eq_some_iff.mp H
      obtain ⟨⟨t188, t189, t190, t191⟩, A360, H⟩ := H
      replace H : ((quirelaw19_awake.f kj0).bind fun t192 => (if t192 = true then (if x1_0 = true then (if t161 = 35 then (if t166 = 20 then ((quirelaw19_fill.f kj0 0 30 1 10 false).bind fun t193 => (if t193 = true then ((quirelaw19_fill.f kj0 1 15 2 10 true).bind fun t194 => (if t194 = true then ((quirekit_SameInts.f kj0 t171 (([1, 3, 4] : List Int))).bind fun t198 => (if t198 = true then (if t172 = true then (some false) else (if t173 = 0 then (if t177 = 5 then (if t184 = 5 then (some (t191 == 5)) else (some false)) else (some false)) else (some false))) else (some false))) else (some false))) else (some false))) else (some false)) else (some false)) else (some false)) else (some false))) = some true := H
      have A36 := Aside0.mk A360
      clear A360
      replace H := Option.bind_eq_some_iff.mp H
      obtain ⟨t192, A370, H⟩ := H
      replace H : (if t192 = true then (if x1_0 = true then (if t161 = 35 then (if t166 = 20 then ((quirelaw19_fill.f kj0 0 30 1 10 false).bind fun t193 => (if t193 = true then ((quirelaw19_fill.f kj0 1 15 2 10 true).bind fun t194 => (if t194 = true then ((quirekit_SameInts.f kj0 t171 (([1, 3, 4] : List Int))).bind fun t198 => (if t198 = true then (if t172 = true then (some false) else (if t173 = 0 then (if t177 = 5 then (if t184 = 5 then (some (t191 == 5)) else (some false)) else (some false)) else (some false))) else (some false))) else (some false))) else (some false))) else (some false)) else (some false)) else (some false)) else (some false)) = some true := H
      have A37 := Aside0.mk A370
      clear A370
      by_cases c38 : t192 = true
      · subst c38
        have H1 : (if x1_0 = true then (if t161 = 35 then (if t166 = 20 then ((quirelaw19_fill.f kj0 0 30 1 10 false).bind fun t193 => (if t193 = true then ((quirelaw19_fill.f kj0 1 15 2 10 true).bind fun t194 => (if t194 = true then ((quirekit_SameInts.f kj0 t171 (([1, 3, 4] : List Int))).bind fun t198 => (if t198 = true then (if t172 = true then (some false) else (if t173 = 0 then (if t177 = 5 then (if t184 = 5 then (some (t191 == 5)) else (some false)) else (some false)) else (some false))) else (some false))) else (some false))) else (some false))) else (some false)) else (some false)) else (some false)) = some true := by rw [if_pos rfl] at H; exact H
        clear H
        have H := H1
        clear H1
        by_cases c39 : x1_0 = true
        · subst c39
          have H1 : (if t161 = 35 then (if t166 = 20 then ((quirelaw19_fill.f kj0 0 30 1 10 false).bind fun t193 => (if t193 = true then ((quirelaw19_fill.f kj0 1 15 2 10 true).bind fun t194 => (if t194 = true then ((quirekit_SameInts.f kj0 t171 (([1, 3, 4] : List Int))).bind fun t198 => (if t198 = true then (if t172 = true then (some false) else (if t173 = 0 then (if t177 = 5 then (if t184 = 5 then (some (t191 == 5)) else (some false)) else (some false)) else (some false))) else (some false))) else (some false))) else (some false))) else (some false)) else (some false)) = some true := by rw [if_pos rfl] at H; exact H
          clear H
          have H := H1
          clear H1
          by_cases c40 : t161 = 35
          · rw [if_pos c40] at H
            have c40b0 : (t161 == 35) = true := beq_iff_eq.mpr c40
            have c40b1 : (t161 != 35) = false := bne_eq_false_iff_eq.mpr c40
            clear c40
            by_cases c41 : t166 = 20
            · rw [if_pos c41] at H
              have c41b0 : (t166 == 20) = true := beq_iff_eq.mpr c41
              have c41b1 : (t166 != 20) = false := bne_eq_false_iff_eq.mpr c41
              clear c41
              replace H := Option.bind_eq_some_iff.mp H
              obtain ⟨t193, A420, H⟩ := H
              replace H : (if t193 = true then ((quirelaw19_fill.f kj0 1 15 2 10 true).bind fun t194 => (if t194 = true then ((quirekit_SameInts.f kj0 t171 (([1, 3, 4] : List Int))).bind fun t198 => (if t198 = true then (if t172 = true then (some false) else (if t173 = 0 then (if t177 = 5 then (if t184 = 5 then (some (t191 == 5)) else (some false)) else (some false)) else (some false))) else (some false))) else (some false))) else (some false)) = some true := H
              have A42 := Aside0.mk A420
              clear A420
              by_cases c43 : t193 = true
              · subst c43
                have H1 : ((quirelaw19_fill.f kj0 1 15 2 10 true).bind fun t194 => (if t194 = true then ((quirekit_SameInts.f kj0 t171 (([1, 3, 4] : List Int))).bind fun t198 => (if t198 = true then (if t172 = true then (some false) else (if t173 = 0 then (if t177 = 5 then (if t184 = 5 then (some (t191 == 5)) else (some false)) else (some false)) else (some false))) else (some false))) else (some false))) = some true := by rw [if_pos rfl] at H; exact H
                clear H
                have H := H1
                clear H1
                replace H := Option.bind_eq_some_iff.mp H
                obtain ⟨t194, A440, H⟩ := H
                replace H : (if t194 = true then ((quirekit_SameInts.f kj0 t171 (([1, 3, 4] : List Int))).bind fun t198 => (if t198 = true then (if t172 = true then (some false) else (if t173 = 0 then (if t177 = 5 then (if t184 = 5 then (some (t191 == 5)) else (some false)) else (some false)) else (some false))) else (some false))) else (some false)) = some true := H
                have A44 := Aside0.mk A440
                clear A440
                by_cases c45 : t194 = true
                · subst c45
                  have H1 : ((quirekit_SameInts.f kj0 t171 (([1, 3, 4] : List Int))).bind fun t198 => (if t198 = true then (if t172 = true then (some false) else (if t173 = 0 then (if t177 = 5 then (if t184 = 5 then (some (t191 == 5)) else (some false)) else (some false)) else (some false))) else (some false))) = some true := by rw [if_pos rfl] at H; exact H
                  clear H
                  have H := H1
                  clear H1
                  obtain ⟨y195, hy195⟩ : ∃ y_ : List Int, y_ = (([1, 3, 4] : List Int)) := ⟨_, rfl⟩
                  replace H : ((quirekit_SameInts.f kj0 t171 y195).bind fun t198 => (if t198 = true then (if t172 = true then (some false) else (if t173 = 0 then (if t177 = 5 then (if t184 = 5 then (some (t191 == 5)) else (some false)) else (some false)) else (some false))) else (some false))) = some true := by first | (rw [hy195]; with_reducible exact H) | (have H2_ := (Option.bind_some _ _).symm.trans H; rw [hy195]; with_reducible exact H2_) | (have H2_ := (Option.bind_some _ _).symm.trans H; with_reducible exact H2_) | with_reducible exact H | (rw [hy195]; exact H) | exact H
                  have Ny195 := Aside0.mk hy195
                  clear hy195
                  replace H := Option.bind_eq_some_iff.mp H
                  obtain ⟨t198, A460, H⟩ := H
                  replace H : (if t198 = true then (if t172 = true then (some false) else (if t173 = 0 then (if t177 = 5 then (if t184 = 5 then (some (t191 == 5)) else (some false)) else (some false)) else (some false))) else (some false)) = some true := H
                  have A46 := Aside0.mk A460
                  clear A460
                  by_cases c47 : t198 = true
                  · subst c47
                    have H1 : (if t172 = true then (some false) else (if t173 = 0 then (if t177 = 5 then (if t184 = 5 then (some (t191 == 5)) else (some false)) else (some false)) else (some false))) = some true := by rw [if_pos rfl] at H; exact H
                    clear H
                    have H := H1
                    clear H1
                    by_cases c48 : t172 = true
                    · subst c48
                      have H1 : (some false) = some true := by rw [if_pos rfl] at H; exact H
                      clear H
                      have H := H1
                      clear H1
                      obtain H_ := Option.some.inj H
                      exact absurd H_ (by decide)
                    · replace c48 := Bool.eq_false_iff.mpr c48
                      subst c48
                      have H1 : (if t173 = 0 then (if t177 = 5 then (if t184 = 5 then (some (t191 == 5)) else (some false)) else (some false)) else (some false)) = some true := by rw [if_neg (show ¬ (false = true) by decide)] at H; exact H
                      clear H
                      have H := H1
                      clear H1
                      by_cases c72 : t173 = 0
                      · rw [if_pos c72] at H
                        have c72b0 : (t173 == 0) = true := beq_iff_eq.mpr c72
                        have c72b1 : (t173 != 0) = false := bne_eq_false_iff_eq.mpr c72
                        clear c72
                        by_cases c73 : t177 = 5
                        · rw [if_pos c73] at H
                          have c73b0 : (t177 == 5) = true := beq_iff_eq.mpr c73
                          have c73b1 : (t177 != 5) = false := bne_eq_false_iff_eq.mpr c73
                          clear c73
                          by_cases c74 : t184 = 5
                          · rw [if_pos c74] at H
                            have c74b0 : (t184 == 5) = true := beq_iff_eq.mpr c74
                            have c74b1 : (t184 != 5) = false := bne_eq_false_iff_eq.mpr c74
                            clear c74
                            obtain H_ := Option.some.inj H
                            go_wp2_with (first | ((with_reducible refine gate_callee (f := 25) rfl ?_); refine goesL_ (some 33) rfl rfl Try.func25 (by kernel_rfl) rfl #[] rfl (by (try simp only [List.map_toArray, List.map_cons, List.map_nil]); first | done | rfl | (simp only [List.length_drop, List.length_take]; rfl)) ?_; (with_reducible refine (quirelaw19_example.calls  t158 _ A26.out).mono ?_); rintro e w75 ⟨v159, rfl, ho0, hb⟩; refine ⟨_, rfl, ?_⟩; have n0_ := Aside0.mk (Kd.R_lower ho0 (below_size (by repeat (first | (with_reducible first | exact HB.out | apply below_alloc | apply pw_below_drewN | apply below_drew1) | exact HB.out)))); have n1_ := Aside0.mk (below_step (by repeat (first | (with_reducible first | exact HB.out | apply below_alloc | apply pw_below_drewN | apply below_drew1) | exact HB.out)) hb); clear HB; have HO160 := n0_; have HB := n1_; clear n0_ n1_; (try clear hb); (try clear hb2); (try clear hk); (try clear hi); (try clear ho0); obtain ⟨Ao76, co76, eo76⟩ := Kd.R_slice HO160.out; subst eo76) | ((with_reducible refine gate_callee (f := 15) rfl ?_); refine goesL_ (some 34) rfl rfl Try.func15 (by kernel_rfl) rfl #[.slice Ao76 t158.length co76, .int .i64 0, .int .i64 3] rfl (by (try simp only [List.map_toArray, List.map_cons, List.map_nil]); first | done | rfl | (simp only [List.length_drop, List.length_take]; rfl)) ?_; (with_reducible refine (column_Height.calls kj0 _ _ t158 0 3 t161 t162 _ ?side1 ?side2 A27.out).mono ?_); (case side1 => repeat (first | exact (Kd.R_reads' HO160.out).2.2 | (with_reducible refine Kd.C_alloc ?_ _) | (with_reducible refine Kd.C_drewN ?_ _) | (with_reducible refine Kd.C_drew ?_))); (case side2 => exact (Kd.R_reads' HO160.out).2.1); rintro e w77 ⟨rfl, hb⟩; refine ⟨_, rfl, ?_⟩; have n0_ := Aside0.mk (Kd.R_below (by (with_reducible repeat (first | apply Kd.R_alloc | apply Kd.R_drewN | apply Kd.R_drew)); exact HO160.out) hb); have n1_ := Aside0.mk (below_step (by repeat (first | (with_reducible first | exact HB.out | apply below_alloc | apply pw_below_drewN | apply below_drew1) | exact HB.out)) hb); clear HO160; clear HB; have HO160 := n0_; have HB := n1_; clear n0_ n1_; (try clear hb); (try clear hb2); (try clear hk); (try clear hi)) | ((with_reducible refine gate_callee (f := 25) rfl ?_); refine goesL_ (some 38) rfl rfl Try.func25 (by kernel_rfl) rfl #[] rfl (by (try simp only [List.map_toArray, List.map_cons, List.map_nil]); first | done | rfl | (simp only [List.length_drop, List.length_take]; rfl)) ?_; (with_reducible refine (quirelaw19_example.calls  t163 _ A28.out).mono ?_); rintro e w78 ⟨v164, rfl, ho0, hb⟩; refine ⟨_, rfl, ?_⟩; have n0_ := Aside0.mk (Kd.R_elder' (by (with_reducible repeat (first | apply Kd.R_alloc | apply Kd.R_drewN | apply Kd.R_drew)); exact HO160.out) (Kd.R_base ho0) hb); have n1_ := Aside0.mk (Kd.R_lower (Kd.R_new' ho0 (Kd.R_lt (by (with_reducible repeat (first | apply Kd.R_alloc | apply Kd.R_drewN | apply Kd.R_drew)); exact HO160.out))) (below_size (by repeat (first | (with_reducible first | exact HB.out | apply below_alloc | apply pw_below_drewN | apply below_drew1) | exact HB.out)))); have n2_ := Aside0.mk (below_step (by repeat (first | (with_reducible first | exact HB.out | apply below_alloc | apply pw_below_drewN | apply below_drew1) | exact HB.out)) hb); clear HO160; clear HB; have HO160 := n0_; have HO165 := n1_; have HB := n2_; clear n0_ n1_ n2_; (try clear hb); (try clear hb2); (try clear hk); (try clear hi); (try clear ho0); obtain ⟨Ao79, co79, eo79⟩ := Kd.R_slice HO165.out; subst eo79) | ((with_reducible refine gate_callee (f := 15) rfl ?_); refine goesL_ (some 39) rfl rfl Try.func15 (by kernel_rfl) rfl #[.slice Ao79 t163.length co79, .int .i64 1, .int .i64 3] rfl (by (try simp only [List.map_toArray, List.map_cons, List.map_nil]); first | done | rfl | (simp only [List.length_drop, List.length_take]; rfl)) ?_; (with_reducible refine (column_Height.calls kj0 _ _ t163 1 3 t166 t167 _ ?side1 ?side2 A29.out).mono ?_); (case side1 => repeat (first | exact (Kd.R_reads' HO165.out).2.2 | (with_reducible refine Kd.C_alloc ?_ _) | (with_reducible refine Kd.C_drewN ?_ _) | (with_reducible refine Kd.C_drew ?_))); (case side2 => exact (Kd.R_reads' HO165.out).2.1); rintro e w80 ⟨rfl, hb⟩; refine ⟨_, rfl, ?_⟩; have n0_ := Aside0.mk (Kd.R_below (by (with_reducible repeat (first | apply Kd.R_alloc | apply Kd.R_drewN | apply Kd.R_drew)); exact HO160.out) hb); have n1_ := Aside0.mk (Kd.R_below (by (with_reducible repeat (first | apply Kd.R_alloc | apply Kd.R_drewN | apply Kd.R_drew)); exact HO165.out) hb); have n2_ := Aside0.mk (below_step (by repeat (first | (with_reducible first | exact HB.out | apply below_alloc | apply pw_below_drewN | apply below_drew1) | exact HB.out)) hb); clear HO160; clear HO165; clear HB; have HO160 := n0_; have HO165 := n1_; have HB := n2_; clear n0_ n1_ n2_; (try clear hb); (try clear hb2); (try clear hk); (try clear hi)) | ((with_reducible refine gate_callee (f := 25) rfl ?_); refine goesL_ (some 43) rfl rfl Try.func25 (by kernel_rfl) rfl #[] rfl (by (try simp only [List.map_toArray, List.map_cons, List.map_nil]); first | done | rfl | (simp only [List.length_drop, List.length_take]; rfl)) ?_; (with_reducible refine (quirelaw19_example.calls  t168 _ A30.out).mono ?_); rintro e w81 ⟨v169, rfl, ho0, hb⟩; refine ⟨_, rfl, ?_⟩; have n0_ := Aside0.mk (Kd.R_elder' (by (with_reducible repeat (first | apply Kd.R_alloc | apply Kd.R_drewN | apply Kd.R_drew)); exact HO160.out) (Kd.R_base ho0) hb); have n1_ := Aside0.mk (Kd.R_elder' (by (with_reducible repeat (first | apply Kd.R_alloc | apply Kd.R_drewN | apply Kd.R_drew)); exact HO165.out) (Kd.R_base ho0) hb); have n2_ := Aside0.mk (Kd.R_lower (Kd.R_new' (Kd.R_new' ho0 (Kd.R_lt (by (with_reducible repeat (first | apply Kd.R_alloc | apply Kd.R_drewN | apply Kd.R_drew)); exact HO160.out))) (Kd.R_lt (by (with_reducible repeat (first | apply Kd.R_alloc | apply Kd.R_drewN | apply Kd.R_drew)); exact HO165.out))) (below_size (by repeat (first | (with_reducible first | exact HB.out | apply below_alloc | apply pw_below_drewN | apply below_drew1) | exact HB.out)))); have n3_ := Aside0.mk (below_step (by repeat (first | (with_reducible first | exact HB.out | apply below_alloc | apply pw_below_drewN | apply below_drew1) | exact HB.out)) hb); clear HO160; clear HO165; clear HB; have HO160 := n0_; have HO165 := n1_; have HO170 := n2_; have HB := n3_; clear n0_ n1_ n2_ n3_; (try clear hb); (try clear hb2); (try clear hk); (try clear hi); (try clear ho0); obtain ⟨Ao82, co82, eo82⟩ := Kd.R_slice HO170.out; subst eo82) | ((with_reducible refine gate_callee (f := 17) rfl ?_); refine goesL_ (some 44) rfl rfl Try.func17 (by kernel_rfl) rfl #[.slice Ao82 t168.length co82, .int .i64 30, .int .i64 3] rfl (by (try simp only [List.map_toArray, List.map_cons, List.map_nil]); first | done | rfl | (simp only [List.length_drop, List.length_take]; rfl)) ?_; (with_reducible refine (column_Columns.calls kj0 _ _ t168 30 3 t171 false t173 _ ?side1 ?side2 A31.out).mono ?_); (case side1 => repeat (first | exact (Kd.R_reads' HO170.out).2.2 | (with_reducible refine Kd.C_alloc ?_ _) | (with_reducible refine Kd.C_drewN ?_ _) | (with_reducible refine Kd.C_drew ?_))); (case side2 => exact (Kd.R_reads' HO170.out).2.1); rintro e w83 ⟨v174, rfl, ho0, hb⟩; refine ⟨_, rfl, ?_⟩; have n0_ := Aside0.mk (Kd.R_below (by (with_reducible repeat (first | apply Kd.R_alloc | apply Kd.R_drewN | apply Kd.R_drew)); exact HO160.out) hb); have n1_ := Aside0.mk (Kd.R_below (by (with_reducible repeat (first | apply Kd.R_alloc | apply Kd.R_drewN | apply Kd.R_drew)); exact HO165.out) hb); have n2_ := Aside0.mk (Kd.R_below (by (with_reducible repeat (first | apply Kd.R_alloc | apply Kd.R_drewN | apply Kd.R_drew)); exact HO170.out) hb); have n3_ := Aside0.mk (Kd.R_lower ho0 (below_size (by repeat (first | (with_reducible first | exact HB.out | apply below_alloc | apply pw_below_drewN | apply below_drew1) | exact HB.out)))); have n4_ := Aside0.mk (below_step (by repeat (first | (with_reducible first | exact HB.out | apply below_alloc | apply pw_below_drewN | apply below_drew1) | exact HB.out)) hb); clear HO160; clear HO165; clear HO170; clear HB; have HO160 := n0_; have HO165 := n1_; have HO170 := n2_; have HO175 := n3_; have HB := n4_; clear n0_ n1_ n2_ n3_ n4_; (try clear hb); (try clear hb2); (try clear hk); (try clear hi); (try clear ho0)) | ((with_reducible refine gate_callee (f := 11) rfl ?_); refine goesL_ (some 49) rfl rfl Try.func11 (by kernel_rfl) rfl #[.int .i64 0, .int .i64 0, .int .i64 1, .int .i64 1, .int .i64 0, .bool false] rfl (by (try simp only [List.map_toArray, List.map_cons, List.map_nil]); first | done | rfl | (simp only [List.length_drop, List.length_take]; rfl)) ?_; (with_reducible refine (column_Split.calls kj0 0 0 1 1 0 false t176 t177 _ A32.out).mono ?_); rintro e w84 ⟨rfl, hb⟩; refine ⟨_, rfl, ?_⟩; have n0_ := Aside0.mk (Kd.R_below (by (with_reducible repeat (first | apply Kd.R_alloc | apply Kd.R_drewN | apply Kd.R_drew)); exact HO160.out) hb); have n1_ := Aside0.mk (Kd.R_below (by (with_reducible repeat (first | apply Kd.R_alloc | apply Kd.R_drewN | apply Kd.R_drew)); exact HO165.out) hb); have n2_ := Aside0.mk (Kd.R_below (by (with_reducible repeat (first | apply Kd.R_alloc | apply Kd.R_drewN | apply Kd.R_drew)); exact HO170.out) hb); have n3_ := Aside0.mk (Kd.R_below (by (with_reducible repeat (first | apply Kd.R_alloc | apply Kd.R_drewN | apply Kd.R_drew)); exact HO175.out) hb); have n4_ := Aside0.mk (below_step (by repeat (first | (with_reducible first | exact HB.out | apply below_alloc | apply pw_below_drewN | apply below_drew1) | exact HB.out)) hb); clear HO160; clear HO165; clear HO170; clear HO175; clear HB; have HO160 := n0_; have HO165 := n1_; have HO170 := n2_; have HO175 := n3_; have HB := n4_; clear n0_ n1_ n2_ n3_ n4_; (try clear hb); (try clear hb2); (try clear hk); (try clear hi)) | ((with_reducible refine gate_callee (f := 25) rfl ?_); refine goesL_ (some 53) rfl rfl Try.func25 (by kernel_rfl) rfl #[] rfl (by (try simp only [List.map_toArray, List.map_cons, List.map_nil]); first | done | rfl | (simp only [List.length_drop, List.length_take]; rfl)) ?_; (with_reducible refine (quirelaw19_example.calls  t178 _ A33.out).mono ?_); rintro e w85 ⟨v179, rfl, ho0, hb⟩; refine ⟨_, rfl, ?_⟩; have n0_ := Aside0.mk (Kd.R_elder' (by (with_reducible repeat (first | apply Kd.R_alloc | apply Kd.R_drewN | apply Kd.R_drew)); exact HO160.out) (Kd.R_base ho0) hb); have n1_ := Aside0.mk (Kd.R_elder' (by (with_reducible repeat (first | apply Kd.R_alloc | apply Kd.R_drewN | apply Kd.R_drew)); exact HO165.out) (Kd.R_base ho0) hb); have n2_ := Aside0.mk (Kd.R_elder' (by (with_reducible repeat (first | apply Kd.R_alloc | apply Kd.R_drewN | apply Kd.R_drew)); exact HO170.out) (Kd.R_base ho0) hb); have n3_ := Aside0.mk (Kd.R_below (by (with_reducible repeat (first | apply Kd.R_alloc | apply Kd.R_drewN | apply Kd.R_drew)); exact HO175.out) hb); have n4_ := Aside0.mk (Kd.R_lower (Kd.R_new' (Kd.R_new' (Kd.R_new' ho0 (Kd.R_lt (by (with_reducible repeat (first | apply Kd.R_alloc | apply Kd.R_drewN | apply Kd.R_drew)); exact HO160.out))) (Kd.R_lt (by (with_reducible repeat (first | apply Kd.R_alloc | apply Kd.R_drewN | apply Kd.R_drew)); exact HO165.out))) (Kd.R_lt (by (with_reducible repeat (first | apply Kd.R_alloc | apply Kd.R_drewN | apply Kd.R_drew)); exact HO170.out))) (below_size (by repeat (first | (with_reducible first | exact HB.out | apply below_alloc | apply pw_below_drewN | apply below_drew1) | exact HB.out)))); have n5_ := Aside0.mk (below_step (by repeat (first | (with_reducible first | exact HB.out | apply below_alloc | apply pw_below_drewN | apply below_drew1) | exact HB.out)) hb); clear HO160; clear HO165; clear HO170; clear HO175; clear HB; have HO160 := n0_; have HO165 := n1_; have HO170 := n2_; have HO175 := n3_; have HO180 := n4_; have HB := n5_; clear n0_ n1_ n2_ n3_ n4_ n5_; (try clear hb); (try clear hb2); (try clear hk); (try clear hi); (try clear ho0); obtain ⟨Ao86, co86, eo86⟩ := Kd.R_slice HO180.out; subst eo86) | ((with_reducible refine gate_callee (f := 16) rfl ?_); refine goesL_ (some 54) rfl rfl Try.func16 (by kernel_rfl) rfl #[.slice Ao86 t178.length co86, .int .i64 5, .int .i64 9] rfl (by (try simp only [List.map_toArray, List.map_cons, List.map_nil]); first | done | rfl | (simp only [List.length_drop, List.length_take]; rfl)) ?_; (with_reducible refine (column_Fill.calls kj0 _ _ t178 5 9 t181 t182 t183 t184 _ ?side1 ?side2 A34.out).mono ?_); (case side1 => repeat (first | exact (Kd.R_reads' HO180.out).2.2 | (with_reducible refine Kd.C_alloc ?_ _) | (with_reducible refine Kd.C_drewN ?_ _) | (with_reducible refine Kd.C_drew ?_))); (case side2 => exact (Kd.R_reads' HO180.out).2.1); rintro e w87 ⟨rfl, hb⟩; refine ⟨_, rfl, ?_⟩; have n0_ := Aside0.mk (Kd.R_below (by (with_reducible repeat (first | apply Kd.R_alloc | apply Kd.R_drewN | apply Kd.R_drew)); exact HO160.out) hb); have n1_ := Aside0.mk (Kd.R_below (by (with_reducible repeat (first | apply Kd.R_alloc | apply Kd.R_drewN | apply Kd.R_drew)); exact HO165.out) hb); have n2_ := Aside0.mk (Kd.R_below (by (with_reducible repeat (first | apply Kd.R_alloc | apply Kd.R_drewN | apply Kd.R_drew)); exact HO170.out) hb); have n3_ := Aside0.mk (Kd.R_below (by (with_reducible repeat (first | apply Kd.R_alloc | apply Kd.R_drewN | apply Kd.R_drew)); exact HO175.out) hb); have n4_ := Aside0.mk (Kd.R_below (by (with_reducible repeat (first | apply Kd.R_alloc | apply Kd.R_drewN | apply Kd.R_drew)); exact HO180.out) hb); have n5_ := Aside0.mk (below_step (by repeat (first | (with_reducible first | exact HB.out | apply below_alloc | apply pw_below_drewN | apply below_drew1) | exact HB.out)) hb); clear HO160; clear HO165; clear HO170; clear HO175; clear HO180; clear HB; have HO160 := n0_; have HO165 := n1_; have HO170 := n2_; have HO175 := n3_; have HO180 := n4_; have HB := n5_; clear n0_ n1_ n2_ n3_ n4_ n5_; (try clear hb); (try clear hb2); (try clear hk); (try clear hi)) | ((with_reducible refine gate_callee (f := 25) rfl ?_); refine goesL_ (some 60) rfl rfl Try.func25 (by kernel_rfl) rfl #[] rfl (by (try simp only [List.map_toArray, List.map_cons, List.map_nil]); first | done | rfl | (simp only [List.length_drop, List.length_take]; rfl)) ?_; (with_reducible refine (quirelaw19_example.calls  t185 _ A35.out).mono ?_); rintro e w88 ⟨v186, rfl, ho0, hb⟩; refine ⟨_, rfl, ?_⟩; have n0_ := Aside0.mk (Kd.R_elder' (by (with_reducible repeat (first | apply Kd.R_alloc | apply Kd.R_drewN | apply Kd.R_drew)); exact HO160.out) (Kd.R_base ho0) hb); have n1_ := Aside0.mk (Kd.R_elder' (by (with_reducible repeat (first | apply Kd.R_alloc | apply Kd.R_drewN | apply Kd.R_drew)); exact HO165.out) (Kd.R_base ho0) hb); have n2_ := Aside0.mk (Kd.R_elder' (by (with_reducible repeat (first | apply Kd.R_alloc | apply Kd.R_drewN | apply Kd.R_drew)); exact HO170.out) (Kd.R_base ho0) hb); have n3_ := Aside0.mk (Kd.R_below (by (with_reducible repeat (first | apply Kd.R_alloc | apply Kd.R_drewN | apply Kd.R_drew)); exact HO175.out) hb); have n4_ := Aside0.mk (Kd.R_elder' (by (with_reducible repeat (first | apply Kd.R_alloc | apply Kd.R_drewN | apply Kd.R_drew)); exact HO180.out) (Kd.R_base ho0) hb); have n5_ := Aside0.mk (Kd.R_lower (Kd.R_new' (Kd.R_new' (Kd.R_new' (Kd.R_new' ho0 (Kd.R_lt (by (with_reducible repeat (first | apply Kd.R_alloc | apply Kd.R_drewN | apply Kd.R_drew)); exact HO160.out))) (Kd.R_lt (by (with_reducible repeat (first | apply Kd.R_alloc | apply Kd.R_drewN | apply Kd.R_drew)); exact HO165.out))) (Kd.R_lt (by (with_reducible repeat (first | apply Kd.R_alloc | apply Kd.R_drewN | apply Kd.R_drew)); exact HO170.out))) (Kd.R_lt (by (with_reducible repeat (first | apply Kd.R_alloc | apply Kd.R_drewN | apply Kd.R_drew)); exact HO180.out))) (below_size (by repeat (first | (with_reducible first | exact HB.out | apply below_alloc | apply pw_below_drewN | apply below_drew1) | exact HB.out)))); have n6_ := Aside0.mk (below_step (by repeat (first | (with_reducible first | exact HB.out | apply below_alloc | apply pw_below_drewN | apply below_drew1) | exact HB.out)) hb); clear HO160; clear HO165; clear HO170; clear HO175; clear HO180; clear HB; have HO160 := n0_; have HO165 := n1_; have HO170 := n2_; have HO175 := n3_; have HO180 := n4_; have HO187 := n5_; have HB := n6_; clear n0_ n1_ n2_ n3_ n4_ n5_ n6_; (try clear hb); (try clear hb2); (try clear hk); (try clear hi); (try clear ho0); obtain ⟨Ao89, co89, eo89⟩ := Kd.R_slice HO187.out; subst eo89) | ((with_reducible refine gate_callee (f := 16) rfl ?_); refine goesL_ (some 61) rfl rfl Try.func16 (by kernel_rfl) rfl #[.slice Ao89 t185.length co89, .int .i64 0, .int .i64 (-1)] rfl (by (try simp only [List.map_toArray, List.map_cons, List.map_nil]); first | done | rfl | (simp only [List.length_drop, List.length_take]; rfl)) ?_; (with_reducible refine (column_Fill.calls kj0 _ _ t185 0 (-1) t188 t189 t190 t191 _ ?side1 ?side2 A36.out).mono ?_); (case side1 => repeat (first | exact (Kd.R_reads' HO187.out).2.2 | (with_reducible refine Kd.C_alloc ?_ _) | (with_reducible refine Kd.C_drewN ?_ _) | (with_reducible refine Kd.C_drew ?_))); (case side2 => exact (Kd.R_reads' HO187.out).2.1); rintro e w90 ⟨rfl, hb⟩; refine ⟨_, rfl, ?_⟩; have n0_ := Aside0.mk (Kd.R_below (by (with_reducible repeat (first | apply Kd.R_alloc | apply Kd.R_drewN | apply Kd.R_drew)); exact HO160.out) hb); have n1_ := Aside0.mk (Kd.R_below (by (with_reducible repeat (first | apply Kd.R_alloc | apply Kd.R_drewN | apply Kd.R_drew)); exact HO165.out) hb); have n2_ := Aside0.mk (Kd.R_below (by (with_reducible repeat (first | apply Kd.R_alloc | apply Kd.R_drewN | apply Kd.R_drew)); exact HO170.out) hb); have n3_ := Aside0.mk (Kd.R_below (by (with_reducible repeat (first | apply Kd.R_alloc | apply Kd.R_drewN | apply Kd.R_drew)); exact HO175.out) hb); have n4_ := Aside0.mk (Kd.R_below (by (with_reducible repeat (first | apply Kd.R_alloc | apply Kd.R_drewN | apply Kd.R_drew)); exact HO180.out) hb); have n5_ := Aside0.mk (Kd.R_below (by (with_reducible repeat (first | apply Kd.R_alloc | apply Kd.R_drewN | apply Kd.R_drew)); exact HO187.out) hb); have n6_ := Aside0.mk (below_step (by repeat (first | (with_reducible first | exact HB.out | apply below_alloc | apply pw_below_drewN | apply below_drew1) | exact HB.out)) hb); clear HO160; clear HO165; clear HO170; clear HO175; clear HO180; clear HO187; clear HB; have HO160 := n0_; have HO165 := n1_; have HO170 := n2_; have HO175 := n3_; have HO180 := n4_; have HO187 := n5_; have HB := n6_; clear n0_ n1_ n2_ n3_ n4_ n5_ n6_; (try clear hb); (try clear hb2); (try clear hk); (try clear hi)) | ((with_reducible refine gate_callee (f := 14) rfl ?_); refine goesL_ (some 66) rfl rfl Try.func14 (by kernel_rfl) rfl #[] rfl (by (try simp only [List.map_toArray, List.map_cons, List.map_nil]); first | done | rfl | (simp only [List.length_drop, List.length_take]; rfl)) ?_; (with_reducible refine (quirelaw19_awake.calls kj0  true _ A37.out).mono ?_); rintro e w91 ⟨rfl, hb⟩; refine ⟨_, rfl, ?_⟩; have n0_ := Aside0.mk (Kd.R_below (by (with_reducible repeat (first | apply Kd.R_alloc | apply Kd.R_drewN | apply Kd.R_drew)); exact HO160.out) hb); have n1_ := Aside0.mk (Kd.R_below (by (with_reducible repeat (first | apply Kd.R_alloc | apply Kd.R_drewN | apply Kd.R_drew)); exact HO165.out) hb); have n2_ := Aside0.mk (Kd.R_below (by (with_reducible repeat (first | apply Kd.R_alloc | apply Kd.R_drewN | apply Kd.R_drew)); exact HO170.out) hb); have n3_ := Aside0.mk (Kd.R_below (by (with_reducible repeat (first | apply Kd.R_alloc | apply Kd.R_drewN | apply Kd.R_drew)); exact HO175.out) hb); have n4_ := Aside0.mk (Kd.R_below (by (with_reducible repeat (first | apply Kd.R_alloc | apply Kd.R_drewN | apply Kd.R_drew)); exact HO180.out) hb); have n5_ := Aside0.mk (Kd.R_below (by (with_reducible repeat (first | apply Kd.R_alloc | apply Kd.R_drewN | apply Kd.R_drew)); exact HO187.out) hb); have n6_ := Aside0.mk (below_step (by repeat (first | (with_reducible first | exact HB.out | apply below_alloc | apply pw_below_drewN | apply below_drew1) | exact HB.out)) hb); clear HO160; clear HO165; clear HO170; clear HO175; clear HO180; clear HO187; clear HB; have HO160 := n0_; have HO165 := n1_; have HO170 := n2_; have HO175 := n3_; have HO180 := n4_; have HO187 := n5_; have HB := n6_; clear n0_ n1_ n2_ n3_ n4_ n5_ n6_; (try clear hb); (try clear hb2); (try clear hk); (try clear hi)) | (go_at_call 26; (with_reducible refine (quirelaw19_fill.calls kj0 0 30 1 10 false true _ A42.out).mono ?_); rintro e w92 ⟨rfl, hb⟩; have n0_ := Aside0.mk (Kd.R_below (by (with_reducible repeat (first | apply Kd.R_alloc | apply Kd.R_drewN | apply Kd.R_drew)); exact HO160.out) hb); have n1_ := Aside0.mk (Kd.R_below (by (with_reducible repeat (first | apply Kd.R_alloc | apply Kd.R_drewN | apply Kd.R_drew)); exact HO165.out) hb); have n2_ := Aside0.mk (Kd.R_below (by (with_reducible repeat (first | apply Kd.R_alloc | apply Kd.R_drewN | apply Kd.R_drew)); exact HO170.out) hb); have n3_ := Aside0.mk (Kd.R_below (by (with_reducible repeat (first | apply Kd.R_alloc | apply Kd.R_drewN | apply Kd.R_drew)); exact HO175.out) hb); have n4_ := Aside0.mk (Kd.R_below (by (with_reducible repeat (first | apply Kd.R_alloc | apply Kd.R_drewN | apply Kd.R_drew)); exact HO180.out) hb); have n5_ := Aside0.mk (Kd.R_below (by (with_reducible repeat (first | apply Kd.R_alloc | apply Kd.R_drewN | apply Kd.R_drew)); exact HO187.out) hb); have n6_ := Aside0.mk (below_step (by repeat (first | (with_reducible first | exact HB.out | apply below_alloc | apply pw_below_drewN | apply below_drew1) | exact HB.out)) hb); clear HO160; clear HO165; clear HO170; clear HO175; clear HO180; clear HO187; clear HB; have HO160 := n0_; have HO165 := n1_; have HO170 := n2_; have HO175 := n3_; have HO180 := n4_; have HO187 := n5_; have HB := n6_; clear n0_ n1_ n2_ n3_ n4_ n5_ n6_; (try clear hb); (try clear hb2); (try clear hk); (try clear hi)) | (go_at_call 26; (with_reducible refine (quirelaw19_fill.calls kj0 1 15 2 10 true true _ A44.out).mono ?_); rintro e w93 ⟨rfl, hb⟩; have n0_ := Aside0.mk (Kd.R_below (by (with_reducible repeat (first | apply Kd.R_alloc | apply Kd.R_drewN | apply Kd.R_drew)); exact HO160.out) hb); have n1_ := Aside0.mk (Kd.R_below (by (with_reducible repeat (first | apply Kd.R_alloc | apply Kd.R_drewN | apply Kd.R_drew)); exact HO165.out) hb); have n2_ := Aside0.mk (Kd.R_below (by (with_reducible repeat (first | apply Kd.R_alloc | apply Kd.R_drewN | apply Kd.R_drew)); exact HO170.out) hb); have n3_ := Aside0.mk (Kd.R_below (by (with_reducible repeat (first | apply Kd.R_alloc | apply Kd.R_drewN | apply Kd.R_drew)); exact HO175.out) hb); have n4_ := Aside0.mk (Kd.R_below (by (with_reducible repeat (first | apply Kd.R_alloc | apply Kd.R_drewN | apply Kd.R_drew)); exact HO180.out) hb); have n5_ := Aside0.mk (Kd.R_below (by (with_reducible repeat (first | apply Kd.R_alloc | apply Kd.R_drewN | apply Kd.R_drew)); exact HO187.out) hb); have n6_ := Aside0.mk (below_step (by repeat (first | (with_reducible first | exact HB.out | apply below_alloc | apply pw_below_drewN | apply below_drew1) | exact HB.out)) hb); clear HO160; clear HO165; clear HO170; clear HO175; clear HO180; clear HO187; clear HB; have HO160 := n0_; have HO165 := n1_; have HO170 := n2_; have HO175 := n3_; have HO180 := n4_; have HO187 := n5_; have HB := n6_; clear n0_ n1_ n2_ n3_ n4_ n5_ n6_; (try clear hb); (try clear hb2); (try clear hk); (try clear hi)) | ((with_reducible refine gate_dst (N := 86) rfl ?_); (try (refine gate_guard (by rfl) ?_; dsimp only)); refine Kd.R_lit (Kd.int .i64) _ 3 ?hg (N := 86) ?hd (xs := ([1, 3, 4] : List Int)) (inner := [.int .i64 1, .int .i64 3, .int .i64 4]) (ok := fun _ => True) (okp := fun _ => True) ?hr ?hp (fun _ hk => hk) trivial (Below.refl _ _) (Nat.le_refl _) (by simp) ?_; (case hd => rfl); (case hg => rfl); (case hr => first | (go_simp; done) | (go_simp; rfl)); (case hp => exact (Reps.one (show Kd.M (Kd.int .i64) _ _ _ 1 [.int .i64 1] from rfl) (Reps.one (show Kd.M (Kd.int .i64) _ _ _ 3 [.int .i64 3] from rfl) (Reps.one (show Kd.M (Kd.int .i64) _ _ _ 4 [.int .i64 4] from rfl) (Reps.none _ _))))); intro v196 w94 ho95 hb hg_ hnew_; clear hg_ hnew_; (first | rw [← Ny195.out] at ho95 | (simp only [Int.reduceToNat] at ho95; rw [← Ny195.out] at ho95)); have n0_ := Aside0.mk (Kd.R_below (by (with_reducible repeat (first | apply Kd.R_alloc | apply Kd.R_drewN | apply Kd.R_drew)); exact HO160.out) hb); have n1_ := Aside0.mk (Kd.R_below (by (with_reducible repeat (first | apply Kd.R_alloc | apply Kd.R_drewN | apply Kd.R_drew)); exact HO165.out) hb); have n2_ := Aside0.mk (Kd.R_below (by (with_reducible repeat (first | apply Kd.R_alloc | apply Kd.R_drewN | apply Kd.R_drew)); exact HO170.out) hb); have n3_ := Aside0.mk (Kd.R_elder' (by (with_reducible repeat (first | apply Kd.R_alloc | apply Kd.R_drewN | apply Kd.R_drew)); exact HO175.out) (Kd.R_base ho95) hb); have n4_ := Aside0.mk (Kd.R_below (by (with_reducible repeat (first | apply Kd.R_alloc | apply Kd.R_drewN | apply Kd.R_drew)); exact HO180.out) hb); have n5_ := Aside0.mk (Kd.R_below (by (with_reducible repeat (first | apply Kd.R_alloc | apply Kd.R_drewN | apply Kd.R_drew)); exact HO187.out) hb); have n6_ := Aside0.mk (Kd.R_lower (Kd.R_new' ho95 (Kd.R_lt (by (with_reducible repeat (first | apply Kd.R_alloc | apply Kd.R_drewN | apply Kd.R_drew)); exact HO175.out))) (below_size (by repeat (first | (with_reducible first | exact HB.out | apply below_alloc | apply pw_below_drewN | apply below_drew1) | exact HB.out)))); have n7_ := Aside0.mk (below_step (by repeat (first | (with_reducible first | exact HB.out | apply below_alloc | apply pw_below_drewN | apply below_drew1) | exact HB.out)) hb); clear HO160; clear HO165; clear HO170; clear HO175; clear HO180; clear HO187; clear HB; have HO160 := n0_; have HO165 := n1_; have HO170 := n2_; have HO175 := n3_; have HO180 := n4_; have HO187 := n5_; have HO197 := n6_; have HB := n7_; clear n0_ n1_ n2_ n3_ n4_ n5_ n6_ n7_; clear hb ho95; obtain ⟨Ao96, co96, eo96⟩ := Kd.R_slice HO175.out; subst eo96; obtain ⟨Ao97, co97, eo97⟩ := Kd.R_slice HO197.out; subst eo97) | (go_at_call 22; (with_reducible refine (quirekit_SameInts.calls kj0 _ _ t171 _ _ y195 true _ ?side1 ?side2 ?side3 ?side4 A46.out).mono ?_); (case side1 => repeat (first | exact (Kd.R_reads' HO175.out).2.2 | (with_reducible refine Kd.C_alloc ?_ _) | (with_reducible refine Kd.C_drewN ?_ _) | (with_reducible refine Kd.C_drew ?_))); (case side2 => exact (Kd.R_reads' HO175.out).2.1); (case side3 => repeat (first | exact (Kd.R_reads' HO197.out).2.2 | (with_reducible refine Kd.C_alloc ?_ _) | (with_reducible refine Kd.C_drewN ?_ _) | (with_reducible refine Kd.C_drew ?_))); (case side4 => exact (Kd.R_reads' HO197.out).2.1); rintro e w' ⟨rfl, ⟨nd, rfl⟩⟩))
                            go_ret
                            exact ⟨by first | rfl | (simp [errW_none, errW_some] <;> rfl) | (simp [*, errW_none, errW_some] <;> rfl), by repeat (first | (with_reducible first | exact HB.out | apply below_alloc | apply pw_below_drewN | apply below_drew1) | exact HB.out)⟩
                          · rw [if_neg c74] at H
                            have c74b0 : (t184 == 5) = false := beq_eq_false_iff_ne.mpr c74
                            have c74b1 : (t184 != 5) = true := bne_iff_ne.mpr c74
                            obtain H_ := Option.some.inj H
                            exact absurd H_ (by decide)
                        · rw [if_neg c73] at H
                          have c73b0 : (t177 == 5) = false := beq_eq_false_iff_ne.mpr c73
                          have c73b1 : (t177 != 5) = true := bne_iff_ne.mpr c73
                          obtain H_ := Option.some.inj H
                          exact absurd H_ (by decide)
                      · rw [if_neg c72] at H
                        have c72b0 : (t173 == 0) = false := beq_eq_false_iff_ne.mpr c72
                        have c72b1 : (t173 != 0) = true := bne_iff_ne.mpr c72
                        obtain H_ := Option.some.inj H
                        exact absurd H_ (by decide)
                  · replace c47 := Bool.eq_false_iff.mpr c47
                    subst c47
                    have H1 : (some false) = some true := by rw [if_neg (show ¬ (false = true) by decide)] at H; exact H
                    clear H
                    have H := H1
                    clear H1
                    obtain H_ := Option.some.inj H
                    exact absurd H_ (by decide)
                · replace c45 := Bool.eq_false_iff.mpr c45
                  subst c45
                  have H1 : (some false) = some true := by rw [if_neg (show ¬ (false = true) by decide)] at H; exact H
                  clear H
                  have H := H1
                  clear H1
                  obtain H_ := Option.some.inj H
                  exact absurd H_ (by decide)
              · replace c43 := Bool.eq_false_iff.mpr c43
                subst c43
                have H1 : (some false) = some true := by rw [if_neg (show ¬ (false = true) by decide)] at H; exact H
                clear H
                have H := H1
                clear H1
                obtain H_ := Option.some.inj H
                exact absurd H_ (by decide)
            · rw [if_neg c41] at H
              have c41b0 : (t166 == 20) = false := beq_eq_false_iff_ne.mpr c41
              have c41b1 : (t166 != 20) = true := bne_iff_ne.mpr c41
              obtain H_ := Option.some.inj H
              exact absurd H_ (by decide)
          · rw [if_neg c40] at H
            have c40b0 : (t161 == 35) = false := beq_eq_false_iff_ne.mpr c40
            have c40b1 : (t161 != 35) = true := bne_iff_ne.mpr c40
            obtain H_ := Option.some.inj H
            exact absurd H_ (by decide)
        · replace c39 := Bool.eq_false_iff.mpr c39
          subst c39
          have H1 : (some false) = some true := by rw [if_neg (show ¬ (false = true) by decide)] at H; exact H
          clear H
          have H := H1
          clear H1
          obtain H_ := Option.some.inj H
          exact absurd H_ (by decide)
      · replace c38 := Bool.eq_false_iff.mpr c38
        subst c38
        have H1 : (some false) = some true := by rw [if_neg (show ¬ (false = true) by decide)] at H; exact H
        clear H
        have H := H1
        clear H1
        obtain H_ := Option.some.inj H
        exact absurd H_ (by decide)
/-- THE ONE PURE STATEMENT of quirelaw19_ColumnKnown: yours. -/
def quirelaw19_ColumnKnown.Pure : Prop := ∃ k, quirelaw19_ColumnKnown.f k  = some true
theorem quirelaw19_ColumnKnown.walk (P : quirelaw19_ColumnKnown.Pure)  (w : World)  :
    Calls Try.prog 7 #[] w fun e w' => e = .returned (.bool true) ∧ Below w.heap.size w w' := by
  obtain ⟨k, h⟩ := P  
  refine (quirelaw19_ColumnKnown.calls k w h).mono ?_
  rintro e w' ⟨rfl, hd⟩
  exact ⟨rfl, hd⟩

end Go.Proofs.Ytoodiihimjalfaa.PColumnKnown
