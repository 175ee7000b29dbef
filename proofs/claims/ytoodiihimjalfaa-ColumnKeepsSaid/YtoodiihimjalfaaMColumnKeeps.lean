/- The walk of a statement's Go function to its answer in plain Lean: for every list that can be read; each part of the walk is a lemma of its own. -/
import Derived.Test.YtoodiihimjalfaaPColumnKeepsx0
import Derived.Test.YtoodiihimjalfaaPColumnKeepsx1
import Derived.Test.YtoodiihimjalfaaPColumnKeepsx2
namespace Go.Proofs.Ytoodiihimjalfaa.PColumnKeeps
open Go.RowKit Go.Proofs.YtoodiihimjalfaaW.PrintWords Go.Proofs.YtoodiihimjalfaaW.PrintLast Go.Proofs.YtoodiihimjalfaaW.PrintMore
attribute [local go_sem] max2_int min2_int max_two min_two max_three min_three max_four min_four   -- for this text's walks alone
set_option linter.unusedVariables false
set_option linter.unusedSimpArgs false

/-! ### quirelaw19_ColumnKeeps: function 4 -/
mutual
def quirelaw19_ColumnKeeps.j0 : Nat → Int → Int → Int → Int → Int → Bool → Bool → Bool → Option (Bool)
  | 0, _, _, _, _, _, _, _, _ => none
  | k + 1, x0, x1, x2, x3, x4, x5, x13, x53 => if x53 = true then (some x13) else ((column_Split.f k x0 x1 x2 x3 x4 x5).bind fun bt136 => (if bt136.2 = 0 then (if bt136.1 < 0 then (quirelaw19_ColumnKeeps.j1 k x0 x1 x2 x3 x4 x5 x13 bt136.1 true) else (if bt136.1 > x0 then (quirelaw19_ColumnKeeps.j1 k x0 x1 x2 x3 x4 x5 x13 bt136.1 true) else (if bt136.1 > x1 then (if x5 = true then (quirelaw19_ColumnKeeps.j1 k x0 x1 x2 x3 x4 x5 x13 bt136.1 (!(bt136.1 == 1))) else (quirelaw19_ColumnKeeps.j1 k x0 x1 x2 x3 x4 x5 x13 bt136.1 (!false))) else (quirelaw19_ColumnKeeps.j1 k x0 x1 x2 x3 x4 x5 x13 bt136.1 false)))) else (quirelaw19_ColumnKeeps.j1 k x0 x1 x2 x3 x4 x5 x13 bt136.1 true)))
def quirelaw19_ColumnKeeps.j1 : Nat → Int → Int → Int → Int → Int → Bool → Bool → Int → Bool → Option (Bool)
  | 0, _, _, _, _, _, _, _, _, _ => none
  | k + 1, x0, x1, x2, x3, x4, x5, x13, x14, x88 => if x88 = true then (some false) else (if x14 = 0 then (quirelaw19_ColumnKeeps.j2 k x0 x1 x2 x3 x4 x5 x13 x14 true) else (if x14 = x0 then (quirelaw19_ColumnKeeps.j2 k x0 x1 x2 x3 x4 x5 x13 x14 true) else (if x14 ≥ x2 then (if (wrap64 (x0 - x14)) ≥ x3 then (quirelaw19_ColumnKeeps.j2 k x0 x1 x2 x3 x4 x5 x13 x14 (x4 == 0)) else (quirelaw19_ColumnKeeps.j2 k x0 x1 x2 x3 x4 x5 x13 x14 false)) else (quirelaw19_ColumnKeeps.j2 k x0 x1 x2 x3 x4 x5 x13 x14 false))))
def quirelaw19_ColumnKeeps.j2 : Nat → Int → Int → Int → Int → Int → Bool → Bool → Int → Bool → Option (Bool)
  | 0, _, _, _, _, _, _, _, _, _ => none
  | k + 1, x0, x1, x2, x3, x4, x5, x13, x14, x16 => if x16 = true then (if x5 = true then (quirelaw19_ColumnKeeps.j3 k x0 x1 x2 x3 x4 x13 x14 x16 (x14 == 0)) else (quirelaw19_ColumnKeeps.j3 k x0 x1 x2 x3 x4 x13 x14 x16 false)) else (if x5 = true then (quirelaw19_ColumnKeeps.j3 k x0 x1 x2 x3 x4 x13 x14 x16 (x14 == 0)) else (quirelaw19_ColumnKeeps.j3 k x0 x1 x2 x3 x4 x13 x14 x16 true))
def quirelaw19_ColumnKeeps.j3 : Nat → Int → Int → Int → Int → Int → Bool → Int → Bool → Bool → Option (Bool)
  | 0, _, _, _, _, _, _, _, _, _ => none
  | k + 1, x0, x1, x2, x3, x4, x13, x14, x16, x124 => if x124 = true then (some false) else (quirelaw19_ColumnKeeps.l0 k x0 x1 x2 x3 x4 x13 x14 x16 (wrap64 (x14 + 1)))
def quirelaw19_ColumnKeeps.l0 : Nat → Int → Int → Int → Int → Int → Bool → Int → Bool → Int → Option (Bool)
  | 0, _, _, _, _, _, _, _, _, _ => none
  | k + 1, x0, x1, x2, x3, x4, x13, x14, x16, x17 => if x17 ≤ x0 then (quirelaw19_ColumnKeeps.j5 k x0 x1 x2 x3 x4 x13 x14 x16 x17 (decide (x17 ≤ x1))) else (quirelaw19_ColumnKeeps.j5 k x0 x1 x2 x3 x4 x13 x14 x16 x17 false)
def quirelaw19_ColumnKeeps.j5 : Nat → Int → Int → Int → Int → Int → Bool → Int → Bool → Int → Bool → Option (Bool)
  | 0, _, _, _, _, _, _, _, _, _, _ => none
  | k + 1, x0, x1, x2, x3, x4, x13, x14, x16, x17, x134 => if x134 = true then (if x17 = x0 then (some false) else (if x17 ≥ x2 then (if (wrap64 (x0 - x17)) ≥ x3 then (if x4 = 0 then (some false) else (quirelaw19_ColumnKeeps.l0 k x0 x1 x2 x3 x4 x13 x14 x16 (wrap64 (x17 + 1)))) else (quirelaw19_ColumnKeeps.l0 k x0 x1 x2 x3 x4 x13 x14 x16 (wrap64 (x17 + 1)))) else (quirelaw19_ColumnKeeps.l0 k x0 x1 x2 x3 x4 x13 x14 x16 (wrap64 (x17 + 1))))) else (if x16 = true then (some x13) else (quirelaw19_ColumnKeeps.l1 k x0 x1 x2 x3 x4 x13 x14 1))
def quirelaw19_ColumnKeeps.l1 : Nat → Int → Int → Int → Int → Int → Bool → Int → Int → Option (Bool)
  | 0, _, _, _, _, _, _, _, _ => none
  | k + 1, x0, x1, x2, x3, x4, x13, x14, x18 => if x18 ≤ x1 then (quirelaw19_ColumnKeeps.j7 k x0 x1 x2 x3 x4 x13 x14 x18 (decide (x18 < x0))) else (quirelaw19_ColumnKeeps.j7 k x0 x1 x2 x3 x4 x13 x14 x18 false)
def quirelaw19_ColumnKeeps.j7 : Nat → Int → Int → Int → Int → Int → Bool → Int → Int → Bool → Option (Bool)
  | 0, _, _, _, _, _, _, _, _, _ => none
  | k + 1, x0, x1, x2, x3, x4, x13, x14, x18, x165 => if x165 = true then (if x18 ≥ x2 then (if (wrap64 (x0 - x18)) ≥ x3 then (if x4 = 0 then (some false) else (quirelaw19_ColumnKeeps.l1 k x0 x1 x2 x3 x4 x13 x14 (wrap64 (x18 + 1)))) else (quirelaw19_ColumnKeeps.l1 k x0 x1 x2 x3 x4 x13 x14 (wrap64 (x18 + 1)))) else (quirelaw19_ColumnKeeps.l1 k x0 x1 x2 x3 x4 x13 x14 (wrap64 (x18 + 1)))) else (if x13 = true then (some (x14 == (mx x1 1))) else (some false))
end
def quirelaw19_ColumnKeeps.f (k : Nat) (a0 : Int) (a1 : Int) (a2 : Int) (a3 : Int) (a4 : Int) (a5 : Bool) : Option (Bool) := (quirelaw19_awake.f k).bind fun t135 => (if a0 < 1 then (quirelaw19_ColumnKeeps.j0 k a0 a1 a2 a3 a4 a5 t135 true) else (if a0 > 4096 then (quirelaw19_ColumnKeeps.j0 k a0 a1 a2 a3 a4 a5 t135 true) else (if a1 < 0 then (quirelaw19_ColumnKeeps.j0 k a0 a1 a2 a3 a4 a5 t135 true) else (if a2 < 1 then (quirelaw19_ColumnKeeps.j0 k a0 a1 a2 a3 a4 a5 t135 true) else (if a2 > 4 then (quirelaw19_ColumnKeeps.j0 k a0 a1 a2 a3 a4 a5 t135 true) else (if a3 < 1 then (quirelaw19_ColumnKeeps.j0 k a0 a1 a2 a3 a4 a5 t135 true) else (if a3 > 4 then (quirelaw19_ColumnKeeps.j0 k a0 a1 a2 a3 a4 a5 t135 true) else (if a4 < 0 then (quirelaw19_ColumnKeeps.j0 k a0 a1 a2 a3 a4 a5 t135 true) else (quirelaw19_ColumnKeeps.j0 k a0 a1 a2 a3 a4 a5 t135 (decide (a4 > 1)))))))))))
theorem quirelaw19_ColumnKeeps.mono_l : ∀ k, (∀ y0 y1 y2 y3 y4 y5 y6 y7, LeO (quirelaw19_ColumnKeeps.j0 k y0 y1 y2 y3 y4 y5 y6 y7) (quirelaw19_ColumnKeeps.j0 (k + 1) y0 y1 y2 y3 y4 y5 y6 y7)) ∧ (∀ y0 y1 y2 y3 y4 y5 y6 y7 y8, LeO (quirelaw19_ColumnKeeps.j1 k y0 y1 y2 y3 y4 y5 y6 y7 y8) (quirelaw19_ColumnKeeps.j1 (k + 1) y0 y1 y2 y3 y4 y5 y6 y7 y8)) ∧ (∀ y0 y1 y2 y3 y4 y5 y6 y7 y8, LeO (quirelaw19_ColumnKeeps.j2 k y0 y1 y2 y3 y4 y5 y6 y7 y8) (quirelaw19_ColumnKeeps.j2 (k + 1) y0 y1 y2 y3 y4 y5 y6 y7 y8)) ∧ (∀ y0 y1 y2 y3 y4 y5 y6 y7 y8, LeO (quirelaw19_ColumnKeeps.j3 k y0 y1 y2 y3 y4 y5 y6 y7 y8) (quirelaw19_ColumnKeeps.j3 (k + 1) y0 y1 y2 y3 y4 y5 y6 y7 y8)) ∧ (∀ y0 y1 y2 y3 y4 y5 y6 y7 y8, LeO (quirelaw19_ColumnKeeps.l0 k y0 y1 y2 y3 y4 y5 y6 y7 y8) (quirelaw19_ColumnKeeps.l0 (k + 1) y0 y1 y2 y3 y4 y5 y6 y7 y8)) ∧ (∀ y0 y1 y2 y3 y4 y5 y6 y7 y8 y9, LeO (quirelaw19_ColumnKeeps.j5 k y0 y1 y2 y3 y4 y5 y6 y7 y8 y9) (quirelaw19_ColumnKeeps.j5 (k + 1) y0 y1 y2 y3 y4 y5 y6 y7 y8 y9)) ∧ (∀ y0 y1 y2 y3 y4 y5 y6 y7, LeO (quirelaw19_ColumnKeeps.l1 k y0 y1 y2 y3 y4 y5 y6 y7) (quirelaw19_ColumnKeeps.l1 (k + 1) y0 y1 y2 y3 y4 y5 y6 y7)) ∧ (∀ y0 y1 y2 y3 y4 y5 y6 y7 y8, LeO (quirelaw19_ColumnKeeps.j7 k y0 y1 y2 y3 y4 y5 y6 y7 y8) (quirelaw19_ColumnKeeps.j7 (k + 1) y0 y1 y2 y3 y4 y5 y6 y7 y8))
  | 0 => ⟨fun _ _ _ _ _ _ _ _ r h => by simp [quirelaw19_ColumnKeeps.j0] at h, fun _ _ _ _ _ _ _ _ _ r h => by simp [quirelaw19_ColumnKeeps.j1] at h, fun _ _ _ _ _ _ _ _ _ r h => by simp [quirelaw19_ColumnKeeps.j2] at h, fun _ _ _ _ _ _ _ _ _ r h => by simp [quirelaw19_ColumnKeeps.j3] at h, fun _ _ _ _ _ _ _ _ _ r h => by simp [quirelaw19_ColumnKeeps.l0] at h, fun _ _ _ _ _ _ _ _ _ _ r h => by simp [quirelaw19_ColumnKeeps.j5] at h, fun _ _ _ _ _ _ _ _ r h => by simp [quirelaw19_ColumnKeeps.l1] at h, fun _ _ _ _ _ _ _ _ _ r h => by simp [quirelaw19_ColumnKeeps.j7] at h⟩
  | k + 1 => by
    obtain ⟨ih0, ih1, ih2, ih3, ih4, ih5, ih6, ih7⟩ := quirelaw19_ColumnKeeps.mono_l k
    refine ⟨?_, ?_, ?_, ?_, ?_, ?_, ?_, ?_⟩
    · intro y0 y1 y2 y3 y4 y5 y6 y7
      unfold quirelaw19_ColumnKeeps.j0
      repeat' first
      | (with_reducible exact ih0 _ _ _ _ _ _ _ _)
      | (with_reducible exact ih1 _ _ _ _ _ _ _ _ _)
      | (with_reducible exact ih2 _ _ _ _ _ _ _ _ _)
      | (with_reducible exact ih3 _ _ _ _ _ _ _ _ _)
      | (with_reducible exact ih4 _ _ _ _ _ _ _ _ _)
      | (with_reducible exact ih5 _ _ _ _ _ _ _ _ _ _)
      | (with_reducible exact ih6 _ _ _ _ _ _ _ _)
      | (with_reducible exact ih7 _ _ _ _ _ _ _ _ _)
      | (with_reducible exact column_Split.mono _ _ _ _ _ _ _)
      | (with_reducible exact quirelaw19_awake.mono _)
      | (with_reducible exact LeO.refl _)
      | (with_reducible exact LeO.none _)
      | (with_reducible refine LeO.ite ?_ ?_)
      | (with_reducible refine LeO.bind ?_ (fun _ => ?_))
      | exact ih0 _ _ _ _ _ _ _ _
      | exact ih1 _ _ _ _ _ _ _ _ _
      | exact ih2 _ _ _ _ _ _ _ _ _
      | exact ih3 _ _ _ _ _ _ _ _ _
      | exact ih4 _ _ _ _ _ _ _ _ _
      | exact ih5 _ _ _ _ _ _ _ _ _ _
      | exact ih6 _ _ _ _ _ _ _ _
      | exact ih7 _ _ _ _ _ _ _ _ _
      | exact column_Split.mono _ _ _ _ _ _ _
      | exact quirelaw19_awake.mono _
      | exact LeO.none _
      | refine LeO.ite ?_ ?_
      | refine LeO.bind ?_ (fun _ => ?_)
    · intro y0 y1 y2 y3 y4 y5 y6 y7 y8
      unfold quirelaw19_ColumnKeeps.j1
      repeat' first
      | (with_reducible exact ih0 _ _ _ _ _ _ _ _)
      | (with_reducible exact ih1 _ _ _ _ _ _ _ _ _)
      | (with_reducible exact ih2 _ _ _ _ _ _ _ _ _)
      | (with_reducible exact ih3 _ _ _ _ _ _ _ _ _)
      | (with_reducible exact ih4 _ _ _ _ _ _ _ _ _)
      | (with_reducible exact ih5 _ _ _ _ _ _ _ _ _ _)
      | (with_reducible exact ih6 _ _ _ _ _ _ _ _)
      | (with_reducible exact ih7 _ _ _ _ _ _ _ _ _)
      | (with_reducible exact column_Split.mono _ _ _ _ _ _ _)
      | (with_reducible exact quirelaw19_awake.mono _)
      | (with_reducible exact LeO.refl _)
      | (with_reducible exact LeO.none _)
      | (with_reducible refine LeO.ite ?_ ?_)
      | (with_reducible refine LeO.bind ?_ (fun _ => ?_))
      | exact ih0 _ _ _ _ _ _ _ _
      | exact ih1 _ _ _ _ _ _ _ _ _
      | exact ih2 _ _ _ _ _ _ _ _ _
      | exact ih3 _ _ _ _ _ _ _ _ _
      | exact ih4 _ _ _ _ _ _ _ _ _
      | exact ih5 _ _ _ _ _ _ _ _ _ _
      | exact ih6 _ _ _ _ _ _ _ _
      | exact ih7 _ _ _ _ _ _ _ _ _
      | exact column_Split.mono _ _ _ _ _ _ _
      | exact quirelaw19_awake.mono _
      | exact LeO.none _
      | refine LeO.ite ?_ ?_
      | refine LeO.bind ?_ (fun _ => ?_)
    · intro y0 y1 y2 y3 y4 y5 y6 y7 y8
      unfold quirelaw19_ColumnKeeps.j2
      repeat' first
      | (with_reducible exact ih0 _ _ _ _ _ _ _ _)
      | (with_reducible exact ih1 _ _ _ _ _ _ _ _ _)
      | (with_reducible exact ih2 _ _ _ _ _ _ _ _ _)
      | (with_reducible exact ih3 _ _ _ _ _ _ _ _ _)
      | (with_reducible exact ih4 _ _ _ _ _ _ _ _ _)
      | (with_reducible exact ih5 _ _ _ _ _ _ _ _ _ _)
      | (with_reducible exact ih6 _ _ _ _ _ _ _ _)
      | (with_reducible exact ih7 _ _ _ _ _ _ _ _ _)
      | (with_reducible exact column_Split.mono _ _ _ _ _ _ _)
      | (with_reducible exact quirelaw19_awake.mono _)
      | (with_reducible exact LeO.refl _)
      | (with_reducible exact LeO.none _)
      | (with_reducible refine LeO.ite ?_ ?_)
      | (with_reducible refine LeO.bind ?_ (fun _ => ?_))
      | exact ih0 _ _ _ _ _ _ _ _
      | exact ih1 _ _ _ _ _ _ _ _ _
      | exact ih2 _ _ _ _ _ _ _ _ _
      | exact ih3 _ _ _ _ _ _ _ _ _
      | exact ih4 _ _ _ _ _ _ _ _ _
      | exact ih5 _ _ _ _ _ _ _ _ _ _
      | exact ih6 _ _ _ _ _ _ _ _
      | exact ih7 _ _ _ _ _ _ _ _ _
      | exact column_Split.mono _ _ _ _ _ _ _
      | exact quirelaw19_awake.mono _
      | exact LeO.none _
      | refine LeO.ite ?_ ?_
      | refine LeO.bind ?_ (fun _ => ?_)
    · intro y0 y1 y2 y3 y4 y5 y6 y7 y8
      unfold quirelaw19_ColumnKeeps.j3
      repeat' first
      | (with_reducible exact ih0 _ _ _ _ _ _ _ _)
      | (with_reducible exact ih1 _ _ _ _ _ _ _ _ _)
      | (with_reducible exact ih2 _ _ _ _ _ _ _ _ _)
      | (with_reducible exact ih3 _ _ _ _ _ _ _ _ _)
      | (with_reducible exact ih4 _ _ _ _ _ _ _ _ _)
      | (with_reducible exact ih5 _ _ _ _ _ _ _ _ _ _)
      | (with_reducible exact ih6 _ _ _ _ _ _ _ _)
      | (with_reducible exact ih7 _ _ _ _ _ _ _ _ _)
      | (with_reducible exact column_Split.mono _ _ _ _ _ _ _)
      | (with_reducible exact quirelaw19_awake.mono _)
      | (with_reducible exact LeO.refl _)
      | (with_reducible exact LeO.none _)
      | (with_reducible refine LeO.ite ?_ ?_)
      | (with_reducible refine LeO.bind ?_ (fun _ => ?_))
      | exact ih0 _ _ _ _ _ _ _ _
      | exact ih1 _ _ _ _ _ _ _ _ _
      | exact ih2 _ _ _ _ _ _ _ _ _
      | exact ih3 _ _ _ _ _ _ _ _ _
      | exact ih4 _ _ _ _ _ _ _ _ _
      | exact ih5 _ _ _ _ _ _ _ _ _ _
      | exact ih6 _ _ _ _ _ _ _ _
      | exact ih7 _ _ _ _ _ _ _ _ _
      | exact column_Split.mono _ _ _ _ _ _ _
      | exact quirelaw19_awake.mono _
      | exact LeO.none _
      | refine LeO.ite ?_ ?_
      | refine LeO.bind ?_ (fun _ => ?_)
    · intro y0 y1 y2 y3 y4 y5 y6 y7 y8
      unfold quirelaw19_ColumnKeeps.l0
      repeat' first
      | (with_reducible exact ih0 _ _ _ _ _ _ _ _)
      | (with_reducible exact ih1 _ _ _ _ _ _ _ _ _)
      | (with_reducible exact ih2 _ _ _ _ _ _ _ _ _)
      | (with_reducible exact ih3 _ _ _ _ _ _ _ _ _)
      | (with_reducible exact ih4 _ _ _ _ _ _ _ _ _)
      | (with_reducible exact ih5 _ _ _ _ _ _ _ _ _ _)
      | (with_reducible exact ih6 _ _ _ _ _ _ _ _)
      | (with_reducible exact ih7 _ _ _ _ _ _ _ _ _)
      | (with_reducible exact column_Split.mono _ _ _ _ _ _ _)
      | (with_reducible exact quirelaw19_awake.mono _)
      | (with_reducible exact LeO.refl _)
      | (with_reducible exact LeO.none _)
      | (with_reducible refine LeO.ite ?_ ?_)
      | (with_reducible refine LeO.bind ?_ (fun _ => ?_))
      | exact ih0 _ _ _ _ _ _ _ _
      | exact ih1 _ _ _ _ _ _ _ _ _
      | exact ih2 _ _ _ _ _ _ _ _ _
      | exact ih3 _ _ _ _ _ _ _ _ _
      | exact ih4 _ _ _ _ _ _ _ _ _
      | exact ih5 _ _ _ _ _ _ _ _ _ _
      | exact ih6 _ _ _ _ _ _ _ _
      | exact ih7 _ _ _ _ _ _ _ _ _
      | exact column_Split.mono _ _ _ _ _ _ _
      | exact quirelaw19_awake.mono _
      | exact LeO.none _
      | refine LeO.ite ?_ ?_
      | refine LeO.bind ?_ (fun _ => ?_)
    · intro y0 y1 y2 y3 y4 y5 y6 y7 y8 y9
      unfold quirelaw19_ColumnKeeps.j5
      repeat' first
      | (with_reducible exact ih0 _ _ _ _ _ _ _ _)
      | (with_reducible exact ih1 _ _ _ _ _ _ _ _ _)
      | (with_reducible exact ih2 _ _ _ _ _ _ _ _ _)
      | (with_reducible exact ih3 _ _ _ _ _ _ _ _ _)
      | (with_reducible exact ih4 _ _ _ _ _ _ _ _ _)
      | (with_reducible exact ih5 _ _ _ _ _ _ _ _ _ _)
      | (with_reducible exact ih6 _ _ _ _ _ _ _ _)
      | (with_reducible exact ih7 _ _ _ _ _ _ _ _ _)
      | (with_reducible exact column_Split.mono _ _ _ _ _ _ _)
      | (with_reducible exact quirelaw19_awake.mono _)
      | (with_reducible exact LeO.refl _)
      | (with_reducible exact LeO.none _)
      | (with_reducible refine LeO.ite ?_ ?_)
      | (with_reducible refine LeO.bind ?_ (fun _ => ?_))
      | exact ih0 _ _ _ _ _ _ _ _
      | exact ih1 _ _ _ _ _ _ _ _ _
      | exact ih2 _ _ _ _ _ _ _ _ _
      | exact ih3 _ _ _ _ _ _ _ _ _
      | exact ih4 _ _ _ _ _ _ _ _ _
      | exact ih5 _ _ _ _ _ _ _ _ _ _
      | exact ih6 _ _ _ _ _ _ _ _
      | exact ih7 _ _ _ _ _ _ _ _ _
      | exact column_Split.mono _ _ _ _ _ _ _
      | exact quirelaw19_awake.mono _
      | exact LeO.none _
      | refine LeO.ite ?_ ?_
      | refine LeO.bind ?_ (fun _ => ?_)
    · intro y0 y1 y2 y3 y4 y5 y6 y7
      unfold quirelaw19_ColumnKeeps.l1
      repeat' first
      | (with_reducible exact ih0 _ _ _ _ _ _ _ _)
      | (with_reducible exact ih1 _ _ _ _ _ _ _ _ _)
      | (with_reducible exact ih2 _ _ _ _ _ _ _ _ _)
      | (with_reducible exact ih3 _ _ _ _ _ _ _ _ _)
      | (with_reducible exact ih4 _ _ _ _ _ _ _ _ _)
      | (with_reducible exact ih5 _ _ _ _ _ _ _ _ _ _)
      | (with_reducible exact ih6 _ _ _ _ _ _ _ _)
      | (with_reducible exact ih7 _ _ _ _ _ _ _ _ _)
      | (with_reducible exact column_Split.mono _ _ _ _ _ _ _)
      | (with_reducible exact quirelaw19_awake.mono _)
      | (with_reducible exact LeO.refl _)
      | (with_reducible exact LeO.none _)
      | (with_reducible refine LeO.ite ?_ ?_)
      | (with_reducible refine LeO.bind ?_ (fun _ => ?_))
      | exact ih0 _ _ _ _ _ _ _ _
      | exact ih1 _ _ _ _ _ _ _ _ _
      | exact ih2 _ _ _ _ _ _ _ _ _
      | exact ih3 _ _ _ _ _ _ _ _ _
      | exact ih4 _ _ _ _ _ _ _ _ _
      | exact ih5 _ _ _ _ _ _ _ _ _ _
      | exact ih6 _ _ _ _ _ _ _ _
      | exact ih7 _ _ _ _ _ _ _ _ _
      | exact column_Split.mono _ _ _ _ _ _ _
      | exact quirelaw19_awake.mono _
      | exact LeO.none _
      | refine LeO.ite ?_ ?_
      | refine LeO.bind ?_ (fun _ => ?_)
    · intro y0 y1 y2 y3 y4 y5 y6 y7 y8
      unfold quirelaw19_ColumnKeeps.j7
      repeat' first
      | (with_reducible exact ih0 _ _ _ _ _ _ _ _)
      | (with_reducible exact ih1 _ _ _ _ _ _ _ _ _)
      | (with_reducible exact ih2 _ _ _ _ _ _ _ _ _)
      | (with_reducible exact ih3 _ _ _ _ _ _ _ _ _)
      | (with_reducible exact ih4 _ _ _ _ _ _ _ _ _)
      | (with_reducible exact ih5 _ _ _ _ _ _ _ _ _ _)
      | (with_reducible exact ih6 _ _ _ _ _ _ _ _)
      | (with_reducible exact ih7 _ _ _ _ _ _ _ _ _)
      | (with_reducible exact column_Split.mono _ _ _ _ _ _ _)
      | (with_reducible exact quirelaw19_awake.mono _)
      | (with_reducible exact LeO.refl _)
      | (with_reducible exact LeO.none _)
      | (with_reducible refine LeO.ite ?_ ?_)
      | (with_reducible refine LeO.bind ?_ (fun _ => ?_))
      | exact ih0 _ _ _ _ _ _ _ _
      | exact ih1 _ _ _ _ _ _ _ _ _
      | exact ih2 _ _ _ _ _ _ _ _ _
      | exact ih3 _ _ _ _ _ _ _ _ _
      | exact ih4 _ _ _ _ _ _ _ _ _
      | exact ih5 _ _ _ _ _ _ _ _ _ _
      | exact ih6 _ _ _ _ _ _ _ _
      | exact ih7 _ _ _ _ _ _ _ _ _
      | exact column_Split.mono _ _ _ _ _ _ _
      | exact quirelaw19_awake.mono _
      | exact LeO.none _
      | refine LeO.ite ?_ ?_
      | refine LeO.bind ?_ (fun _ => ?_)
theorem quirelaw19_ColumnKeeps.mono : ∀ a0 a1 a2 a3 a4 a5 k, LeO (quirelaw19_ColumnKeeps.f k a0 a1 a2 a3 a4 a5) (quirelaw19_ColumnKeeps.f (k + 1) a0 a1 a2 a3 a4 a5) := by
  intro a0 a1 a2 a3 a4 a5 k
  obtain ⟨ih0, ih1, ih2, ih3, ih4, ih5, ih6, ih7⟩ := quirelaw19_ColumnKeeps.mono_l k
  unfold quirelaw19_ColumnKeeps.f
  repeat' first
      | (with_reducible exact ih0 _ _ _ _ _ _ _ _)
      | (with_reducible exact ih1 _ _ _ _ _ _ _ _ _)
      | (with_reducible exact ih2 _ _ _ _ _ _ _ _ _)
      | (with_reducible exact ih3 _ _ _ _ _ _ _ _ _)
      | (with_reducible exact ih4 _ _ _ _ _ _ _ _ _)
      | (with_reducible exact ih5 _ _ _ _ _ _ _ _ _ _)
      | (with_reducible exact ih6 _ _ _ _ _ _ _ _)
      | (with_reducible exact ih7 _ _ _ _ _ _ _ _ _)
      | (with_reducible exact column_Split.mono _ _ _ _ _ _ _)
      | (with_reducible exact quirelaw19_awake.mono _)
      | (with_reducible exact LeO.refl _)
      | (with_reducible exact LeO.none _)
      | (with_reducible refine LeO.ite ?_ ?_)
      | (with_reducible refine LeO.bind ?_ (fun _ => ?_))
      | exact ih0 _ _ _ _ _ _ _ _
      | exact ih1 _ _ _ _ _ _ _ _ _
      | exact ih2 _ _ _ _ _ _ _ _ _
      | exact ih3 _ _ _ _ _ _ _ _ _
      | exact ih4 _ _ _ _ _ _ _ _ _
      | exact ih5 _ _ _ _ _ _ _ _ _ _
      | exact ih6 _ _ _ _ _ _ _ _
      | exact ih7 _ _ _ _ _ _ _ _ _
      | exact column_Split.mono _ _ _ _ _ _ _
      | exact quirelaw19_awake.mono _
      | exact LeO.none _
      | refine LeO.ite ?_ ?_
      | refine LeO.bind ?_ (fun _ => ?_)
set_option maxHeartbeats 8000000 in
set_option maxRecDepth 100000 in
theorem quirelaw19_ColumnKeeps.calls (k : Nat) (a0 : Int) (a1 : Int) (a2 : Int) (a3 : Int) (a4 : Int) (a5 : Bool) (r : Bool) (w : World) (h : quirelaw19_ColumnKeeps.f k a0 a1 a2 a3 a4 a5 = some r) :
    Calls Try.prog 4 #[.int .i64 a0, .int .i64 a1, .int .i64 a2, .int .i64 a3, .int .i64 a4, .bool a5] w fun e w' => e = .returned (.bool r) ∧ Below w.heap.size w w' := by
  have HB := Aside0.mk (Below.refl w.heap.size w)
  have H : ((quirelaw19_awake.f k).bind fun t135 => (if a0 < 1 then (quirelaw19_ColumnKeeps.j0 k a0 a1 a2 a3 a4 a5 t135 true) else (if a0 > 4096 then (quirelaw19_ColumnKeeps.j0 k a0 a1 a2 a3 a4 a5 t135 true) else (if a1 < 0 then (quirelaw19_ColumnKeeps.j0 k a0 a1 a2 a3 a4 a5 t135 true) else (if a2 < 1 then (quirelaw19_ColumnKeeps.j0 k a0 a1 a2 a3 a4 a5 t135 true) else (if a2 > 4 then (quirelaw19_ColumnKeeps.j0 k a0 a1 a2 a3 a4 a5 t135 true) else (if a3 < 1 then (quirelaw19_ColumnKeeps.j0 k a0 a1 a2 a3 a4 a5 t135 true) else (if a3 > 4 then (quirelaw19_ColumnKeeps.j0 k a0 a1 a2 a3 a4 a5 t135 true) else (if a4 < 0 then (quirelaw19_ColumnKeeps.j0 k a0 a1 a2 a3 a4 a5 t135 true) else (quirelaw19_ColumnKeeps.j0 k a0 a1 a2 a3 a4 a5 t135 (decide (a4 > 1)))))))))))) = some r := h
  clear h
  replace H := Option.bind_eq_some_iff.mp H
  obtain ⟨t135, A70, H⟩ := H
  replace H : (if a0 < 1 then (quirelaw19_ColumnKeeps.j0 k a0 a1 a2 a3 a4 a5 t135 true) else (if a0 > 4096 then (quirelaw19_ColumnKeeps.j0 k a0 a1 a2 a3 a4 a5 t135 true) else (if a1 < 0 then (quirelaw19_ColumnKeeps.j0 k a0 a1 a2 a3 a4 a5 t135 true) else (if a2 < 1 then (quirelaw19_ColumnKeeps.j0 k a0 a1 a2 a3 a4 a5 t135 true) else (if a2 > 4 then (quirelaw19_ColumnKeeps.j0 k a0 a1 a2 a3 a4 a5 t135 true) else (if a3 < 1 then (quirelaw19_ColumnKeeps.j0 k a0 a1 a2 a3 a4 a5 t135 true) else (if a3 > 4 then (quirelaw19_ColumnKeeps.j0 k a0 a1 a2 a3 a4 a5 t135 true) else (if a4 < 0 then (quirelaw19_ColumnKeeps.j0 k a0 a1 a2 a3 a4 a5 t135 true) else (quirelaw19_ColumnKeeps.j0 k a0 a1 a2 a3 a4 a5 t135 (decide (a4 > 1))))))))))) = some r := H
  have A7 := Aside0.mk A70
  clear A70
  have HC8 := Aside0.mk H
  clear H
  go_enter Try.func4, Try.ntmps4
  go_upto_region 2 with (first | ((with_reducible refine gate_callee (f := 14) rfl ?_); refine goesL_ (some 19) rfl rfl Try.func14 (by kernel_rfl) rfl #[] rfl (by (try simp only [List.map_toArray, List.map_cons, List.map_nil]); first | done | rfl | (simp only [List.length_drop, List.length_take]; rfl)) ?_; (with_reducible refine (quirelaw19_awake.calls k  t135 _ A7.out).mono ?_); rintro e w9 ⟨rfl, hb⟩; refine ⟨_, rfl, ?_⟩; have n0_ := Aside0.mk (below_step (by repeat (first | (with_reducible first | exact HB.out | apply below_alloc | apply pw_below_drewN | apply below_drew1) | exact HB.out)) hb); clear HB; have HB := n0_; clear n0_; (try clear hb); (try clear hb2); (try clear hk); (try clear hi)))
  (try simp only [Act.put, List.setIfInBounds_toArray, List.set_cons_zero, List.set_cons_succ])
  go_cut [53] (fun v53 wc => ∃ (kq : Nat) (x53_7 : Bool), v53 = .bool x53_7 ∧ Aside0 (quirelaw19_ColumnKeeps.j0 kq a0 a1 a2 a3 a4 a5 t135 x53_7 = some r) ∧ Aside0 (kq ≤ k) ∧ Aside0 (Below w.heap.size w wc))
  case first => as_aux_lemma =>
    have H := HC8.out
    clear HC8
    by_cases c10 : a0 < 1
    · rw [if_pos c10] at H
      have c10b0 : decide (a0 < 1) = true := decide_eq_true c10
      clear c10
      (first | rw [c10b0] | (simp only [i64_w, i32_w]; rw [c10b0]) | skip)
      have H' := Aside0.mk H
      clear H
      go_wp2
      go_meet
      case rel => exact ⟨_, (true), (by first | rfl | (simp; done) | (simp [*]; done)), H', ⟨by first | omega | exact Nat.le_refl _⟩, ⟨by repeat (first | (with_reducible first | exact HB.out | apply below_alloc | apply pw_below_drewN | apply below_drew1) | exact HB.out)⟩⟩
    · rw [if_neg c10] at H
      have c10b0 : decide (a0 < 1) = false := decide_eq_false c10
      clear c10
      (first | rw [c10b0] | (simp only [i64_w, i32_w]; rw [c10b0]) | skip)
      by_cases c11 : a0 > 4096
      · rw [if_pos c11] at H
        have c11b0 : decide (4096 < a0) = true := decide_eq_true c11
        clear c11
        have H' := Aside0.mk H
        clear H
        go_wp2
        go_meet
        case rel => exact ⟨_, (true), (by first | rfl | (simp; done) | (simp [*]; done)), H', ⟨by first | omega | exact Nat.le_refl _⟩, ⟨by repeat (first | (with_reducible first | exact HB.out | apply below_alloc | apply pw_below_drewN | apply below_drew1) | exact HB.out)⟩⟩
      · rw [if_neg c11] at H
        have c11b0 : decide (4096 < a0) = false := decide_eq_false c11
        clear c11
        by_cases c12 : a1 < 0
        · rw [if_pos c12] at H
          have c12b0 : decide (a1 < 0) = true := decide_eq_true c12
          clear c12
          have H' := Aside0.mk H
          clear H
          go_wp2
          go_meet
          case rel => exact ⟨_, (true), (by first | rfl | (simp; done) | (simp [*]; done)), H', ⟨by first | omega | exact Nat.le_refl _⟩, ⟨by repeat (first | (with_reducible first | exact HB.out | apply below_alloc | apply pw_below_drewN | apply below_drew1) | exact HB.out)⟩⟩
        · rw [if_neg c12] at H
          have c12b0 : decide (a1 < 0) = false := decide_eq_false c12
          clear c12
          by_cases c13 : a2 < 1
          · rw [if_pos c13] at H
            have c13b0 : decide (a2 < 1) = true := decide_eq_true c13
            clear c13
            have H' := Aside0.mk H
            clear H
            go_wp2
            go_meet
            case rel => exact ⟨_, (true), (by first | rfl | (simp; done) | (simp [*]; done)), H', ⟨by first | omega | exact Nat.le_refl _⟩, ⟨by repeat (first | (with_reducible first | exact HB.out | apply below_alloc | apply pw_below_drewN | apply below_drew1) | exact HB.out)⟩⟩
          · rw [if_neg c13] at H
            have c13b0 : decide (a2 < 1) = false := decide_eq_false c13
            clear c13
            by_cases c14 : a2 > 4
            · rw [if_pos c14] at H
              have c14b0 : decide (4 < a2) = true := decide_eq_true c14
              clear c14
              have H' := Aside0.mk H
              clear H
              go_wp2
              go_meet
              case rel => exact ⟨_, (true), (by first | rfl | (simp; done) | (simp [*]; done)), H', ⟨by first | omega | exact Nat.le_refl _⟩, ⟨by repeat (first | (with_reducible first | exact HB.out | apply below_alloc | apply pw_below_drewN | apply below_drew1) | exact HB.out)⟩⟩
            · rw [if_neg c14] at H
              have c14b0 : decide (4 < a2) = false := decide_eq_false c14
              clear c14
              by_cases c15 : a3 < 1
              · rw [if_pos c15] at H
                have c15b0 : decide (a3 < 1) = true := decide_eq_true c15
                clear c15
                have H' := Aside0.mk H
                clear H
                go_wp2
                go_meet
                case rel => exact ⟨_, (true), (by first | rfl | (simp; done) | (simp [*]; done)), H', ⟨by first | omega | exact Nat.le_refl _⟩, ⟨by repeat (first | (with_reducible first | exact HB.out | apply below_alloc | apply pw_below_drewN | apply below_drew1) | exact HB.out)⟩⟩
              · rw [if_neg c15] at H
                have c15b0 : decide (a3 < 1) = false := decide_eq_false c15
                clear c15
                by_cases c16 : a3 > 4
                · rw [if_pos c16] at H
                  have c16b0 : decide (4 < a3) = true := decide_eq_true c16
                  clear c16
                  have H' := Aside0.mk H
                  clear H
                  go_wp2
                  go_meet
                  case rel => exact ⟨_, (true), (by first | rfl | (simp; done) | (simp [*]; done)), H', ⟨by first | omega | exact Nat.le_refl _⟩, ⟨by repeat (first | (with_reducible first | exact HB.out | apply below_alloc | apply pw_below_drewN | apply below_drew1) | exact HB.out)⟩⟩
                · rw [if_neg c16] at H
                  have c16b0 : decide (4 < a3) = false := decide_eq_false c16
                  clear c16
                  by_cases c17 : a4 < 0
                  · rw [if_pos c17] at H
                    have c17b0 : decide (a4 < 0) = true := decide_eq_true c17
                    clear c17
                    have H' := Aside0.mk H
                    clear H
                    go_wp2
                    go_meet
                    case rel => exact ⟨_, (true), (by first | rfl | (simp; done) | (simp [*]; done)), H', ⟨by first | omega | exact Nat.le_refl _⟩, ⟨by repeat (first | (with_reducible first | exact HB.out | apply below_alloc | apply pw_below_drewN | apply below_drew1) | exact HB.out)⟩⟩
                  · rw [if_neg c17] at H
                    have c17b0 : decide (a4 < 0) = false := decide_eq_false c17
                    clear c17
                    have H' := Aside0.mk H
                    clear H
                    go_wp2
                    go_meet
                    case rel => exact ⟨_, (decide (a4 > 1)), (by first | rfl | (simp; done) | (simp [*]; done)), H', ⟨by first | omega | exact Nat.le_refl _⟩, ⟨by repeat (first | (with_reducible first | exact HB.out | apply below_alloc | apply pw_below_drewN | apply below_drew1) | exact HB.out)⟩⟩
  case rest => as_aux_lemma =>
    clear HC8
    try clear c1
    try clear p2
    try clear c4
    try clear c10
    try clear c10b0
    try clear c11
    try clear c11b0
    try clear c12
    try clear c12b0
    try clear c13
    try clear c13b0
    try clear c14
    try clear c14b0
    try clear c15
    try clear c15b0
    try clear c16
    try clear c16b0
    try clear c17
    try clear c17b0
    obtain ⟨kq, x53_7, rfl, HA, HJ7, HB⟩ := hcut
    cases kq with
    | zero => exact absurd HA.out (by simp [quirelaw19_ColumnKeeps.j0])
    | succ kj7 =>
      have H := HA.out
      clear HA
      simp only [quirelaw19_ColumnKeeps.j0] at H
      by_cases c18 : x53_7 = true
      · subst c18
        have H1 : (some t135) = some r := by rw [if_pos rfl] at H; exact H
        clear H
        have H := H1
        clear H1
        obtain rfl := Option.some.inj H
        go_wp2
        go_ret
        exact ⟨by first | rfl | (simp [errW_none, errW_some] <;> rfl) | (simp [*, errW_none, errW_some] <;> rfl), by repeat (first | (with_reducible first | exact HB.out | apply below_alloc | apply pw_below_drewN | apply below_drew1) | exact HB.out)⟩
      · replace c18 := Bool.eq_false_iff.mpr c18
        subst c18
        have H1 : ((column_Split.f kj7 a0 a1 a2 a3 a4 a5).bind fun bt136 => (if bt136.2 = 0 then (if bt136.1 < 0 then (quirelaw19_ColumnKeeps.j1 kj7 a0 a1 a2 a3 a4 a5 t135 bt136.1 true) else (if bt136.1 > a0 then (quirelaw19_ColumnKeeps.j1 kj7 a0 a1 a2 a3 a4 a5 t135 bt136.1 true) else (if bt136.1 > a1 then (if a5 = true then (quirelaw19_ColumnKeeps.j1 kj7 a0 a1 a2 a3 a4 a5 t135 bt136.1 (!(bt136.1 == 1))) else (quirelaw19_ColumnKeeps.j1 kj7 a0 a1 a2 a3 a4 a5 t135 bt136.1 (!false))) else (quirelaw19_ColumnKeeps.j1 kj7 a0 a1 a2 a3 a4 a5 t135 bt136.1 false)))) else (quirelaw19_ColumnKeeps.j1 kj7 a0 a1 a2 a3 a4 a5 t135 bt136.1 true))) = some r := by rw [if_neg (show ¬ (false = true) by decide)] at H; exact H
        clear H
        have H := H1
        clear H1
        replace H := Option.bind_eq_some_iff.mp H
        obtain ⟨⟨t136, t137⟩, A190, H⟩ := H
        replace H : (if t137 = 0 then (if t136 < 0 then (quirelaw19_ColumnKeeps.j1 kj7 a0 a1 a2 a3 a4 a5 t135 t136 true) else (if t136 > a0 then (quirelaw19_ColumnKeeps.j1 kj7 a0 a1 a2 a3 a4 a5 t135 t136 true) else (if t136 > a1 then (if a5 = true then (quirelaw19_ColumnKeeps.j1 kj7 a0 a1 a2 a3 a4 a5 t135 t136 (!(t136 == 1))) else (quirelaw19_ColumnKeeps.j1 kj7 a0 a1 a2 a3 a4 a5 t135 t136 (!false))) else (quirelaw19_ColumnKeeps.j1 kj7 a0 a1 a2 a3 a4 a5 t135 t136 false)))) else (quirelaw19_ColumnKeeps.j1 kj7 a0 a1 a2 a3 a4 a5 t135 t136 true)) = some r := H
        have A19 := Aside0.mk A190
        clear A190
        have HC20 := Aside0.mk H
        clear H
        go_upto_region 5 with (first | ((with_reducible refine gate_callee (f := 11) rfl ?_); refine goesL_ (some 62) rfl rfl Try.func11 (by kernel_rfl) rfl #[.int .i64 a0, .int .i64 a1, .int .i64 a2, .int .i64 a3, .int .i64 a4, .bool a5] rfl (by (try simp only [List.map_toArray, List.map_cons, List.map_nil]); first | done | rfl | (simp only [List.length_drop, List.length_take]; rfl)) ?_; (with_reducible refine (column_Split.calls kj7 a0 a1 a2 a3 a4 a5 t136 t137 _ A19.out).mono ?_); rintro e w21 ⟨rfl, hb⟩; refine ⟨_, rfl, ?_⟩; have n0_ := Aside0.mk (below_step (by repeat (first | (with_reducible first | exact HB.out | apply below_alloc | apply pw_below_drewN | apply below_drew1) | exact HB.out)) hb); clear HB; have HB := n0_; clear n0_; (try clear hb); (try clear hb2); (try clear hk); (try clear hi)))
        (try simp only [Act.put, List.setIfInBounds_toArray, List.set_cons_zero, List.set_cons_succ])
        go_cut [88] (fun v88 wc => ∃ (kq : Nat) (x88_19 : Bool), v88 = .bool x88_19 ∧ Aside0 (quirelaw19_ColumnKeeps.j1 kq a0 a1 a2 a3 a4 a5 t135 t136 x88_19 = some r) ∧ Aside0 (kq ≤ kj7) ∧ Aside0 (Below w.heap.size w wc))
        case first => as_aux_lemma =>
          have H := HC20.out
          clear HC20
          by_cases c22 : t137 = 0
          · rw [if_pos c22] at H
            have c22b0 : (t137 == 0) = true := beq_iff_eq.mpr c22
            have c22b1 : (t137 != 0) = false := bne_eq_false_iff_eq.mpr c22
            clear c22
            (first | rw [c22b0] | (simp only [i64_w, i32_w]; rw [c22b0]) | skip)
            by_cases c23 : t136 < 0
            · rw [if_pos c23] at H
              have c23b0 : decide (t136 < 0) = true := decide_eq_true c23
              clear c23
              have H' := Aside0.mk H
              clear H
              go_wp2
              go_meet
              case rel => exact ⟨_, (true), (by first | rfl | (simp; done) | (simp [*]; done)), H', ⟨by have := HJ7.out; first | omega | exact Nat.le_refl _⟩, ⟨by repeat (first | (with_reducible first | exact HB.out | apply below_alloc | apply pw_below_drewN | apply below_drew1) | exact HB.out)⟩⟩
            · rw [if_neg c23] at H
              have c23b0 : decide (t136 < 0) = false := decide_eq_false c23
              clear c23
              by_cases c24 : t136 > a0
              · rw [if_pos c24] at H
                have c24b0 : decide (a0 < t136) = true := decide_eq_true c24
                clear c24
                have H' := Aside0.mk H
                clear H
                go_wp2
                go_meet
                case rel => exact ⟨_, (true), (by first | rfl | (simp; done) | (simp [*]; done)), H', ⟨by have := HJ7.out; first | omega | exact Nat.le_refl _⟩, ⟨by repeat (first | (with_reducible first | exact HB.out | apply below_alloc | apply pw_below_drewN | apply below_drew1) | exact HB.out)⟩⟩
              · rw [if_neg c24] at H
                have c24b0 : decide (a0 < t136) = false := decide_eq_false c24
                clear c24
                by_cases c25 : t136 > a1
                · rw [if_pos c25] at H
                  have c25b0 : decide (a1 < t136) = true := decide_eq_true c25
                  clear c25
                  by_cases c26 : a5 = true
                  · subst c26
                    have H1 : (quirelaw19_ColumnKeeps.j1 kj7 a0 a1 a2 a3 a4 true t135 t136 (!(t136 == 1))) = some r := by rw [if_pos rfl] at H; exact H
                    clear H
                    have H := H1
                    clear H1
                    have H' := Aside0.mk H
                    clear H
                    go_wp2
                    go_meet
                    case rel => exact ⟨_, (!(t136 == 1)), (by first | rfl | (simp; done) | (simp [*]; done)), H', ⟨by have := HJ7.out; first | omega | exact Nat.le_refl _⟩, ⟨by repeat (first | (with_reducible first | exact HB.out | apply below_alloc | apply pw_below_drewN | apply below_drew1) | exact HB.out)⟩⟩
                  · replace c26 := Bool.eq_false_iff.mpr c26
                    subst c26
                    have H1 : (quirelaw19_ColumnKeeps.j1 kj7 a0 a1 a2 a3 a4 false t135 t136 (!false)) = some r := by rw [if_neg (show ¬ (false = true) by decide)] at H; exact H
                    clear H
                    have H := H1
                    clear H1
                    have H' := Aside0.mk H
                    clear H
                    go_wp2
                    go_meet
                    case rel => exact ⟨_, (!false), (by first | rfl | (simp; done) | (simp [*]; done)), H', ⟨by have := HJ7.out; first | omega | exact Nat.le_refl _⟩, ⟨by repeat (first | (with_reducible first | exact HB.out | apply below_alloc | apply pw_below_drewN | apply below_drew1) | exact HB.out)⟩⟩
                · rw [if_neg c25] at H
                  have c25b0 : decide (a1 < t136) = false := decide_eq_false c25
                  clear c25
                  have H' := Aside0.mk H
                  clear H
                  go_wp2
                  go_meet
                  case rel => exact ⟨_, (false), (by first | rfl | (simp; done) | (simp [*]; done)), H', ⟨by have := HJ7.out; first | omega | exact Nat.le_refl _⟩, ⟨by repeat (first | (with_reducible first | exact HB.out | apply below_alloc | apply pw_below_drewN | apply below_drew1) | exact HB.out)⟩⟩
          · rw [if_neg c22] at H
            have c22b0 : (t137 == 0) = false := beq_eq_false_iff_ne.mpr c22
            have c22b1 : (t137 != 0) = true := bne_iff_ne.mpr c22
            (first | rw [c22b0] | (simp only [i64_w, i32_w]; rw [c22b0]) | skip)
            have H' := Aside0.mk H
            clear H
            go_wp2
            go_meet
            case rel => exact ⟨_, (true), (by first | rfl | (simp; done) | (simp [*]; done)), H', ⟨by have := HJ7.out; first | omega | exact Nat.le_refl _⟩, ⟨by repeat (first | (with_reducible first | exact HB.out | apply below_alloc | apply pw_below_drewN | apply below_drew1) | exact HB.out)⟩⟩
        case rest => as_aux_lemma =>
          clear HC20
          try clear c1
          try clear c2
          try clear p2
          try clear c4
          try clear c10
          try clear c10b0
          try clear c11
          try clear c11b0
          try clear c12
          try clear c12b0
          try clear c13
          try clear c13b0
          try clear c14
          try clear c14b0
          try clear c15
          try clear c15b0
          try clear c16
          try clear c16b0
          try clear c17
          try clear c17b0
          try clear c18
          try clear c22
          try clear c22b0
          try clear c22b1
          try clear c23
          try clear c23b0
          try clear c24
          try clear c24b0
          try clear c25
          try clear c25b0
          try clear c26
          try clear p2
          obtain ⟨kq, x88_19, rfl, HA, HJ19, HB⟩ := hcut
          cases kq with
          | zero => exact absurd HA.out (by simp [quirelaw19_ColumnKeeps.j1])
          | succ kj19 =>
            have H := HA.out
            clear HA
            simp only [quirelaw19_ColumnKeeps.j1] at H
            by_cases c27 : x88_19 = true
            · subst c27
              have H1 : (some false) = some r := by rw [if_pos rfl] at H; exact H
              clear H
              have H := H1
              clear H1
              obtain rfl := Option.some.inj H
              go_wp2
              go_ret
              exact ⟨by first | rfl | (simp [errW_none, errW_some] <;> rfl) | (simp [*, errW_none, errW_some] <;> rfl), by repeat (first | (with_reducible first | exact HB.out | apply below_alloc | apply pw_below_drewN | apply below_drew1) | exact HB.out)⟩
            · replace c27 := Bool.eq_false_iff.mpr c27
              subst c27
              have H1 : (if t136 = 0 then (quirelaw19_ColumnKeeps.j2 kj19 a0 a1 a2 a3 a4 a5 t135 t136 true) else (if t136 = a0 then (quirelaw19_ColumnKeeps.j2 kj19 a0 a1 a2 a3 a4 a5 t135 t136 true) else (if t136 ≥ a2 then (if (wrap64 (a0 - t136)) ≥ a3 then (quirelaw19_ColumnKeeps.j2 kj19 a0 a1 a2 a3 a4 a5 t135 t136 (a4 == 0)) else (quirelaw19_ColumnKeeps.j2 kj19 a0 a1 a2 a3 a4 a5 t135 t136 false)) else (quirelaw19_ColumnKeeps.j2 kj19 a0 a1 a2 a3 a4 a5 t135 t136 false)))) = some r := by rw [if_neg (show ¬ (false = true) by decide)] at H; exact H
              clear H
              have H := H1
              clear H1
              have HC28 := Aside0.mk H
              clear H
              go_upto_region 7 with (fail)
              go_cut [16] (fun v16 wc => ∃ (kq : Nat) (x16_27 : Bool), v16 = .bool x16_27 ∧ Aside0 (quirelaw19_ColumnKeeps.j2 kq a0 a1 a2 a3 a4 a5 t135 t136 x16_27 = some r) ∧ Aside0 (kq ≤ kj19) ∧ Aside0 (Below w.heap.size w wc))
              case first => as_aux_lemma =>
                have H := HC28.out
                clear HC28
                by_cases c29 : t136 = 0
                · rw [if_pos c29] at H
                  have c29b0 : (t136 == 0) = true := beq_iff_eq.mpr c29
                  have c29b1 : (t136 != 0) = false := bne_eq_false_iff_eq.mpr c29
                  clear c29
                  (first | rw [c29b0] | (simp only [i64_w, i32_w]; rw [c29b0]) | skip)
                  have H' := Aside0.mk H
                  clear H
                  go_wp2
                  go_meet
                  case rel => exact ⟨_, (true), (by first | rfl | (simp; done) | (simp [*]; done)), H', ⟨by have := HJ7.out; have := HJ19.out; first | omega | exact Nat.le_refl _⟩, ⟨by repeat (first | (with_reducible first | exact HB.out | apply below_alloc | apply pw_below_drewN | apply below_drew1) | exact HB.out)⟩⟩
                · rw [if_neg c29] at H
                  have c29b0 : (t136 == 0) = false := beq_eq_false_iff_ne.mpr c29
                  have c29b1 : (t136 != 0) = true := bne_iff_ne.mpr c29
                  (first | rw [c29b0] | (simp only [i64_w, i32_w]; rw [c29b0]) | skip)
                  by_cases c30 : t136 = a0
                  · rw [if_pos c30] at H
                    have c30b0 : (t136 == a0) = true := beq_iff_eq.mpr c30
                    have c30b1 : (t136 != a0) = false := bne_eq_false_iff_eq.mpr c30
                    clear c30
                    have H' := Aside0.mk H
                    clear H
                    go_wp2
                    go_meet
                    case rel => exact ⟨_, (true), (by first | rfl | (simp; done) | (simp [*]; done)), H', ⟨by have := HJ7.out; have := HJ19.out; first | omega | exact Nat.le_refl _⟩, ⟨by repeat (first | (with_reducible first | exact HB.out | apply below_alloc | apply pw_below_drewN | apply below_drew1) | exact HB.out)⟩⟩
                  · rw [if_neg c30] at H
                    have c30b0 : (t136 == a0) = false := beq_eq_false_iff_ne.mpr c30
                    have c30b1 : (t136 != a0) = true := bne_iff_ne.mpr c30
                    by_cases c31 : t136 ≥ a2
                    · rw [if_pos c31] at H
                      have c31b0 : decide (a2 ≤ t136) = true := decide_eq_true c31
                      clear c31
                      by_cases c32 : (wrap64 (a0 - t136)) ≥ a3
                      · rw [if_pos c32] at H
                        have c32b0 : decide (a3 ≤ (wrap64 (a0 - t136))) = true := decide_eq_true c32
                        clear c32
                        have H' := Aside0.mk H
                        clear H
                        go_wp2
                        go_meet
                        case rel => exact ⟨_, ((a4 == 0)), (by first | rfl | (simp; done) | (simp [*]; done)), H', ⟨by have := HJ7.out; have := HJ19.out; first | omega | exact Nat.le_refl _⟩, ⟨by repeat (first | (with_reducible first | exact HB.out | apply below_alloc | apply pw_below_drewN | apply below_drew1) | exact HB.out)⟩⟩
                      · rw [if_neg c32] at H
                        have c32b0 : decide (a3 ≤ (wrap64 (a0 - t136))) = false := decide_eq_false c32
                        clear c32
                        have H' := Aside0.mk H
                        clear H
                        go_wp2
                        go_meet
                        case rel => exact ⟨_, (false), (by first | rfl | (simp; done) | (simp [*]; done)), H', ⟨by have := HJ7.out; have := HJ19.out; first | omega | exact Nat.le_refl _⟩, ⟨by repeat (first | (with_reducible first | exact HB.out | apply below_alloc | apply pw_below_drewN | apply below_drew1) | exact HB.out)⟩⟩
                    · rw [if_neg c31] at H
                      have c31b0 : decide (a2 ≤ t136) = false := decide_eq_false c31
                      clear c31
                      have H' := Aside0.mk H
                      clear H
                      go_wp2
                      go_meet
                      case rel => exact ⟨_, (false), (by first | rfl | (simp; done) | (simp [*]; done)), H', ⟨by have := HJ7.out; have := HJ19.out; first | omega | exact Nat.le_refl _⟩, ⟨by repeat (first | (with_reducible first | exact HB.out | apply below_alloc | apply pw_below_drewN | apply below_drew1) | exact HB.out)⟩⟩
              case rest => as_aux_lemma =>
                clear HC28
                try clear c1
                try clear c2
                try clear p2
                try clear c3
                try clear c4
                try clear p6
                try clear c10
                try clear c10b0
                try clear c11
                try clear c11b0
                try clear c12
                try clear c12b0
                try clear c13
                try clear c13b0
                try clear c14
                try clear c14b0
                try clear c15
                try clear c15b0
                try clear c16
                try clear c16b0
                try clear c17
                try clear c17b0
                try clear c18
                try clear c22
                try clear c22b0
                try clear c22b1
                try clear c23
                try clear c23b0
                try clear c24
                try clear c24b0
                try clear c25
                try clear c25b0
                try clear c26
                try clear c27
                try clear c29
                try clear c29b0
                try clear c29b1
                try clear c30
                try clear c30b0
                try clear c30b1
                try clear c31
                try clear c31b0
                try clear c32
                try clear c32b0
                try clear p2
                obtain ⟨kq, x16_27, rfl, HA, HJ27, HB⟩ := hcut
                cases kq with
                | zero => exact absurd HA.out (by simp [quirelaw19_ColumnKeeps.j2])
                | succ kj27 =>
                  have H := HA.out
                  clear HA
                  simp only [quirelaw19_ColumnKeeps.j2] at H
                  have HC33 := Aside0.mk H
                  clear H
                  go_upto_region 8 with (fail)
                  go_cut [124] (fun v124 wc => ∃ (kq : Nat) (x124_32 : Bool), v124 = .bool x124_32 ∧ Aside0 (quirelaw19_ColumnKeeps.j3 kq a0 a1 a2 a3 a4 t135 t136 x16_27 x124_32 = some r) ∧ Aside0 (kq ≤ kj27) ∧ Aside0 (Below w.heap.size w wc))
                  case first => as_aux_lemma =>
                    have H := HC33.out
                    clear HC33
                    by_cases c34 : x16_27 = true
                    · subst c34
                      have H1 : (if a5 = true then (quirelaw19_ColumnKeeps.j3 kj27 a0 a1 a2 a3 a4 t135 t136 true (t136 == 0)) else (quirelaw19_ColumnKeeps.j3 kj27 a0 a1 a2 a3 a4 t135 t136 true false)) = some r := by rw [if_pos rfl] at H; exact H
                      clear H
                      have H := H1
                      clear H1
                      by_cases c35 : a5 = true
                      · subst c35
                        have H1 : (quirelaw19_ColumnKeeps.j3 kj27 a0 a1 a2 a3 a4 t135 t136 true (t136 == 0)) = some r := by rw [if_pos rfl] at H; exact H
                        clear H
                        have H := H1
                        clear H1
                        have H' := Aside0.mk H
                        clear H
                        go_wp2
                        go_meet
                        case rel => exact ⟨_, ((t136 == 0)), (by first | rfl | (simp; done) | (simp [*]; done)), H', ⟨by have := HJ7.out; have := HJ19.out; have := HJ27.out; first | omega | exact Nat.le_refl _⟩, ⟨by repeat (first | (with_reducible first | exact HB.out | apply below_alloc | apply pw_below_drewN | apply below_drew1) | exact HB.out)⟩⟩
                      · replace c35 := Bool.eq_false_iff.mpr c35
                        subst c35
                        have H1 : (quirelaw19_ColumnKeeps.j3 kj27 a0 a1 a2 a3 a4 t135 t136 true false) = some r := by rw [if_neg (show ¬ (false = true) by decide)] at H; exact H
                        clear H
                        have H := H1
                        clear H1
                        have H' := Aside0.mk H
                        clear H
                        go_wp2
                        go_meet
                        case rel => exact ⟨_, (false), (by first | rfl | (simp; done) | (simp [*]; done)), H', ⟨by have := HJ7.out; have := HJ19.out; have := HJ27.out; first | omega | exact Nat.le_refl _⟩, ⟨by repeat (first | (with_reducible first | exact HB.out | apply below_alloc | apply pw_below_drewN | apply below_drew1) | exact HB.out)⟩⟩
                    · replace c34 := Bool.eq_false_iff.mpr c34
                      subst c34
                      have H1 : (if a5 = true then (quirelaw19_ColumnKeeps.j3 kj27 a0 a1 a2 a3 a4 t135 t136 false (t136 == 0)) else (quirelaw19_ColumnKeeps.j3 kj27 a0 a1 a2 a3 a4 t135 t136 false true)) = some r := by rw [if_neg (show ¬ (false = true) by decide)] at H; exact H
                      clear H
                      have H := H1
                      clear H1
                      by_cases c36 : a5 = true
                      · subst c36
                        have H1 : (quirelaw19_ColumnKeeps.j3 kj27 a0 a1 a2 a3 a4 t135 t136 false (t136 == 0)) = some r := by rw [if_pos rfl] at H; exact H
                        clear H
                        have H := H1
                        clear H1
                        have H' := Aside0.mk H
                        clear H
                        go_wp2
                        go_meet
                        case rel => exact ⟨_, ((t136 == 0)), (by first | rfl | (simp; done) | (simp [*]; done)), H', ⟨by have := HJ7.out; have := HJ19.out; have := HJ27.out; first | omega | exact Nat.le_refl _⟩, ⟨by repeat (first | (with_reducible first | exact HB.out | apply below_alloc | apply pw_below_drewN | apply below_drew1) | exact HB.out)⟩⟩
                      · replace c36 := Bool.eq_false_iff.mpr c36
                        subst c36
                        have H1 : (quirelaw19_ColumnKeeps.j3 kj27 a0 a1 a2 a3 a4 t135 t136 false true) = some r := by rw [if_neg (show ¬ (false = true) by decide)] at H; exact H
                        clear H
                        have H := H1
                        clear H1
                        have H' := Aside0.mk H
                        clear H
                        go_wp2
                        go_meet
                        case rel => exact ⟨_, (true), (by first | rfl | (simp; done) | (simp [*]; done)), H', ⟨by have := HJ7.out; have := HJ19.out; have := HJ27.out; first | omega | exact Nat.le_refl _⟩, ⟨by repeat (first | (with_reducible first | exact HB.out | apply below_alloc | apply pw_below_drewN | apply below_drew1) | exact HB.out)⟩⟩
                  case rest => as_aux_lemma =>
                    clear HC33
                    try clear c1
                    try clear c2
                    try clear p2
                    try clear c3
                    try clear c4
                    try clear p6
                    try clear c10
                    try clear c10b0
                    try clear c11
                    try clear c11b0
                    try clear c12
                    try clear c12b0
                    try clear c13
                    try clear c13b0
                    try clear c14
                    try clear c14b0
                    try clear c15
                    try clear c15b0
                    try clear c16
                    try clear c16b0
                    try clear c17
                    try clear c17b0
                    try clear c18
                    try clear c22
                    try clear c22b0
                    try clear c22b1
                    try clear c23
                    try clear c23b0
                    try clear c24
                    try clear c24b0
                    try clear c25
                    try clear c25b0
                    try clear c26
                    try clear c27
                    try clear c29
                    try clear c29b0
                    try clear c29b1
                    try clear c30
                    try clear c30b0
                    try clear c30b1
                    try clear c31
                    try clear c31b0
                    try clear c32
                    try clear c32b0
                    try clear c34
                    try clear c35
                    try clear c36
                    try clear p2
                    try clear p6
                    obtain ⟨kq, x124_32, rfl, HA, HJ32, HB⟩ := hcut
                    cases kq with
                    | zero => exact absurd HA.out (by simp [quirelaw19_ColumnKeeps.j3])
                    | succ kj32 =>
                      have H := HA.out
                      clear HA
                      simp only [quirelaw19_ColumnKeeps.j3] at H
                      by_cases c37 : x124_32 = true
                      · subst c37
                        have H1 : (some false) = some r := by rw [if_pos rfl] at H; exact H
                        clear H
                        have H := H1
                        clear H1
                        obtain rfl := Option.some.inj H
                        go_wp2
                        go_ret
                        exact ⟨by first | rfl | (simp [errW_none, errW_some] <;> rfl) | (simp [*, errW_none, errW_some] <;> rfl), by repeat (first | (with_reducible first | exact HB.out | apply below_alloc | apply pw_below_drewN | apply below_drew1) | exact HB.out)⟩
                      · replace c37 := Bool.eq_false_iff.mpr c37
                        subst c37
                        have H1 : (quirelaw19_ColumnKeeps.l0 kj32 a0 a1 a2 a3 a4 t135 t136 x16_27 (wrap64 (t136 + 1))) = some r := by rw [if_neg (show ¬ (false = true) by decide)] at H; exact H
                        clear H
                        have H := H1
                        clear H1
                        have H' := Aside0.mk H
                        clear H
                        go_wp2
                        go_loopg [17] kj32 (fun kq v17 w' => ∃ (x17_5 : Int), v17 = .int .i64 x17_5 ∧ Aside0 (quirelaw19_ColumnKeeps.l0 kq a0 a1 a2 a3 a4 t135 t136 x16_27 x17_5 = some r) ∧ Aside0 (kq ≤ kj32) ∧ Aside0 (Below w.heap.size w w'))
                        case atStart => exact ⟨(wrap64 (t136 + 1)), (by first | rfl | (simp; done) | (simp [*]; done)), H', ⟨Nat.le_refl _⟩, ⟨by repeat (first | (with_reducible first | exact HB.out | apply below_alloc | apply pw_below_drewN | apply below_drew1) | exact HB.out)⟩⟩
                        case round => as_aux_lemma =>
                          clear H'
                          try clear c1
                          try clear c2
                          try clear p2
                          try clear c3
                          try clear c4
                          try clear p6
                          try clear c10
                          try clear c10b0
                          try clear c11
                          try clear c11b0
                          try clear c12
                          try clear c12b0
                          try clear c13
                          try clear c13b0
                          try clear c14
                          try clear c14b0
                          try clear c15
                          try clear c15b0
                          try clear c16
                          try clear c16b0
                          try clear c17
                          try clear c17b0
                          try clear c18
                          try clear c22
                          try clear c22b0
                          try clear c22b1
                          try clear c23
                          try clear c23b0
                          try clear c24
                          try clear c24b0
                          try clear c25
                          try clear c25b0
                          try clear c26
                          try clear c27
                          try clear c29
                          try clear c29b0
                          try clear c29b1
                          try clear c30
                          try clear c30b0
                          try clear c30b1
                          try clear c31
                          try clear c31b0
                          try clear c32
                          try clear c32b0
                          try clear c34
                          try clear c35
                          try clear c36
                          try clear c37
                          try clear p2
                          try clear p6
                          obtain ⟨x17_5, rfl, HA, HK5, HB⟩ := hrel
                          cases gk with
                          | zero => exact absurd HA.out (by simp [quirelaw19_ColumnKeeps.l0])
                          | succ k5 =>
                            have H := HA.out
                            clear HA
                            simp only [quirelaw19_ColumnKeeps.l0] at H
                            have HC38 := Aside0.mk H
                            clear H
                            go_upto_region 11 with (fail)
                            go_cut [134] (fun v134 wc => ∃ (kq : Nat) (x134_37 : Bool), v134 = .bool x134_37 ∧ Aside0 (quirelaw19_ColumnKeeps.j5 kq a0 a1 a2 a3 a4 t135 t136 x16_27 x17_5 x134_37 = some r) ∧ Aside0 (kq ≤ k5) ∧ Aside0 (Below w.heap.size w wc))
                            case first => as_aux_lemma =>
                              have H := HC38.out
                              clear HC38
                              by_cases c39 : x17_5 ≤ a0
                              · rw [if_pos c39] at H
                                have c39b0 : decide (x17_5 ≤ a0) = true := decide_eq_true c39
                                clear c39
                                (first | rw [c39b0] | (simp only [i64_w, i32_w]; rw [c39b0]) | skip)
                                have H' := Aside0.mk H
                                clear H
                                go_wp2
                                go_meet
                                case rel => exact ⟨_, (decide (x17_5 ≤ a1)), (by first | rfl | (simp; done) | (simp [*]; done)), H', ⟨by have := HJ7.out; have := HJ19.out; have := HJ27.out; have := HJ32.out; have := HK5.out; first | omega | exact Nat.le_refl _⟩, ⟨by repeat (first | (with_reducible first | exact HB.out | apply below_alloc | apply pw_below_drewN | apply below_drew1) | exact HB.out)⟩⟩
                              · rw [if_neg c39] at H
                                have c39b0 : decide (x17_5 ≤ a0) = false := decide_eq_false c39
                                clear c39
                                (first | rw [c39b0] | (simp only [i64_w, i32_w]; rw [c39b0]) | skip)
                                have H' := Aside0.mk H
                                clear H
                                go_wp2
                                go_meet
                                case rel => exact ⟨_, (false), (by first | rfl | (simp; done) | (simp [*]; done)), H', ⟨by have := HJ7.out; have := HJ19.out; have := HJ27.out; have := HJ32.out; have := HK5.out; first | omega | exact Nat.le_refl _⟩, ⟨by repeat (first | (with_reducible first | exact HB.out | apply below_alloc | apply pw_below_drewN | apply below_drew1) | exact HB.out)⟩⟩
                            case rest => as_aux_lemma =>
                              clear HC38
                              try clear c1
                              try clear c2
                              try clear p2
                              try clear c3
                              try clear c4
                              try clear p6
                              try clear c10
                              try clear c10b0
                              try clear c11
                              try clear c11b0
                              try clear c12
                              try clear c12b0
                              try clear c13
                              try clear c13b0
                              try clear c14
                              try clear c14b0
                              try clear c15
                              try clear c15b0
                              try clear c16
                              try clear c16b0
                              try clear c17
                              try clear c17b0
                              try clear c18
                              try clear c22
                              try clear c22b0
                              try clear c22b1
                              try clear c23
                              try clear c23b0
                              try clear c24
                              try clear c24b0
                              try clear c25
                              try clear c25b0
                              try clear c26
                              try clear c27
                              try clear c29
                              try clear c29b0
                              try clear c29b1
                              try clear c30
                              try clear c30b0
                              try clear c30b1
                              try clear c31
                              try clear c31b0
                              try clear c32
                              try clear c32b0
                              try clear c34
                              try clear c35
                              try clear c36
                              try clear c37
                              try clear c39
                              try clear c39b0
                              try clear p2
                              try clear p6
                              obtain ⟨kq, x134_37, rfl, HA, HJ37, HB⟩ := hcut
                              cases kq with
                              | zero => exact absurd HA.out (by simp [quirelaw19_ColumnKeeps.j5])
                              | succ kj37 =>
                                have H := HA.out
                                clear HA
                                simp only [quirelaw19_ColumnKeeps.j5] at H
                                by_cases c40 : x134_37 = true
                                · subst c40
                                  have H1 : (if x17_5 = a0 then (some false) else (if x17_5 ≥ a2 then (if (wrap64 (a0 - x17_5)) ≥ a3 then (if a4 = 0 then (some false) else (quirelaw19_ColumnKeeps.l0 kj37 a0 a1 a2 a3 a4 t135 t136 x16_27 (wrap64 (x17_5 + 1)))) else (quirelaw19_ColumnKeeps.l0 kj37 a0 a1 a2 a3 a4 t135 t136 x16_27 (wrap64 (x17_5 + 1)))) else (quirelaw19_ColumnKeeps.l0 kj37 a0 a1 a2 a3 a4 t135 t136 x16_27 (wrap64 (x17_5 + 1))))) = some r := by rw [if_pos rfl] at H; exact H
                                  clear H
                                  have H := H1
                                  clear H1
                                  by_cases c41 : x17_5 = a0
                                  · rw [if_pos c41] at H
                                    have c41b0 : (x17_5 == a0) = true := beq_iff_eq.mpr c41
                                    have c41b1 : (x17_5 != a0) = false := bne_eq_false_iff_eq.mpr c41
                                    clear c41
                                    obtain rfl := Option.some.inj H
                                    go_wp2
                                    go_ret
                                    exact ⟨by first | rfl | (simp [errW_none, errW_some] <;> rfl) | (simp [*, errW_none, errW_some] <;> rfl), by repeat (first | (with_reducible first | exact HB.out | apply below_alloc | apply pw_below_drewN | apply below_drew1) | exact HB.out)⟩
                                  · rw [if_neg c41] at H
                                    have c41b0 : (x17_5 == a0) = false := beq_eq_false_iff_ne.mpr c41
                                    have c41b1 : (x17_5 != a0) = true := bne_iff_ne.mpr c41
                                    by_cases c42 : x17_5 ≥ a2
                                    · rw [if_pos c42] at H
                                      have c42b0 : decide (a2 ≤ x17_5) = true := decide_eq_true c42
                                      clear c42
                                      by_cases c43 : (wrap64 (a0 - x17_5)) ≥ a3
                                      · rw [if_pos c43] at H
                                        have c43b0 : decide (a3 ≤ (wrap64 (a0 - x17_5))) = true := decide_eq_true c43
                                        clear c43
                                        by_cases c44 : a4 = 0
                                        · rw [if_pos c44] at H
                                          have c44b0 : (a4 == 0) = true := beq_iff_eq.mpr c44
                                          have c44b1 : (a4 != 0) = false := bne_eq_false_iff_eq.mpr c44
                                          clear c44
                                          obtain rfl := Option.some.inj H
                                          go_wp2
                                          go_ret
                                          exact ⟨by first | rfl | (simp [errW_none, errW_some] <;> rfl) | (simp [*, errW_none, errW_some] <;> rfl), by repeat (first | (with_reducible first | exact HB.out | apply below_alloc | apply pw_below_drewN | apply below_drew1) | exact HB.out)⟩
                                        · rw [if_neg c44] at H
                                          have c44b0 : (a4 == 0) = false := beq_eq_false_iff_ne.mpr c44
                                          have c44b1 : (a4 != 0) = true := bne_iff_ne.mpr c44
                                          have H' := Aside0.mk H
                                          clear H
                                          go_wp2
                                          go_roundg kj37
                                          case measure => have := HJ7.out; have := HJ19.out; have := HJ27.out; have := HJ32.out; have := HK5.out; have := HJ37.out; omega
                                          case rel => exact ⟨(wrap64 (x17_5 + 1)), (by first | rfl | (simp; done) | (simp [*]; done)), H', ⟨by have := HJ7.out; have := HJ19.out; have := HJ27.out; have := HJ32.out; have := HK5.out; have := HJ37.out; omega⟩, ⟨by repeat (first | (with_reducible first | exact HB.out | apply below_alloc | apply pw_below_drewN | apply below_drew1) | exact HB.out)⟩⟩
                                      · rw [if_neg c43] at H
                                        have c43b0 : decide (a3 ≤ (wrap64 (a0 - x17_5))) = false := decide_eq_false c43
                                        clear c43
                                        have H' := Aside0.mk H
                                        clear H
                                        go_wp2
                                        go_roundg kj37
                                        case measure => have := HJ7.out; have := HJ19.out; have := HJ27.out; have := HJ32.out; have := HK5.out; have := HJ37.out; omega
                                        case rel => exact ⟨(wrap64 (x17_5 + 1)), (by first | rfl | (simp; done) | (simp [*]; done)), H', ⟨by have := HJ7.out; have := HJ19.out; have := HJ27.out; have := HJ32.out; have := HK5.out; have := HJ37.out; omega⟩, ⟨by repeat (first | (with_reducible first | exact HB.out | apply below_alloc | apply pw_below_drewN | apply below_drew1) | exact HB.out)⟩⟩
                                    · rw [if_neg c42] at H
                                      have c42b0 : decide (a2 ≤ x17_5) = false := decide_eq_false c42
                                      clear c42
                                      have H' := Aside0.mk H
                                      clear H
                                      go_wp2
                                      go_roundg kj37
                                      case measure => have := HJ7.out; have := HJ19.out; have := HJ27.out; have := HJ32.out; have := HK5.out; have := HJ37.out; omega
                                      case rel => exact ⟨(wrap64 (x17_5 + 1)), (by first | rfl | (simp; done) | (simp [*]; done)), H', ⟨by have := HJ7.out; have := HJ19.out; have := HJ27.out; have := HJ32.out; have := HK5.out; have := HJ37.out; omega⟩, ⟨by repeat (first | (with_reducible first | exact HB.out | apply below_alloc | apply pw_below_drewN | apply below_drew1) | exact HB.out)⟩⟩
                                · replace c40 := Bool.eq_false_iff.mpr c40
                                  subst c40
                                  have H1 : (if x16_27 = true then (some t135) else (quirelaw19_ColumnKeeps.l1 kj37 a0 a1 a2 a3 a4 t135 t136 1)) = some r := by rw [if_neg (show ¬ (false = true) by decide)] at H; exact H
                                  clear H
                                  have H := H1
                                  clear H1
                                  by_cases c45 : x16_27 = true
                                  · subst c45
                                    have H1 : (some t135) = some r := by rw [if_pos rfl] at H; exact H
                                    clear H
                                    have H := H1
                                    clear H1
                                    obtain rfl := Option.some.inj H
                                    go_wp2
                                    go_ret
                                    exact ⟨by first | rfl | (simp [errW_none, errW_some] <;> rfl) | (simp [*, errW_none, errW_some] <;> rfl), by repeat (first | (with_reducible first | exact HB.out | apply below_alloc | apply pw_below_drewN | apply below_drew1) | exact HB.out)⟩
                                  · replace c45 := Bool.eq_false_iff.mpr c45
                                    subst c45
                                    have H1 : (quirelaw19_ColumnKeeps.l1 kj37 a0 a1 a2 a3 a4 t135 t136 1) = some r := by rw [if_neg (show ¬ (false = true) by decide)] at H; exact H
                                    clear H
                                    have H := H1
                                    clear H1
                                    have H' := Aside0.mk H
                                    clear H
                                    go_wp2
                                    go_loopg [18] kj37 (fun kq v18 w' => ∃ (x18_7 : Int), v18 = .int .i64 x18_7 ∧ Aside0 (quirelaw19_ColumnKeeps.l1 kq a0 a1 a2 a3 a4 t135 t136 x18_7 = some r) ∧ Aside0 (kq ≤ kj37) ∧ Aside0 (Below w.heap.size w w'))
                                    case atStart => exact ⟨(1), (by first | rfl | (simp; done) | (simp [*]; done)), H', ⟨Nat.le_refl _⟩, ⟨by repeat (first | (with_reducible first | exact HB.out | apply below_alloc | apply pw_below_drewN | apply below_drew1) | exact HB.out)⟩⟩
                                    case round => as_aux_lemma =>
                                      clear H'
                                      try clear c1
                                      try clear c2
                                      try clear p2
                                      try clear c3
                                      try clear c4
                                      try clear p6
                                      try clear c10
                                      try clear c10b0
                                      try clear c11
                                      try clear c11b0
                                      try clear c12
                                      try clear c12b0
                                      try clear c13
                                      try clear c13b0
                                      try clear c14
                                      try clear c14b0
                                      try clear c15
                                      try clear c15b0
                                      try clear c16
                                      try clear c16b0
                                      try clear c17
                                      try clear c17b0
                                      try clear c18
                                      try clear c22
                                      try clear c22b0
                                      try clear c22b1
                                      try clear c23
                                      try clear c23b0
                                      try clear c24
                                      try clear c24b0
                                      try clear c25
                                      try clear c25b0
                                      try clear c26
                                      try clear c27
                                      try clear c29
                                      try clear c29b0
                                      try clear c29b1
                                      try clear c30
                                      try clear c30b0
                                      try clear c30b1
                                      try clear c31
                                      try clear c31b0
                                      try clear c32
                                      try clear c32b0
                                      try clear c34
                                      try clear c35
                                      try clear c36
                                      try clear c37
                                      try clear c39
                                      try clear c39b0
                                      try clear c40
                                      try clear c41
                                      try clear c41b0
                                      try clear c41b1
                                      try clear c42
                                      try clear c42b0
                                      try clear c43
                                      try clear c43b0
                                      try clear c44
                                      try clear c44b0
                                      try clear c44b1
                                      try clear c45
                                      try clear p2
                                      try clear p6
                                      obtain ⟨x18_7, rfl, HA, HK7, HB⟩ := hrel
                                      cases gk with
                                      | zero => exact absurd HA.out (by simp [quirelaw19_ColumnKeeps.l1])
                                      | succ k7 =>
                                        have H := HA.out
                                        clear HA
                                        simp only [quirelaw19_ColumnKeeps.l1] at H
                                        have HC46 := Aside0.mk H
                                        clear H
                                        go_upto_region 18 with (fail)
                                        go_cut [165] (fun v165 wc => ∃ (kq : Nat) (x165_45 : Bool), v165 = .bool x165_45 ∧ Aside0 (quirelaw19_ColumnKeeps.j7 kq a0 a1 a2 a3 a4 t135 t136 x18_7 x165_45 = some r) ∧ Aside0 (kq ≤ k7) ∧ Aside0 (Below w.heap.size w wc))
                                        case first => as_aux_lemma =>
                                          have H := HC46.out
                                          clear HC46
                                          by_cases c47 : x18_7 ≤ a1
                                          · rw [if_pos c47] at H
                                            have c47b0 : decide (x18_7 ≤ a1) = true := decide_eq_true c47
                                            clear c47
                                            (first | rw [c47b0] | (simp only [i64_w, i32_w]; rw [c47b0]) | skip)
                                            have H' := Aside0.mk H
                                            clear H
                                            go_wp2
                                            go_meet
                                            case rel => exact ⟨_, (decide (x18_7 < a0)), (by first | rfl | (simp; done) | (simp [*]; done)), H', ⟨by have := HJ7.out; have := HJ19.out; have := HJ27.out; have := HJ32.out; have := HK5.out; have := HJ37.out; have := HK7.out; first | omega | exact Nat.le_refl _⟩, ⟨by repeat (first | (with_reducible first | exact HB.out | apply below_alloc | apply pw_below_drewN | apply below_drew1) | exact HB.out)⟩⟩
                                          · rw [if_neg c47] at H
                                            have c47b0 : decide (x18_7 ≤ a1) = false := decide_eq_false c47
                                            clear c47
                                            (first | rw [c47b0] | (simp only [i64_w, i32_w]; rw [c47b0]) | skip)
                                            have H' := Aside0.mk H
                                            clear H
                                            go_wp2
                                            go_meet
                                            case rel => exact ⟨_, (false), (by first | rfl | (simp; done) | (simp [*]; done)), H', ⟨by have := HJ7.out; have := HJ19.out; have := HJ27.out; have := HJ32.out; have := HK5.out; have := HJ37.out; have := HK7.out; first | omega | exact Nat.le_refl _⟩, ⟨by repeat (first | (with_reducible first | exact HB.out | apply below_alloc | apply pw_below_drewN | apply below_drew1) | exact HB.out)⟩⟩
                                        case rest => as_aux_lemma =>
                                          clear HC46
                                          try clear c1
                                          try clear c2
                                          try clear p2
                                          try clear c3
                                          try clear c4
                                          try clear p6
                                          try clear c10
                                          try clear c10b0
                                          try clear c11
                                          try clear c11b0
                                          try clear c12
                                          try clear c12b0
                                          try clear c13
                                          try clear c13b0
                                          try clear c14
                                          try clear c14b0
                                          try clear c15
                                          try clear c15b0
                                          try clear c16
                                          try clear c16b0
                                          try clear c17
                                          try clear c17b0
                                          try clear c18
                                          try clear c22
                                          try clear c22b0
                                          try clear c22b1
                                          try clear c23
                                          try clear c23b0
                                          try clear c24
                                          try clear c24b0
                                          try clear c25
                                          try clear c25b0
                                          try clear c26
                                          try clear c27
                                          try clear c29
                                          try clear c29b0
                                          try clear c29b1
                                          try clear c30
                                          try clear c30b0
                                          try clear c30b1
                                          try clear c31
                                          try clear c31b0
                                          try clear c32
                                          try clear c32b0
                                          try clear c34
                                          try clear c35
                                          try clear c36
                                          try clear c37
                                          try clear c39
                                          try clear c39b0
                                          try clear c40
                                          try clear c41
                                          try clear c41b0
                                          try clear c41b1
                                          try clear c42
                                          try clear c42b0
                                          try clear c43
                                          try clear c43b0
                                          try clear c44
                                          try clear c44b0
                                          try clear c44b1
                                          try clear c45
                                          try clear c47
                                          try clear c47b0
                                          try clear p2
                                          try clear p6
                                          obtain ⟨kq, x165_45, rfl, HA, HJ45, HB⟩ := hcut
                                          cases kq with
                                          | zero => exact absurd HA.out (by simp [quirelaw19_ColumnKeeps.j7])
                                          | succ kj45 =>
                                            have H := HA.out
                                            clear HA
                                            simp only [quirelaw19_ColumnKeeps.j7] at H
                                            by_cases c48 : x165_45 = true
                                            · subst c48
                                              have H1 : (if x18_7 ≥ a2 then (if (wrap64 (a0 - x18_7)) ≥ a3 then (if a4 = 0 then (some false) else (quirelaw19_ColumnKeeps.l1 kj45 a0 a1 a2 a3 a4 t135 t136 (wrap64 (x18_7 + 1)))) else (quirelaw19_ColumnKeeps.l1 kj45 a0 a1 a2 a3 a4 t135 t136 (wrap64 (x18_7 + 1)))) else (quirelaw19_ColumnKeeps.l1 kj45 a0 a1 a2 a3 a4 t135 t136 (wrap64 (x18_7 + 1)))) = some r := by rw [if_pos rfl] at H; exact H
                                              clear H
                                              have H := H1
                                              clear H1
                                              by_cases c49 : x18_7 ≥ a2
                                              · rw [if_pos c49] at H
                                                have c49b0 : decide (a2 ≤ x18_7) = true := decide_eq_true c49
                                                clear c49
                                                by_cases c50 : (wrap64 (a0 - x18_7)) ≥ a3
                                                · rw [if_pos c50] at H
                                                  have c50b0 : decide (a3 ≤ (wrap64 (a0 - x18_7))) = true := decide_eq_true c50
                                                  clear c50
                                                  by_cases c51 : a4 = 0
                                                  · rw [if_pos c51] at H
                                                    have c51b0 : (a4 == 0) = true := beq_iff_eq.mpr c51
                                                    have c51b1 : (a4 != 0) = false := bne_eq_false_iff_eq.mpr c51
                                                    clear c51
                                                    obtain rfl := Option.some.inj H
                                                    go_wp2
                                                    go_ret
                                                    exact ⟨by first | rfl | (simp [errW_none, errW_some] <;> rfl) | (simp [*, errW_none, errW_some] <;> rfl), by repeat (first | (with_reducible first | exact HB.out | apply below_alloc | apply pw_below_drewN | apply below_drew1) | exact HB.out)⟩
                                                  · rw [if_neg c51] at H
                                                    have c51b0 : (a4 == 0) = false := beq_eq_false_iff_ne.mpr c51
                                                    have c51b1 : (a4 != 0) = true := bne_iff_ne.mpr c51
                                                    have H' := Aside0.mk H
                                                    clear H
                                                    go_wp2
                                                    go_roundg kj45
                                                    case measure => have := HJ7.out; have := HJ19.out; have := HJ27.out; have := HJ32.out; have := HK5.out; have := HJ37.out; have := HK7.out; have := HJ45.out; omega
                                                    case rel => exact ⟨(wrap64 (x18_7 + 1)), (by first | rfl | (simp; done) | (simp [*]; done)), H', ⟨by have := HJ7.out; have := HJ19.out; have := HJ27.out; have := HJ32.out; have := HK5.out; have := HJ37.out; have := HK7.out; have := HJ45.out; omega⟩, ⟨by repeat (first | (with_reducible first | exact HB.out | apply below_alloc | apply pw_below_drewN | apply below_drew1) | exact HB.out)⟩⟩
                                                · rw [if_neg c50] at H
                                                  have c50b0 : decide (a3 ≤ (wrap64 (a0 - x18_7))) = false := decide_eq_false c50
                                                  clear c50
                                                  have H' := Aside0.mk H
                                                  clear H
                                                  go_wp2
                                                  go_roundg kj45
                                                  case measure => have := HJ7.out; have := HJ19.out; have := HJ27.out; have := HJ32.out; have := HK5.out; have := HJ37.out; have := HK7.out; have := HJ45.out; omega
                                                  case rel => exact ⟨(wrap64 (x18_7 + 1)), (by first | rfl | (simp; done) | (simp [*]; done)), H', ⟨by have := HJ7.out; have := HJ19.out; have := HJ27.out; have := HJ32.out; have := HK5.out; have := HJ37.out; have := HK7.out; have := HJ45.out; omega⟩, ⟨by repeat (first | (with_reducible first | exact HB.out | apply below_alloc | apply pw_below_drewN | apply below_drew1) | exact HB.out)⟩⟩
                                              · rw [if_neg c49] at H
                                                have c49b0 : decide (a2 ≤ x18_7) = false := decide_eq_false c49
                                                clear c49
                                                have H' := Aside0.mk H
                                                clear H
                                                go_wp2
                                                go_roundg kj45
                                                case measure => have := HJ7.out; have := HJ19.out; have := HJ27.out; have := HJ32.out; have := HK5.out; have := HJ37.out; have := HK7.out; have := HJ45.out; omega
                                                case rel => exact ⟨(wrap64 (x18_7 + 1)), (by first | rfl | (simp; done) | (simp [*]; done)), H', ⟨by have := HJ7.out; have := HJ19.out; have := HJ27.out; have := HJ32.out; have := HK5.out; have := HJ37.out; have := HK7.out; have := HJ45.out; omega⟩, ⟨by repeat (first | (with_reducible first | exact HB.out | apply below_alloc | apply pw_below_drewN | apply below_drew1) | exact HB.out)⟩⟩
                                            · replace c48 := Bool.eq_false_iff.mpr c48
                                              subst c48
                                              have H1 : (if t135 = true then (some (t136 == (mx a1 1))) else (some false)) = some r := by rw [if_neg (show ¬ (false = true) by decide)] at H; exact H
                                              clear H
                                              have H := H1
                                              clear H1
                                              by_cases c52 : t135 = true
                                              · subst c52
                                                have H1 : (some (t136 == (mx a1 1))) = some r := by rw [if_pos rfl] at H; exact H
                                                clear H
                                                have H := H1
                                                clear H1
                                                obtain ⟨ji53, hji53⟩ : ∃ j_ : Int, (mx a1 1) = j_ := ⟨_, rfl⟩
                                                replace H : (some (t136 == (ji53))) = some r := by first | (rw [hji53] at H; exact H) | (simp only [hji53] at H ⊢; exact H)
                                                have hji53_ : (if a1 < 1 then 1 else a1) = ji53 := hji53
                                                obtain rfl := Option.some.inj H
                                                go_wp2
                                                go_ret
                                                exact ⟨by first | rfl | (simp [errW_none, errW_some] <;> rfl) | (simp only [← hji53]; first | rfl | (simp [errW_none, errW_some] <;> rfl)) | (simp [*, errW_none, errW_some] <;> rfl), by repeat (first | (with_reducible first | exact HB.out | apply below_alloc | apply pw_below_drewN | apply below_drew1) | exact HB.out)⟩
                                              · replace c52 := Bool.eq_false_iff.mpr c52
                                                subst c52
                                                have H1 : (some false) = some r := by rw [if_neg (show ¬ (false = true) by decide)] at H; exact H
                                                clear H
                                                have H := H1
                                                clear H1
                                                obtain rfl := Option.some.inj H
                                                go_wp2
                                                go_ret
                                                exact ⟨by first | rfl | (simp [errW_none, errW_some] <;> rfl) | (simp [*, errW_none, errW_some] <;> rfl), by repeat (first | (with_reducible first | exact HB.out | apply below_alloc | apply pw_below_drewN | apply below_drew1) | exact HB.out)⟩

/-- THE ONE PURE STATEMENT of quirelaw19_ColumnKeeps: yours. -/
def quirelaw19_ColumnKeeps.Pure : Prop := ∀ (a0 : Int) (a1 : Int) (a2 : Int) (a3 : Int) (a4 : Int) (a5 : Bool), (Lit.int .i64 a0).wf = true → (Lit.int .i64 a1).wf = true → (Lit.int .i64 a2).wf = true → (Lit.int .i64 a3).wf = true → (Lit.int .i64 a4).wf = true → ∃ k, quirelaw19_ColumnKeeps.f k a0 a1 a2 a3 a4 a5 = some true
theorem quirelaw19_ColumnKeeps.walk (P : quirelaw19_ColumnKeeps.Pure) (a0 : Int) (a1 : Int) (a2 : Int) (a3 : Int) (a4 : Int) (a5 : Bool) (w : World) (w0 : (Lit.int .i64 a0).wf = true) (w1 : (Lit.int .i64 a1).wf = true) (w2 : (Lit.int .i64 a2).wf = true) (w3 : (Lit.int .i64 a3).wf = true) (w4 : (Lit.int .i64 a4).wf = true) :
    Calls Try.prog 4 #[.int .i64 a0, .int .i64 a1, .int .i64 a2, .int .i64 a3, .int .i64 a4, .bool a5] w fun e w' => e = .returned (.bool true) ∧ Below w.heap.size w w' := by
  obtain ⟨k, h⟩ := P a0 a1 a2 a3 a4 a5 w0 w1 w2 w3 w4
  refine (quirelaw19_ColumnKeeps.calls k a0 a1 a2 a3 a4 a5 true w h).mono ?_
  rintro e w' ⟨rfl, hd⟩
  exact ⟨rfl, hd⟩

end Go.Proofs.Ytoodiihimjalfaa.PColumnKeeps
