/- The walk of a statement's Go function to its answer in plain Lean: for every list that can be read; each part of the walk is a lemma of its own. -/
import Derived.Test.YtoodiihimjalfaaPColumnFillsx0
import Derived.Test.YtoodiihimjalfaaPColumnFillsx1
import Derived.Test.YtoodiihimjalfaaPColumnFillsx2
import Derived.Test.YtoodiihimjalfaaPColumnFillsx3
import Derived.Test.YtoodiihimjalfaaPColumnFillsx4
namespace Go.Proofs.Ytoodiihimjalfaa.PColumnFills
open Go.RowKit Go.Proofs.YtoodiihimjalfaaW.PrintWords Go.Proofs.YtoodiihimjalfaaW.PrintLast Go.Proofs.YtoodiihimjalfaaW.PrintMore
attribute [local go_sem] max2_int min2_int max_two min_two max_three min_three max_four min_four   -- for this text's walks alone
set_option linter.unusedVariables false
set_option linter.unusedSimpArgs false

attribute [local go_sem high] eqA37
/-! ### quirelaw19_ColumnFills: function 5 -/
mutual
def quirelaw19_ColumnFills.j0 : Nat → List (S37) → Int → Int → Int → Int → Bool → Option (Bool)
  | 0, _, _, _, _, _, _ => none
  | k + 1, x0, x1, x2, x3, x4, x42 => if x42 = true then (some true) else ((some (([] : List (S37)) : List (S37))).bind fun y155 => (if y155.length + x0.length < 5864062014805 then ((some (y155 ++ x0 : List (S37))).bind fun y158 => ((column_Height.f k y158 x1 x2).bind fun bt161 => ((column_Fill.f k y158 x1 x3).bind fun bt163 => ((column_Columns.f k y158 x3 x4).bind fun bt167 => (quirelaw19_ColumnFills.l0 k x0 x1 x2 x3 x4 y158 bt161.1 bt161.2 bt163.1 bt163.2.1 bt163.2.2.1 bt163.2.2.2 bt167.1 bt167.2.1 bt167.2.2 0))))) else (none)))
def quirelaw19_ColumnFills.l0 : Nat → List (S37) → Int → Int → Int → Int → List (S37) → Int → Int → Int → Int → Bool → Int → List Int → Bool → Int → Int → Option (Bool)
  | 0, _, _, _, _, _, _, _, _, _, _, _, _, _, _, _, _ => none
  | k + 1, x0, x1, x2, x3, x4, x11, x12, x13, x14, x15, x16, x17, x18, x19, x20, x21 => if x21 < (x0.length : Int) then (if 0 ≤ x21 then (if x21 < (x11.length : Int) then (if (!(((rd_T37 x11 x21).f0) == ((rd_T37 x0 x21).f0)) || (!(((rd_T37 x11 x21).f1) == ((rd_T37 x0 x21).f1)) || (!(((rd_T37 x11 x21).f2) == ((rd_T37 x0 x21).f2))))) = true then (some false) else (quirelaw19_ColumnFills.l0 k x0 x1 x2 x3 x4 x11 x12 x13 x14 x15 x16 x17 x18 x19 x20 (wrap64 (x21 + 1)))) else (none)) else (none)) else ((quireref19_Check.f k x0 x1 x2).bind fun t174 => ((quireref19_Check.f k x0 x1 (x0.length : Int)).bind fun t175 => ((quireref19_Check.f k x0 0 (x0.length : Int)).bind fun t176 => (if t175 = 0 then (if x3 < 0 then (quirelaw19_ColumnFills.j2 k x0 x1 x2 x3 x4 x12 x13 x14 x15 x16 x17 x18 x19 x20 t174 t175 t176 true) else (quirelaw19_ColumnFills.j2 k x0 x1 x2 x3 x4 x12 x13 x14 x15 x16 x17 x18 x19 x20 t174 t175 t176 (decide (x3 > 4095)))) else (quirelaw19_ColumnFills.j2 k x0 x1 x2 x3 x4 x12 x13 x14 x15 x16 x17 x18 x19 x20 t174 t175 t176 false)))))
def quirelaw19_ColumnFills.j2 : Nat → List (S37) → Int → Int → Int → Int → Int → Int → Int → Int → Bool → Int → List Int → Bool → Int → Int → Int → Int → Bool → Option (Bool)
  | 0, _, _, _, _, _, _, _, _, _, _, _, _, _, _, _, _, _, _ => none
  | k + 1, x0, x1, x2, x3, x4, x12, x13, x14, x15, x16, x17, x18, x19, x20, x22, x23, x24, x107 => if x107 = true then (quirelaw19_ColumnFills.j3 k x0 x1 x2 x3 x4 x12 x13 x14 x15 x16 x17 x18 x19 x20 x22 5 x24) else (quirelaw19_ColumnFills.j3 k x0 x1 x2 x3 x4 x12 x13 x14 x15 x16 x17 x18 x19 x20 x22 x23 x24)
def quirelaw19_ColumnFills.j3 : Nat → List (S37) → Int → Int → Int → Int → Int → Int → Int → Int → Bool → Int → List Int → Bool → Int → Int → Int → Int → Option (Bool)
  | 0, _, _, _, _, _, _, _, _, _, _, _, _, _, _, _, _, _ => none
  | k + 1, x0, x1, x2, x3, x4, x12, x13, x14, x15, x16, x17, x18, x19, x20, x22, x23, x24 => if x24 = 0 then (if x3 < 0 then (quirelaw19_ColumnFills.j4 k x0 x1 x2 x3 x4 x12 x13 x14 x15 x16 x17 x18 x19 x20 x22 x23 x24 true) else (if x3 > 4095 then (quirelaw19_ColumnFills.j4 k x0 x1 x2 x3 x4 x12 x13 x14 x15 x16 x17 x18 x19 x20 x22 x23 x24 true) else (if x4 < 1 then (quirelaw19_ColumnFills.j4 k x0 x1 x2 x3 x4 x12 x13 x14 x15 x16 x17 x18 x19 x20 x22 x23 x24 true) else (quirelaw19_ColumnFills.j4 k x0 x1 x2 x3 x4 x12 x13 x14 x15 x16 x17 x18 x19 x20 x22 x23 x24 (decide (x4 > 8)))))) else (quirelaw19_ColumnFills.j4 k x0 x1 x2 x3 x4 x12 x13 x14 x15 x16 x17 x18 x19 x20 x22 x23 x24 false)
def quirelaw19_ColumnFills.j4 : Nat → List (S37) → Int → Int → Int → Int → Int → Int → Int → Int → Bool → Int → List Int → Bool → Int → Int → Int → Int → Bool → Option (Bool)
  | 0, _, _, _, _, _, _, _, _, _, _, _, _, _, _, _, _, _, _ => none
  | k + 1, x0, x1, x2, x3, x4, x12, x13, x14, x15, x16, x17, x18, x19, x20, x22, x23, x24, x125 => if x125 = true then (quirelaw19_ColumnFills.j5 k x0 x1 x2 x3 x4 x12 x13 x14 x15 x16 x17 x18 x19 x20 x22 x23 5) else (quirelaw19_ColumnFills.j5 k x0 x1 x2 x3 x4 x12 x13 x14 x15 x16 x17 x18 x19 x20 x22 x23 x24)
def quirelaw19_ColumnFills.j5 : Nat → List (S37) → Int → Int → Int → Int → Int → Int → Int → Int → Bool → Int → List Int → Bool → Int → Int → Int → Int → Option (Bool)
  | 0, _, _, _, _, _, _, _, _, _, _, _, _, _, _, _, _, _ => none
  | k + 1, x0, x1, x2, x3, x4, x12, x13, x14, x15, x16, x17, x18, x19, x20, x22, x23, x24 => if x13 = x22 then (if x17 = x23 then (if x20 = x24 then (if x22 = 0 then (if x23 = 0 then (if x24 = 0 then (quirelaw19_ColumnFills.j6 k x0 x1 x2 x3 x4 x12 x14 x15 x16 x18 x19 x22 x23 x24 false) else (if (x18.length : Int) = 0 then (quirelaw19_ColumnFills.j6 k x0 x1 x2 x3 x4 x12 x14 x15 x16 x18 x19 x22 x23 x24 x19) else (quirelaw19_ColumnFills.j6 k x0 x1 x2 x3 x4 x12 x14 x15 x16 x18 x19 x22 x23 x24 true))) else (if x14 = 0 then (if x15 = 0 then (if x16 = true then (quirelaw19_ColumnFills.j6 k x0 x1 x2 x3 x4 x12 x14 x15 x16 x18 x19 x22 x23 x24 true) else (if x24 = 0 then (quirelaw19_ColumnFills.j6 k x0 x1 x2 x3 x4 x12 x14 x15 x16 x18 x19 x22 x23 x24 false) else (if (x18.length : Int) = 0 then (quirelaw19_ColumnFills.j6 k x0 x1 x2 x3 x4 x12 x14 x15 x16 x18 x19 x22 x23 x24 x19) else (quirelaw19_ColumnFills.j6 k x0 x1 x2 x3 x4 x12 x14 x15 x16 x18 x19 x22 x23 x24 true)))) else (quirelaw19_ColumnFills.j6 k x0 x1 x2 x3 x4 x12 x14 x15 x16 x18 x19 x22 x23 x24 true)) else (quirelaw19_ColumnFills.j6 k x0 x1 x2 x3 x4 x12 x14 x15 x16 x18 x19 x22 x23 x24 true))) else (if x12 = 0 then (if x23 = 0 then (if x24 = 0 then (quirelaw19_ColumnFills.j6 k x0 x1 x2 x3 x4 x12 x14 x15 x16 x18 x19 x22 x23 x24 false) else (if (x18.length : Int) = 0 then (quirelaw19_ColumnFills.j6 k x0 x1 x2 x3 x4 x12 x14 x15 x16 x18 x19 x22 x23 x24 x19) else (quirelaw19_ColumnFills.j6 k x0 x1 x2 x3 x4 x12 x14 x15 x16 x18 x19 x22 x23 x24 true))) else (if x14 = 0 then (if x15 = 0 then (if x16 = true then (quirelaw19_ColumnFills.j6 k x0 x1 x2 x3 x4 x12 x14 x15 x16 x18 x19 x22 x23 x24 true) else (if x24 = 0 then (quirelaw19_ColumnFills.j6 k x0 x1 x2 x3 x4 x12 x14 x15 x16 x18 x19 x22 x23 x24 false) else (if (x18.length : Int) = 0 then (quirelaw19_ColumnFills.j6 k x0 x1 x2 x3 x4 x12 x14 x15 x16 x18 x19 x22 x23 x24 x19) else (quirelaw19_ColumnFills.j6 k x0 x1 x2 x3 x4 x12 x14 x15 x16 x18 x19 x22 x23 x24 true)))) else (quirelaw19_ColumnFills.j6 k x0 x1 x2 x3 x4 x12 x14 x15 x16 x18 x19 x22 x23 x24 true)) else (quirelaw19_ColumnFills.j6 k x0 x1 x2 x3 x4 x12 x14 x15 x16 x18 x19 x22 x23 x24 true))) else (quirelaw19_ColumnFills.j6 k x0 x1 x2 x3 x4 x12 x14 x15 x16 x18 x19 x22 x23 x24 true))) else (quirelaw19_ColumnFills.j6 k x0 x1 x2 x3 x4 x12 x14 x15 x16 x18 x19 x22 x23 x24 true)) else (quirelaw19_ColumnFills.j6 k x0 x1 x2 x3 x4 x12 x14 x15 x16 x18 x19 x22 x23 x24 true)) else (quirelaw19_ColumnFills.j6 k x0 x1 x2 x3 x4 x12 x14 x15 x16 x18 x19 x22 x23 x24 true)
def quirelaw19_ColumnFills.j6 : Nat → List (S37) → Int → Int → Int → Int → Int → Int → Int → Bool → List Int → Bool → Int → Int → Int → Bool → Option (Bool)
  | 0, _, _, _, _, _, _, _, _, _, _, _, _, _, _, _ => none
  | k + 1, x0, x1, x2, x3, x4, x12, x14, x15, x16, x18, x19, x22, x23, x24, x173 => if x173 = true then (some false) else (if x22 = 0 then ((quireref19_Height.f k x0 x1 x2).bind fun t177 => (quirelaw19_ColumnFills.j7 k x0 x1 x3 x4 x14 x15 x16 x18 x19 x23 x24 (x12 != t177))) else (quirelaw19_ColumnFills.j7 k x0 x1 x3 x4 x14 x15 x16 x18 x19 x23 x24 false))
def quirelaw19_ColumnFills.j7 : Nat → List (S37) → Int → Int → Int → Int → Int → Bool → List Int → Bool → Int → Int → Bool → Option (Bool)
  | 0, _, _, _, _, _, _, _, _, _, _, _, _ => none
  | k + 1, x0, x1, x3, x4, x14, x15, x16, x18, x19, x23, x24, x183 => if x183 = true then (some false) else (if x23 = 0 then ((quireref19_Fill.f k x0 x1 x3).bind fun bt178 => (if x14 = bt178.1 then (if x15 = bt178.2.1 then (if (x16 != bt178.2.2) = true then (some false) else (quirelaw19_ColumnFills.j8 k x0 x3 x4 x18 x19 x24)) else (some false)) else (some false))) else (quirelaw19_ColumnFills.j8 k x0 x3 x4 x18 x19 x24))
def quirelaw19_ColumnFills.j8 : Nat → List (S37) → Int → Int → List Int → Bool → Int → Option (Bool)
  | 0, _, _, _, _, _, _ => none
  | k + 1, x0, x3, x4, x18, x19, x24 => if x24 = 0 then ((quireref19_Columns.f k x0 x3 x4).bind fun bt181 => ((quirekit_SameInts.f k x18 bt181.1).bind fun t185 => (if t185 = true then (some (x19 == bt181.2)) else (some false)))) else (some true)
end
def quirelaw19_ColumnFills.f (k : Nat) (l0 : List (S37)) (a1 : Int) (a2 : Int) (a3 : Int) (a4 : Int) : Option (Bool) := if (l0.length : Int) > 100 then (if (l0.length : Int) ≤ 4096 then (quirelaw19_ColumnFills.j0 k l0 a1 a2 a3 a4 true) else (quirelaw19_ColumnFills.j0 k l0 a1 a2 a3 a4 (decide ((l0.length : Int) > 4200)))) else (quirelaw19_ColumnFills.j0 k l0 a1 a2 a3 a4 (decide ((l0.length : Int) > 4200)))
theorem quirelaw19_ColumnFills.mono_l : ∀ k, (∀ y0 y1 y2 y3 y4 y5, LeO (quirelaw19_ColumnFills.j0 k y0 y1 y2 y3 y4 y5) (quirelaw19_ColumnFills.j0 (k + 1) y0 y1 y2 y3 y4 y5)) ∧ (∀ y0 y1 y2 y3 y4 y5 y6 y7 y8 y9 y10 y11 y12 y13 y14 y15, LeO (quirelaw19_ColumnFills.l0 k y0 y1 y2 y3 y4 y5 y6 y7 y8 y9 y10 y11 y12 y13 y14 y15) (quirelaw19_ColumnFills.l0 (k + 1) y0 y1 y2 y3 y4 y5 y6 y7 y8 y9 y10 y11 y12 y13 y14 y15)) ∧ (∀ y0 y1 y2 y3 y4 y5 y6 y7 y8 y9 y10 y11 y12 y13 y14 y15 y16 y17, LeO (quirelaw19_ColumnFills.j2 k y0 y1 y2 y3 y4 y5 y6 y7 y8 y9 y10 y11 y12 y13 y14 y15 y16 y17) (quirelaw19_ColumnFills.j2 (k + 1) y0 y1 y2 y3 y4 y5 y6 y7 y8 y9 y10 y11 y12 y13 y14 y15 y16 y17)) ∧ (∀ y0 y1 y2 y3 y4 y5 y6 y7 y8 y9 y10 y11 y12 y13 y14 y15 y16, LeO (quirelaw19_ColumnFills.j3 k y0 y1 y2 y3 y4 y5 y6 y7 y8 y9 y10 y11 y12 y13 y14 y15 y16) (quirelaw19_ColumnFills.j3 (k + 1) y0 y1 y2 y3 y4 y5 y6 y7 y8 y9 y10 y11 y12 y13 y14 y15 y16)) ∧ (∀ y0 y1 y2 y3 y4 y5 y6 y7 y8 y9 y10 y11 y12 y13 y14 y15 y16 y17, LeO (quirelaw19_ColumnFills.j4 k y0 y1 y2 y3 y4 y5 y6 y7 y8 y9 y10 y11 y12 y13 y14 y15 y16 y17) (quirelaw19_ColumnFills.j4 (k + 1) y0 y1 y2 y3 y4 y5 y6 y7 y8 y9 y10 y11 y12 y13 y14 y15 y16 y17)) ∧ (∀ y0 y1 y2 y3 y4 y5 y6 y7 y8 y9 y10 y11 y12 y13 y14 y15 y16, LeO (quirelaw19_ColumnFills.j5 k y0 y1 y2 y3 y4 y5 y6 y7 y8 y9 y10 y11 y12 y13 y14 y15 y16) (quirelaw19_ColumnFills.j5 (k + 1) y0 y1 y2 y3 y4 y5 y6 y7 y8 y9 y10 y11 y12 y13 y14 y15 y16)) ∧ (∀ y0 y1 y2 y3 y4 y5 y6 y7 y8 y9 y10 y11 y12 y13 y14, LeO (quirelaw19_ColumnFills.j6 k y0 y1 y2 y3 y4 y5 y6 y7 y8 y9 y10 y11 y12 y13 y14) (quirelaw19_ColumnFills.j6 (k + 1) y0 y1 y2 y3 y4 y5 y6 y7 y8 y9 y10 y11 y12 y13 y14)) ∧ (∀ y0 y1 y2 y3 y4 y5 y6 y7 y8 y9 y10 y11, LeO (quirelaw19_ColumnFills.j7 k y0 y1 y2 y3 y4 y5 y6 y7 y8 y9 y10 y11) (quirelaw19_ColumnFills.j7 (k + 1) y0 y1 y2 y3 y4 y5 y6 y7 y8 y9 y10 y11)) ∧ (∀ y0 y1 y2 y3 y4 y5, LeO (quirelaw19_ColumnFills.j8 k y0 y1 y2 y3 y4 y5) (quirelaw19_ColumnFills.j8 (k + 1) y0 y1 y2 y3 y4 y5))
  | 0 => ⟨fun _ _ _ _ _ _ r h => by simp [quirelaw19_ColumnFills.j0] at h, fun _ _ _ _ _ _ _ _ _ _ _ _ _ _ _ _ r h => by simp [quirelaw19_ColumnFills.l0] at h, fun _ _ _ _ _ _ _ _ _ _ _ _ _ _ _ _ _ _ r h => by simp [quirelaw19_ColumnFills.j2] at h, fun _ _ _ _ _ _ _ _ _ _ _ _ _ _ _ _ _ r h => by simp [quirelaw19_ColumnFills.j3] at h, fun _ _ _ _ _ _ _ _ _ _ _ _ _ _ _ _ _ _ r h => by simp [quirelaw19_ColumnFills.j4] at h, fun _ _ _ _ _ _ _ _ _ _ _ _ _ _ _ _ _ r h => by simp [quirelaw19_ColumnFills.j5] at h, fun _ _ _ _ _ _ _ _ _ _ _ _ _ _ _ r h => by simp [quirelaw19_ColumnFills.j6] at h, fun _ _ _ _ _ _ _ _ _ _ _ _ r h => by simp [quirelaw19_ColumnFills.j7] at h, fun _ _ _ _ _ _ r h => by simp [quirelaw19_ColumnFills.j8] at h⟩
  | k + 1 => by
    obtain ⟨ih0, ih1, ih2, ih3, ih4, ih5, ih6, ih7, ih8⟩ := quirelaw19_ColumnFills.mono_l k
    refine ⟨?_, ?_, ?_, ?_, ?_, ?_, ?_, ?_, ?_⟩
    · intro y0 y1 y2 y3 y4 y5
      unfold quirelaw19_ColumnFills.j0
      repeat' first
      | (with_reducible exact ih0 _ _ _ _ _ _)
      | (with_reducible exact ih1 _ _ _ _ _ _ _ _ _ _ _ _ _ _ _ _)
      | (with_reducible exact ih2 _ _ _ _ _ _ _ _ _ _ _ _ _ _ _ _ _ _)
      | (with_reducible exact ih3 _ _ _ _ _ _ _ _ _ _ _ _ _ _ _ _ _)
      | (with_reducible exact ih4 _ _ _ _ _ _ _ _ _ _ _ _ _ _ _ _ _ _)
      | (with_reducible exact ih5 _ _ _ _ _ _ _ _ _ _ _ _ _ _ _ _ _)
      | (with_reducible exact ih6 _ _ _ _ _ _ _ _ _ _ _ _ _ _ _)
      | (with_reducible exact ih7 _ _ _ _ _ _ _ _ _ _ _ _)
      | (with_reducible exact ih8 _ _ _ _ _ _)
      | (with_reducible exact column_Columns.mono _ _ _ _)
      | (with_reducible exact column_Fill.mono _ _ _ _)
      | (with_reducible exact column_Height.mono _ _ _ _)
      | (with_reducible exact quirekit_SameInts.mono _ _ _)
      | (with_reducible exact quireref19_Check.mono _ _ _ _)
      | (with_reducible exact quireref19_Columns.mono _ _ _ _)
      | (with_reducible exact quireref19_Fill.mono _ _ _ _)
      | (with_reducible exact quireref19_Height.mono _ _ _ _)
      | (with_reducible exact LeO.refl _)
      | (with_reducible exact LeO.none _)
      | (with_reducible refine LeO.ite ?_ ?_)
      | (with_reducible refine LeO.bind ?_ (fun _ => ?_))
      | exact ih0 _ _ _ _ _ _
      | exact ih1 _ _ _ _ _ _ _ _ _ _ _ _ _ _ _ _
      | exact ih2 _ _ _ _ _ _ _ _ _ _ _ _ _ _ _ _ _ _
      | exact ih3 _ _ _ _ _ _ _ _ _ _ _ _ _ _ _ _ _
      | exact ih4 _ _ _ _ _ _ _ _ _ _ _ _ _ _ _ _ _ _
      | exact ih5 _ _ _ _ _ _ _ _ _ _ _ _ _ _ _ _ _
      | exact ih6 _ _ _ _ _ _ _ _ _ _ _ _ _ _ _
      | exact ih7 _ _ _ _ _ _ _ _ _ _ _ _
      | exact ih8 _ _ _ _ _ _
      | exact column_Columns.mono _ _ _ _
      | exact column_Fill.mono _ _ _ _
      | exact column_Height.mono _ _ _ _
      | exact quirekit_SameInts.mono _ _ _
      | exact quireref19_Check.mono _ _ _ _
      | exact quireref19_Columns.mono _ _ _ _
      | exact quireref19_Fill.mono _ _ _ _
      | exact quireref19_Height.mono _ _ _ _
      | exact LeO.none _
      | refine LeO.ite ?_ ?_
      | refine LeO.bind ?_ (fun _ => ?_)
    · intro y0 y1 y2 y3 y4 y5 y6 y7 y8 y9 y10 y11 y12 y13 y14 y15
      unfold quirelaw19_ColumnFills.l0
      repeat' first
      | (with_reducible exact ih0 _ _ _ _ _ _)
      | (with_reducible exact ih1 _ _ _ _ _ _ _ _ _ _ _ _ _ _ _ _)
      | (with_reducible exact ih2 _ _ _ _ _ _ _ _ _ _ _ _ _ _ _ _ _ _)
      | (with_reducible exact ih3 _ _ _ _ _ _ _ _ _ _ _ _ _ _ _ _ _)
      | (with_reducible exact ih4 _ _ _ _ _ _ _ _ _ _ _ _ _ _ _ _ _ _)
      | (with_reducible exact ih5 _ _ _ _ _ _ _ _ _ _ _ _ _ _ _ _ _)
      | (with_reducible exact ih6 _ _ _ _ _ _ _ _ _ _ _ _ _ _ _)
      | (with_reducible exact ih7 _ _ _ _ _ _ _ _ _ _ _ _)
      | (with_reducible exact ih8 _ _ _ _ _ _)
      | (with_reducible exact column_Columns.mono _ _ _ _)
      | (with_reducible exact column_Fill.mono _ _ _ _)
      | (with_reducible exact column_Height.mono _ _ _ _)
      | (with_reducible exact quirekit_SameInts.mono _ _ _)
      | (with_reducible exact quireref19_Check.mono _ _ _ _)
      | (with_reducible exact quireref19_Columns.mono _ _ _ _)
      | (with_reducible exact quireref19_Fill.mono _ _ _ _)
      | (with_reducible exact quireref19_Height.mono _ _ _ _)
      | (with_reducible exact LeO.refl _)
      | (with_reducible exact LeO.none _)
      | (with_reducible refine LeO.ite ?_ ?_)
      | (with_reducible refine LeO.bind ?_ (fun _ => ?_))
      | exact ih0 _ _ _ _ _ _
      | exact ih1 _ _ _ _ _ _ _ _ _ _ _ _ _ _ _ _
      | exact ih2 _ _ _ _ _ _ _ _ _ _ _ _ _ _ _ _ _ _
      | exact ih3 _ _ _ _ _ _ _ _ _ _ _ _ _ _ _ _ _
      | exact ih4 _ _ _ _ _ _ _ _ _ _ _ _ _ _ _ _ _ _
      | exact ih5 _ _ _ _ _ _ _ _ _ _ _ _ _ _ _ _ _
      | exact ih6 _ _ _ _ _ _ _ _ _ _ _ _ _ _ _
      | exact ih7 _ _ _ _ _ _ _ _ _ _ _ _
      | exact ih8 _ _ _ _ _ _
      | exact column_Columns.mono _ _ _ _
      | exact column_Fill.mono _ _ _ _
      | exact column_Height.mono _ _ _ _
      | exact quirekit_SameInts.mono _ _ _
      | exact quireref19_Check.mono _ _ _ _
      | exact quireref19_Columns.mono _ _ _ _
      | exact quireref19_Fill.mono _ _ _ _
      | exact quireref19_Height.mono _ _ _ _
      | exact LeO.none _
      | refine LeO.ite ?_ ?_
      | refine LeO.bind ?_ (fun _ => ?_)
    · intro y0 y1 y2 y3 y4 y5 y6 y7 y8 y9 y10 y11 y12 y13 y14 y15 y16 y17
      unfold quirelaw19_ColumnFills.j2
      repeat' first
      | (with_reducible exact ih0 _ _ _ _ _ _)
      | (with_reducible exact ih1 _ _ _ _ _ _ _ _ _ _ _ _ _ _ _ _)
      | (with_reducible exact ih2 _ _ _ _ _ _ _ _ _ _ _ _ _ _ _ _ _ _)
      | (with_reducible exact ih3 _ _ _ _ _ _ _ _ _ _ _ _ _ _ _ _ _)
      | (with_reducible exact ih4 _ _ _ _ _ _ _ _ _ _ _ _ _ _ _ _ _ _)
      | (with_reducible exact ih5 _ _ _ _ _ _ _ _ _ _ _ _ _ _ _ _ _)
      | (with_reducible exact ih6 _ _ _ _ _ _ _ _ _ _ _ _ _ _ _)
      | (with_reducible exact ih7 _ _ _ _ _ _ _ _ _ _ _ _)
      | (with_reducible exact ih8 _ _ _ _ _ _)
      | (with_reducible exact column_Columns.mono _ _ _ _)
      | (with_reducible exact column_Fill.mono _ _ _ _)
      | (with_reducible exact column_Height.mono _ _ _ _)
      | (with_reducible exact quirekit_SameInts.mono _ _ _)
      | (with_reducible exact quireref19_Check.mono _ _ _ _)
      | (with_reducible exact quireref19_Columns.mono _ _ _ _)
      | (with_reducible exact quireref19_Fill.mono _ _ _ _)
      | (with_reducible exact quireref19_Height.mono _ _ _ _)
      | (with_reducible exact LeO.refl _)
      | (with_reducible exact LeO.none _)
      | (with_reducible refine LeO.ite ?_ ?_)
      | (with_reducible refine LeO.bind ?_ (fun _ => ?_))
      | exact ih0 _ _ _ _ _ _
      | exact ih1 _ _ _ _ _ _ _ _ _ _ _ _ _ _ _ _
      | exact ih2 _ _ _ _ _ _ _ _ _ _ _ _ _ _ _ _ _ _
      | exact ih3 _ _ _ _ _ _ _ _ _ _ _ _ _ _ _ _ _
      | exact ih4 _ _ _ _ _ _ _ _ _ _ _ _ _ _ _ _ _ _
      | exact ih5 _ _ _ _ _ _ _ _ _ _ _ _ _ _ _ _ _
      | exact ih6 _ _ _ _ _ _ _ _ _ _ _ _ _ _ _
      | exact ih7 _ _ _ _ _ _ _ _ _ _ _ _
      | exact ih8 _ _ _ _ _ _
      | exact column_Columns.mono _ _ _ _
      | exact column_Fill.mono _ _ _ _
      | exact column_Height.mono _ _ _ _
      | exact quirekit_SameInts.mono _ _ _
      | exact quireref19_Check.mono _ _ _ _
      | exact quireref19_Columns.mono _ _ _ _
      | exact quireref19_Fill.mono _ _ _ _
      | exact quireref19_Height.mono _ _ _ _
      | exact LeO.none _
      | refine LeO.ite ?_ ?_
      | refine LeO.bind ?_ (fun _ => ?_)
    · intro y0 y1 y2 y3 y4 y5 y6 y7 y8 y9 y10 y11 y12 y13 y14 y15 y16
      unfold quirelaw19_ColumnFills.j3
      repeat' first
      | (with_reducible exact ih0 _ _ _ _ _ _)
      | (with_reducible exact ih1 _ _ _ _ _ _ _ _ _ _ _ _ _ _ _ _)
      | (with_reducible exact ih2 _ _ _ _ _ _ _ _ _ _ _ _ _ _ _ _ _ _)
      | (with_reducible exact ih3 _ _ _ _ _ _ _ _ _ _ _ _ _ _ _ _ _)
      | (with_reducible exact ih4 _ _ _ _ _ _ _ _ _ _ _ _ _ _ _ _ _ _)
      | (with_reducible exact ih5 _ _ _ _ _ _ _ _ _ _ _ _ _ _ _ _ _)
      | (with_reducible exact ih6 _ _ _ _ _ _ _ _ _ _ _ _ _ _ _)
      | (with_reducible exact ih7 _ _ _ _ _ _ _ _ _ _ _ _)
      | (with_reducible exact ih8 _ _ _ _ _ _)
      | (with_reducible exact column_Columns.mono _ _ _ _)
      | (with_reducible exact column_Fill.mono _ _ _ _)
      | (with_reducible exact column_Height.mono _ _ _ _)
      | (with_reducible exact quirekit_SameInts.mono _ _ _)
      | (with_reducible exact quireref19_Check.mono _ _ _ _)
      | (with_reducible exact quireref19_Columns.mono _ _ _ _)
      | (with_reducible exact quireref19_Fill.mono _ _ _ _)
      | (with_reducible exact quireref19_Height.mono _ _ _ _)
      | (with_reducible exact LeO.refl _)
      | (with_reducible exact LeO.none _)
      | (with_reducible refine LeO.ite ?_ ?_)
      | (with_reducible refine LeO.bind ?_ (fun _ => ?_))
      | exact ih0 _ _ _ _ _ _
      | exact ih1 _ _ _ _ _ _ _ _ _ _ _ _ _ _ _ _
      | exact ih2 _ _ _ _ _ _ _ _ _ _ _ _ _ _ _ _ _ _
      | exact ih3 _ _ _ _ _ _ _ _ _ _ _ _ _ _ _ _ _
      | exact ih4 _ _ _ _ _ _ _ _ _ _ _ _ _ _ _ _ _ _
      | exact ih5 _ _ _ _ _ _ _ _ _ _ _ _ _ _ _ _ _
      | exact ih6 _ _ _ _ _ _ _ _ _ _ _ _ _ _ _
      | exact ih7 _ _ _ _ _ _ _ _ _ _ _ _
      | exact ih8 _ _ _ _ _ _
      | exact column_Columns.mono _ _ _ _
      | exact column_Fill.mono _ _ _ _
      | exact column_Height.mono _ _ _ _
      | exact quirekit_SameInts.mono _ _ _
      | exact quireref19_Check.mono _ _ _ _
      | exact quireref19_Columns.mono _ _ _ _
      | exact quireref19_Fill.mono _ _ _ _
      | exact quireref19_Height.mono _ _ _ _
      | exact LeO.none _
      | refine LeO.ite ?_ ?_
      | refine LeO.bind ?_ (fun _ => ?_)
    · intro y0 y1 y2 y3 y4 y5 y6 y7 y8 y9 y10 y11 y12 y13 y14 y15 y16 y17
      unfold quirelaw19_ColumnFills.j4
      repeat' first
      | (with_reducible exact ih0 _ _ _ _ _ _)
      | (with_reducible exact ih1 _ _ _ _ _ _ _ _ _ _ _ _ _ _ _ _)
      | (with_reducible exact ih2 _ _ _ _ _ _ _ _ _ _ _ _ _ _ _ _ _ _)
      | (with_reducible exact ih3 _ _ _ _ _ _ _ _ _ _ _ _ _ _ _ _ _)
      | (with_reducible exact ih4 _ _ _ _ _ _ _ _ _ _ _ _ _ _ _ _ _ _)
      | (with_reducible exact ih5 _ _ _ _ _ _ _ _ _ _ _ _ _ _ _ _ _)
      | (with_reducible exact ih6 _ _ _ _ _ _ _ _ _ _ _ _ _ _ _)
      | (with_reducible exact ih7 _ _ _ _ _ _ _ _ _ _ _ _)
      | (with_reducible exact ih8 _ _ _ _ _ _)
      | (with_reducible exact column_Columns.mono _ _ _ _)
      | (with_reducible exact column_Fill.mono _ _ _ _)
      | (with_reducible exact column_Height.mono _ _ _ _)
      | (with_reducible exact quirekit_SameInts.mono _ _ _)
      | (with_reducible exact quireref19_Check.mono _ _ _ _)
      | (with_reducible exact quireref19_Columns.mono _ _ _ _)
      | (with_reducible exact quireref19_Fill.mono _ _ _ _)
      | (with_reducible exact quireref19_Height.mono _ _ _ _)
      | (with_reducible exact LeO.refl _)
      | (with_reducible exact LeO.none _)
      | (with_reducible refine LeO.ite ?_ ?_)
      | (with_reducible refine LeO.bind ?_ (fun _ => ?_))
      | exact ih0 _ _ _ _ _ _
      | exact ih1 _ _ _ _ _ _ _ _ _ _ _ _ _ _ _ _
      | exact ih2 _ _ _ _ _ _ _ _ _ _ _ _ _ _ _ _ _ _
      | exact ih3 _ _ _ _ _ _ _ _ _ _ _ _ _ _ _ _ _
      | exact ih4 _ _ _ _ _ _ _ _ _ _ _ _ _ _ _ _ _ _
      | exact ih5 _ _ _ _ _ _ _ _ _ _ _ _ _ _ _ _ _
      | exact ih6 _ _ _ _ _ _ _ _ _ _ _ _ _ _ _
      | exact ih7 _ _ _ _ _ _ _ _ _ _ _ _
      | exact ih8 _ _ _ _ _ _
      | exact column_Columns.mono _ _ _ _
      | exact column_Fill.mono _ _ _ _
      | exact column_Height.mono _ _ _ _
      | exact quirekit_SameInts.mono _ _ _
      | exact quireref19_Check.mono _ _ _ _
      | exact quireref19_Columns.mono _ _ _ _
      | exact quireref19_Fill.mono _ _ _ _
      | exact quireref19_Height.mono _ _ _ _
      | exact LeO.none _
      | refine LeO.ite ?_ ?_
      | refine LeO.bind ?_ (fun _ => ?_)
    · intro y0 y1 y2 y3 y4 y5 y6 y7 y8 y9 y10 y11 y12 y13 y14 y15 y16
      unfold quirelaw19_ColumnFills.j5
      repeat' first
      | (with_reducible exact ih0 _ _ _ _ _ _)
      | (with_reducible exact ih1 _ _ _ _ _ _ _ _ _ _ _ _ _ _ _ _)
      | (with_reducible exact ih2 _ _ _ _ _ _ _ _ _ _ _ _ _ _ _ _ _ _)
      | (with_reducible exact ih3 _ _ _ _ _ _ _ _ _ _ _ _ _ _ _ _ _)
      | (with_reducible exact ih4 _ _ _ _ _ _ _ _ _ _ _ _ _ _ _ _ _ _)
      | (with_reducible exact ih5 _ _ _ _ _ _ _ _ _ _ _ _ _ _ _ _ _)
      | (with_reducible exact ih6 _ _ _ _ _ _ _ _ _ _ _ _ _ _ _)
      | (with_reducible exact ih7 _ _ _ _ _ _ _ _ _ _ _ _)
      | (with_reducible exact ih8 _ _ _ _ _ _)
      | (with_reducible exact column_Columns.mono _ _ _ _)
      | (with_reducible exact column_Fill.mono _ _ _ _)
      | (with_reducible exact column_Height.mono _ _ _ _)
      | (with_reducible exact quirekit_SameInts.mono _ _ _)
      | (with_reducible exact quireref19_Check.mono _ _ _ _)
      | (with_reducible exact quireref19_Columns.mono _ _ _ _)
      | (with_reducible exact quireref19_Fill.mono _ _ _ _)
      | (with_reducible exact quireref19_Height.mono _ _ _ _)
      | (with_reducible exact LeO.refl _)
      | (with_reducible exact LeO.none _)
      | (with_reducible refine LeO.ite ?_ ?_)
      | (with_reducible refine LeO.bind ?_ (fun _ => ?_))
      | exact ih0 _ _ _ _ _ _
      | exact ih1 _ _ _ _ _ _ _ _ _ _ _ _ _ _ _ _
      | exact ih2 _ _ _ _ _ _ _ _ _ _ _ _ _ _ _ _ _ _
      | exact ih3 _ _ _ _ _ _ _ _ _ _ _ _ _ _ _ _ _
      | exact ih4 _ _ _ _ _ _ _ _ _ _ _ _ _ _ _ _ _ _
      | exact ih5 _ _ _ _ _ _ _ _ _ _ _ _ _ _ _ _ _
      | exact ih6 _ _ _ _ _ _ _ _ _ _ _ _ _ _ _
      | exact ih7 _ _ _ _ _ _ _ _ _ _ _ _
      | exact ih8 _ _ _ _ _ _
      | exact column_Columns.mono _ _ _ _
      | exact column_Fill.mono _ _ _ _
      | exact column_Height.mono _ _ _ _
      | exact quirekit_SameInts.mono _ _ _
      | exact quireref19_Check.mono _ _ _ _
      | exact quireref19_Columns.mono _ _ _ _
      | exact quireref19_Fill.mono _ _ _ _
      | exact quireref19_Height.mono _ _ _ _
      | exact LeO.none _
      | refine LeO.ite ?_ ?_
      | refine LeO.bind ?_ (fun _ => ?_)
    · intro y0 y1 y2 y3 y4 y5 y6 y7 y8 y9 y10 y11 y12 y13 y14
      unfold quirelaw19_ColumnFills.j6
      repeat' first
      | (with_reducible exact ih0 _ _ _ _ _ _)
      | (with_reducible exact ih1 _ _ _ _ _ _ _ _ _ _ _ _ _ _ _ _)
      | (with_reducible exact ih2 _ _ _ _ _ _ _ _ _ _ _ _ _ _ _ _ _ _)
      | (with_reducible exact ih3 _ _ _ _ _ _ _ _ _ _ _ _ _ _ _ _ _)
      | (with_reducible exact ih4 _ _ _ _ _ _ _ _ _ _ _ _ _ _ _ _ _ _)
      | (with_reducible exact ih5 _ _ _ _ _ _ _ _ _ _ _ _ _ _ _ _ _)
      | (with_reducible exact ih6 _ _ _ _ _ _ _ _ _ _ _ _ _ _ _)
      | (with_reducible exact ih7 _ _ _ _ _ _ _ _ _ _ _ _)
      | (with_reducible exact ih8 _ _ _ _ _ _)
      | (with_reducible exact column_Columns.mono _ _ _ _)
      | (with_reducible exact column_Fill.mono _ _ _ _)
      | (with_reducible exact column_Height.mono _ _ _ _)
      | (with_reducible exact quirekit_SameInts.mono _ _ _)
      | (with_reducible exact quireref19_Check.mono _ _ _ _)
      | (with_reducible exact quireref19_Columns.mono _ _ _ _)
      | (with_reducible exact quireref19_Fill.mono _ _ _ _)
      | (with_reducible exact quireref19_Height.mono _ _ _ _)
      | (with_reducible exact LeO.refl _)
      | (with_reducible exact LeO.none _)
      | (with_reducible refine LeO.ite ?_ ?_)
      | (with_reducible refine LeO.bind ?_ (fun _ => ?_))
      | exact ih0 _ _ _ _ _ _
      | exact ih1 _ _ _ _ _ _ _ _ _ _ _ _ _ _ _ _
      | exact ih2 _ _ _ _ _ _ _ _ _ _ _ _ _ _ _ _ _ _
      | exact ih3 _ _ _ _ _ _ _ _ _ _ _ _ _ _ _ _ _
      | exact ih4 _ _ _ _ _ _ _ _ _ _ _ _ _ _ _ _ _ _
      | exact ih5 _ _ _ _ _ _ _ _ _ _ _ _ _ _ _ _ _
      | exact ih6 _ _ _ _ _ _ _ _ _ _ _ _ _ _ _
      | exact ih7 _ _ _ _ _ _ _ _ _ _ _ _
      | exact ih8 _ _ _ _ _ _
      | exact column_Columns.mono _ _ _ _
      | exact column_Fill.mono _ _ _ _
      | exact column_Height.mono _ _ _ _
      | exact quirekit_SameInts.mono _ _ _
      | exact quireref19_Check.mono _ _ _ _
      | exact quireref19_Columns.mono _ _ _ _
      | exact quireref19_Fill.mono _ _ _ _
      | exact quireref19_Height.mono _ _ _ _
      | exact LeO.none _
      | refine LeO.ite ?_ ?_
      | refine LeO.bind ?_ (fun _ => ?_)
    · intro y0 y1 y2 y3 y4 y5 y6 y7 y8 y9 y10 y11
      unfold quirelaw19_ColumnFills.j7
      repeat' first
      | (with_reducible exact ih0 _ _ _ _ _ _)
      | (with_reducible exact ih1 _ _ _ _ _ _ _ _ _ _ _ _ _ _ _ _)
      | (with_reducible exact ih2 _ _ _ _ _ _ _ _ _ _ _ _ _ _ _ _ _ _)
      | (with_reducible exact ih3 _ _ _ _ _ _ _ _ _ _ _ _ _ _ _ _ _)
      | (with_reducible exact ih4 _ _ _ _ _ _ _ _ _ _ _ _ _ _ _ _ _ _)
      | (with_reducible exact ih5 _ _ _ _ _ _ _ _ _ _ _ _ _ _ _ _ _)
      | (with_reducible exact ih6 _ _ _ _ _ _ _ _ _ _ _ _ _ _ _)
      | (with_reducible exact ih7 _ _ _ _ _ _ _ _ _ _ _ _)
      | (with_reducible exact ih8 _ _ _ _ _ _)
      | (with_reducible exact column_Columns.mono _ _ _ _)
      | (with_reducible exact column_Fill.mono _ _ _ _)
      | (with_reducible exact column_Height.mono _ _ _ _)
      | (with_reducible exact quirekit_SameInts.mono _ _ _)
      | (with_reducible exact quireref19_Check.mono _ _ _ _)
      | (with_reducible exact quireref19_Columns.mono _ _ _ _)
      | (with_reducible exact quireref19_Fill.mono _ _ _ _)
      | (with_reducible exact quireref19_Height.mono _ _ _ _)
      | (with_reducible exact LeO.refl _)
      | (with_reducible exact LeO.none _)
      | (with_reducible refine LeO.ite ?_ ?_)
      | (with_reducible refine LeO.bind ?_ (fun _ => ?_))
      | exact ih0 _ _ _ _ _ _
      | exact ih1 _ _ _ _ _ _ _ _ _ _ _ _ _ _ _ _
      | exact ih2 _ _ _ _ _ _ _ _ _ _ _ _ _ _ _ _ _ _
      | exact ih3 _ _ _ _ _ _ _ _ _ _ _ _ _ _ _ _ _
      | exact ih4 _ _ _ _ _ _ _ _ _ _ _ _ _ _ _ _ _ _
      | exact ih5 _ _ _ _ _ _ _ _ _ _ _ _ _ _ _ _ _
      | exact ih6 _ _ _ _ _ _ _ _ _ _ _ _ _ _ _
      | exact ih7 _ _ _ _ _ _ _ _ _ _ _ _
      | exact ih8 _ _ _ _ _ _
      | exact column_Columns.mono _ _ _ _
      | exact column_Fill.mono _ _ _ _
      | exact column_Height.mono _ _ _ _
      | exact quirekit_SameInts.mono _ _ _
      | exact quireref19_Check.mono _ _ _ _
      | exact quireref19_Columns.mono _ _ _ _
      | exact quireref19_Fill.mono _ _ _ _
      | exact quireref19_Height.mono _ _ _ _
      | exact LeO.none _
      | refine LeO.ite ?_ ?_
      | refine LeO.bind ?_ (fun _ => ?_)
    · intro y0 y1 y2 y3 y4 y5
      unfold quirelaw19_ColumnFills.j8
      repeat' first
      | (with_reducible exact ih0 _ _ _ _ _ _)
      | (with_reducible exact ih1 _ _ _ _ _ _ _ _ _ _ _ _ _ _ _ _)
      | (with_reducible exact ih2 _ _ _ _ _ _ _ _ _ _ _ _ _ _ _ _ _ _)
      | (with_reducible exact ih3 _ _ _ _ _ _ _ _ _ _ _ _ _ _ _ _ _)
      | (with_reducible exact ih4 _ _ _ _ _ _ _ _ _ _ _ _ _ _ _ _ _ _)
      | (with_reducible exact ih5 _ _ _ _ _ _ _ _ _ _ _ _ _ _ _ _ _)
      | (with_reducible exact ih6 _ _ _ _ _ _ _ _ _ _ _ _ _ _ _)
      | (with_reducible exact ih7 _ _ _ _ _ _ _ _ _ _ _ _)
      | (with_reducible exact ih8 _ _ _ _ _ _)
      | (with_reducible exact column_Columns.mono _ _ _ _)
      | (with_reducible exact column_Fill.mono _ _ _ _)
      | (with_reducible exact column_Height.mono _ _ _ _)
      | (with_reducible exact quirekit_SameInts.mono _ _ _)
      | (with_reducible exact quireref19_Check.mono _ _ _ _)
      | (with_reducible exact quireref19_Columns.mono _ _ _ _)
      | (with_reducible exact quireref19_Fill.mono _ _ _ _)
      | (with_reducible exact quireref19_Height.mono _ _ _ _)
      | (with_reducible exact LeO.refl _)
      | (with_reducible exact LeO.none _)
      | (with_reducible refine LeO.ite ?_ ?_)
      | (with_reducible refine LeO.bind ?_ (fun _ => ?_))
      | exact ih0 _ _ _ _ _ _
      | exact ih1 _ _ _ _ _ _ _ _ _ _ _ _ _ _ _ _
      | exact ih2 _ _ _ _ _ _ _ _ _ _ _ _ _ _ _ _ _ _
      | exact ih3 _ _ _ _ _ _ _ _ _ _ _ _ _ _ _ _ _
      | exact ih4 _ _ _ _ _ _ _ _ _ _ _ _ _ _ _ _ _ _
      | exact ih5 _ _ _ _ _ _ _ _ _ _ _ _ _ _ _ _ _
      | exact ih6 _ _ _ _ _ _ _ _ _ _ _ _ _ _ _
      | exact ih7 _ _ _ _ _ _ _ _ _ _ _ _
      | exact ih8 _ _ _ _ _ _
      | exact column_Columns.mono _ _ _ _
      | exact column_Fill.mono _ _ _ _
      | exact column_Height.mono _ _ _ _
      | exact quirekit_SameInts.mono _ _ _
      | exact quireref19_Check.mono _ _ _ _
      | exact quireref19_Columns.mono _ _ _ _
      | exact quireref19_Fill.mono _ _ _ _
      | exact quireref19_Height.mono _ _ _ _
      | exact LeO.none _
      | refine LeO.ite ?_ ?_
      | refine LeO.bind ?_ (fun _ => ?_)
theorem quirelaw19_ColumnFills.mono : ∀ a0 a1 a2 a3 a4 k, LeO (quirelaw19_ColumnFills.f k a0 a1 a2 a3 a4) (quirelaw19_ColumnFills.f (k + 1) a0 a1 a2 a3 a4) := by
  intro a0 a1 a2 a3 a4 k
  obtain ⟨ih0, ih1, ih2, ih3, ih4, ih5, ih6, ih7, ih8⟩ := quirelaw19_ColumnFills.mono_l k
  unfold quirelaw19_ColumnFills.f
  repeat' first
      | (with_reducible exact ih0 _ _ _ _ _ _)
      | (with_reducible exact ih1 _ _ _ _ _ _ _ _ _ _ _ _ _ _ _ _)
      | (with_reducible exact ih2 _ _ _ _ _ _ _ _ _ _ _ _ _ _ _ _ _ _)
      | (with_reducible exact ih3 _ _ _ _ _ _ _ _ _ _ _ _ _ _ _ _ _)
      | (with_reducible exact ih4 _ _ _ _ _ _ _ _ _ _ _ _ _ _ _ _ _ _)
      | (with_reducible exact ih5 _ _ _ _ _ _ _ _ _ _ _ _ _ _ _ _ _)
      | (with_reducible exact ih6 _ _ _ _ _ _ _ _ _ _ _ _ _ _ _)
      | (with_reducible exact ih7 _ _ _ _ _ _ _ _ _ _ _ _)
      | (with_reducible exact ih8 _ _ _ _ _ _)
      | (with_reducible exact column_Columns.mono _ _ _ _)
      | (with_reducible exact column_Fill.mono _ _ _ _)
      | (with_reducible exact column_Height.mono _ _ _ _)
      | (with_reducible exact quirekit_SameInts.mono _ _ _)
      | (with_reducible exact quireref19_Check.mono _ _ _ _)
      | (with_reducible exact quireref19_Columns.mono _ _ _ _)
      | (with_reducible exact quireref19_Fill.mono _ _ _ _)
      | (with_reducible exact quireref19_Height.mono _ _ _ _)
      | (with_reducible exact LeO.refl _)
      | (with_reducible exact LeO.none _)
      | (with_reducible refine LeO.ite ?_ ?_)
      | (with_reducible refine LeO.bind ?_ (fun _ => ?_))
      | exact ih0 _ _ _ _ _ _
      | exact ih1 _ _ _ _ _ _ _ _ _ _ _ _ _ _ _ _
      | exact ih2 _ _ _ _ _ _ _ _ _ _ _ _ _ _ _ _ _ _
      | exact ih3 _ _ _ _ _ _ _ _ _ _ _ _ _ _ _ _ _
      | exact ih4 _ _ _ _ _ _ _ _ _ _ _ _ _ _ _ _ _ _
      | exact ih5 _ _ _ _ _ _ _ _ _ _ _ _ _ _ _ _ _
      | exact ih6 _ _ _ _ _ _ _ _ _ _ _ _ _ _ _
      | exact ih7 _ _ _ _ _ _ _ _ _ _ _ _
      | exact ih8 _ _ _ _ _ _
      | exact column_Columns.mono _ _ _ _
      | exact column_Fill.mono _ _ _ _
      | exact column_Height.mono _ _ _ _
      | exact quirekit_SameInts.mono _ _ _
      | exact quireref19_Check.mono _ _ _ _
      | exact quireref19_Columns.mono _ _ _ _
      | exact quireref19_Fill.mono _ _ _ _
      | exact quireref19_Height.mono _ _ _ _
      | exact LeO.none _
      | refine LeO.ite ?_ ?_
      | refine LeO.bind ?_ (fun _ => ?_)
set_option maxHeartbeats 8000000 in
set_option maxRecDepth 100000 in
theorem quirelaw19_ColumnFills.calls (k : Nat) (A0 : Option Addr) (c0 : Nat) (l0 : List (S37)) (a1 : Int) (a2 : Int) (a3 : Int) (a4 : Int) (r : Bool) (w : World) (hr0 : Kd.C k37 w A0 l0.length l0) (hc0 : l0.length ≤ c0) (h : quirelaw19_ColumnFills.f k l0 a1 a2 a3 a4 = some r) :
    Calls Try.prog 5 #[.slice A0 l0.length c0, .int .i64 a1, .int .i64 a2, .int .i64 a3, .int .i64 a4] w fun e w' => e = .returned (.bool r) ∧ Below w.heap.size w w' := by
  have hu37 := Try.underlying37
  have HR0 := Aside0.mk hr0
  have HC0 := Aside0.mk hc0
  clear hr0 hc0
  have HB := Aside0.mk (Below.refl w.heap.size w)
  have H : (if (l0.length : Int) > 100 then (if (l0.length : Int) ≤ 4096 then (quirelaw19_ColumnFills.j0 k l0 a1 a2 a3 a4 true) else (quirelaw19_ColumnFills.j0 k l0 a1 a2 a3 a4 (decide ((l0.length : Int) > 4200)))) else (quirelaw19_ColumnFills.j0 k l0 a1 a2 a3 a4 (decide ((l0.length : Int) > 4200)))) = some r := h
  clear h
  have HC6 := Aside0.mk H
  clear H
  go_enter Try.func5, Try.ntmps5
  go_upto_region 1 with (fail)
  repeat (go_quiet (fail); go_upto_region 1 with (fail))
  go_cut [42] (fun v42 wc => ∃ (kq : Nat) (x42_5 : Bool), v42 = .bool x42_5 ∧ Aside0 (quirelaw19_ColumnFills.j0 kq l0 a1 a2 a3 a4 x42_5 = some r) ∧ Aside0 (kq ≤ k) ∧ Aside0 (Below w.heap.size w wc))
  case first => as_aux_lemma =>
    have H := HC6.out
    clear HC6
    by_cases c7 : (l0.length : Int) > 100
    · rw [if_pos c7] at H
      have c7b0 : decide (100 < (l0.length : Int)) = true := decide_eq_true c7
      have c7b1 : decide (100 < l0.length) = true := decide_eq_true (by omega)
      clear c7
      (first | rw [c7b0] | (simp only [i64_w, i32_w]; rw [c7b0]) | skip)
      by_cases c8 : (l0.length : Int) ≤ 4096
      · rw [if_pos c8] at H
        have c8b0 : decide ((l0.length : Int) ≤ 4096) = true := decide_eq_true c8
        have c8b1 : decide (l0.length ≤ 4096) = true := decide_eq_true (by omega)
        clear c8
        have H' := Aside0.mk H
        clear H
        go_wp2
        repeat (go_quiet (fail); try go_wp2)
        go_meet
        case rel => exact ⟨_, (true), (by first | rfl | (simp; done) | (simp [*]; done)), H', ⟨by first | omega | exact Nat.le_refl _⟩, ⟨by repeat (first | (with_reducible first | exact HB.out | apply below_alloc | apply pw_below_drewN | apply below_drew1) | exact HB.out)⟩⟩
      · rw [if_neg c8] at H
        have c8b0 : decide ((l0.length : Int) ≤ 4096) = false := decide_eq_false c8
        have c8b1 : decide (l0.length ≤ 4096) = false := decide_eq_false (by omega)
        clear c8
        have H' := Aside0.mk H
        clear H
        go_wp2
        repeat (go_quiet (fail); try go_wp2)
        go_meet
        case rel => exact ⟨_, (decide ((l0.length : Int) > 4200)), (by first | rfl | (simp; done) | (simp [*]; done)), H', ⟨by first | omega | exact Nat.le_refl _⟩, ⟨by repeat (first | (with_reducible first | exact HB.out | apply below_alloc | apply pw_below_drewN | apply below_drew1) | exact HB.out)⟩⟩
    · rw [if_neg c7] at H
      have c7b0 : decide (100 < (l0.length : Int)) = false := decide_eq_false c7
      have c7b1 : decide (100 < l0.length) = false := decide_eq_false (by omega)
      clear c7
      (first | rw [c7b0] | (simp only [i64_w, i32_w]; rw [c7b0]) | skip)
      have H' := Aside0.mk H
      clear H
      go_wp2
      repeat (go_quiet (fail); try go_wp2)
      go_meet
      case rel => exact ⟨_, (decide ((l0.length : Int) > 4200)), (by first | rfl | (simp; done) | (simp [*]; done)), H', ⟨by first | omega | exact Nat.le_refl _⟩, ⟨by repeat (first | (with_reducible first | exact HB.out | apply below_alloc | apply pw_below_drewN | apply below_drew1) | exact HB.out)⟩⟩
  case rest => as_aux_lemma =>
    clear HC6
    try clear p2
    try clear c5
    try clear c7
    try clear c7b0
    try clear c7b1
    try clear c8
    try clear c8b0
    try clear c8b1
    obtain ⟨kq, x42_5, rfl, HA, HJ5, HB⟩ := hcut
    cases kq with
    | zero => exact absurd HA.out (by simp [quirelaw19_ColumnFills.j0])
    | succ kj5 =>
      have H := HA.out
      clear HA
      simp only [quirelaw19_ColumnFills.j0] at H
      by_cases c9 : x42_5 = true
      · subst c9
        have H1 : (some true) = some r := by rw [if_pos rfl] at H; exact H
        clear H
        have H := H1
        clear H1
        obtain rfl := Option.some.inj H
        go_wp2
        repeat (go_quiet (fail); try go_wp2)
        go_ret
        exact ⟨by first | rfl | (simp [errW_none, errW_some] <;> rfl) | (simp [*, errW_none, errW_some] <;> rfl), by repeat (first | (with_reducible first | exact HB.out | apply below_alloc | apply pw_below_drewN | apply below_drew1) | exact HB.out)⟩
      · replace c9 := Bool.eq_false_iff.mpr c9
        subst c9
        have H1 : ((some (([] : List (S37)) : List (S37))).bind fun y155 => (if y155.length + l0.length < 5864062014805 then ((some (y155 ++ l0 : List (S37))).bind fun y158 => ((column_Height.f kj5 y158 a1 a2).bind fun bt161 => ((column_Fill.f kj5 y158 a1 a3).bind fun bt163 => ((column_Columns.f kj5 y158 a3 a4).bind fun bt167 => (quirelaw19_ColumnFills.l0 kj5 l0 a1 a2 a3 a4 y158 bt161.1 bt161.2 bt163.1 bt163.2.1 bt163.2.2.1 bt163.2.2.2 bt167.1 bt167.2.1 bt167.2.2 0))))) else (none))) = some r := by rw [if_neg (show ¬ (false = true) by decide)] at H; exact H
        clear H
        have H := H1
        clear H1
        obtain ⟨y155, hy155⟩ : ∃ y_ : List (S37), y_ = (([] : List (S37))) := ⟨_, rfl⟩
        replace H : (if y155.length + l0.length < 5864062014805 then ((some (y155 ++ l0 : List (S37))).bind fun y158 => ((column_Height.f kj5 y158 a1 a2).bind fun bt161 => ((column_Fill.f kj5 y158 a1 a3).bind fun bt163 => ((column_Columns.f kj5 y158 a3 a4).bind fun bt167 => (quirelaw19_ColumnFills.l0 kj5 l0 a1 a2 a3 a4 y158 bt161.1 bt161.2 bt163.1 bt163.2.1 bt163.2.2.1 bt163.2.2.2 bt167.1 bt167.2.1 bt167.2.2 0))))) else (none)) = some r := by first | (rw [hy155]; with_reducible exact H) | (have H2_ := (Option.bind_some _ _).symm.trans H; rw [hy155]; with_reducible exact H2_) | (have H2_ := (Option.bind_some _ _).symm.trans H; with_reducible exact H2_) | with_reducible exact H | (rw [hy155]; exact H) | exact H
        have Ny155 := Aside0.mk hy155
        clear hy155
        by_cases c10 : y155.length + l0.length < 5864062014805
        · rw [if_pos c10] at H
          have LMc10 := Aside0.mk c10
          clear c10
          obtain ⟨y158, hy158⟩ : ∃ y_ : List (S37), y_ = (y155 ++ l0) := ⟨_, rfl⟩
          replace H : ((column_Height.f kj5 y158 a1 a2).bind fun bt161 => ((column_Fill.f kj5 y158 a1 a3).bind fun bt163 => ((column_Columns.f kj5 y158 a3 a4).bind fun bt167 => (quirelaw19_ColumnFills.l0 kj5 l0 a1 a2 a3 a4 y158 bt161.1 bt161.2 bt163.1 bt163.2.1 bt163.2.2.1 bt163.2.2.2 bt167.1 bt167.2.1 bt167.2.2 0)))) = some r := by first | (rw [hy158]; with_reducible exact H) | (have H2_ := (Option.bind_some _ _).symm.trans H; rw [hy158]; with_reducible exact H2_) | (have H2_ := (Option.bind_some _ _).symm.trans H; with_reducible exact H2_) | with_reducible exact H | (rw [hy158]; exact H) | exact H
          have Ny158 := Aside0.mk hy158
          clear hy158
          replace H := Option.bind_eq_some_iff.mp H
          obtain ⟨⟨t161, t162⟩, A110, H⟩ := H
          replace H : ((column_Fill.f kj5 y158 a1 a3).bind fun bt163 => ((column_Columns.f kj5 y158 a3 a4).bind fun bt167 => (quirelaw19_ColumnFills.l0 kj5 l0 a1 a2 a3 a4 y158 t161 t162 bt163.1 bt163.2.1 bt163.2.2.1 bt163.2.2.2 bt167.1 bt167.2.1 bt167.2.2 0))) = some r := H
          have A11 := Aside0.mk A110
          clear A110
          replace H := Option.bind_eq_some_iff.mp H
          obtain ⟨⟨t163, t164, t165, t166⟩, A120, H⟩ := H
          replace H : ((column_Columns.f kj5 y158 a3 a4).bind fun bt167 => (quirelaw19_ColumnFills.l0 kj5 l0 a1 a2 a3 a4 y158 t161 t162 t163 t164 t165 t166 bt167.1 bt167.2.1 bt167.2.2 0)) = some r := H
          have A12 := Aside0.mk A120
          clear A120
          replace H := Option.bind_eq_some_iff.mp H
          obtain ⟨⟨t167, t168, t169⟩, A130, H⟩ := H
          replace H : (quirelaw19_ColumnFills.l0 kj5 l0 a1 a2 a3 a4 y158 t161 t162 t163 t164 t165 t166 t167 t168 t169 0) = some r := H
          have A13 := Aside0.mk A130
          clear A130
          have H' := Aside0.mk H
          clear H
          go_wp2_with (first | ((with_reducible refine gate_dst (N := 43) rfl ?_); (try (refine gate_guard (by rfl) ?_; dsimp only)); refine Kd.R_lit k37 _ 37 ?hg (N := 43) ?hd (xs := ([] : List (S37))) (inner := []) (ok := fun _ => True) (okp := fun _ => True) ?hr ?hp (fun _ hk => hk) trivial (Below.refl _ _) (Nat.le_refl _) (by simp) ?_; (case hd => rfl); (case hg => rfl); (case hr => first | (go_simp; done) | (go_simp; rfl)); (case hp => exact (Reps.none _ _)); intro v156 w14 ho15 hb hg_ hnew_; clear hg_ hnew_; (first | rw [← Ny155.out] at ho15 | (simp only [Int.reduceToNat] at ho15; rw [← Ny155.out] at ho15)); have n0_ := Aside0.mk (Kd.R_lower ho15 (below_size (by repeat (first | (with_reducible first | exact HB.out | apply below_alloc | apply pw_below_drewN | apply below_drew1) | exact HB.out)))); have n1_ := Aside0.mk (below_step (by repeat (first | (with_reducible first | exact HB.out | apply below_alloc | apply pw_below_drewN | apply below_drew1) | exact HB.out)) hb); clear HB; have HO157 := n0_; have HB := n1_; clear n0_ n1_; clear hb ho15) | ((with_reducible refine gate_builtin (b := .append) (xs := #[.tmp 43, .tmp 44]) rfl ?_); (try (refine gate_guard (by rfl) ?_; dsimp only)); at_builtin; refine Kd.R_append_rows k37 (w0 := w) w.heap.size rfl (.tmp 43) (.tmp 44) 29 37 (.agg #[(.int .i64 0), (.int .i64 0), (.int .i64 0)]) 24 rfl Try.underlying29 info37 rfl (by decide) (by omega) v156 y155 l0 _ _ _ (fun _ => True) (fun _ => False) rfl rfl ?aO ?aR (fun _ _ h => h) (fun _ h => h.elim) ?aF ?aB ?aS ?aL ?_; (case aR => repeat (first | exact (Kd.C_below HR0.out HB.out) | (with_reducible refine Kd.C_alloc ?_ _) | (with_reducible refine Kd.C_drewN ?_ _) | (with_reducible refine Kd.C_drew ?_))); (case aB => exact (by repeat (first | (with_reducible first | exact HB.out | apply below_alloc | apply pw_below_drewN | apply below_drew1) | exact HB.out))); (case aF => exact (fun _ _ => trivial)); (case aO => exact (by (with_reducible repeat (first | apply Kd.R_alloc | apply Kd.R_drewN | apply Kd.R_drew)); exact HO157.out)); (case aS => exact (below_size (by repeat (first | (with_reducible first | exact HB.out | apply below_alloc | apply pw_below_drewN | apply below_drew1) | exact HB.out)))); (case aL => have := LMc10.out; omega); intro v159 w16 ho hb hg hat; rw [← Ny158.out] at ho; have n0_ := Aside0.mk (hb); have n1_ := Aside0.mk (ho); clear HB; clear HO157; have HB := n0_; have HO160 := n1_; clear n0_ n1_; clear ho hb hg hat; obtain ⟨Ao17, co17, eo17⟩ := Kd.R_slice HO160.out; subst eo17) | (go_at_call 15; (with_reducible refine (column_Height.calls kj5 _ _ y158 a1 a2 t161 t162 _ ?side1 ?side2 A11.out).mono ?_); (case side1 => repeat (first | exact (Kd.R_reads' HO160.out).2.2 | (with_reducible refine Kd.C_alloc ?_ _) | (with_reducible refine Kd.C_drewN ?_ _) | (with_reducible refine Kd.C_drew ?_))); (case side2 => exact (Kd.R_reads' HO160.out).2.1); rintro e w18 ⟨rfl, hb⟩; have n0_ := Aside0.mk (Kd.R_below (by (with_reducible repeat (first | apply Kd.R_alloc | apply Kd.R_drewN | apply Kd.R_drew)); exact HO160.out) hb); have n1_ := Aside0.mk (below_step (by repeat (first | (with_reducible first | exact HB.out | apply below_alloc | apply pw_below_drewN | apply below_drew1) | exact HB.out)) hb); clear HO160; clear HB; have HO160 := n0_; have HB := n1_; clear n0_ n1_; (try clear hb); (try clear hb2); (try clear hk); (try clear hi)) | (go_at_call 16; (with_reducible refine (column_Fill.calls kj5 _ _ y158 a1 a3 t163 t164 t165 t166 _ ?side1 ?side2 A12.out).mono ?_); (case side1 => repeat (first | exact (Kd.R_reads' HO160.out).2.2 | (with_reducible refine Kd.C_alloc ?_ _) | (with_reducible refine Kd.C_drewN ?_ _) | (with_reducible refine Kd.C_drew ?_))); (case side2 => exact (Kd.R_reads' HO160.out).2.1); rintro e w19 ⟨rfl, hb⟩; have n0_ := Aside0.mk (Kd.R_below (by (with_reducible repeat (first | apply Kd.R_alloc | apply Kd.R_drewN | apply Kd.R_drew)); exact HO160.out) hb); have n1_ := Aside0.mk (below_step (by repeat (first | (with_reducible first | exact HB.out | apply below_alloc | apply pw_below_drewN | apply below_drew1) | exact HB.out)) hb); clear HO160; clear HB; have HO160 := n0_; have HB := n1_; clear n0_ n1_; (try clear hb); (try clear hb2); (try clear hk); (try clear hi)) | (go_at_call 17; (with_reducible refine (column_Columns.calls kj5 _ _ y158 a3 a4 t167 t168 t169 _ ?side1 ?side2 A13.out).mono ?_); (case side1 => repeat (first | exact (Kd.R_reads' HO160.out).2.2 | (with_reducible refine Kd.C_alloc ?_ _) | (with_reducible refine Kd.C_drewN ?_ _) | (with_reducible refine Kd.C_drew ?_))); (case side2 => exact (Kd.R_reads' HO160.out).2.1); rintro e w20 ⟨v170, rfl, ho0, hb⟩; have n0_ := Aside0.mk (Kd.R_below (by (with_reducible repeat (first | apply Kd.R_alloc | apply Kd.R_drewN | apply Kd.R_drew)); exact HO160.out) hb); have n1_ := Aside0.mk (Kd.R_lower ho0 (below_size (by repeat (first | (with_reducible first | exact HB.out | apply below_alloc | apply pw_below_drewN | apply below_drew1) | exact HB.out)))); have n2_ := Aside0.mk (below_step (by repeat (first | (with_reducible first | exact HB.out | apply below_alloc | apply pw_below_drewN | apply below_drew1) | exact HB.out)) hb); clear HO160; clear HB; have HO160 := n0_; have HO171 := n1_; have HB := n2_; clear n0_ n1_ n2_; (try clear hb); (try clear hb2); (try clear hk); (try clear hi); (try clear ho0)))
          repeat (go_quiet (first | ((with_reducible refine gate_dst (N := 43) rfl ?_); (try (refine gate_guard (by rfl) ?_; dsimp only)); refine Kd.R_lit k37 _ 37 ?hg (N := 43) ?hd (xs := ([] : List (S37))) (inner := []) (ok := fun _ => True) (okp := fun _ => True) ?hr ?hp (fun _ hk => hk) trivial (Below.refl _ _) (Nat.le_refl _) (by simp) ?_; (case hd => rfl); (case hg => rfl); (case hr => first | (go_simp; done) | (go_simp; rfl)); (case hp => exact (Reps.none _ _)); intro v156 w14 ho15 hb hg_ hnew_; clear hg_ hnew_; (first | rw [← Ny155.out] at ho15 | (simp only [Int.reduceToNat] at ho15; rw [← Ny155.out] at ho15)); have n0_ := Aside0.mk (Kd.R_lower ho15 (below_size (by repeat (first | (with_reducible first | exact HB.out | apply below_alloc | apply pw_below_drewN | apply below_drew1) | exact HB.out)))); have n1_ := Aside0.mk (below_step (by repeat (first | (with_reducible first | exact HB.out | apply below_alloc | apply pw_below_drewN | apply below_drew1) | exact HB.out)) hb); clear HB; have HO157 := n0_; have HB := n1_; clear n0_ n1_; clear hb ho15) | ((with_reducible refine gate_builtin (b := .append) (xs := #[.tmp 43, .tmp 44]) rfl ?_); (try (refine gate_guard (by rfl) ?_; dsimp only)); at_builtin; refine Kd.R_append_rows k37 (w0 := w) w.heap.size rfl (.tmp 43) (.tmp 44) 29 37 (.agg #[(.int .i64 0), (.int .i64 0), (.int .i64 0)]) 24 rfl Try.underlying29 info37 rfl (by decide) (by omega) v156 y155 l0 _ _ _ (fun _ => True) (fun _ => False) rfl rfl ?aO ?aR (fun _ _ h => h) (fun _ h => h.elim) ?aF ?aB ?aS ?aL ?_; (case aR => repeat (first | exact (Kd.C_below HR0.out HB.out) | (with_reducible refine Kd.C_alloc ?_ _) | (with_reducible refine Kd.C_drewN ?_ _) | (with_reducible refine Kd.C_drew ?_))); (case aB => exact (by repeat (first | (with_reducible first | exact HB.out | apply below_alloc | apply pw_below_drewN | apply below_drew1) | exact HB.out))); (case aF => exact (fun _ _ => trivial)); (case aO => exact (by (with_reducible repeat (first | apply Kd.R_alloc | apply Kd.R_drewN | apply Kd.R_drew)); exact HO157.out)); (case aS => exact (below_size (by repeat (first | (with_reducible first | exact HB.out | apply below_alloc | apply pw_below_drewN | apply below_drew1) | exact HB.out)))); (case aL => have := LMc10.out; omega); intro v159 w16 ho hb hg hat; rw [← Ny158.out] at ho; have n0_ := Aside0.mk (hb); have n1_ := Aside0.mk (ho); clear HB; clear HO157; have HB := n0_; have HO160 := n1_; clear n0_ n1_; clear ho hb hg hat; obtain ⟨Ao17, co17, eo17⟩ := Kd.R_slice HO160.out; subst eo17) | (go_at_call 15; (with_reducible refine (column_Height.calls kj5 _ _ y158 a1 a2 t161 t162 _ ?side1 ?side2 A11.out).mono ?_); (case side1 => repeat (first | exact (Kd.R_reads' HO160.out).2.2 | (with_reducible refine Kd.C_alloc ?_ _) | (with_reducible refine Kd.C_drewN ?_ _) | (with_reducible refine Kd.C_drew ?_))); (case side2 => exact (Kd.R_reads' HO160.out).2.1); rintro e w18 ⟨rfl, hb⟩; have n0_ := Aside0.mk (Kd.R_below (by (with_reducible repeat (first | apply Kd.R_alloc | apply Kd.R_drewN | apply Kd.R_drew)); exact HO160.out) hb); have n1_ := Aside0.mk (below_step (by repeat (first | (with_reducible first | exact HB.out | apply below_alloc | apply pw_below_drewN | apply below_drew1) | exact HB.out)) hb); clear HO160; clear HB; have HO160 := n0_; have HB := n1_; clear n0_ n1_; (try clear hb); (try clear hb2); (try clear hk); (try clear hi)) | (go_at_call 16; (with_reducible refine (column_Fill.calls kj5 _ _ y158 a1 a3 t163 t164 t165 t166 _ ?side1 ?side2 A12.out).mono ?_); (case side1 => repeat (first | exact (Kd.R_reads' HO160.out).2.2 | (with_reducible refine Kd.C_alloc ?_ _) | (with_reducible refine Kd.C_drewN ?_ _) | (with_reducible refine Kd.C_drew ?_))); (case side2 => exact (Kd.R_reads' HO160.out).2.1); rintro e w19 ⟨rfl, hb⟩; have n0_ := Aside0.mk (Kd.R_below (by (with_reducible repeat (first | apply Kd.R_alloc | apply Kd.R_drewN | apply Kd.R_drew)); exact HO160.out) hb); have n1_ := Aside0.mk (below_step (by repeat (first | (with_reducible first | exact HB.out | apply below_alloc | apply pw_below_drewN | apply below_drew1) | exact HB.out)) hb); clear HO160; clear HB; have HO160 := n0_; have HB := n1_; clear n0_ n1_; (try clear hb); (try clear hb2); (try clear hk); (try clear hi)) | (go_at_call 17; (with_reducible refine (column_Columns.calls kj5 _ _ y158 a3 a4 t167 t168 t169 _ ?side1 ?side2 A13.out).mono ?_); (case side1 => repeat (first | exact (Kd.R_reads' HO160.out).2.2 | (with_reducible refine Kd.C_alloc ?_ _) | (with_reducible refine Kd.C_drewN ?_ _) | (with_reducible refine Kd.C_drew ?_))); (case side2 => exact (Kd.R_reads' HO160.out).2.1); rintro e w20 ⟨v170, rfl, ho0, hb⟩; have n0_ := Aside0.mk (Kd.R_below (by (with_reducible repeat (first | apply Kd.R_alloc | apply Kd.R_drewN | apply Kd.R_drew)); exact HO160.out) hb); have n1_ := Aside0.mk (Kd.R_lower ho0 (below_size (by repeat (first | (with_reducible first | exact HB.out | apply below_alloc | apply pw_below_drewN | apply below_drew1) | exact HB.out)))); have n2_ := Aside0.mk (below_step (by repeat (first | (with_reducible first | exact HB.out | apply below_alloc | apply pw_below_drewN | apply below_drew1) | exact HB.out)) hb); clear HO160; clear HB; have HO160 := n0_; have HO171 := n1_; have HB := n2_; clear n0_ n1_ n2_; (try clear hb); (try clear hb2); (try clear hk); (try clear hi); (try clear ho0))); try go_wp2_with (first | ((with_reducible refine gate_dst (N := 43) rfl ?_); (try (refine gate_guard (by rfl) ?_; dsimp only)); refine Kd.R_lit k37 _ 37 ?hg (N := 43) ?hd (xs := ([] : List (S37))) (inner := []) (ok := fun _ => True) (okp := fun _ => True) ?hr ?hp (fun _ hk => hk) trivial (Below.refl _ _) (Nat.le_refl _) (by simp) ?_; (case hd => rfl); (case hg => rfl); (case hr => first | (go_simp; done) | (go_simp; rfl)); (case hp => exact (Reps.none _ _)); intro v156 w14 ho15 hb hg_ hnew_; clear hg_ hnew_; (first | rw [← Ny155.out] at ho15 | (simp only [Int.reduceToNat] at ho15; rw [← Ny155.out] at ho15)); have n0_ := Aside0.mk (Kd.R_lower ho15 (below_size (by repeat (first | (with_reducible first | exact HB.out | apply below_alloc | apply pw_below_drewN | apply below_drew1) | exact HB.out)))); have n1_ := Aside0.mk (below_step (by repeat (first | (with_reducible first | exact HB.out | apply below_alloc | apply pw_below_drewN | apply below_drew1) | exact HB.out)) hb); clear HB; have HO157 := n0_; have HB := n1_; clear n0_ n1_; clear hb ho15) | ((with_reducible refine gate_builtin (b := .append) (xs := #[.tmp 43, .tmp 44]) rfl ?_); (try (refine gate_guard (by rfl) ?_; dsimp only)); at_builtin; refine Kd.R_append_rows k37 (w0 := w) w.heap.size rfl (.tmp 43) (.tmp 44) 29 37 (.agg #[(.int .i64 0), (.int .i64 0), (.int .i64 0)]) 24 rfl Try.underlying29 info37 rfl (by decide) (by omega) v156 y155 l0 _ _ _ (fun _ => True) (fun _ => False) rfl rfl ?aO ?aR (fun _ _ h => h) (fun _ h => h.elim) ?aF ?aB ?aS ?aL ?_; (case aR => repeat (first | exact (Kd.C_below HR0.out HB.out) | (with_reducible refine Kd.C_alloc ?_ _) | (with_reducible refine Kd.C_drewN ?_ _) | (with_reducible refine Kd.C_drew ?_))); (case aB => exact (by repeat (first | (with_reducible first | exact HB.out | apply below_alloc | apply pw_below_drewN | apply below_drew1) | exact HB.out))); (case aF => exact (fun _ _ => trivial)); (case aO => exact (by (with_reducible repeat (first | apply Kd.R_alloc | apply Kd.R_drewN | apply Kd.R_drew)); exact HO157.out)); (case aS => exact (below_size (by repeat (first | (with_reducible first | exact HB.out | apply below_alloc | apply pw_below_drewN | apply below_drew1) | exact HB.out)))); (case aL => have := LMc10.out; omega); intro v159 w16 ho hb hg hat; rw [← Ny158.out] at ho; have n0_ := Aside0.mk (hb); have n1_ := Aside0.mk (ho); clear HB; clear HO157; have HB := n0_; have HO160 := n1_; clear n0_ n1_; clear ho hb hg hat; obtain ⟨Ao17, co17, eo17⟩ := Kd.R_slice HO160.out; subst eo17) | (go_at_call 15; (with_reducible refine (column_Height.calls kj5 _ _ y158 a1 a2 t161 t162 _ ?side1 ?side2 A11.out).mono ?_); (case side1 => repeat (first | exact (Kd.R_reads' HO160.out).2.2 | (with_reducible refine Kd.C_alloc ?_ _) | (with_reducible refine Kd.C_drewN ?_ _) | (with_reducible refine Kd.C_drew ?_))); (case side2 => exact (Kd.R_reads' HO160.out).2.1); rintro e w18 ⟨rfl, hb⟩; have n0_ := Aside0.mk (Kd.R_below (by (with_reducible repeat (first | apply Kd.R_alloc | apply Kd.R_drewN | apply Kd.R_drew)); exact HO160.out) hb); have n1_ := Aside0.mk (below_step (by repeat (first | (with_reducible first | exact HB.out | apply below_alloc | apply pw_below_drewN | apply below_drew1) | exact HB.out)) hb); clear HO160; clear HB; have HO160 := n0_; have HB := n1_; clear n0_ n1_; (try clear hb); (try clear hb2); (try clear hk); (try clear hi)) | (go_at_call 16; (with_reducible refine (column_Fill.calls kj5 _ _ y158 a1 a3 t163 t164 t165 t166 _ ?side1 ?side2 A12.out).mono ?_); (case side1 => repeat (first | exact (Kd.R_reads' HO160.out).2.2 | (with_reducible refine Kd.C_alloc ?_ _) | (with_reducible refine Kd.C_drewN ?_ _) | (with_reducible refine Kd.C_drew ?_))); (case side2 => exact (Kd.R_reads' HO160.out).2.1); rintro e w19 ⟨rfl, hb⟩; have n0_ := Aside0.mk (Kd.R_below (by (with_reducible repeat (first | apply Kd.R_alloc | apply Kd.R_drewN | apply Kd.R_drew)); exact HO160.out) hb); have n1_ := Aside0.mk (below_step (by repeat (first | (with_reducible first | exact HB.out | apply below_alloc | apply pw_below_drewN | apply below_drew1) | exact HB.out)) hb); clear HO160; clear HB; have HO160 := n0_; have HB := n1_; clear n0_ n1_; (try clear hb); (try clear hb2); (try clear hk); (try clear hi)) | (go_at_call 17; (with_reducible refine (column_Columns.calls kj5 _ _ y158 a3 a4 t167 t168 t169 _ ?side1 ?side2 A13.out).mono ?_); (case side1 => repeat (first | exact (Kd.R_reads' HO160.out).2.2 | (with_reducible refine Kd.C_alloc ?_ _) | (with_reducible refine Kd.C_drewN ?_ _) | (with_reducible refine Kd.C_drew ?_))); (case side2 => exact (Kd.R_reads' HO160.out).2.1); rintro e w20 ⟨v170, rfl, ho0, hb⟩; have n0_ := Aside0.mk (Kd.R_below (by (with_reducible repeat (first | apply Kd.R_alloc | apply Kd.R_drewN | apply Kd.R_drew)); exact HO160.out) hb); have n1_ := Aside0.mk (Kd.R_lower ho0 (below_size (by repeat (first | (with_reducible first | exact HB.out | apply below_alloc | apply pw_below_drewN | apply below_drew1) | exact HB.out)))); have n2_ := Aside0.mk (below_step (by repeat (first | (with_reducible first | exact HB.out | apply below_alloc | apply pw_below_drewN | apply below_drew1) | exact HB.out)) hb); clear HO160; clear HB; have HO160 := n0_; have HO171 := n1_; have HB := n2_; clear n0_ n1_ n2_; (try clear hb); (try clear hb2); (try clear hk); (try clear hi); (try clear ho0))))
          go_loopg [21] kj5 (fun kq v21 w' => ∃ (x21_2 : Int), v21 = .int .i64 x21_2 ∧ Aside0 (quirelaw19_ColumnFills.l0 kq l0 a1 a2 a3 a4 y158 t161 t162 t163 t164 t165 t166 t167 t168 t169 x21_2 = some r) ∧ Aside0 (kq ≤ kj5) ∧ Aside0 (Kd.R k37 37 w' w.heap.size (fun _ => True) (.slice Ao17 y158.length co17) y158) ∧ Aside0 (Kd.R (Kd.int .i64) 3 w' w.heap.size (fun _ => True) v170 t167) ∧ Aside0 (Below w.heap.size w w'))
          case atStart => exact ⟨(0), (by first | rfl | (simp; done) | (simp [*]; done)), H', ⟨Nat.le_refl _⟩, ⟨by (with_reducible repeat (first | apply Kd.R_alloc | apply Kd.R_drewN | apply Kd.R_drew)); exact HO160.out⟩, ⟨by (with_reducible repeat (first | apply Kd.R_alloc | apply Kd.R_drewN | apply Kd.R_drew)); exact HO171.out⟩, ⟨by repeat (first | (with_reducible first | exact HB.out | apply below_alloc | apply pw_below_drewN | apply below_drew1) | exact HB.out)⟩⟩
          case round => as_aux_lemma =>
            clear H'
            try clear c1
            try clear p2
            try clear c5
            try clear c7
            try clear c7b0
            try clear c7b1
            try clear c8
            try clear c8b0
            try clear c8b1
            try clear c9
            try clear c10
            try clear p2
            obtain ⟨x21_2, rfl, HA, HK2, HO_11, HO_18, HB⟩ := hrel
            cases gk with
            | zero => exact absurd HA.out (by simp [quirelaw19_ColumnFills.l0])
            | succ k2 =>
              have H := HA.out
              clear HA
              simp only [quirelaw19_ColumnFills.l0] at H
              by_cases c21 : x21_2 < (l0.length : Int)
              · rw [if_pos c21] at H
                have c21b0 : decide (x21_2 < (l0.length : Int)) = true := decide_eq_true c21
                clear c21
                by_cases c22 : 0 ≤ x21_2
                · rw [if_pos c22] at H
                  have c22b0 : decide (0 ≤ x21_2) = true := decide_eq_true c22
                  clear c22
                  by_cases c23 : x21_2 < (y158.length : Int)
                  · rw [if_pos c23] at H
                    have c23b0 : decide (x21_2 < (y158.length : Int)) = true := decide_eq_true c23
                    clear c23
                    by_cases c24 : (!(((rd_T37 y158 x21_2).f0) == ((rd_T37 l0 x21_2).f0)) || (!(((rd_T37 y158 x21_2).f1) == ((rd_T37 l0 x21_2).f1)) || (!(((rd_T37 y158 x21_2).f2) == ((rd_T37 l0 x21_2).f2))))) = true
                    · rw [if_pos c24] at H
                      have c24b0 : (!(((rd_T37 y158 x21_2).f0) == ((rd_T37 l0 x21_2).f0)) || (!(((rd_T37 y158 x21_2).f1) == ((rd_T37 l0 x21_2).f1)) || (!(((rd_T37 y158 x21_2).f2) == ((rd_T37 l0 x21_2).f2))))) = true := c24
                      clear c24
                      obtain rfl := Option.some.inj H
                      have p172 : 0 ≤ (x21_2 : Int) := of_decide_eq_true (by first | (with_reducible assumption) | assumption)
                      have q172 : x21_2 < (y158.length : Int) := of_decide_eq_true (by first | (with_reducible assumption) | assumption)
                      obtain ⟨ad172, e172, hx172_0, hx172_1, hx172_2⟩ := at_T37 (Kd.R_reads' HO_11.out).2.2 x21_2 p172 q172
                      cases e172
                      replace p172 := eq_true p172
                      replace q172 := eq_true q172
                      have p173 : 0 ≤ (x21_2 : Int) := of_decide_eq_true (by first | (with_reducible assumption) | assumption)
                      have q173 : x21_2 < (l0.length : Int) := of_decide_eq_true (by first | (with_reducible assumption) | assumption)
                      obtain ⟨ad173, e173, hx173_0, hx173_1, hx173_2⟩ := at_T37 HR0.out x21_2 p173 q173
                      cases e173
                      replace hx173_0 := (HB.out.cell (World.block_lt_of_cell? w _ hx173_0)).trans hx173_0
                      replace hx173_1 := (HB.out.cell (World.block_lt_of_cell? w _ hx173_1)).trans hx173_1
                      replace hx173_2 := (HB.out.cell (World.block_lt_of_cell? w _ hx173_2)).trans hx173_2
                      replace p173 := eq_true p173
                      replace q173 := eq_true q173
                      go_wp2
                      repeat (go_quiet (fail); try go_wp2)
                      go_ret
                      exact ⟨by first | rfl | (simp [errW_none, errW_some] <;> rfl) | (simp [*, errW_none, errW_some] <;> rfl), by repeat (first | (with_reducible first | exact HB.out | apply below_alloc | apply pw_below_drewN | apply below_drew1) | exact HB.out)⟩
                    · rw [if_neg c24] at H
                      have c24b0 : (!(((rd_T37 y158 x21_2).f0) == ((rd_T37 l0 x21_2).f0)) || (!(((rd_T37 y158 x21_2).f1) == ((rd_T37 l0 x21_2).f1)) || (!(((rd_T37 y158 x21_2).f2) == ((rd_T37 l0 x21_2).f2))))) = false := by simpa using c24
                      clear c24
                      have H' := Aside0.mk H
                      clear H
                      have p172 : 0 ≤ (x21_2 : Int) := of_decide_eq_true (by first | (with_reducible assumption) | assumption)
                      have q172 : x21_2 < (y158.length : Int) := of_decide_eq_true (by first | (with_reducible assumption) | assumption)
                      obtain ⟨ad172, e172, hx172_0, hx172_1, hx172_2⟩ := at_T37 (Kd.R_reads' HO_11.out).2.2 x21_2 p172 q172
                      cases e172
                      replace p172 := eq_true p172
                      replace q172 := eq_true q172
                      have p173 : 0 ≤ (x21_2 : Int) := of_decide_eq_true (by first | (with_reducible assumption) | assumption)
                      have q173 : x21_2 < (l0.length : Int) := of_decide_eq_true (by first | (with_reducible assumption) | assumption)
                      obtain ⟨ad173, e173, hx173_0, hx173_1, hx173_2⟩ := at_T37 HR0.out x21_2 p173 q173
                      cases e173
                      replace hx173_0 := (HB.out.cell (World.block_lt_of_cell? w _ hx173_0)).trans hx173_0
                      replace hx173_1 := (HB.out.cell (World.block_lt_of_cell? w _ hx173_1)).trans hx173_1
                      replace hx173_2 := (HB.out.cell (World.block_lt_of_cell? w _ hx173_2)).trans hx173_2
                      replace p173 := eq_true p173
                      replace q173 := eq_true q173
                      go_wp2
                      repeat (go_quiet (fail); try go_wp2)
                      go_roundg k2
                      case measure => have := HJ5.out; have := HK2.out; omega
                      case rel => exact ⟨(wrap64 (x21_2 + 1)), (by first | rfl | (simp; done) | (simp [*]; done)), H', ⟨by have := HJ5.out; have := HK2.out; omega⟩, ⟨by (with_reducible repeat (first | apply Kd.R_alloc | apply Kd.R_drewN | apply Kd.R_drew)); exact HO_11.out⟩, ⟨by (with_reducible repeat (first | apply Kd.R_alloc | apply Kd.R_drewN | apply Kd.R_drew)); exact HO_18.out⟩, ⟨by repeat (first | (with_reducible first | exact HB.out | apply below_alloc | apply pw_below_drewN | apply below_drew1) | exact HB.out)⟩⟩
                  · rw [if_neg c23] at H
                    exact absurd H (by simp)
                · rw [if_neg c22] at H
                  exact absurd H (by simp)
              · rw [if_neg c21] at H
                have c21b0 : decide (x21_2 < (l0.length : Int)) = false := decide_eq_false c21
                clear c21
                replace H := Option.bind_eq_some_iff.mp H
                obtain ⟨t174, A250, H⟩ := H
                replace H : ((quireref19_Check.f k2 l0 a1 (l0.length : Int)).bind fun t175 => ((quireref19_Check.f k2 l0 0 (l0.length : Int)).bind fun t176 => (if t175 = 0 then (if a3 < 0 then (quirelaw19_ColumnFills.j2 k2 l0 a1 a2 a3 a4 t161 t162 t163 t164 t165 t166 t167 t168 t169 t174 t175 t176 true) else (quirelaw19_ColumnFills.j2 k2 l0 a1 a2 a3 a4 t161 t162 t163 t164 t165 t166 t167 t168 t169 t174 t175 t176 (decide (a3 > 4095)))) else (quirelaw19_ColumnFills.j2 k2 l0 a1 a2 a3 a4 t161 t162 t163 t164 t165 t166 t167 t168 t169 t174 t175 t176 false)))) = some r := H
                have A25 := Aside0.mk A250
                clear A250
                replace H := Option.bind_eq_some_iff.mp H
                obtain ⟨t175, A260, H⟩ := H
                replace H : ((quireref19_Check.f k2 l0 0 (l0.length : Int)).bind fun t176 => (if t175 = 0 then (if a3 < 0 then (quirelaw19_ColumnFills.j2 k2 l0 a1 a2 a3 a4 t161 t162 t163 t164 t165 t166 t167 t168 t169 t174 t175 t176 true) else (quirelaw19_ColumnFills.j2 k2 l0 a1 a2 a3 a4 t161 t162 t163 t164 t165 t166 t167 t168 t169 t174 t175 t176 (decide (a3 > 4095)))) else (quirelaw19_ColumnFills.j2 k2 l0 a1 a2 a3 a4 t161 t162 t163 t164 t165 t166 t167 t168 t169 t174 t175 t176 false))) = some r := H
                have A26 := Aside0.mk A260
                clear A260
                replace H := Option.bind_eq_some_iff.mp H
                obtain ⟨t176, A270, H⟩ := H
                replace H : (if t175 = 0 then (if a3 < 0 then (quirelaw19_ColumnFills.j2 k2 l0 a1 a2 a3 a4 t161 t162 t163 t164 t165 t166 t167 t168 t169 t174 t175 t176 true) else (quirelaw19_ColumnFills.j2 k2 l0 a1 a2 a3 a4 t161 t162 t163 t164 t165 t166 t167 t168 t169 t174 t175 t176 (decide (a3 > 4095)))) else (quirelaw19_ColumnFills.j2 k2 l0 a1 a2 a3 a4 t161 t162 t163 t164 t165 t166 t167 t168 t169 t174 t175 t176 false)) = some r := H
                have A27 := Aside0.mk A270
                clear A270
                have HC28 := Aside0.mk H
                clear H
                go_upto_region 15 with (first | (go_at_call 18; (with_reducible refine (quireref19_Check.calls k2 _ _ l0 a1 a2 t174 _ ?side1 ?side2 A25.out).mono ?_); (case side1 => repeat (first | exact (Kd.C_below HR0.out HB.out) | (with_reducible refine Kd.C_alloc ?_ _) | (with_reducible refine Kd.C_drewN ?_ _) | (with_reducible refine Kd.C_drew ?_))); (case side2 => exact HC0.out); rintro e w29 ⟨rfl, hb⟩; have n0_ := Aside0.mk (Kd.R_below (by (with_reducible repeat (first | apply Kd.R_alloc | apply Kd.R_drewN | apply Kd.R_drew)); exact HO_11.out) hb); have n1_ := Aside0.mk (Kd.R_below (by (with_reducible repeat (first | apply Kd.R_alloc | apply Kd.R_drewN | apply Kd.R_drew)); exact HO_18.out) hb); have n2_ := Aside0.mk (below_step (by repeat (first | (with_reducible first | exact HB.out | apply below_alloc | apply pw_below_drewN | apply below_drew1) | exact HB.out)) hb); clear HO_11; clear HO_18; clear HB; have HO_11 := n0_; have HO_18 := n1_; have HB := n2_; clear n0_ n1_ n2_; (try clear hb); (try clear hb2); (try clear hk); (try clear hi)) | (go_at_call 18; (with_reducible refine (quireref19_Check.calls k2 _ _ l0 a1 (l0.length : Int) t175 _ ?side1 ?side2 A26.out).mono ?_); (case side1 => repeat (first | exact (Kd.C_below HR0.out HB.out) | (with_reducible refine Kd.C_alloc ?_ _) | (with_reducible refine Kd.C_drewN ?_ _) | (with_reducible refine Kd.C_drew ?_))); (case side2 => exact HC0.out); rintro e w30 ⟨rfl, hb⟩; have n0_ := Aside0.mk (Kd.R_below (by (with_reducible repeat (first | apply Kd.R_alloc | apply Kd.R_drewN | apply Kd.R_drew)); exact HO_11.out) hb); have n1_ := Aside0.mk (Kd.R_below (by (with_reducible repeat (first | apply Kd.R_alloc | apply Kd.R_drewN | apply Kd.R_drew)); exact HO_18.out) hb); have n2_ := Aside0.mk (below_step (by repeat (first | (with_reducible first | exact HB.out | apply below_alloc | apply pw_below_drewN | apply below_drew1) | exact HB.out)) hb); clear HO_11; clear HO_18; clear HB; have HO_11 := n0_; have HO_18 := n1_; have HB := n2_; clear n0_ n1_ n2_; (try clear hb); (try clear hb2); (try clear hk); (try clear hi)) | (go_at_call 18; (with_reducible refine (quireref19_Check.calls k2 _ _ l0 0 (l0.length : Int) t176 _ ?side1 ?side2 A27.out).mono ?_); (case side1 => repeat (first | exact (Kd.C_below HR0.out HB.out) | (with_reducible refine Kd.C_alloc ?_ _) | (with_reducible refine Kd.C_drewN ?_ _) | (with_reducible refine Kd.C_drew ?_))); (case side2 => exact HC0.out); rintro e w31 ⟨rfl, hb⟩; have n0_ := Aside0.mk (Kd.R_below (by (with_reducible repeat (first | apply Kd.R_alloc | apply Kd.R_drewN | apply Kd.R_drew)); exact HO_11.out) hb); have n1_ := Aside0.mk (Kd.R_below (by (with_reducible repeat (first | apply Kd.R_alloc | apply Kd.R_drewN | apply Kd.R_drew)); exact HO_18.out) hb); have n2_ := Aside0.mk (below_step (by repeat (first | (with_reducible first | exact HB.out | apply below_alloc | apply pw_below_drewN | apply below_drew1) | exact HB.out)) hb); clear HO_11; clear HO_18; clear HB; have HO_11 := n0_; have HO_18 := n1_; have HB := n2_; clear n0_ n1_ n2_; (try clear hb); (try clear hb2); (try clear hk); (try clear hi)))
                repeat (go_quiet (first | (go_at_call 18; (with_reducible refine (quireref19_Check.calls k2 _ _ l0 a1 a2 t174 _ ?side1 ?side2 A25.out).mono ?_); (case side1 => repeat (first | exact (Kd.C_below HR0.out HB.out) | (with_reducible refine Kd.C_alloc ?_ _) | (with_reducible refine Kd.C_drewN ?_ _) | (with_reducible refine Kd.C_drew ?_))); (case side2 => exact HC0.out); rintro e w29 ⟨rfl, hb⟩; have n0_ := Aside0.mk (Kd.R_below (by (with_reducible repeat (first | apply Kd.R_alloc | apply Kd.R_drewN | apply Kd.R_drew)); exact HO_11.out) hb); have n1_ := Aside0.mk (Kd.R_below (by (with_reducible repeat (first | apply Kd.R_alloc | apply Kd.R_drewN | apply Kd.R_drew)); exact HO_18.out) hb); have n2_ := Aside0.mk (below_step (by repeat (first | (with_reducible first | exact HB.out | apply below_alloc | apply pw_below_drewN | apply below_drew1) | exact HB.out)) hb); clear HO_11; clear HO_18; clear HB; have HO_11 := n0_; have HO_18 := n1_; have HB := n2_; clear n0_ n1_ n2_; (try clear hb); (try clear hb2); (try clear hk); (try clear hi)) | (go_at_call 18; (with_reducible refine (quireref19_Check.calls k2 _ _ l0 a1 (l0.length : Int) t175 _ ?side1 ?side2 A26.out).mono ?_); (case side1 => repeat (first | exact (Kd.C_below HR0.out HB.out) | (with_reducible refine Kd.C_alloc ?_ _) | (with_reducible refine Kd.C_drewN ?_ _) | (with_reducible refine Kd.C_drew ?_))); (case side2 => exact HC0.out); rintro e w30 ⟨rfl, hb⟩; have n0_ := Aside0.mk (Kd.R_below (by (with_reducible repeat (first | apply Kd.R_alloc | apply Kd.R_drewN | apply Kd.R_drew)); exact HO_11.out) hb); have n1_ := Aside0.mk (Kd.R_below (by (with_reducible repeat (first | apply Kd.R_alloc | apply Kd.R_drewN | apply Kd.R_drew)); exact HO_18.out) hb); have n2_ := Aside0.mk (below_step (by repeat (first | (with_reducible first | exact HB.out | apply below_alloc | apply pw_below_drewN | apply below_drew1) | exact HB.out)) hb); clear HO_11; clear HO_18; clear HB; have HO_11 := n0_; have HO_18 := n1_; have HB := n2_; clear n0_ n1_ n2_; (try clear hb); (try clear hb2); (try clear hk); (try clear hi)) | (go_at_call 18; (with_reducible refine (quireref19_Check.calls k2 _ _ l0 0 (l0.length : Int) t176 _ ?side1 ?side2 A27.out).mono ?_); (case side1 => repeat (first | exact (Kd.C_below HR0.out HB.out) | (with_reducible refine Kd.C_alloc ?_ _) | (with_reducible refine Kd.C_drewN ?_ _) | (with_reducible refine Kd.C_drew ?_))); (case side2 => exact HC0.out); rintro e w31 ⟨rfl, hb⟩; have n0_ := Aside0.mk (Kd.R_below (by (with_reducible repeat (first | apply Kd.R_alloc | apply Kd.R_drewN | apply Kd.R_drew)); exact HO_11.out) hb); have n1_ := Aside0.mk (Kd.R_below (by (with_reducible repeat (first | apply Kd.R_alloc | apply Kd.R_drewN | apply Kd.R_drew)); exact HO_18.out) hb); have n2_ := Aside0.mk (below_step (by repeat (first | (with_reducible first | exact HB.out | apply below_alloc | apply pw_below_drewN | apply below_drew1) | exact HB.out)) hb); clear HO_11; clear HO_18; clear HB; have HO_11 := n0_; have HO_18 := n1_; have HB := n2_; clear n0_ n1_ n2_; (try clear hb); (try clear hb2); (try clear hk); (try clear hi))); go_upto_region 15 with (first | (go_at_call 18; (with_reducible refine (quireref19_Check.calls k2 _ _ l0 a1 a2 t174 _ ?side1 ?side2 A25.out).mono ?_); (case side1 => repeat (first | exact (Kd.C_below HR0.out HB.out) | (with_reducible refine Kd.C_alloc ?_ _) | (with_reducible refine Kd.C_drewN ?_ _) | (with_reducible refine Kd.C_drew ?_))); (case side2 => exact HC0.out); rintro e w29 ⟨rfl, hb⟩; have n0_ := Aside0.mk (Kd.R_below (by (with_reducible repeat (first | apply Kd.R_alloc | apply Kd.R_drewN | apply Kd.R_drew)); exact HO_11.out) hb); have n1_ := Aside0.mk (Kd.R_below (by (with_reducible repeat (first | apply Kd.R_alloc | apply Kd.R_drewN | apply Kd.R_drew)); exact HO_18.out) hb); have n2_ := Aside0.mk (below_step (by repeat (first | (with_reducible first | exact HB.out | apply below_alloc | apply pw_below_drewN | apply below_drew1) | exact HB.out)) hb); clear HO_11; clear HO_18; clear HB; have HO_11 := n0_; have HO_18 := n1_; have HB := n2_; clear n0_ n1_ n2_; (try clear hb); (try clear hb2); (try clear hk); (try clear hi)) | (go_at_call 18; (with_reducible refine (quireref19_Check.calls k2 _ _ l0 a1 (l0.length : Int) t175 _ ?side1 ?side2 A26.out).mono ?_); (case side1 => repeat (first | exact (Kd.C_below HR0.out HB.out) | (with_reducible refine Kd.C_alloc ?_ _) | (with_reducible refine Kd.C_drewN ?_ _) | (with_reducible refine Kd.C_drew ?_))); (case side2 => exact HC0.out); rintro e w30 ⟨rfl, hb⟩; have n0_ := Aside0.mk (Kd.R_below (by (with_reducible repeat (first | apply Kd.R_alloc | apply Kd.R_drewN | apply Kd.R_drew)); exact HO_11.out) hb); have n1_ := Aside0.mk (Kd.R_below (by (with_reducible repeat (first | apply Kd.R_alloc | apply Kd.R_drewN | apply Kd.R_drew)); exact HO_18.out) hb); have n2_ := Aside0.mk (below_step (by repeat (first | (with_reducible first | exact HB.out | apply below_alloc | apply pw_below_drewN | apply below_drew1) | exact HB.out)) hb); clear HO_11; clear HO_18; clear HB; have HO_11 := n0_; have HO_18 := n1_; have HB := n2_; clear n0_ n1_ n2_; (try clear hb); (try clear hb2); (try clear hk); (try clear hi)) | (go_at_call 18; (with_reducible refine (quireref19_Check.calls k2 _ _ l0 0 (l0.length : Int) t176 _ ?side1 ?side2 A27.out).mono ?_); (case side1 => repeat (first | exact (Kd.C_below HR0.out HB.out) | (with_reducible refine Kd.C_alloc ?_ _) | (with_reducible refine Kd.C_drewN ?_ _) | (with_reducible refine Kd.C_drew ?_))); (case side2 => exact HC0.out); rintro e w31 ⟨rfl, hb⟩; have n0_ := Aside0.mk (Kd.R_below (by (with_reducible repeat (first | apply Kd.R_alloc | apply Kd.R_drewN | apply Kd.R_drew)); exact HO_11.out) hb); have n1_ := Aside0.mk (Kd.R_below (by (with_reducible repeat (first | apply Kd.R_alloc | apply Kd.R_drewN | apply Kd.R_drew)); exact HO_18.out) hb); have n2_ := Aside0.mk (below_step (by repeat (first | (with_reducible first | exact HB.out | apply below_alloc | apply pw_below_drewN | apply below_drew1) | exact HB.out)) hb); clear HO_11; clear HO_18; clear HB; have HO_11 := n0_; have HO_18 := n1_; have HB := n2_; clear n0_ n1_ n2_; (try clear hb); (try clear hb2); (try clear hk); (try clear hi))))
                (try simp only [Act.put, List.setIfInBounds_toArray, List.set_cons_zero, List.set_cons_succ])
                go_cut [107] (fun v107 wc => ∃ (kq : Nat) (x107_27 : Bool), v107 = .bool x107_27 ∧ Aside0 (quirelaw19_ColumnFills.j2 kq l0 a1 a2 a3 a4 t161 t162 t163 t164 t165 t166 t167 t168 t169 t174 t175 t176 x107_27 = some r) ∧ Aside0 (kq ≤ k2) ∧ Aside0 (Kd.R (Kd.int .i64) 3 wc w.heap.size (fun _ => True) v170 t167) ∧ Aside0 (Below w.heap.size w wc))
                case first => as_aux_lemma =>
                  have H := HC28.out
                  clear HC28
                  by_cases c32 : t175 = 0
                  · rw [if_pos c32] at H
                    have c32b0 : (t175 == 0) = true := beq_iff_eq.mpr c32
                    have c32b1 : (t175 != 0) = false := bne_eq_false_iff_eq.mpr c32
                    clear c32
                    (first | rw [c32b0] | (simp only [i64_w, i32_w]; rw [c32b0]) | skip)
                    by_cases c33 : a3 < 0
                    · rw [if_pos c33] at H
                      have c33b0 : decide (a3 < 0) = true := decide_eq_true c33
                      clear c33
                      have H' := Aside0.mk H
                      clear H
                      go_wp2
                      repeat (go_quiet (fail); try go_wp2)
                      go_meet
                      case rel => exact ⟨_, (true), (by first | rfl | (simp; done) | (simp [*]; done)), H', ⟨by have := HJ5.out; have := HK2.out; first | omega | exact Nat.le_refl _⟩, ⟨by (with_reducible repeat (first | apply Kd.R_alloc | apply Kd.R_drewN | apply Kd.R_drew)); exact HO_18.out⟩, ⟨by repeat (first | (with_reducible first | exact HB.out | apply below_alloc | apply pw_below_drewN | apply below_drew1) | exact HB.out)⟩⟩
                    · rw [if_neg c33] at H
                      have c33b0 : decide (a3 < 0) = false := decide_eq_false c33
                      clear c33
                      have H' := Aside0.mk H
                      clear H
                      go_wp2
                      repeat (go_quiet (fail); try go_wp2)
                      go_meet
                      case rel => exact ⟨_, (decide (a3 > 4095)), (by first | rfl | (simp; done) | (simp [*]; done)), H', ⟨by have := HJ5.out; have := HK2.out; first | omega | exact Nat.le_refl _⟩, ⟨by (with_reducible repeat (first | apply Kd.R_alloc | apply Kd.R_drewN | apply Kd.R_drew)); exact HO_18.out⟩, ⟨by repeat (first | (with_reducible first | exact HB.out | apply below_alloc | apply pw_below_drewN | apply below_drew1) | exact HB.out)⟩⟩
                  · rw [if_neg c32] at H
                    have c32b0 : (t175 == 0) = false := beq_eq_false_iff_ne.mpr c32
                    have c32b1 : (t175 != 0) = true := bne_iff_ne.mpr c32
                    (first | rw [c32b0] | (simp only [i64_w, i32_w]; rw [c32b0]) | skip)
                    have H' := Aside0.mk H
                    clear H
                    go_wp2
                    repeat (go_quiet (fail); try go_wp2)
                    go_meet
                    case rel => exact ⟨_, (false), (by first | rfl | (simp; done) | (simp [*]; done)), H', ⟨by have := HJ5.out; have := HK2.out; first | omega | exact Nat.le_refl _⟩, ⟨by (with_reducible repeat (first | apply Kd.R_alloc | apply Kd.R_drewN | apply Kd.R_drew)); exact HO_18.out⟩, ⟨by repeat (first | (with_reducible first | exact HB.out | apply below_alloc | apply pw_below_drewN | apply below_drew1) | exact HB.out)⟩⟩
                case rest => as_aux_lemma =>
                  clear HC28
                  try clear c1
                  try clear p1
                  try clear q1
                  try clear hx1
                  try clear c2
                  try clear p2
                  try clear c3
                  try clear c5
                  try clear p6
                  try clear c7
                  try clear c7b0
                  try clear c7b1
                  try clear c8
                  try clear c8b0
                  try clear c8b1
                  try clear c9
                  try clear c10
                  try clear p17
                  try clear q17
                  try clear hx17
                  try clear c21
                  try clear c21b0
                  try clear c22
                  try clear c22b0
                  try clear c23
                  try clear c23b0
                  try clear c24
                  try clear c24b0
                  try clear c32
                  try clear c32b0
                  try clear c32b1
                  try clear c33
                  try clear c33b0
                  try clear hx172_0
                  try clear hx172_1
                  try clear hx172_2
                  try clear hx173_0
                  try clear hx173_1
                  try clear hx173_2
                  try clear p172
                  try clear p173
                  try clear p2
                  try clear q172
                  try clear q173
                  obtain ⟨kq, x107_27, rfl, HA, HJ27, HO_18, HB⟩ := hcut
                  cases kq with
                  | zero => exact absurd HA.out (by simp [quirelaw19_ColumnFills.j2])
                  | succ kj27 =>
                    have H := HA.out
                    clear HA
                    simp only [quirelaw19_ColumnFills.j2] at H
                    have HC34 := Aside0.mk H
                    clear H
                    go_upto_if 107 with (fail)
                    repeat (go_quiet (fail); go_upto_if 107 with (fail))
                    go_cut [23] (fun v23 wc => ∃ (kq : Nat) (x23_33 : Int), v23 = .int .i64 x23_33 ∧ Aside0 (quirelaw19_ColumnFills.j3 kq l0 a1 a2 a3 a4 t161 t162 t163 t164 t165 t166 t167 t168 t169 t174 x23_33 t176 = some r) ∧ Aside0 (kq ≤ kj27) ∧ Aside0 (Kd.R (Kd.int .i64) 3 wc w.heap.size (fun _ => True) v170 t167) ∧ Aside0 (Below w.heap.size w wc))
                    case first => as_aux_lemma =>
                      have H := HC34.out
                      clear HC34
                      by_cases c35 : x107_27 = true
                      · subst c35
                        have H1 : (quirelaw19_ColumnFills.j3 kj27 l0 a1 a2 a3 a4 t161 t162 t163 t164 t165 t166 t167 t168 t169 t174 5 t176) = some r := by rw [if_pos rfl] at H; exact H
                        clear H
                        have H := H1
                        clear H1
                        have H' := Aside0.mk H
                        clear H
                        go_wp2
                        repeat (go_quiet (fail); try go_wp2)
                        go_meet
                        case rel => exact ⟨_, (5), (by first | rfl | (simp; done) | (simp [*]; done)), H', ⟨by have := HJ5.out; have := HK2.out; have := HJ27.out; first | omega | exact Nat.le_refl _⟩, ⟨by (with_reducible repeat (first | apply Kd.R_alloc | apply Kd.R_drewN | apply Kd.R_drew)); exact HO_18.out⟩, ⟨by repeat (first | (with_reducible first | exact HB.out | apply below_alloc | apply pw_below_drewN | apply below_drew1) | exact HB.out)⟩⟩
                      · replace c35 := Bool.eq_false_iff.mpr c35
                        subst c35
                        have H1 : (quirelaw19_ColumnFills.j3 kj27 l0 a1 a2 a3 a4 t161 t162 t163 t164 t165 t166 t167 t168 t169 t174 t175 t176) = some r := by rw [if_neg (show ¬ (false = true) by decide)] at H; exact H
                        clear H
                        have H := H1
                        clear H1
                        have H' := Aside0.mk H
                        clear H
                        go_wp2
                        repeat (go_quiet (fail); try go_wp2)
                        go_meet
                        case rel => exact ⟨_, (t175), (by first | rfl | (simp; done) | (simp [*]; done)), H', ⟨by have := HJ5.out; have := HK2.out; have := HJ27.out; first | omega | exact Nat.le_refl _⟩, ⟨by (with_reducible repeat (first | apply Kd.R_alloc | apply Kd.R_drewN | apply Kd.R_drew)); exact HO_18.out⟩, ⟨by repeat (first | (with_reducible first | exact HB.out | apply below_alloc | apply pw_below_drewN | apply below_drew1) | exact HB.out)⟩⟩
                    case rest => as_aux_lemma =>
                      clear HC34
                      try clear c1
                      try clear p1
                      try clear q1
                      try clear hx1
                      try clear c2
                      try clear p2
                      try clear c3
                      try clear c5
                      try clear p6
                      try clear c7
                      try clear c7b0
                      try clear c7b1
                      try clear c8
                      try clear c8b0
                      try clear c8b1
                      try clear c9
                      try clear c10
                      try clear p17
                      try clear q17
                      try clear hx17
                      try clear c21
                      try clear c21b0
                      try clear c22
                      try clear c22b0
                      try clear c23
                      try clear c23b0
                      try clear c24
                      try clear c24b0
                      try clear c32
                      try clear c32b0
                      try clear c32b1
                      try clear c33
                      try clear c33b0
                      try clear c35
                      try clear hx172_0
                      try clear hx172_1
                      try clear hx172_2
                      try clear hx173_0
                      try clear hx173_1
                      try clear hx173_2
                      try clear p1
                      try clear p17
                      try clear p172
                      try clear p173
                      try clear p2
                      try clear p6
                      try clear q1
                      try clear q17
                      try clear q172
                      try clear q173
                      obtain ⟨kq, x23_33, rfl, HA, HJ33, HO_18, HB⟩ := hcut
                      cases kq with
                      | zero => exact absurd HA.out (by simp [quirelaw19_ColumnFills.j3])
                      | succ kj33 =>
                        have H := HA.out
                        clear HA
                        simp only [quirelaw19_ColumnFills.j3] at H
                        have HC36 := Aside0.mk H
                        clear H
                        go_upto_region 17 with (fail)
                        repeat (go_quiet (fail); go_upto_region 17 with (fail))
                        go_cut [125] (fun v125 wc => ∃ (kq : Nat) (x125_35 : Bool), v125 = .bool x125_35 ∧ Aside0 (quirelaw19_ColumnFills.j4 kq l0 a1 a2 a3 a4 t161 t162 t163 t164 t165 t166 t167 t168 t169 t174 x23_33 t176 x125_35 = some r) ∧ Aside0 (kq ≤ kj33) ∧ Aside0 (Kd.R (Kd.int .i64) 3 wc w.heap.size (fun _ => True) v170 t167) ∧ Aside0 (Below w.heap.size w wc))
                        case first => as_aux_lemma =>
                          have H := HC36.out
                          clear HC36
                          by_cases c37 : t176 = 0
                          · rw [if_pos c37] at H
                            have c37b0 : (t176 == 0) = true := beq_iff_eq.mpr c37
                            have c37b1 : (t176 != 0) = false := bne_eq_false_iff_eq.mpr c37
                            clear c37
                            (first | rw [c37b0] | (simp only [i64_w, i32_w]; rw [c37b0]) | skip)
                            by_cases c38 : a3 < 0
                            · rw [if_pos c38] at H
                              have c38b0 : decide (a3 < 0) = true := decide_eq_true c38
                              clear c38
                              have H' := Aside0.mk H
                              clear H
                              go_wp2
                              repeat (go_quiet (fail); try go_wp2)
                              go_meet
                              case rel => exact ⟨_, (true), (by first | rfl | (simp; done) | (simp [*]; done)), H', ⟨by have := HJ5.out; have := HK2.out; have := HJ27.out; have := HJ33.out; first | omega | exact Nat.le_refl _⟩, ⟨by (with_reducible repeat (first | apply Kd.R_alloc | apply Kd.R_drewN | apply Kd.R_drew)); exact HO_18.out⟩, ⟨by repeat (first | (with_reducible first | exact HB.out | apply below_alloc | apply pw_below_drewN | apply below_drew1) | exact HB.out)⟩⟩
                            · rw [if_neg c38] at H
                              have c38b0 : decide (a3 < 0) = false := decide_eq_false c38
                              clear c38
                              by_cases c39 : a3 > 4095
                              · rw [if_pos c39] at H
                                have c39b0 : decide (4095 < a3) = true := decide_eq_true c39
                                clear c39
                                have H' := Aside0.mk H
                                clear H
                                go_wp2
                                repeat (go_quiet (fail); try go_wp2)
                                go_meet
                                case rel => exact ⟨_, (true), (by first | rfl | (simp; done) | (simp [*]; done)), H', ⟨by have := HJ5.out; have := HK2.out; have := HJ27.out; have := HJ33.out; first | omega | exact Nat.le_refl _⟩, ⟨by (with_reducible repeat (first | apply Kd.R_alloc | apply Kd.R_drewN | apply Kd.R_drew)); exact HO_18.out⟩, ⟨by repeat (first | (with_reducible first | exact HB.out | apply below_alloc | apply pw_below_drewN | apply below_drew1) | exact HB.out)⟩⟩
                              · rw [if_neg c39] at H
                                have c39b0 : decide (4095 < a3) = false := decide_eq_false c39
                                clear c39
                                by_cases c40 : a4 < 1
                                · rw [if_pos c40] at H
                                  have c40b0 : decide (a4 < 1) = true := decide_eq_true c40
                                  clear c40
                                  have H' := Aside0.mk H
                                  clear H
                                  go_wp2
                                  repeat (go_quiet (fail); try go_wp2)
                                  go_meet
                                  case rel => exact ⟨_, (true), (by first | rfl | (simp; done) | (simp [*]; done)), H', ⟨by have := HJ5.out; have := HK2.out; have := HJ27.out; have := HJ33.out; first | omega | exact Nat.le_refl _⟩, ⟨by (with_reducible repeat (first | apply Kd.R_alloc | apply Kd.R_drewN | apply Kd.R_drew)); exact HO_18.out⟩, ⟨by repeat (first | (with_reducible first | exact HB.out | apply below_alloc | apply pw_below_drewN | apply below_drew1) | exact HB.out)⟩⟩
                                · rw [if_neg c40] at H
                                  have c40b0 : decide (a4 < 1) = false := decide_eq_false c40
                                  clear c40
                                  have H' := Aside0.mk H
                                  clear H
                                  go_wp2
                                  repeat (go_quiet (fail); try go_wp2)
                                  go_meet
                                  case rel => exact ⟨_, (decide (a4 > 8)), (by first | rfl | (simp; done) | (simp [*]; done)), H', ⟨by have := HJ5.out; have := HK2.out; have := HJ27.out; have := HJ33.out; first | omega | exact Nat.le_refl _⟩, ⟨by (with_reducible repeat (first | apply Kd.R_alloc | apply Kd.R_drewN | apply Kd.R_drew)); exact HO_18.out⟩, ⟨by repeat (first | (with_reducible first | exact HB.out | apply below_alloc | apply pw_below_drewN | apply below_drew1) | exact HB.out)⟩⟩
                          · rw [if_neg c37] at H
                            have c37b0 : (t176 == 0) = false := beq_eq_false_iff_ne.mpr c37
                            have c37b1 : (t176 != 0) = true := bne_iff_ne.mpr c37
                            (first | rw [c37b0] | (simp only [i64_w, i32_w]; rw [c37b0]) | skip)
                            have H' := Aside0.mk H
                            clear H
                            go_wp2
                            repeat (go_quiet (fail); try go_wp2)
                            go_meet
                            case rel => exact ⟨_, (false), (by first | rfl | (simp; done) | (simp [*]; done)), H', ⟨by have := HJ5.out; have := HK2.out; have := HJ27.out; have := HJ33.out; first | omega | exact Nat.le_refl _⟩, ⟨by (with_reducible repeat (first | apply Kd.R_alloc | apply Kd.R_drewN | apply Kd.R_drew)); exact HO_18.out⟩, ⟨by repeat (first | (with_reducible first | exact HB.out | apply below_alloc | apply pw_below_drewN | apply below_drew1) | exact HB.out)⟩⟩
                        case rest => as_aux_lemma =>
                          clear HC36
                          try clear c1
                          try clear p1
                          try clear q1
                          try clear hx1
                          try clear c2
                          try clear p2
                          try clear c3
                          try clear c4
                          try clear c5
                          try clear p6
                          try clear c7
                          try clear c7b0
                          try clear c7b1
                          try clear c8
                          try clear c8b0
                          try clear c8b1
                          try clear c9
                          try clear c10
                          try clear p17
                          try clear q17
                          try clear hx17
                          try clear c21
                          try clear c21b0
                          try clear c22
                          try clear c22b0
                          try clear c23
                          try clear c23b0
                          try clear c24
                          try clear c24b0
                          try clear c32
                          try clear c32b0
                          try clear c32b1
                          try clear c33
                          try clear c33b0
                          try clear c35
                          try clear c37
                          try clear c37b0
                          try clear c37b1
                          try clear c38
                          try clear c38b0
                          try clear c39
                          try clear c39b0
                          try clear c40
                          try clear c40b0
                          try clear hx172_0
                          try clear hx172_1
                          try clear hx172_2
                          try clear hx173_0
                          try clear hx173_1
                          try clear hx173_2
                          try clear p1
                          try clear p17
                          try clear p172
                          try clear p173
                          try clear p2
                          try clear p6
                          try clear q1
                          try clear q17
                          try clear q172
                          try clear q173
                          obtain ⟨kq, x125_35, rfl, HA, HJ35, HO_18, HB⟩ := hcut
                          cases kq with
                          | zero => exact absurd HA.out (by simp [quirelaw19_ColumnFills.j4])
                          | succ kj35 =>
                            have H := HA.out
                            clear HA
                            simp only [quirelaw19_ColumnFills.j4] at H
                            have HC41 := Aside0.mk H
                            clear H
                            go_upto_if 125 with (fail)
                            repeat (go_quiet (fail); go_upto_if 125 with (fail))
                            go_cut [24] (fun v24 wc => ∃ (kq : Nat) (x24_40 : Int), v24 = .int .i64 x24_40 ∧ Aside0 (quirelaw19_ColumnFills.j5 kq l0 a1 a2 a3 a4 t161 t162 t163 t164 t165 t166 t167 t168 t169 t174 x23_33 x24_40 = some r) ∧ Aside0 (kq ≤ kj35) ∧ Aside0 (Kd.R (Kd.int .i64) 3 wc w.heap.size (fun _ => True) v170 t167) ∧ Aside0 (Below w.heap.size w wc))
                            case first => as_aux_lemma =>
                              have H := HC41.out
                              clear HC41
                              by_cases c42 : x125_35 = true
                              · subst c42
                                have H1 : (quirelaw19_ColumnFills.j5 kj35 l0 a1 a2 a3 a4 t161 t162 t163 t164 t165 t166 t167 t168 t169 t174 x23_33 5) = some r := by rw [if_pos rfl] at H; exact H
                                clear H
                                have H := H1
                                clear H1
                                have H' := Aside0.mk H
                                clear H
                                go_wp2
                                repeat (go_quiet (fail); try go_wp2)
                                go_meet
                                case rel => exact ⟨_, (5), (by first | rfl | (simp; done) | (simp [*]; done)), H', ⟨by have := HJ5.out; have := HK2.out; have := HJ27.out; have := HJ33.out; have := HJ35.out; first | omega | exact Nat.le_refl _⟩, ⟨by (with_reducible repeat (first | apply Kd.R_alloc | apply Kd.R_drewN | apply Kd.R_drew)); exact HO_18.out⟩, ⟨by repeat (first | (with_reducible first | exact HB.out | apply below_alloc | apply pw_below_drewN | apply below_drew1) | exact HB.out)⟩⟩
                              · replace c42 := Bool.eq_false_iff.mpr c42
                                subst c42
                                have H1 : (quirelaw19_ColumnFills.j5 kj35 l0 a1 a2 a3 a4 t161 t162 t163 t164 t165 t166 t167 t168 t169 t174 x23_33 t176) = some r := by rw [if_neg (show ¬ (false = true) by decide)] at H; exact H
                                clear H
                                have H := H1
                                clear H1
                                have H' := Aside0.mk H
                                clear H
                                go_wp2
                                repeat (go_quiet (fail); try go_wp2)
                                go_meet
                                case rel => exact ⟨_, (t176), (by first | rfl | (simp; done) | (simp [*]; done)), H', ⟨by have := HJ5.out; have := HK2.out; have := HJ27.out; have := HJ33.out; have := HJ35.out; first | omega | exact Nat.le_refl _⟩, ⟨by (with_reducible repeat (first | apply Kd.R_alloc | apply Kd.R_drewN | apply Kd.R_drew)); exact HO_18.out⟩, ⟨by repeat (first | (with_reducible first | exact HB.out | apply below_alloc | apply pw_below_drewN | apply below_drew1) | exact HB.out)⟩⟩
                            case rest => as_aux_lemma =>
                              clear HC41
                              try clear c1
                              try clear p1
                              try clear q1
                              try clear hx1
                              try clear c2
                              try clear p2
                              try clear c3
                              try clear c4
                              try clear c5
                              try clear p6
                              try clear c7
                              try clear c7b0
                              try clear c7b1
                              try clear c8
                              try clear c8b0
                              try clear c8b1
                              try clear c9
                              try clear c10
                              try clear p17
                              try clear q17
                              try clear hx17
                              try clear c21
                              try clear c21b0
                              try clear c22
                              try clear c22b0
                              try clear c23
                              try clear c23b0
                              try clear c24
                              try clear c24b0
                              try clear c32
                              try clear c32b0
                              try clear c32b1
                              try clear c33
                              try clear c33b0
                              try clear c35
                              try clear c37
                              try clear c37b0
                              try clear c37b1
                              try clear c38
                              try clear c38b0
                              try clear c39
                              try clear c39b0
                              try clear c40
                              try clear c40b0
                              try clear c42
                              try clear hx172_0
                              try clear hx172_1
                              try clear hx172_2
                              try clear hx173_0
                              try clear hx173_1
                              try clear hx173_2
                              try clear p1
                              try clear p17
                              try clear p172
                              try clear p173
                              try clear p2
                              try clear p6
                              try clear q1
                              try clear q17
                              try clear q172
                              try clear q173
                              obtain ⟨kq, x24_40, rfl, HA, HJ40, HO_18, HB⟩ := hcut
                              cases kq with
                              | zero => exact absurd HA.out (by simp [quirelaw19_ColumnFills.j5])
                              | succ kj40 =>
                                have H := HA.out
                                clear HA
                                simp only [quirelaw19_ColumnFills.j5] at H
                                have HC43 := Aside0.mk H
                                clear H
                                go_upto_region 19 with (fail)
                                repeat (go_quiet (fail); go_upto_region 19 with (fail))
                                go_cut [173] (fun v173 wc => ∃ (kq : Nat) (x173_42 : Bool), v173 = .bool x173_42 ∧ Aside0 (quirelaw19_ColumnFills.j6 kq l0 a1 a2 a3 a4 t161 t163 t164 t165 t167 t168 t174 x23_33 x24_40 x173_42 = some r) ∧ Aside0 (kq ≤ kj40) ∧ Aside0 (Kd.R (Kd.int .i64) 3 wc w.heap.size (fun _ => True) v170 t167) ∧ Aside0 (Below w.heap.size w wc))
                                case first => as_aux_lemma =>
                                  have H := HC43.out
                                  clear HC43
                                  by_cases c44 : t162 = t174
                                  · rw [if_pos c44] at H
                                    have c44b0 : (t162 == t174) = true := beq_iff_eq.mpr c44
                                    have c44b1 : (t162 != t174) = false := bne_eq_false_iff_eq.mpr c44
                                    clear c44
                                    (first | rw [c44b0] | (simp only [i64_w, i32_w]; rw [c44b0]) | skip)
                                    by_cases c45 : t166 = x23_33
                                    · rw [if_pos c45] at H
                                      have c45b0 : (t166 == x23_33) = true := beq_iff_eq.mpr c45
                                      have c45b1 : (t166 != x23_33) = false := bne_eq_false_iff_eq.mpr c45
                                      clear c45
                                      by_cases c46 : t169 = x24_40
                                      · rw [if_pos c46] at H
                                        have c46b0 : (t169 == x24_40) = true := beq_iff_eq.mpr c46
                                        have c46b1 : (t169 != x24_40) = false := bne_eq_false_iff_eq.mpr c46
                                        clear c46
                                        by_cases c47 : t174 = 0
                                        · rw [if_pos c47] at H
                                          have c47b0 : (t174 == 0) = true := beq_iff_eq.mpr c47
                                          have c47b1 : (t174 != 0) = false := bne_eq_false_iff_eq.mpr c47
                                          clear c47
                                          by_cases c48 : x23_33 = 0
                                          · rw [if_pos c48] at H
                                            have c48b0 : (x23_33 == 0) = true := beq_iff_eq.mpr c48
                                            have c48b1 : (x23_33 != 0) = false := bne_eq_false_iff_eq.mpr c48
                                            clear c48
                                            by_cases c49 : x24_40 = 0
                                            · rw [if_pos c49] at H
                                              have c49b0 : (x24_40 == 0) = true := beq_iff_eq.mpr c49
                                              have c49b1 : (x24_40 != 0) = false := bne_eq_false_iff_eq.mpr c49
                                              clear c49
                                              have H' := Aside0.mk H
                                              clear H
                                              go_wp2
                                              repeat (go_quiet (fail); try go_wp2)
                                              go_meet
                                              case rel => exact ⟨_, (false), (by first | rfl | (simp; done) | (simp [*]; done)), H', ⟨by have := HJ5.out; have := HK2.out; have := HJ27.out; have := HJ33.out; have := HJ35.out; have := HJ40.out; first | omega | exact Nat.le_refl _⟩, ⟨by (with_reducible repeat (first | apply Kd.R_alloc | apply Kd.R_drewN | apply Kd.R_drew)); exact HO_18.out⟩, ⟨by repeat (first | (with_reducible first | exact HB.out | apply below_alloc | apply pw_below_drewN | apply below_drew1) | exact HB.out)⟩⟩
                                            · rw [if_neg c49] at H
                                              have c49b0 : (x24_40 == 0) = false := beq_eq_false_iff_ne.mpr c49
                                              have c49b1 : (x24_40 != 0) = true := bne_iff_ne.mpr c49
                                              by_cases c50 : (t167.length : Int) = 0
                                              · rw [if_pos c50] at H
                                                have c50b0 : ((t167.length : Int) == 0) = true := beq_iff_eq.mpr c50
                                                have c50b1 : ((t167.length : Int) != 0) = false := bne_eq_false_iff_eq.mpr c50
                                                clear c50
                                                have H' := Aside0.mk H
                                                clear H
                                                obtain ⟨Ao51, co51, eo51⟩ := Kd.R_slice HO_18.out
                                                subst eo51
                                                go_wp2
                                                repeat (go_quiet (fail); try go_wp2)
                                                go_meet
                                                case rel => exact ⟨_, (t168), (by first | rfl | (simp; done) | (simp [*]; done)), H', ⟨by have := HJ5.out; have := HK2.out; have := HJ27.out; have := HJ33.out; have := HJ35.out; have := HJ40.out; first | omega | exact Nat.le_refl _⟩, ⟨by (with_reducible repeat (first | apply Kd.R_alloc | apply Kd.R_drewN | apply Kd.R_drew)); exact HO_18.out⟩, ⟨by repeat (first | (with_reducible first | exact HB.out | apply below_alloc | apply pw_below_drewN | apply below_drew1) | exact HB.out)⟩⟩
                                              · rw [if_neg c50] at H
                                                have c50b0 : ((t167.length : Int) == 0) = false := beq_eq_false_iff_ne.mpr c50
                                                have c50b1 : ((t167.length : Int) != 0) = true := bne_iff_ne.mpr c50
                                                have c50b2 : ¬ (t167 = []) := fun h_ => c50 (by rw [h_]; rfl)
                                                have H' := Aside0.mk H
                                                clear H
                                                obtain ⟨Ao52, co52, eo52⟩ := Kd.R_slice HO_18.out
                                                subst eo52
                                                go_wp2
                                                repeat (go_quiet (fail); try go_wp2)
                                                go_meet
                                                case rel => exact ⟨_, (true), (by first | rfl | (simp; done) | (simp [*]; done)), H', ⟨by have := HJ5.out; have := HK2.out; have := HJ27.out; have := HJ33.out; have := HJ35.out; have := HJ40.out; first | omega | exact Nat.le_refl _⟩, ⟨by (with_reducible repeat (first | apply Kd.R_alloc | apply Kd.R_drewN | apply Kd.R_drew)); exact HO_18.out⟩, ⟨by repeat (first | (with_reducible first | exact HB.out | apply below_alloc | apply pw_below_drewN | apply below_drew1) | exact HB.out)⟩⟩
                                          · rw [if_neg c48] at H
                                            have c48b0 : (x23_33 == 0) = false := beq_eq_false_iff_ne.mpr c48
                                            have c48b1 : (x23_33 != 0) = true := bne_iff_ne.mpr c48
                                            by_cases c53 : t163 = 0
                                            · rw [if_pos c53] at H
                                              have c53b0 : (t163 == 0) = true := beq_iff_eq.mpr c53
                                              have c53b1 : (t163 != 0) = false := bne_eq_false_iff_eq.mpr c53
                                              clear c53
                                              by_cases c54 : t164 = 0
                                              · rw [if_pos c54] at H
                                                have c54b0 : (t164 == 0) = true := beq_iff_eq.mpr c54
                                                have c54b1 : (t164 != 0) = false := bne_eq_false_iff_eq.mpr c54
                                                clear c54
                                                by_cases c55 : t165 = true
                                                · subst c55
                                                  have H1 : (quirelaw19_ColumnFills.j6 kj40 l0 a1 a2 a3 a4 t161 t163 t164 true t167 t168 t174 x23_33 x24_40 true) = some r := by rw [if_pos rfl] at H; exact H
                                                  clear H
                                                  have H := H1
                                                  clear H1
                                                  have H' := Aside0.mk H
                                                  clear H
                                                  go_wp2
                                                  repeat (go_quiet (fail); try go_wp2)
                                                  go_meet
                                                  case rel => exact ⟨_, (true), (by first | rfl | (simp; done) | (simp [*]; done)), H', ⟨by have := HJ5.out; have := HK2.out; have := HJ27.out; have := HJ33.out; have := HJ35.out; have := HJ40.out; first | omega | exact Nat.le_refl _⟩, ⟨by (with_reducible repeat (first | apply Kd.R_alloc | apply Kd.R_drewN | apply Kd.R_drew)); exact HO_18.out⟩, ⟨by repeat (first | (with_reducible first | exact HB.out | apply below_alloc | apply pw_below_drewN | apply below_drew1) | exact HB.out)⟩⟩
                                                · replace c55 := Bool.eq_false_iff.mpr c55
                                                  subst c55
                                                  have H1 : (if x24_40 = 0 then (quirelaw19_ColumnFills.j6 kj40 l0 a1 a2 a3 a4 t161 t163 t164 false t167 t168 t174 x23_33 x24_40 false) else (if (t167.length : Int) = 0 then (quirelaw19_ColumnFills.j6 kj40 l0 a1 a2 a3 a4 t161 t163 t164 false t167 t168 t174 x23_33 x24_40 t168) else (quirelaw19_ColumnFills.j6 kj40 l0 a1 a2 a3 a4 t161 t163 t164 false t167 t168 t174 x23_33 x24_40 true))) = some r := by rw [if_neg (show ¬ (false = true) by decide)] at H; exact H
                                                  clear H
                                                  have H := H1
                                                  clear H1
                                                  by_cases c56 : x24_40 = 0
                                                  · rw [if_pos c56] at H
                                                    have c56b0 : (x24_40 == 0) = true := beq_iff_eq.mpr c56
                                                    have c56b1 : (x24_40 != 0) = false := bne_eq_false_iff_eq.mpr c56
                                                    clear c56
                                                    have H' := Aside0.mk H
                                                    clear H
                                                    go_wp2
                                                    repeat (go_quiet (fail); try go_wp2)
                                                    go_meet
                                                    case rel => exact ⟨_, (false), (by first | rfl | (simp; done) | (simp [*]; done)), H', ⟨by have := HJ5.out; have := HK2.out; have := HJ27.out; have := HJ33.out; have := HJ35.out; have := HJ40.out; first | omega | exact Nat.le_refl _⟩, ⟨by (with_reducible repeat (first | apply Kd.R_alloc | apply Kd.R_drewN | apply Kd.R_drew)); exact HO_18.out⟩, ⟨by repeat (first | (with_reducible first | exact HB.out | apply below_alloc | apply pw_below_drewN | apply below_drew1) | exact HB.out)⟩⟩
                                                  · rw [if_neg c56] at H
                                                    have c56b0 : (x24_40 == 0) = false := beq_eq_false_iff_ne.mpr c56
                                                    have c56b1 : (x24_40 != 0) = true := bne_iff_ne.mpr c56
                                                    by_cases c57 : (t167.length : Int) = 0
                                                    · rw [if_pos c57] at H
                                                      have c57b0 : ((t167.length : Int) == 0) = true := beq_iff_eq.mpr c57
                                                      have c57b1 : ((t167.length : Int) != 0) = false := bne_eq_false_iff_eq.mpr c57
                                                      clear c57
                                                      have H' := Aside0.mk H
                                                      clear H
                                                      obtain ⟨Ao58, co58, eo58⟩ := Kd.R_slice HO_18.out
                                                      subst eo58
                                                      go_wp2
                                                      repeat (go_quiet (fail); try go_wp2)
                                                      go_meet
                                                      case rel => exact ⟨_, (t168), (by first | rfl | (simp; done) | (simp [*]; done)), H', ⟨by have := HJ5.out; have := HK2.out; have := HJ27.out; have := HJ33.out; have := HJ35.out; have := HJ40.out; first | omega | exact Nat.le_refl _⟩, ⟨by (with_reducible repeat (first | apply Kd.R_alloc | apply Kd.R_drewN | apply Kd.R_drew)); exact HO_18.out⟩, ⟨by repeat (first | (with_reducible first | exact HB.out | apply below_alloc | apply pw_below_drewN | apply below_drew1) | exact HB.out)⟩⟩
                                                    · rw [if_neg c57] at H
                                                      have c57b0 : ((t167.length : Int) == 0) = false := beq_eq_false_iff_ne.mpr c57
                                                      have c57b1 : ((t167.length : Int) != 0) = true := bne_iff_ne.mpr c57
                                                      have c57b2 : ¬ (t167 = []) := fun h_ => c57 (by rw [h_]; rfl)
                                                      have H' := Aside0.mk H
                                                      clear H
                                                      obtain ⟨Ao59, co59, eo59⟩ := Kd.R_slice HO_18.out
                                                      subst eo59
                                                      go_wp2
                                                      repeat (go_quiet (fail); try go_wp2)
                                                      go_meet
                                                      case rel => exact ⟨_, (true), (by first | rfl | (simp; done) | (simp [*]; done)), H', ⟨by have := HJ5.out; have := HK2.out; have := HJ27.out; have := HJ33.out; have := HJ35.out; have := HJ40.out; first | omega | exact Nat.le_refl _⟩, ⟨by (with_reducible repeat (first | apply Kd.R_alloc | apply Kd.R_drewN | apply Kd.R_drew)); exact HO_18.out⟩, ⟨by repeat (first | (with_reducible first | exact HB.out | apply below_alloc | apply pw_below_drewN | apply below_drew1) | exact HB.out)⟩⟩
                                              · rw [if_neg c54] at H
                                                have c54b0 : (t164 == 0) = false := beq_eq_false_iff_ne.mpr c54
                                                have c54b1 : (t164 != 0) = true := bne_iff_ne.mpr c54
                                                have H' := Aside0.mk H
                                                clear H
                                                go_wp2
                                                repeat (go_quiet (fail); try go_wp2)
                                                go_meet
                                                case rel => exact ⟨_, (true), (by first | rfl | (simp; done) | (simp [*]; done)), H', ⟨by have := HJ5.out; have := HK2.out; have := HJ27.out; have := HJ33.out; have := HJ35.out; have := HJ40.out; first | omega | exact Nat.le_refl _⟩, ⟨by (with_reducible repeat (first | apply Kd.R_alloc | apply Kd.R_drewN | apply Kd.R_drew)); exact HO_18.out⟩, ⟨by repeat (first | (with_reducible first | exact HB.out | apply below_alloc | apply pw_below_drewN | apply below_drew1) | exact HB.out)⟩⟩
                                            · rw [if_neg c53] at H
                                              have c53b0 : (t163 == 0) = false := beq_eq_false_iff_ne.mpr c53
                                              have c53b1 : (t163 != 0) = true := bne_iff_ne.mpr c53
                                              have H' := Aside0.mk H
                                              clear H
                                              go_wp2
                                              repeat (go_quiet (fail); try go_wp2)
                                              go_meet
                                              case rel => exact ⟨_, (true), (by first | rfl | (simp; done) | (simp [*]; done)), H', ⟨by have := HJ5.out; have := HK2.out; have := HJ27.out; have := HJ33.out; have := HJ35.out; have := HJ40.out; first | omega | exact Nat.le_refl _⟩, ⟨by (with_reducible repeat (first | apply Kd.R_alloc | apply Kd.R_drewN | apply Kd.R_drew)); exact HO_18.out⟩, ⟨by repeat (first | (with_reducible first | exact HB.out | apply below_alloc | apply pw_below_drewN | apply below_drew1) | exact HB.out)⟩⟩
                                        · rw [if_neg c47] at H
                                          have c47b0 : (t174 == 0) = false := beq_eq_false_iff_ne.mpr c47
                                          have c47b1 : (t174 != 0) = true := bne_iff_ne.mpr c47
                                          by_cases c60 : t161 = 0
                                          · rw [if_pos c60] at H
                                            have c60b0 : (t161 == 0) = true := beq_iff_eq.mpr c60
                                            have c60b1 : (t161 != 0) = false := bne_eq_false_iff_eq.mpr c60
                                            clear c60
                                            by_cases c61 : x23_33 = 0
                                            · rw [if_pos c61] at H
                                              have c61b0 : (x23_33 == 0) = true := beq_iff_eq.mpr c61
                                              have c61b1 : (x23_33 != 0) = false := bne_eq_false_iff_eq.mpr c61
                                              clear c61
                                              by_cases c62 : x24_40 = 0
                                              · rw [if_pos c62] at H
                                                have c62b0 : (x24_40 == 0) = true := beq_iff_eq.mpr c62
                                                have c62b1 : (x24_40 != 0) = false := bne_eq_false_iff_eq.mpr c62
                                                clear c62
                                                have H' := Aside0.mk H
                                                clear H
                                                go_wp2
                                                repeat (go_quiet (fail); try go_wp2)
                                                go_meet
                                                case rel => exact ⟨_, (false), (by first | rfl | (simp; done) | (simp [*]; done)), H', ⟨by have := HJ5.out; have := HK2.out; have := HJ27.out; have := HJ33.out; have := HJ35.out; have := HJ40.out; first | omega | exact Nat.le_refl _⟩, ⟨by (with_reducible repeat (first | apply Kd.R_alloc | apply Kd.R_drewN | apply Kd.R_drew)); exact HO_18.out⟩, ⟨by repeat (first | (with_reducible first | exact HB.out | apply below_alloc | apply pw_below_drewN | apply below_drew1) | exact HB.out)⟩⟩
                                              · rw [if_neg c62] at H
                                                have c62b0 : (x24_40 == 0) = false := beq_eq_false_iff_ne.mpr c62
                                                have c62b1 : (x24_40 != 0) = true := bne_iff_ne.mpr c62
                                                by_cases c63 : (t167.length : Int) = 0
                                                · rw [if_pos c63] at H
                                                  have c63b0 : ((t167.length : Int) == 0) = true := beq_iff_eq.mpr c63
                                                  have c63b1 : ((t167.length : Int) != 0) = false := bne_eq_false_iff_eq.mpr c63
                                                  clear c63
                                                  have H' := Aside0.mk H
                                                  clear H
                                                  obtain ⟨Ao64, co64, eo64⟩ := Kd.R_slice HO_18.out
                                                  subst eo64
                                                  go_wp2
                                                  repeat (go_quiet (fail); try go_wp2)
                                                  go_meet
                                                  case rel => exact ⟨_, (t168), (by first | rfl | (simp; done) | (simp [*]; done)), H', ⟨by have := HJ5.out; have := HK2.out; have := HJ27.out; have := HJ33.out; have := HJ35.out; have := HJ40.out; first | omega | exact Nat.le_refl _⟩, ⟨by (with_reducible repeat (first | apply Kd.R_alloc | apply Kd.R_drewN | apply Kd.R_drew)); exact HO_18.out⟩, ⟨by repeat (first | (with_reducible first | exact HB.out | apply below_alloc | apply pw_below_drewN | apply below_drew1) | exact HB.out)⟩⟩
                                                · rw [if_neg c63] at H
                                                  have c63b0 : ((t167.length : Int) == 0) = false := beq_eq_false_iff_ne.mpr c63
                                                  have c63b1 : ((t167.length : Int) != 0) = true := bne_iff_ne.mpr c63
                                                  have c63b2 : ¬ (t167 = []) := fun h_ => c63 (by rw [h_]; rfl)
                                                  have H' := Aside0.mk H
                                                  clear H
                                                  obtain ⟨Ao65, co65, eo65⟩ := Kd.R_slice HO_18.out
                                                  subst eo65
                                                  go_wp2
                                                  repeat (go_quiet (fail); try go_wp2)
                                                  go_meet
                                                  case rel => exact ⟨_, (true), (by first | rfl | (simp; done) | (simp [*]; done)), H', ⟨by have := HJ5.out; have := HK2.out; have := HJ27.out; have := HJ33.out; have := HJ35.out; have := HJ40.out; first | omega | exact Nat.le_refl _⟩, ⟨by (with_reducible repeat (first | apply Kd.R_alloc | apply Kd.R_drewN | apply Kd.R_drew)); exact HO_18.out⟩, ⟨by repeat (first | (with_reducible first | exact HB.out | apply below_alloc | apply pw_below_drewN | apply below_drew1) | exact HB.out)⟩⟩
                                            · rw [if_neg c61] at H
                                              have c61b0 : (x23_33 == 0) = false := beq_eq_false_iff_ne.mpr c61
                                              have c61b1 : (x23_33 != 0) = true := bne_iff_ne.mpr c61
                                              by_cases c66 : t163 = 0
                                              · rw [if_pos c66] at H
                                                have c66b0 : (t163 == 0) = true := beq_iff_eq.mpr c66
                                                have c66b1 : (t163 != 0) = false := bne_eq_false_iff_eq.mpr c66
                                                clear c66
                                                by_cases c67 : t164 = 0
                                                · rw [if_pos c67] at H
                                                  have c67b0 : (t164 == 0) = true := beq_iff_eq.mpr c67
                                                  have c67b1 : (t164 != 0) = false := bne_eq_false_iff_eq.mpr c67
                                                  clear c67
                                                  by_cases c68 : t165 = true
                                                  · subst c68
                                                    have H1 : (quirelaw19_ColumnFills.j6 kj40 l0 a1 a2 a3 a4 t161 t163 t164 true t167 t168 t174 x23_33 x24_40 true) = some r := by rw [if_pos rfl] at H; exact H
                                                    clear H
                                                    have H := H1
                                                    clear H1
                                                    have H' := Aside0.mk H
                                                    clear H
                                                    go_wp2
                                                    repeat (go_quiet (fail); try go_wp2)
                                                    go_meet
                                                    case rel => exact ⟨_, (true), (by first | rfl | (simp; done) | (simp [*]; done)), H', ⟨by have := HJ5.out; have := HK2.out; have := HJ27.out; have := HJ33.out; have := HJ35.out; have := HJ40.out; first | omega | exact Nat.le_refl _⟩, ⟨by (with_reducible repeat (first | apply Kd.R_alloc | apply Kd.R_drewN | apply Kd.R_drew)); exact HO_18.out⟩, ⟨by repeat (first | (with_reducible first | exact HB.out | apply below_alloc | apply pw_below_drewN | apply below_drew1) | exact HB.out)⟩⟩
                                                  · replace c68 := Bool.eq_false_iff.mpr c68
                                                    subst c68
                                                    have H1 : (if x24_40 = 0 then (quirelaw19_ColumnFills.j6 kj40 l0 a1 a2 a3 a4 t161 t163 t164 false t167 t168 t174 x23_33 x24_40 false) else (if (t167.length : Int) = 0 then (quirelaw19_ColumnFills.j6 kj40 l0 a1 a2 a3 a4 t161 t163 t164 false t167 t168 t174 x23_33 x24_40 t168) else (quirelaw19_ColumnFills.j6 kj40 l0 a1 a2 a3 a4 t161 t163 t164 false t167 t168 t174 x23_33 x24_40 true))) = some r := by rw [if_neg (show ¬ (false = true) by decide)] at H; exact H
                                                    clear H
                                                    have H := H1
                                                    clear H1
                                                    by_cases c69 : x24_40 = 0
                                                    · rw [if_pos c69] at H
                                                      have c69b0 : (x24_40 == 0) = true := beq_iff_eq.mpr c69
                                                      have c69b1 : (x24_40 != 0) = false := bne_eq_false_iff_eq.mpr c69
                                                      clear c69
                                                      have H' := Aside0.mk H
                                                      clear H
                                                      go_wp2
                                                      repeat (go_quiet (fail); try go_wp2)
                                                      go_meet
                                                      case rel => exact ⟨_, (false), (by first | rfl | (simp; done) | (simp [*]; done)), H', ⟨by have := HJ5.out; have := HK2.out; have := HJ27.out; have := HJ33.out; have := HJ35.out; have := HJ40.out; first | omega | exact Nat.le_refl _⟩, ⟨by (with_reducible repeat (first | apply Kd.R_alloc | apply Kd.R_drewN | apply Kd.R_drew)); exact HO_18.out⟩, ⟨by repeat (first | (with_reducible first | exact HB.out | apply below_alloc | apply pw_below_drewN | apply below_drew1) | exact HB.out)⟩⟩
                                                    · rw [if_neg c69] at H
                                                      have c69b0 : (x24_40 == 0) = false := beq_eq_false_iff_ne.mpr c69
                                                      have c69b1 : (x24_40 != 0) = true := bne_iff_ne.mpr c69
                                                      by_cases c70 : (t167.length : Int) = 0
                                                      · rw [if_pos c70] at H
                                                        have c70b0 : ((t167.length : Int) == 0) = true := beq_iff_eq.mpr c70
                                                        have c70b1 : ((t167.length : Int) != 0) = false := bne_eq_false_iff_eq.mpr c70
                                                        clear c70
                                                        have H' := Aside0.mk H
                                                        clear H
                                                        obtain ⟨Ao71, co71, eo71⟩ := Kd.R_slice HO_18.out
                                                        subst eo71
                                                        go_wp2
                                                        repeat (go_quiet (fail); try go_wp2)
                                                        go_meet
                                                        case rel => exact ⟨_, (t168), (by first | rfl | (simp; done) | (simp [*]; done)), H', ⟨by have := HJ5.out; have := HK2.out; have := HJ27.out; have := HJ33.out; have := HJ35.out; have := HJ40.out; first | omega | exact Nat.le_refl _⟩, ⟨by (with_reducible repeat (first | apply Kd.R_alloc | apply Kd.R_drewN | apply Kd.R_drew)); exact HO_18.out⟩, ⟨by repeat (first | (with_reducible first | exact HB.out | apply below_alloc | apply pw_below_drewN | apply below_drew1) | exact HB.out)⟩⟩
                                                      · rw [if_neg c70] at H
                                                        have c70b0 : ((t167.length : Int) == 0) = false := beq_eq_false_iff_ne.mpr c70
                                                        have c70b1 : ((t167.length : Int) != 0) = true := bne_iff_ne.mpr c70
                                                        have c70b2 : ¬ (t167 = []) := fun h_ => c70 (by rw [h_]; rfl)
                                                        have H' := Aside0.mk H
                                                        clear H
                                                        obtain ⟨Ao72, co72, eo72⟩ := Kd.R_slice HO_18.out
                                                        subst eo72
                                                        go_wp2
                                                        repeat (go_quiet (fail); try go_wp2)
                                                        go_meet
                                                        case rel => exact ⟨_, (true), (by first | rfl | (simp; done) | (simp [*]; done)), H', ⟨by have := HJ5.out; have := HK2.out; have := HJ27.out; have := HJ33.out; have := HJ35.out; have := HJ40.out; first | omega | exact Nat.le_refl _⟩, ⟨by (with_reducible repeat (first | apply Kd.R_alloc | apply Kd.R_drewN | apply Kd.R_drew)); exact HO_18.out⟩, ⟨by repeat (first | (with_reducible first | exact HB.out | apply below_alloc | apply pw_below_drewN | apply below_drew1) | exact HB.out)⟩⟩
                                                · rw [if_neg c67] at H
                                                  have c67b0 : (t164 == 0) = false := beq_eq_false_iff_ne.mpr c67
                                                  have c67b1 : (t164 != 0) = true := bne_iff_ne.mpr c67
                                                  have H' := Aside0.mk H
                                                  clear H
                                                  go_wp2
                                                  repeat (go_quiet (fail); try go_wp2)
                                                  go_meet
                                                  case rel => exact ⟨_, (true), (by first | rfl | (simp; done) | (simp [*]; done)), H', ⟨by have := HJ5.out; have := HK2.out; have := HJ27.out; have := HJ33.out; have := HJ35.out; have := HJ40.out; first | omega | exact Nat.le_refl _⟩, ⟨by (with_reducible repeat (first | apply Kd.R_alloc | apply Kd.R_drewN | apply Kd.R_drew)); exact HO_18.out⟩, ⟨by repeat (first | (with_reducible first | exact HB.out | apply below_alloc | apply pw_below_drewN | apply below_drew1) | exact HB.out)⟩⟩
                                              · rw [if_neg c66] at H
                                                have c66b0 : (t163 == 0) = false := beq_eq_false_iff_ne.mpr c66
                                                have c66b1 : (t163 != 0) = true := bne_iff_ne.mpr c66
                                                have H' := Aside0.mk H
                                                clear H
                                                go_wp2
                                                repeat (go_quiet (fail); try go_wp2)
                                                go_meet
                                                case rel => exact ⟨_, (true), (by first | rfl | (simp; done) | (simp [*]; done)), H', ⟨by have := HJ5.out; have := HK2.out; have := HJ27.out; have := HJ33.out; have := HJ35.out; have := HJ40.out; first | omega | exact Nat.le_refl _⟩, ⟨by (with_reducible repeat (first | apply Kd.R_alloc | apply Kd.R_drewN | apply Kd.R_drew)); exact HO_18.out⟩, ⟨by repeat (first | (with_reducible first | exact HB.out | apply below_alloc | apply pw_below_drewN | apply below_drew1) | exact HB.out)⟩⟩
                                          · rw [if_neg c60] at H
                                            have c60b0 : (t161 == 0) = false := beq_eq_false_iff_ne.mpr c60
                                            have c60b1 : (t161 != 0) = true := bne_iff_ne.mpr c60
                                            have H' := Aside0.mk H
                                            clear H
                                            go_wp2
                                            repeat (go_quiet (fail); try go_wp2)
                                            go_meet
                                            case rel => exact ⟨_, (true), (by first | rfl | (simp; done) | (simp [*]; done)), H', ⟨by have := HJ5.out; have := HK2.out; have := HJ27.out; have := HJ33.out; have := HJ35.out; have := HJ40.out; first | omega | exact Nat.le_refl _⟩, ⟨by (with_reducible repeat (first | apply Kd.R_alloc | apply Kd.R_drewN | apply Kd.R_drew)); exact HO_18.out⟩, ⟨by repeat (first | (with_reducible first | exact HB.out | apply below_alloc | apply pw_below_drewN | apply below_drew1) | exact HB.out)⟩⟩
                                      · rw [if_neg c46] at H
                                        have c46b0 : (t169 == x24_40) = false := beq_eq_false_iff_ne.mpr c46
                                        have c46b1 : (t169 != x24_40) = true := bne_iff_ne.mpr c46
                                        have H' := Aside0.mk H
                                        clear H
                                        go_wp2
                                        repeat (go_quiet (fail); try go_wp2)
                                        go_meet
                                        case rel => exact ⟨_, (true), (by first | rfl | (simp; done) | (simp [*]; done)), H', ⟨by have := HJ5.out; have := HK2.out; have := HJ27.out; have := HJ33.out; have := HJ35.out; have := HJ40.out; first | omega | exact Nat.le_refl _⟩, ⟨by (with_reducible repeat (first | apply Kd.R_alloc | apply Kd.R_drewN | apply Kd.R_drew)); exact HO_18.out⟩, ⟨by repeat (first | (with_reducible first | exact HB.out | apply below_alloc | apply pw_below_drewN | apply below_drew1) | exact HB.out)⟩⟩
                                    · rw [if_neg c45] at H
                                      have c45b0 : (t166 == x23_33) = false := beq_eq_false_iff_ne.mpr c45
                                      have c45b1 : (t166 != x23_33) = true := bne_iff_ne.mpr c45
                                      have H' := Aside0.mk H
                                      clear H
                                      go_wp2
                                      repeat (go_quiet (fail); try go_wp2)
                                      go_meet
                                      case rel => exact ⟨_, (true), (by first | rfl | (simp; done) | (simp [*]; done)), H', ⟨by have := HJ5.out; have := HK2.out; have := HJ27.out; have := HJ33.out; have := HJ35.out; have := HJ40.out; first | omega | exact Nat.le_refl _⟩, ⟨by (with_reducible repeat (first | apply Kd.R_alloc | apply Kd.R_drewN | apply Kd.R_drew)); exact HO_18.out⟩, ⟨by repeat (first | (with_reducible first | exact HB.out | apply below_alloc | apply pw_below_drewN | apply below_drew1) | exact HB.out)⟩⟩
                                  · rw [if_neg c44] at H
                                    have c44b0 : (t162 == t174) = false := beq_eq_false_iff_ne.mpr c44
                                    have c44b1 : (t162 != t174) = true := bne_iff_ne.mpr c44
                                    (first | rw [c44b0] | (simp only [i64_w, i32_w]; rw [c44b0]) | skip)
                                    have H' := Aside0.mk H
                                    clear H
                                    go_wp2
                                    repeat (go_quiet (fail); try go_wp2)
                                    go_meet
                                    case rel => exact ⟨_, (true), (by first | rfl | (simp; done) | (simp [*]; done)), H', ⟨by have := HJ5.out; have := HK2.out; have := HJ27.out; have := HJ33.out; have := HJ35.out; have := HJ40.out; first | omega | exact Nat.le_refl _⟩, ⟨by (with_reducible repeat (first | apply Kd.R_alloc | apply Kd.R_drewN | apply Kd.R_drew)); exact HO_18.out⟩, ⟨by repeat (first | (with_reducible first | exact HB.out | apply below_alloc | apply pw_below_drewN | apply below_drew1) | exact HB.out)⟩⟩
                                case rest => as_aux_lemma =>
                                  clear HC43
                                  try clear c1
                                  try clear p1
                                  try clear q1
                                  try clear hx1
                                  try clear c2
                                  try clear p2
                                  try clear c3
                                  try clear c4
                                  try clear c5
                                  try clear c6
                                  try clear p6
                                  try clear c7
                                  try clear c7b0
                                  try clear c7b1
                                  try clear c8
                                  try clear c8b0
                                  try clear c8b1
                                  try clear c9
                                  try clear c10
                                  try clear p17
                                  try clear q17
                                  try clear hx17
                                  try clear c21
                                  try clear c21b0
                                  try clear c22
                                  try clear c22b0
                                  try clear c23
                                  try clear c23b0
                                  try clear c24
                                  try clear c24b0
                                  try clear c32
                                  try clear c32b0
                                  try clear c32b1
                                  try clear c33
                                  try clear c33b0
                                  try clear c35
                                  try clear c37
                                  try clear c37b0
                                  try clear c37b1
                                  try clear c38
                                  try clear c38b0
                                  try clear c39
                                  try clear c39b0
                                  try clear c40
                                  try clear c40b0
                                  try clear c42
                                  try clear c44
                                  try clear c44b0
                                  try clear c44b1
                                  try clear c45
                                  try clear c45b0
                                  try clear c45b1
                                  try clear c46
                                  try clear c46b0
                                  try clear c46b1
                                  try clear c47
                                  try clear c47b0
                                  try clear c47b1
                                  try clear c48
                                  try clear c48b0
                                  try clear c48b1
                                  try clear c49
                                  try clear c49b0
                                  try clear c49b1
                                  try clear c50
                                  try clear c50b0
                                  try clear c50b1
                                  try clear c50b2
                                  try clear c53
                                  try clear c53b0
                                  try clear c53b1
                                  try clear c54
                                  try clear c54b0
                                  try clear c54b1
                                  try clear c55
                                  try clear c56
                                  try clear c56b0
                                  try clear c56b1
                                  try clear c57
                                  try clear c57b0
                                  try clear c57b1
                                  try clear c57b2
                                  try clear c60
                                  try clear c60b0
                                  try clear c60b1
                                  try clear c61
                                  try clear c61b0
                                  try clear c61b1
                                  try clear c62
                                  try clear c62b0
                                  try clear c62b1
                                  try clear c63
                                  try clear c63b0
                                  try clear c63b1
                                  try clear c63b2
                                  try clear c66
                                  try clear c66b0
                                  try clear c66b1
                                  try clear c67
                                  try clear c67b0
                                  try clear c67b1
                                  try clear c68
                                  try clear c69
                                  try clear c69b0
                                  try clear c69b1
                                  try clear c70
                                  try clear c70b0
                                  try clear c70b1
                                  try clear c70b2
                                  try clear hx172_0
                                  try clear hx172_1
                                  try clear hx172_2
                                  try clear hx173_0
                                  try clear hx173_1
                                  try clear hx173_2
                                  try clear p1
                                  try clear p17
                                  try clear p172
                                  try clear p173
                                  try clear p2
                                  try clear p6
                                  try clear q1
                                  try clear q17
                                  try clear q172
                                  try clear q173
                                  obtain ⟨kq, x173_42, rfl, HA, HJ42, HO_18, HB⟩ := hcut
                                  cases kq with
                                  | zero => exact absurd HA.out (by simp [quirelaw19_ColumnFills.j6])
                                  | succ kj42 =>
                                    have H := HA.out
                                    clear HA
                                    simp only [quirelaw19_ColumnFills.j6] at H
                                    by_cases c73 : x173_42 = true
                                    · subst c73
                                      have H1 : (some false) = some r := by rw [if_pos rfl] at H; exact H
                                      clear H
                                      have H := H1
                                      clear H1
                                      obtain rfl := Option.some.inj H
                                      go_wp2
                                      repeat (go_quiet (fail); try go_wp2)
                                      go_ret
                                      exact ⟨by first | rfl | (simp [errW_none, errW_some] <;> rfl) | (simp [*, errW_none, errW_some] <;> rfl), by repeat (first | (with_reducible first | exact HB.out | apply below_alloc | apply pw_below_drewN | apply below_drew1) | exact HB.out)⟩
                                    · replace c73 := Bool.eq_false_iff.mpr c73
                                      subst c73
                                      have H1 : (if t174 = 0 then ((quireref19_Height.f kj42 l0 a1 a2).bind fun t177 => (quirelaw19_ColumnFills.j7 kj42 l0 a1 a3 a4 t163 t164 t165 t167 t168 x23_33 x24_40 (t161 != t177))) else (quirelaw19_ColumnFills.j7 kj42 l0 a1 a3 a4 t163 t164 t165 t167 t168 x23_33 x24_40 false)) = some r := by rw [if_neg (show ¬ (false = true) by decide)] at H; exact H
                                      clear H
                                      have H := H1
                                      clear H1
                                      have HC74 := Aside0.mk H
                                      clear H
                                      go_upto_region 21 with (fail)
                                      repeat (go_quiet (fail); go_upto_region 21 with (fail))
                                      go_cut [183] (fun v183 wc => ∃ (kq : Nat) (x183_73 : Bool), v183 = .bool x183_73 ∧ Aside0 (quirelaw19_ColumnFills.j7 kq l0 a1 a3 a4 t163 t164 t165 t167 t168 x23_33 x24_40 x183_73 = some r) ∧ Aside0 (kq ≤ kj42) ∧ Aside0 (Kd.R (Kd.int .i64) 3 wc w.heap.size (fun _ => True) v170 t167) ∧ Aside0 (Below w.heap.size w wc))
                                      case first => as_aux_lemma =>
                                        have H := HC74.out
                                        clear HC74
                                        by_cases c75 : t174 = 0
                                        · rw [if_pos c75] at H
                                          have c75b0 : (t174 == 0) = true := beq_iff_eq.mpr c75
                                          have c75b1 : (t174 != 0) = false := bne_eq_false_iff_eq.mpr c75
                                          clear c75
                                          (first | rw [c75b0] | (simp only [i64_w, i32_w]; rw [c75b0]) | skip)
                                          replace H := Option.bind_eq_some_iff.mp H
                                          obtain ⟨t177, A760, H⟩ := H
                                          replace H : (quirelaw19_ColumnFills.j7 kj42 l0 a1 a3 a4 t163 t164 t165 t167 t168 x23_33 x24_40 (t161 != t177)) = some r := H
                                          have A76 := Aside0.mk A760
                                          clear A760
                                          have H' := Aside0.mk H
                                          clear H
                                          go_wp2_with (first | (go_at_call 19; (with_reducible refine (quireref19_Height.calls kj42 _ _ l0 a1 a2 t177 _ ?side1 ?side2 A76.out).mono ?_); (case side1 => repeat (first | exact (Kd.C_below HR0.out HB.out) | (with_reducible refine Kd.C_alloc ?_ _) | (with_reducible refine Kd.C_drewN ?_ _) | (with_reducible refine Kd.C_drew ?_))); (case side2 => exact HC0.out); rintro e w' ⟨rfl, ⟨nd, rfl⟩⟩; (try first | exact ⟨rfl, _, World.drewN_drewN _ _ _⟩ | exact ⟨rfl, _, Eq.trans (World.drewN_drewN _ _ _) (congrArg (World.drewN _) (Nat.add_assoc _ _ _))⟩)))
                                          repeat (go_quiet (first | (go_at_call 19; (with_reducible refine (quireref19_Height.calls kj42 _ _ l0 a1 a2 t177 _ ?side1 ?side2 A76.out).mono ?_); (case side1 => repeat (first | exact (Kd.C_below HR0.out HB.out) | (with_reducible refine Kd.C_alloc ?_ _) | (with_reducible refine Kd.C_drewN ?_ _) | (with_reducible refine Kd.C_drew ?_))); (case side2 => exact HC0.out); rintro e w' ⟨rfl, ⟨nd, rfl⟩⟩; (try first | exact ⟨rfl, _, World.drewN_drewN _ _ _⟩ | exact ⟨rfl, _, Eq.trans (World.drewN_drewN _ _ _) (congrArg (World.drewN _) (Nat.add_assoc _ _ _))⟩))); try go_wp2_with (first | (go_at_call 19; (with_reducible refine (quireref19_Height.calls kj42 _ _ l0 a1 a2 t177 _ ?side1 ?side2 A76.out).mono ?_); (case side1 => repeat (first | exact (Kd.C_below HR0.out HB.out) | (with_reducible refine Kd.C_alloc ?_ _) | (with_reducible refine Kd.C_drewN ?_ _) | (with_reducible refine Kd.C_drew ?_))); (case side2 => exact HC0.out); rintro e w' ⟨rfl, ⟨nd, rfl⟩⟩; (try first | exact ⟨rfl, _, World.drewN_drewN _ _ _⟩ | exact ⟨rfl, _, Eq.trans (World.drewN_drewN _ _ _) (congrArg (World.drewN _) (Nat.add_assoc _ _ _))⟩))))
                                          go_meet
                                          case rel => exact ⟨_, ((t161 != t177)), (by first | rfl | (simp; done) | (simp [*]; done)), H', ⟨by have := HJ5.out; have := HK2.out; have := HJ27.out; have := HJ33.out; have := HJ35.out; have := HJ40.out; have := HJ42.out; first | omega | exact Nat.le_refl _⟩, ⟨by (with_reducible repeat (first | apply Kd.R_alloc | apply Kd.R_drewN | apply Kd.R_drew)); exact HO_18.out⟩, ⟨by repeat (first | (with_reducible first | exact HB.out | apply below_alloc | apply pw_below_drewN | apply below_drew1) | exact HB.out)⟩⟩
                                        · rw [if_neg c75] at H
                                          have c75b0 : (t174 == 0) = false := beq_eq_false_iff_ne.mpr c75
                                          have c75b1 : (t174 != 0) = true := bne_iff_ne.mpr c75
                                          (first | rw [c75b0] | (simp only [i64_w, i32_w]; rw [c75b0]) | skip)
                                          have H' := Aside0.mk H
                                          clear H
                                          go_wp2
                                          repeat (go_quiet (fail); try go_wp2)
                                          go_meet
                                          case rel => exact ⟨_, (false), (by first | rfl | (simp; done) | (simp [*]; done)), H', ⟨by have := HJ5.out; have := HK2.out; have := HJ27.out; have := HJ33.out; have := HJ35.out; have := HJ40.out; have := HJ42.out; first | omega | exact Nat.le_refl _⟩, ⟨by (with_reducible repeat (first | apply Kd.R_alloc | apply Kd.R_drewN | apply Kd.R_drew)); exact HO_18.out⟩, ⟨by repeat (first | (with_reducible first | exact HB.out | apply below_alloc | apply pw_below_drewN | apply below_drew1) | exact HB.out)⟩⟩
                                      case rest => as_aux_lemma =>
                                        clear HC74
                                        try clear c1
                                        try clear p1
                                        try clear q1
                                        try clear hx1
                                        try clear c2
                                        try clear p2
                                        try clear c3
                                        try clear c4
                                        try clear c5
                                        try clear c6
                                        try clear p6
                                        try clear c7
                                        try clear c7b0
                                        try clear c7b1
                                        try clear c8
                                        try clear c8b0
                                        try clear c8b1
                                        try clear c9
                                        try clear c10
                                        try clear p17
                                        try clear q17
                                        try clear hx17
                                        try clear c21
                                        try clear c21b0
                                        try clear c22
                                        try clear c22b0
                                        try clear c23
                                        try clear c23b0
                                        try clear c24
                                        try clear c24b0
                                        try clear c32
                                        try clear c32b0
                                        try clear c32b1
                                        try clear c33
                                        try clear c33b0
                                        try clear c35
                                        try clear c37
                                        try clear c37b0
                                        try clear c37b1
                                        try clear c38
                                        try clear c38b0
                                        try clear c39
                                        try clear c39b0
                                        try clear c40
                                        try clear c40b0
                                        try clear c42
                                        try clear c44
                                        try clear c44b0
                                        try clear c44b1
                                        try clear c45
                                        try clear c45b0
                                        try clear c45b1
                                        try clear c46
                                        try clear c46b0
                                        try clear c46b1
                                        try clear c47
                                        try clear c47b0
                                        try clear c47b1
                                        try clear c48
                                        try clear c48b0
                                        try clear c48b1
                                        try clear c49
                                        try clear c49b0
                                        try clear c49b1
                                        try clear c50
                                        try clear c50b0
                                        try clear c50b1
                                        try clear c50b2
                                        try clear c53
                                        try clear c53b0
                                        try clear c53b1
                                        try clear c54
                                        try clear c54b0
                                        try clear c54b1
                                        try clear c55
                                        try clear c56
                                        try clear c56b0
                                        try clear c56b1
                                        try clear c57
                                        try clear c57b0
                                        try clear c57b1
                                        try clear c57b2
                                        try clear c60
                                        try clear c60b0
                                        try clear c60b1
                                        try clear c61
                                        try clear c61b0
                                        try clear c61b1
                                        try clear c62
                                        try clear c62b0
                                        try clear c62b1
                                        try clear c63
                                        try clear c63b0
                                        try clear c63b1
                                        try clear c63b2
                                        try clear c66
                                        try clear c66b0
                                        try clear c66b1
                                        try clear c67
                                        try clear c67b0
                                        try clear c67b1
                                        try clear c68
                                        try clear c69
                                        try clear c69b0
                                        try clear c69b1
                                        try clear c70
                                        try clear c70b0
                                        try clear c70b1
                                        try clear c70b2
                                        try clear c73
                                        try clear c75
                                        try clear c75b0
                                        try clear c75b1
                                        try clear hx172_0
                                        try clear hx172_1
                                        try clear hx172_2
                                        try clear hx173_0
                                        try clear hx173_1
                                        try clear hx173_2
                                        try clear p1
                                        try clear p17
                                        try clear p172
                                        try clear p173
                                        try clear p2
                                        try clear p6
                                        try clear q1
                                        try clear q17
                                        try clear q172
                                        try clear q173
                                        obtain ⟨kq, x183_73, rfl, HA, HJ73, HO_18, HB⟩ := hcut
                                        cases kq with
                                        | zero => exact absurd HA.out (by simp [quirelaw19_ColumnFills.j7])
                                        | succ kj73 =>
                                          have H := HA.out
                                          clear HA
                                          simp only [quirelaw19_ColumnFills.j7] at H
                                          by_cases c77 : x183_73 = true
                                          · subst c77
                                            have H1 : (some false) = some r := by rw [if_pos rfl] at H; exact H
                                            clear H
                                            have H := H1
                                            clear H1
                                            obtain rfl := Option.some.inj H
                                            go_wp2
                                            repeat (go_quiet (fail); try go_wp2)
                                            go_ret
                                            exact ⟨by first | rfl | (simp [errW_none, errW_some] <;> rfl) | (simp [*, errW_none, errW_some] <;> rfl), by repeat (first | (with_reducible first | exact HB.out | apply below_alloc | apply pw_below_drewN | apply below_drew1) | exact HB.out)⟩
                                          · replace c77 := Bool.eq_false_iff.mpr c77
                                            subst c77
                                            have H1 : (if x23_33 = 0 then ((quireref19_Fill.f kj73 l0 a1 a3).bind fun bt178 => (if t163 = bt178.1 then (if t164 = bt178.2.1 then (if (t165 != bt178.2.2) = true then (some false) else (quirelaw19_ColumnFills.j8 kj73 l0 a3 a4 t167 t168 x24_40)) else (some false)) else (some false))) else (quirelaw19_ColumnFills.j8 kj73 l0 a3 a4 t167 t168 x24_40)) = some r := by rw [if_neg (show ¬ (false = true) by decide)] at H; exact H
                                            clear H
                                            have H := H1
                                            clear H1
                                            have HC78 := Aside0.mk H
                                            clear H
                                            go_upto_if 185 with (fail)
                                            repeat (go_quiet (fail); go_upto_if 185 with (fail))
                                            go_cut [] (fun wc => ∃ (kq : Nat), Aside0 (quirelaw19_ColumnFills.j8 kq l0 a3 a4 t167 t168 x24_40 = some r) ∧ Aside0 (kq ≤ kj73) ∧ Aside0 (Kd.R (Kd.int .i64) 3 wc w.heap.size (fun _ => True) v170 t167) ∧ Aside0 (Below w.heap.size w wc))
                                            case first => as_aux_lemma =>
                                              have H := HC78.out
                                              clear HC78
                                              by_cases c79 : x23_33 = 0
                                              · rw [if_pos c79] at H
                                                have c79b0 : (x23_33 == 0) = true := beq_iff_eq.mpr c79
                                                have c79b1 : (x23_33 != 0) = false := bne_eq_false_iff_eq.mpr c79
                                                clear c79
                                                (first | rw [c79b0] | (simp only [i64_w, i32_w]; rw [c79b0]) | skip)
                                                replace H := Option.bind_eq_some_iff.mp H
                                                obtain ⟨⟨t178, t179, t180⟩, A800, H⟩ := H
                                                replace H : (if t163 = t178 then (if t164 = t179 then (if (t165 != t180) = true then (some false) else (quirelaw19_ColumnFills.j8 kj73 l0 a3 a4 t167 t168 x24_40)) else (some false)) else (some false)) = some r := H
                                                have A80 := Aside0.mk A800
                                                clear A800
                                                by_cases c81 : t163 = t178
                                                · rw [if_pos c81] at H
                                                  have c81b0 : (t163 == t178) = true := beq_iff_eq.mpr c81
                                                  have c81b1 : (t163 != t178) = false := bne_eq_false_iff_eq.mpr c81
                                                  clear c81
                                                  by_cases c82 : t164 = t179
                                                  · rw [if_pos c82] at H
                                                    have c82b0 : (t164 == t179) = true := beq_iff_eq.mpr c82
                                                    have c82b1 : (t164 != t179) = false := bne_eq_false_iff_eq.mpr c82
                                                    clear c82
                                                    by_cases c83 : (t165 != t180) = true
                                                    · rw [if_pos c83] at H
                                                      have c83b0 : (t165 != t180) = true := c83
                                                      (try (have c83b1 : decide (t165 = t180) = false := by simpa using c83))
                                                      (try (have c83b2 : (t165 == t180) = false := by simpa using c83))
                                                      (try (have c83b3 : ¬ (t165 = t180) := by simpa using c83))
                                                      clear c83
                                                      obtain rfl := Option.some.inj H
                                                      go_wp2_with (first | (go_at_call 20; (with_reducible refine (quireref19_Fill.calls kj73 _ _ l0 a1 a3 t178 t179 t180 _ ?side1 ?side2 A80.out).mono ?_); (case side1 => repeat (first | exact (Kd.C_below HR0.out HB.out) | (with_reducible refine Kd.C_alloc ?_ _) | (with_reducible refine Kd.C_drewN ?_ _) | (with_reducible refine Kd.C_drew ?_))); (case side2 => exact HC0.out); rintro e w' ⟨rfl, ⟨nd, rfl⟩⟩; (try first | exact ⟨rfl, _, World.drewN_drewN _ _ _⟩ | exact ⟨rfl, _, Eq.trans (World.drewN_drewN _ _ _) (congrArg (World.drewN _) (Nat.add_assoc _ _ _))⟩)))
                                                      repeat (go_quiet (first | (go_at_call 20; (with_reducible refine (quireref19_Fill.calls kj73 _ _ l0 a1 a3 t178 t179 t180 _ ?side1 ?side2 A80.out).mono ?_); (case side1 => repeat (first | exact (Kd.C_below HR0.out HB.out) | (with_reducible refine Kd.C_alloc ?_ _) | (with_reducible refine Kd.C_drewN ?_ _) | (with_reducible refine Kd.C_drew ?_))); (case side2 => exact HC0.out); rintro e w' ⟨rfl, ⟨nd, rfl⟩⟩; (try first | exact ⟨rfl, _, World.drewN_drewN _ _ _⟩ | exact ⟨rfl, _, Eq.trans (World.drewN_drewN _ _ _) (congrArg (World.drewN _) (Nat.add_assoc _ _ _))⟩))); try go_wp2_with (first | (go_at_call 20; (with_reducible refine (quireref19_Fill.calls kj73 _ _ l0 a1 a3 t178 t179 t180 _ ?side1 ?side2 A80.out).mono ?_); (case side1 => repeat (first | exact (Kd.C_below HR0.out HB.out) | (with_reducible refine Kd.C_alloc ?_ _) | (with_reducible refine Kd.C_drewN ?_ _) | (with_reducible refine Kd.C_drew ?_))); (case side2 => exact HC0.out); rintro e w' ⟨rfl, ⟨nd, rfl⟩⟩; (try first | exact ⟨rfl, _, World.drewN_drewN _ _ _⟩ | exact ⟨rfl, _, Eq.trans (World.drewN_drewN _ _ _) (congrArg (World.drewN _) (Nat.add_assoc _ _ _))⟩))))
                                                      go_ret
                                                      exact ⟨by first | rfl | (simp [errW_none, errW_some] <;> rfl) | (simp [*, errW_none, errW_some] <;> rfl), by repeat (first | (with_reducible first | exact HB.out | apply below_alloc | apply pw_below_drewN | apply below_drew1) | exact HB.out)⟩
                                                    · rw [if_neg c83] at H
                                                      have c83b0 : (t165 != t180) = false := by simpa using c83
                                                      (try (have c83b1 : decide (t165 = t180) = true := by simpa using c83))
                                                      (try (have c83b2 : (t165 == t180) = true := by simpa using c83))
                                                      clear c83
                                                      have H' := Aside0.mk H
                                                      clear H
                                                      go_wp2_with (first | (go_at_call 20; (with_reducible refine (quireref19_Fill.calls kj73 _ _ l0 a1 a3 t178 t179 t180 _ ?side1 ?side2 A80.out).mono ?_); (case side1 => repeat (first | exact (Kd.C_below HR0.out HB.out) | (with_reducible refine Kd.C_alloc ?_ _) | (with_reducible refine Kd.C_drewN ?_ _) | (with_reducible refine Kd.C_drew ?_))); (case side2 => exact HC0.out); rintro e w' ⟨rfl, ⟨nd, rfl⟩⟩; (try first | exact ⟨rfl, _, World.drewN_drewN _ _ _⟩ | exact ⟨rfl, _, Eq.trans (World.drewN_drewN _ _ _) (congrArg (World.drewN _) (Nat.add_assoc _ _ _))⟩)))
                                                      repeat (go_quiet (first | (go_at_call 20; (with_reducible refine (quireref19_Fill.calls kj73 _ _ l0 a1 a3 t178 t179 t180 _ ?side1 ?side2 A80.out).mono ?_); (case side1 => repeat (first | exact (Kd.C_below HR0.out HB.out) | (with_reducible refine Kd.C_alloc ?_ _) | (with_reducible refine Kd.C_drewN ?_ _) | (with_reducible refine Kd.C_drew ?_))); (case side2 => exact HC0.out); rintro e w' ⟨rfl, ⟨nd, rfl⟩⟩; (try first | exact ⟨rfl, _, World.drewN_drewN _ _ _⟩ | exact ⟨rfl, _, Eq.trans (World.drewN_drewN _ _ _) (congrArg (World.drewN _) (Nat.add_assoc _ _ _))⟩))); try go_wp2_with (first | (go_at_call 20; (with_reducible refine (quireref19_Fill.calls kj73 _ _ l0 a1 a3 t178 t179 t180 _ ?side1 ?side2 A80.out).mono ?_); (case side1 => repeat (first | exact (Kd.C_below HR0.out HB.out) | (with_reducible refine Kd.C_alloc ?_ _) | (with_reducible refine Kd.C_drewN ?_ _) | (with_reducible refine Kd.C_drew ?_))); (case side2 => exact HC0.out); rintro e w' ⟨rfl, ⟨nd, rfl⟩⟩; (try first | exact ⟨rfl, _, World.drewN_drewN _ _ _⟩ | exact ⟨rfl, _, Eq.trans (World.drewN_drewN _ _ _) (congrArg (World.drewN _) (Nat.add_assoc _ _ _))⟩))))
                                                      go_meet
                                                      case rel => exact ⟨_, H', ⟨by have := HJ5.out; have := HK2.out; have := HJ27.out; have := HJ33.out; have := HJ35.out; have := HJ40.out; have := HJ42.out; have := HJ73.out; first | omega | exact Nat.le_refl _⟩, ⟨by (with_reducible repeat (first | apply Kd.R_alloc | apply Kd.R_drewN | apply Kd.R_drew)); exact HO_18.out⟩, ⟨by repeat (first | (with_reducible first | exact HB.out | apply below_alloc | apply pw_below_drewN | apply below_drew1) | exact HB.out)⟩⟩
                                                  · rw [if_neg c82] at H
                                                    have c82b0 : (t164 == t179) = false := beq_eq_false_iff_ne.mpr c82
                                                    have c82b1 : (t164 != t179) = true := bne_iff_ne.mpr c82
                                                    obtain rfl := Option.some.inj H
                                                    go_wp2_with (first | (go_at_call 20; (with_reducible refine (quireref19_Fill.calls kj73 _ _ l0 a1 a3 t178 t179 t180 _ ?side1 ?side2 A80.out).mono ?_); (case side1 => repeat (first | exact (Kd.C_below HR0.out HB.out) | (with_reducible refine Kd.C_alloc ?_ _) | (with_reducible refine Kd.C_drewN ?_ _) | (with_reducible refine Kd.C_drew ?_))); (case side2 => exact HC0.out); rintro e w' ⟨rfl, ⟨nd, rfl⟩⟩; (try first | exact ⟨rfl, _, World.drewN_drewN _ _ _⟩ | exact ⟨rfl, _, Eq.trans (World.drewN_drewN _ _ _) (congrArg (World.drewN _) (Nat.add_assoc _ _ _))⟩)))
                                                    repeat (go_quiet (first | (go_at_call 20; (with_reducible refine (quireref19_Fill.calls kj73 _ _ l0 a1 a3 t178 t179 t180 _ ?side1 ?side2 A80.out).mono ?_); (case side1 => repeat (first | exact (Kd.C_below HR0.out HB.out) | (with_reducible refine Kd.C_alloc ?_ _) | (with_reducible refine Kd.C_drewN ?_ _) | (with_reducible refine Kd.C_drew ?_))); (case side2 => exact HC0.out); rintro e w' ⟨rfl, ⟨nd, rfl⟩⟩; (try first | exact ⟨rfl, _, World.drewN_drewN _ _ _⟩ | exact ⟨rfl, _, Eq.trans (World.drewN_drewN _ _ _) (congrArg (World.drewN _) (Nat.add_assoc _ _ _))⟩))); try go_wp2_with (first | (go_at_call 20; (with_reducible refine (quireref19_Fill.calls kj73 _ _ l0 a1 a3 t178 t179 t180 _ ?side1 ?side2 A80.out).mono ?_); (case side1 => repeat (first | exact (Kd.C_below HR0.out HB.out) | (with_reducible refine Kd.C_alloc ?_ _) | (with_reducible refine Kd.C_drewN ?_ _) | (with_reducible refine Kd.C_drew ?_))); (case side2 => exact HC0.out); rintro e w' ⟨rfl, ⟨nd, rfl⟩⟩; (try first | exact ⟨rfl, _, World.drewN_drewN _ _ _⟩ | exact ⟨rfl, _, Eq.trans (World.drewN_drewN _ _ _) (congrArg (World.drewN _) (Nat.add_assoc _ _ _))⟩))))
                                                    go_ret
                                                    exact ⟨by first | rfl | (simp [errW_none, errW_some] <;> rfl) | (simp [*, errW_none, errW_some] <;> rfl), by repeat (first | (with_reducible first | exact HB.out | apply below_alloc | apply pw_below_drewN | apply below_drew1) | exact HB.out)⟩
                                                · rw [if_neg c81] at H
                                                  have c81b0 : (t163 == t178) = false := beq_eq_false_iff_ne.mpr c81
                                                  have c81b1 : (t163 != t178) = true := bne_iff_ne.mpr c81
                                                  obtain rfl := Option.some.inj H
                                                  go_wp2_with (first | (go_at_call 20; (with_reducible refine (quireref19_Fill.calls kj73 _ _ l0 a1 a3 t178 t179 t180 _ ?side1 ?side2 A80.out).mono ?_); (case side1 => repeat (first | exact (Kd.C_below HR0.out HB.out) | (with_reducible refine Kd.C_alloc ?_ _) | (with_reducible refine Kd.C_drewN ?_ _) | (with_reducible refine Kd.C_drew ?_))); (case side2 => exact HC0.out); rintro e w' ⟨rfl, ⟨nd, rfl⟩⟩; (try first | exact ⟨rfl, _, World.drewN_drewN _ _ _⟩ | exact ⟨rfl, _, Eq.trans (World.drewN_drewN _ _ _) (congrArg (World.drewN _) (Nat.add_assoc _ _ _))⟩)))
                                                  repeat (go_quiet (first | (go_at_call 20; (with_reducible refine (quireref19_Fill.calls kj73 _ _ l0 a1 a3 t178 t179 t180 _ ?side1 ?side2 A80.out).mono ?_); (case side1 => repeat (first | exact (Kd.C_below HR0.out HB.out) | (with_reducible refine Kd.C_alloc ?_ _) | (with_reducible refine Kd.C_drewN ?_ _) | (with_reducible refine Kd.C_drew ?_))); (case side2 => exact HC0.out); rintro e w' ⟨rfl, ⟨nd, rfl⟩⟩; (try first | exact ⟨rfl, _, World.drewN_drewN _ _ _⟩ | exact ⟨rfl, _, Eq.trans (World.drewN_drewN _ _ _) (congrArg (World.drewN _) (Nat.add_assoc _ _ _))⟩))); try go_wp2_with (first | (go_at_call 20; (with_reducible refine (quireref19_Fill.calls kj73 _ _ l0 a1 a3 t178 t179 t180 _ ?side1 ?side2 A80.out).mono ?_); (case side1 => repeat (first | exact (Kd.C_below HR0.out HB.out) | (with_reducible refine Kd.C_alloc ?_ _) | (with_reducible refine Kd.C_drewN ?_ _) | (with_reducible refine Kd.C_drew ?_))); (case side2 => exact HC0.out); rintro e w' ⟨rfl, ⟨nd, rfl⟩⟩; (try first | exact ⟨rfl, _, World.drewN_drewN _ _ _⟩ | exact ⟨rfl, _, Eq.trans (World.drewN_drewN _ _ _) (congrArg (World.drewN _) (Nat.add_assoc _ _ _))⟩))))
                                                  go_ret
                                                  exact ⟨by first | rfl | (simp [errW_none, errW_some] <;> rfl) | (simp [*, errW_none, errW_some] <;> rfl), by repeat (first | (with_reducible first | exact HB.out | apply below_alloc | apply pw_below_drewN | apply below_drew1) | exact HB.out)⟩
                                              · rw [if_neg c79] at H
                                                have c79b0 : (x23_33 == 0) = false := beq_eq_false_iff_ne.mpr c79
                                                have c79b1 : (x23_33 != 0) = true := bne_iff_ne.mpr c79
                                                (first | rw [c79b0] | (simp only [i64_w, i32_w]; rw [c79b0]) | skip)
                                                have H' := Aside0.mk H
                                                clear H
                                                go_wp2
                                                repeat (go_quiet (fail); try go_wp2)
                                                go_meet
                                                case rel => exact ⟨_, H', ⟨by have := HJ5.out; have := HK2.out; have := HJ27.out; have := HJ33.out; have := HJ35.out; have := HJ40.out; have := HJ42.out; have := HJ73.out; first | omega | exact Nat.le_refl _⟩, ⟨by (with_reducible repeat (first | apply Kd.R_alloc | apply Kd.R_drewN | apply Kd.R_drew)); exact HO_18.out⟩, ⟨by repeat (first | (with_reducible first | exact HB.out | apply below_alloc | apply pw_below_drewN | apply below_drew1) | exact HB.out)⟩⟩
                                            case rest => as_aux_lemma =>
                                              clear HC78
                                              try clear c1
                                              try clear p1
                                              try clear q1
                                              try clear hx1
                                              try clear c2
                                              try clear p2
                                              try clear c3
                                              try clear c4
                                              try clear c5
                                              try clear c6
                                              try clear p6
                                              try clear c7
                                              try clear c7b0
                                              try clear c7b1
                                              try clear c8
                                              try clear c8b0
                                              try clear c8b1
                                              try clear c9
                                              try clear c10
                                              try clear p17
                                              try clear q17
                                              try clear hx17
                                              try clear c21
                                              try clear c21b0
                                              try clear c22
                                              try clear c22b0
                                              try clear c23
                                              try clear c23b0
                                              try clear c24
                                              try clear c24b0
                                              try clear c32
                                              try clear c32b0
                                              try clear c32b1
                                              try clear c33
                                              try clear c33b0
                                              try clear c35
                                              try clear c37
                                              try clear c37b0
                                              try clear c37b1
                                              try clear c38
                                              try clear c38b0
                                              try clear c39
                                              try clear c39b0
                                              try clear c40
                                              try clear c40b0
                                              try clear c42
                                              try clear c44
                                              try clear c44b0
                                              try clear c44b1
                                              try clear c45
                                              try clear c45b0
                                              try clear c45b1
                                              try clear c46
                                              try clear c46b0
                                              try clear c46b1
                                              try clear c47
                                              try clear c47b0
                                              try clear c47b1
                                              try clear c48
                                              try clear c48b0
                                              try clear c48b1
                                              try clear c49
                                              try clear c49b0
                                              try clear c49b1
                                              try clear c50
                                              try clear c50b0
                                              try clear c50b1
                                              try clear c50b2
                                              try clear c53
                                              try clear c53b0
                                              try clear c53b1
                                              try clear c54
                                              try clear c54b0
                                              try clear c54b1
                                              try clear c55
                                              try clear c56
                                              try clear c56b0
                                              try clear c56b1
                                              try clear c57
                                              try clear c57b0
                                              try clear c57b1
                                              try clear c57b2
                                              try clear c60
                                              try clear c60b0
                                              try clear c60b1
                                              try clear c61
                                              try clear c61b0
                                              try clear c61b1
                                              try clear c62
                                              try clear c62b0
                                              try clear c62b1
                                              try clear c63
                                              try clear c63b0
                                              try clear c63b1
                                              try clear c63b2
                                              try clear c66
                                              try clear c66b0
                                              try clear c66b1
                                              try clear c67
                                              try clear c67b0
                                              try clear c67b1
                                              try clear c68
                                              try clear c69
                                              try clear c69b0
                                              try clear c69b1
                                              try clear c70
                                              try clear c70b0
                                              try clear c70b1
                                              try clear c70b2
                                              try clear c73
                                              try clear c75
                                              try clear c75b0
                                              try clear c75b1
                                              try clear c77
                                              try clear c79
                                              try clear c79b0
                                              try clear c79b1
                                              try clear c81
                                              try clear c81b0
                                              try clear c81b1
                                              try clear c82
                                              try clear c82b0
                                              try clear c82b1
                                              try clear c83
                                              try clear c83b0
                                              try clear c83b1
                                              try clear c83b2
                                              try clear hx172_0
                                              try clear hx172_1
                                              try clear hx172_2
                                              try clear hx173_0
                                              try clear hx173_1
                                              try clear hx173_2
                                              try clear p1
                                              try clear p17
                                              try clear p172
                                              try clear p173
                                              try clear p2
                                              try clear p6
                                              try clear q1
                                              try clear q17
                                              try clear q172
                                              try clear q173
                                              obtain ⟨kq, HA, HJ77, HO_18, HB⟩ := hcut
                                              cases kq with
                                              | zero => exact absurd HA.out (by simp [quirelaw19_ColumnFills.j8])
                                              | succ kj77 =>
                                                have H := HA.out
                                                clear HA
                                                simp only [quirelaw19_ColumnFills.j8] at H
                                                by_cases c84 : x24_40 = 0
                                                · rw [if_pos c84] at H
                                                  have c84b0 : (x24_40 == 0) = true := beq_iff_eq.mpr c84
                                                  have c84b1 : (x24_40 != 0) = false := bne_eq_false_iff_eq.mpr c84
                                                  clear c84
                                                  replace H := Option.bind_eq_some_iff.mp H
                                                  obtain ⟨⟨t181, t182⟩, A850, H⟩ := H
                                                  replace H : ((quirekit_SameInts.f kj77 t167 t181).bind fun t185 => (if t185 = true then (some (t168 == t182)) else (some false))) = some r := H
                                                  have A85 := Aside0.mk A850
                                                  clear A850
                                                  replace H := Option.bind_eq_some_iff.mp H
                                                  obtain ⟨t185, A860, H⟩ := H
                                                  replace H : (if t185 = true then (some (t168 == t182)) else (some false)) = some r := H
                                                  have A86 := Aside0.mk A860
                                                  clear A860
                                                  by_cases c87 : t185 = true
                                                  · subst c87
                                                    have H1 : (some (t168 == t182)) = some r := by rw [if_pos rfl] at H; exact H
                                                    clear H
                                                    have H := H1
                                                    clear H1
                                                    obtain rfl := Option.some.inj H
                                                    go_wp2_with (first | (go_at_call 21; (with_reducible refine (quireref19_Columns.calls kj77 _ _ l0 a3 a4 t181 t182 _ ?side1 ?side2 A85.out).mono ?_); (case side1 => repeat (first | exact (Kd.C_below HR0.out HB.out) | (with_reducible refine Kd.C_alloc ?_ _) | (with_reducible refine Kd.C_drewN ?_ _) | (with_reducible refine Kd.C_drew ?_))); (case side2 => exact HC0.out); rintro e w88 ⟨v183, rfl, ho0, hb⟩; have n0_ := Aside0.mk (Kd.R_elder' (by (with_reducible repeat (first | apply Kd.R_alloc | apply Kd.R_drewN | apply Kd.R_drew)); exact HO_18.out) (Kd.R_base ho0) hb); have n1_ := Aside0.mk (Kd.R_lower (Kd.R_new' ho0 (Kd.R_lt (by (with_reducible repeat (first | apply Kd.R_alloc | apply Kd.R_drewN | apply Kd.R_drew)); exact HO_18.out))) (below_size (by repeat (first | (with_reducible first | exact HB.out | apply below_alloc | apply pw_below_drewN | apply below_drew1) | exact HB.out)))); have n2_ := Aside0.mk (below_step (by repeat (first | (with_reducible first | exact HB.out | apply below_alloc | apply pw_below_drewN | apply below_drew1) | exact HB.out)) hb); clear HO_18; clear HB; have HO_18 := n0_; have HO184 := n1_; have HB := n2_; clear n0_ n1_ n2_; (try clear hb); (try clear hb2); (try clear hk); (try clear hi); (try clear ho0); obtain ⟨Ao89, co89, eo89⟩ := Kd.R_slice HO_18.out; subst eo89; obtain ⟨Ao90, co90, eo90⟩ := Kd.R_slice HO184.out; subst eo90) | (go_at_call 22; (with_reducible refine (quirekit_SameInts.calls kj77 _ _ t167 _ _ t181 true _ ?side1 ?side2 ?side3 ?side4 A86.out).mono ?_); (case side1 => repeat (first | exact (Kd.R_reads' HO_18.out).2.2 | (with_reducible refine Kd.C_alloc ?_ _) | (with_reducible refine Kd.C_drewN ?_ _) | (with_reducible refine Kd.C_drew ?_))); (case side2 => exact (Kd.R_reads' HO_18.out).2.1); (case side3 => repeat (first | exact (Kd.R_reads' HO184.out).2.2 | (with_reducible refine Kd.C_alloc ?_ _) | (with_reducible refine Kd.C_drewN ?_ _) | (with_reducible refine Kd.C_drew ?_))); (case side4 => exact (Kd.R_reads' HO184.out).2.1); rintro e w' ⟨rfl, ⟨nd, rfl⟩⟩; (try first | exact ⟨rfl, _, World.drewN_drewN _ _ _⟩ | exact ⟨rfl, _, Eq.trans (World.drewN_drewN _ _ _) (congrArg (World.drewN _) (Nat.add_assoc _ _ _))⟩)))
                                                    repeat (go_quiet (first | (go_at_call 21; (with_reducible refine (quireref19_Columns.calls kj77 _ _ l0 a3 a4 t181 t182 _ ?side1 ?side2 A85.out).mono ?_); (case side1 => repeat (first | exact (Kd.C_below HR0.out HB.out) | (with_reducible refine Kd.C_alloc ?_ _) | (with_reducible refine Kd.C_drewN ?_ _) | (with_reducible refine Kd.C_drew ?_))); (case side2 => exact HC0.out); rintro e w88 ⟨v183, rfl, ho0, hb⟩; have n0_ := Aside0.mk (Kd.R_elder' (by (with_reducible repeat (first | apply Kd.R_alloc | apply Kd.R_drewN | apply Kd.R_drew)); exact HO_18.out) (Kd.R_base ho0) hb); have n1_ := Aside0.mk (Kd.R_lower (Kd.R_new' ho0 (Kd.R_lt (by (with_reducible repeat (first | apply Kd.R_alloc | apply Kd.R_drewN | apply Kd.R_drew)); exact HO_18.out))) (below_size (by repeat (first | (with_reducible first | exact HB.out | apply below_alloc | apply pw_below_drewN | apply below_drew1) | exact HB.out)))); have n2_ := Aside0.mk (below_step (by repeat (first | (with_reducible first | exact HB.out | apply below_alloc | apply pw_below_drewN | apply below_drew1) | exact HB.out)) hb); clear HO_18; clear HB; have HO_18 := n0_; have HO184 := n1_; have HB := n2_; clear n0_ n1_ n2_; (try clear hb); (try clear hb2); (try clear hk); (try clear hi); (try clear ho0); obtain ⟨Ao89, co89, eo89⟩ := Kd.R_slice HO_18.out; subst eo89; obtain ⟨Ao90, co90, eo90⟩ := Kd.R_slice HO184.out; subst eo90) | (go_at_call 22; (with_reducible refine (quirekit_SameInts.calls kj77 _ _ t167 _ _ t181 true _ ?side1 ?side2 ?side3 ?side4 A86.out).mono ?_); (case side1 => repeat (first | exact (Kd.R_reads' HO_18.out).2.2 | (with_reducible refine Kd.C_alloc ?_ _) | (with_reducible refine Kd.C_drewN ?_ _) | (with_reducible refine Kd.C_drew ?_))); (case side2 => exact (Kd.R_reads' HO_18.out).2.1); (case side3 => repeat (first | exact (Kd.R_reads' HO184.out).2.2 | (with_reducible refine Kd.C_alloc ?_ _) | (with_reducible refine Kd.C_drewN ?_ _) | (with_reducible refine Kd.C_drew ?_))); (case side4 => exact (Kd.R_reads' HO184.out).2.1); rintro e w' ⟨rfl, ⟨nd, rfl⟩⟩; (try first | exact ⟨rfl, _, World.drewN_drewN _ _ _⟩ | exact ⟨rfl, _, Eq.trans (World.drewN_drewN _ _ _) (congrArg (World.drewN _) (Nat.add_assoc _ _ _))⟩))); try go_wp2_with (first | (go_at_call 21; (with_reducible refine (quireref19_Columns.calls kj77 _ _ l0 a3 a4 t181 t182 _ ?side1 ?side2 A85.out).mono ?_); (case side1 => repeat (first | exact (Kd.C_below HR0.out HB.out) | (with_reducible refine Kd.C_alloc ?_ _) | (with_reducible refine Kd.C_drewN ?_ _) | (with_reducible refine Kd.C_drew ?_))); (case side2 => exact HC0.out); rintro e w88 ⟨v183, rfl, ho0, hb⟩; have n0_ := Aside0.mk (Kd.R_elder' (by (with_reducible repeat (first | apply Kd.R_alloc | apply Kd.R_drewN | apply Kd.R_drew)); exact HO_18.out) (Kd.R_base ho0) hb); have n1_ := Aside0.mk (Kd.R_lower (Kd.R_new' ho0 (Kd.R_lt (by (with_reducible repeat (first | apply Kd.R_alloc | apply Kd.R_drewN | apply Kd.R_drew)); exact HO_18.out))) (below_size (by repeat (first | (with_reducible first | exact HB.out | apply below_alloc | apply pw_below_drewN | apply below_drew1) | exact HB.out)))); have n2_ := Aside0.mk (below_step (by repeat (first | (with_reducible first | exact HB.out | apply below_alloc | apply pw_below_drewN | apply below_drew1) | exact HB.out)) hb); clear HO_18; clear HB; have HO_18 := n0_; have HO184 := n1_; have HB := n2_; clear n0_ n1_ n2_; (try clear hb); (try clear hb2); (try clear hk); (try clear hi); (try clear ho0); obtain ⟨Ao89, co89, eo89⟩ := Kd.R_slice HO_18.out; subst eo89; obtain ⟨Ao90, co90, eo90⟩ := Kd.R_slice HO184.out; subst eo90) | (go_at_call 22; (with_reducible refine (quirekit_SameInts.calls kj77 _ _ t167 _ _ t181 true _ ?side1 ?side2 ?side3 ?side4 A86.out).mono ?_); (case side1 => repeat (first | exact (Kd.R_reads' HO_18.out).2.2 | (with_reducible refine Kd.C_alloc ?_ _) | (with_reducible refine Kd.C_drewN ?_ _) | (with_reducible refine Kd.C_drew ?_))); (case side2 => exact (Kd.R_reads' HO_18.out).2.1); (case side3 => repeat (first | exact (Kd.R_reads' HO184.out).2.2 | (with_reducible refine Kd.C_alloc ?_ _) | (with_reducible refine Kd.C_drewN ?_ _) | (with_reducible refine Kd.C_drew ?_))); (case side4 => exact (Kd.R_reads' HO184.out).2.1); rintro e w' ⟨rfl, ⟨nd, rfl⟩⟩; (try first | exact ⟨rfl, _, World.drewN_drewN _ _ _⟩ | exact ⟨rfl, _, Eq.trans (World.drewN_drewN _ _ _) (congrArg (World.drewN _) (Nat.add_assoc _ _ _))⟩))))
                                                    go_ret
                                                    exact ⟨by first | rfl | (simp [errW_none, errW_some] <;> rfl) | (simp [*, errW_none, errW_some] <;> rfl), by repeat (first | (with_reducible first | exact HB.out | apply below_alloc | apply pw_below_drewN | apply below_drew1) | exact HB.out)⟩
                                                  · replace c87 := Bool.eq_false_iff.mpr c87
                                                    subst c87
                                                    have H1 : (some false) = some r := by rw [if_neg (show ¬ (false = true) by decide)] at H; exact H
                                                    clear H
                                                    have H := H1
                                                    clear H1
                                                    obtain rfl := Option.some.inj H
                                                    go_wp2_with (first | (go_at_call 21; (with_reducible refine (quireref19_Columns.calls kj77 _ _ l0 a3 a4 t181 t182 _ ?side1 ?side2 A85.out).mono ?_); (case side1 => repeat (first | exact (Kd.C_below HR0.out HB.out) | (with_reducible refine Kd.C_alloc ?_ _) | (with_reducible refine Kd.C_drewN ?_ _) | (with_reducible refine Kd.C_drew ?_))); (case side2 => exact HC0.out); rintro e w91 ⟨v183, rfl, ho0, hb⟩; have n0_ := Aside0.mk (Kd.R_elder' (by (with_reducible repeat (first | apply Kd.R_alloc | apply Kd.R_drewN | apply Kd.R_drew)); exact HO_18.out) (Kd.R_base ho0) hb); have n1_ := Aside0.mk (Kd.R_lower (Kd.R_new' ho0 (Kd.R_lt (by (with_reducible repeat (first | apply Kd.R_alloc | apply Kd.R_drewN | apply Kd.R_drew)); exact HO_18.out))) (below_size (by repeat (first | (with_reducible first | exact HB.out | apply below_alloc | apply pw_below_drewN | apply below_drew1) | exact HB.out)))); have n2_ := Aside0.mk (below_step (by repeat (first | (with_reducible first | exact HB.out | apply below_alloc | apply pw_below_drewN | apply below_drew1) | exact HB.out)) hb); clear HO_18; clear HB; have HO_18 := n0_; have HO184 := n1_; have HB := n2_; clear n0_ n1_ n2_; (try clear hb); (try clear hb2); (try clear hk); (try clear hi); (try clear ho0); obtain ⟨Ao92, co92, eo92⟩ := Kd.R_slice HO_18.out; subst eo92; obtain ⟨Ao93, co93, eo93⟩ := Kd.R_slice HO184.out; subst eo93) | (go_at_call 22; (with_reducible refine (quirekit_SameInts.calls kj77 _ _ t167 _ _ t181 false _ ?side1 ?side2 ?side3 ?side4 A86.out).mono ?_); (case side1 => repeat (first | exact (Kd.R_reads' HO_18.out).2.2 | (with_reducible refine Kd.C_alloc ?_ _) | (with_reducible refine Kd.C_drewN ?_ _) | (with_reducible refine Kd.C_drew ?_))); (case side2 => exact (Kd.R_reads' HO_18.out).2.1); (case side3 => repeat (first | exact (Kd.R_reads' HO184.out).2.2 | (with_reducible refine Kd.C_alloc ?_ _) | (with_reducible refine Kd.C_drewN ?_ _) | (with_reducible refine Kd.C_drew ?_))); (case side4 => exact (Kd.R_reads' HO184.out).2.1); rintro e w' ⟨rfl, ⟨nd, rfl⟩⟩; (try first | exact ⟨rfl, _, World.drewN_drewN _ _ _⟩ | exact ⟨rfl, _, Eq.trans (World.drewN_drewN _ _ _) (congrArg (World.drewN _) (Nat.add_assoc _ _ _))⟩)))
                                                    repeat (go_quiet (first | (go_at_call 21; (with_reducible refine (quireref19_Columns.calls kj77 _ _ l0 a3 a4 t181 t182 _ ?side1 ?side2 A85.out).mono ?_); (case side1 => repeat (first | exact (Kd.C_below HR0.out HB.out) | (with_reducible refine Kd.C_alloc ?_ _) | (with_reducible refine Kd.C_drewN ?_ _) | (with_reducible refine Kd.C_drew ?_))); (case side2 => exact HC0.out); rintro e w91 ⟨v183, rfl, ho0, hb⟩; have n0_ := Aside0.mk (Kd.R_elder' (by (with_reducible repeat (first | apply Kd.R_alloc | apply Kd.R_drewN | apply Kd.R_drew)); exact HO_18.out) (Kd.R_base ho0) hb); have n1_ := Aside0.mk (Kd.R_lower (Kd.R_new' ho0 (Kd.R_lt (by (with_reducible repeat (first | apply Kd.R_alloc | apply Kd.R_drewN | apply Kd.R_drew)); exact HO_18.out))) (below_size (by repeat (first | (with_reducible first | exact HB.out | apply below_alloc | apply pw_below_drewN | apply below_drew1) | exact HB.out)))); have n2_ := Aside0.mk (below_step (by repeat (first | (with_reducible first | exact HB.out | apply below_alloc | apply pw_below_drewN | apply below_drew1) | exact HB.out)) hb); clear HO_18; clear HB; have HO_18 := n0_; have HO184 := n1_; have HB := n2_; clear n0_ n1_ n2_; (try clear hb); (try clear hb2); (try clear hk); (try clear hi); (try clear ho0); obtain ⟨Ao92, co92, eo92⟩ := Kd.R_slice HO_18.out; subst eo92; obtain ⟨Ao93, co93, eo93⟩ := Kd.R_slice HO184.out; subst eo93) | (go_at_call 22; (with_reducible refine (quirekit_SameInts.calls kj77 _ _ t167 _ _ t181 false _ ?side1 ?side2 ?side3 ?side4 A86.out).mono ?_); (case side1 => repeat (first | exact (Kd.R_reads' HO_18.out).2.2 | (with_reducible refine Kd.C_alloc ?_ _) | (with_reducible refine Kd.C_drewN ?_ _) | (with_reducible refine Kd.C_drew ?_))); (case side2 => exact (Kd.R_reads' HO_18.out).2.1); (case side3 => repeat (first | exact (Kd.R_reads' HO184.out).2.2 | (with_reducible refine Kd.C_alloc ?_ _) | (with_reducible refine Kd.C_drewN ?_ _) | (with_reducible refine Kd.C_drew ?_))); (case side4 => exact (Kd.R_reads' HO184.out).2.1); rintro e w' ⟨rfl, ⟨nd, rfl⟩⟩; (try first | exact ⟨rfl, _, World.drewN_drewN _ _ _⟩ | exact ⟨rfl, _, Eq.trans (World.drewN_drewN _ _ _) (congrArg (World.drewN _) (Nat.add_assoc _ _ _))⟩))); try go_wp2_with (first | (go_at_call 21; (with_reducible refine (quireref19_Columns.calls kj77 _ _ l0 a3 a4 t181 t182 _ ?side1 ?side2 A85.out).mono ?_); (case side1 => repeat (first | exact (Kd.C_below HR0.out HB.out) | (with_reducible refine Kd.C_alloc ?_ _) | (with_reducible refine Kd.C_drewN ?_ _) | (with_reducible refine Kd.C_drew ?_))); (case side2 => exact HC0.out); rintro e w91 ⟨v183, rfl, ho0, hb⟩; have n0_ := Aside0.mk (Kd.R_elder' (by (with_reducible repeat (first | apply Kd.R_alloc | apply Kd.R_drewN | apply Kd.R_drew)); exact HO_18.out) (Kd.R_base ho0) hb); have n1_ := Aside0.mk (Kd.R_lower (Kd.R_new' ho0 (Kd.R_lt (by (with_reducible repeat (first | apply Kd.R_alloc | apply Kd.R_drewN | apply Kd.R_drew)); exact HO_18.out))) (below_size (by repeat (first | (with_reducible first | exact HB.out | apply below_alloc | apply pw_below_drewN | apply below_drew1) | exact HB.out)))); have n2_ := Aside0.mk (below_step (by repeat (first | (with_reducible first | exact HB.out | apply below_alloc | apply pw_below_drewN | apply below_drew1) | exact HB.out)) hb); clear HO_18; clear HB; have HO_18 := n0_; have HO184 := n1_; have HB := n2_; clear n0_ n1_ n2_; (try clear hb); (try clear hb2); (try clear hk); (try clear hi); (try clear ho0); obtain ⟨Ao92, co92, eo92⟩ := Kd.R_slice HO_18.out; subst eo92; obtain ⟨Ao93, co93, eo93⟩ := Kd.R_slice HO184.out; subst eo93) | (go_at_call 22; (with_reducible refine (quirekit_SameInts.calls kj77 _ _ t167 _ _ t181 false _ ?side1 ?side2 ?side3 ?side4 A86.out).mono ?_); (case side1 => repeat (first | exact (Kd.R_reads' HO_18.out).2.2 | (with_reducible refine Kd.C_alloc ?_ _) | (with_reducible refine Kd.C_drewN ?_ _) | (with_reducible refine Kd.C_drew ?_))); (case side2 => exact (Kd.R_reads' HO_18.out).2.1); (case side3 => repeat (first | exact (Kd.R_reads' HO184.out).2.2 | (with_reducible refine Kd.C_alloc ?_ _) | (with_reducible refine Kd.C_drewN ?_ _) | (with_reducible refine Kd.C_drew ?_))); (case side4 => exact (Kd.R_reads' HO184.out).2.1); rintro e w' ⟨rfl, ⟨nd, rfl⟩⟩; (try first | exact ⟨rfl, _, World.drewN_drewN _ _ _⟩ | exact ⟨rfl, _, Eq.trans (World.drewN_drewN _ _ _) (congrArg (World.drewN _) (Nat.add_assoc _ _ _))⟩))))
                                                    go_ret
                                                    exact ⟨by first | rfl | (simp [errW_none, errW_some] <;> rfl) | (simp [*, errW_none, errW_some] <;> rfl), by repeat (first | (with_reducible first | exact HB.out | apply below_alloc | apply pw_below_drewN | apply below_drew1) | exact HB.out)⟩
                                                · rw [if_neg c84] at H
                                                  have c84b0 : (x24_40 == 0) = false := beq_eq_false_iff_ne.mpr c84
                                                  have c84b1 : (x24_40 != 0) = true := bne_iff_ne.mpr c84
                                                  obtain rfl := Option.some.inj H
                                                  go_wp2
                                                  repeat (go_quiet (fail); try go_wp2)
                                                  go_ret
                                                  exact ⟨by first | rfl | (simp [errW_none, errW_some] <;> rfl) | (simp [*, errW_none, errW_some] <;> rfl), by repeat (first | (with_reducible first | exact HB.out | apply below_alloc | apply pw_below_drewN | apply below_drew1) | exact HB.out)⟩
        · rw [if_neg c10] at H
          exact absurd H (by simp)

end Go.Proofs.Ytoodiihimjalfaa.PColumnFills
