/- The walk of the statement's Go function to its answer in plain Lean; no further condition. -/
import Derived.Test.YthpmchbbfbbakaaHandP
import Derived.Test.YthpmchbbfbbakaaB0
import Derived.Test.YthpmchbbfbbakaaB1
import Derived.Test.YthpmchbbfbbakaaB2
import Derived.Test.YthpmchbbfbbakaaB6
import Derived.Test.YthpmchbbfbbakaaB7
import Derived.Test.YthpmchbbfbbakaaB3
import Derived.Test.YthpmchbbfbbakaaB8
import Derived.Test.YthpmchbbfbbakaaB9
import Derived.Test.YthpmchbbfbbakaaBoxC
namespace Go.Proofs.Ythpmchbbfbbakaa.PAll
open Go.RowKit Go.Proofs.YthpmchbbfbbakaaW.PrintWords Go.Proofs.YthpmchbbfbbakaaW.PrintLast Go.Proofs.YthpmchbbfbbakaaW.PrintMore
attribute [local go_sem] max2_int min2_int max_two min_two max_three min_three max_four min_four   -- for this text's walks alone
set_option linter.unusedVariables false
set_option linter.unusedSimpArgs false

/-! ### quirelaw05_SectionTells: function 4 -/
mutual
def quirelaw05_SectionTells.j0 : Nat → Int → List (S38) → Int → Bool → Int → Int → Int → Int → Int → Int → Int → Int → Int → Int → Int → ByteArray → ByteArray → ByteArray → ByteArray → ByteArray → ByteArray → Int → Int → Int → Int → Int → Int → Int → Int → Option (Bool)
  | 0, _, _, _, _, _, _, _, _, _, _, _, _, _, _, _, _, _, _, _, _, _, _, _, _, _, _, _, _, _ => none
  | k + 1, x1, x5, x11, x63, x181000, x181001, x181002, x181003, x181004, x181005, x181006, x181007, x181008, x181009, x181010, x181011, x181012, x181013, x181014, x181015, x181016, x192000, x192001, x192002, x192003, x198000, x198001, x198002, x198003 => if x63 = true then (some false) else (if x11 = 0 then ((quireref05_Columns.f k x181000 x181001 x181002 x181003 x181004 x181005 x181006 x181007 x181008 x181009 x181010 x181011 x181012 x181013 x181014 x181015 x181016 x1).bind fun t235 => ((quirelaw05_rects.f k x5 t235).bind fun t238 => (if t238 = true then ((quireref05_Head.f x181000 x181001 x181002 x181003 x181004 x181005 x181006 x181007 x181008 x181009 x181010 x181011 x181012 x181013 x181014 x181015 x181016 x1).bind fun bt239 => (if (!(x192000 == bt239.1) || (!(x192001 == bt239.2.1) || (!(x192002 == bt239.2.2.1) || (!(x192003 == bt239.2.2.2))))) = true then (quirelaw05_SectionTells.j1 k x1 x5 true x181000 x181001 x181002 x181003 x181004 x181005 x181006 x181007 x181008 x181009 x181010 x181011 x181012 x181013 x181014 x181015 x181016) else ((quireref05_Foot.f x181000 x181001 x181002 x181003 x181004 x181005 x181006 x181007 x181008 x181009 x181010 x181011 x181012 x181013 x181014 x181015 x181016 x1).bind fun bt243 => (quirelaw05_SectionTells.j1 k x1 x5 (!(x198000 == bt243.1) || (!(x198001 == bt243.2.1) || (!(x198002 == bt243.2.2.1) || (!(x198003 == bt243.2.2.2))))) x181000 x181001 x181002 x181003 x181004 x181005 x181006 x181007 x181008 x181009 x181010 x181011 x181012 x181013 x181014 x181015 x181016)))) else (quirelaw05_SectionTells.j1 k x1 x5 true x181000 x181001 x181002 x181003 x181004 x181005 x181006 x181007 x181008 x181009 x181010 x181011 x181012 x181013 x181014 x181015 x181016)))) else (if (x5.length : Int) = 0 then (if (x192000 == 0 && (x192001 == 0 && (x192002 == 0 && (x192003 == 0)))) = true then (some (x198000 == 0 && (x198001 == 0 && (x198002 == 0 && (x198003 == 0))))) else (some false)) else (some false)))
def quirelaw05_SectionTells.j1 : Nat → Int → List (S38) → Bool → Int → Int → Int → Int → Int → Int → Int → Int → Int → Int → Int → ByteArray → ByteArray → ByteArray → ByteArray → ByteArray → ByteArray → Option (Bool)
  | 0, _, _, _, _, _, _, _, _, _, _, _, _, _, _, _, _, _, _, _, _ => none
  | k + 1, x1, x5, x98, x181000, x181001, x181002, x181003, x181004, x181005, x181006, x181007, x181008, x181009, x181010, x181011, x181012, x181013, x181014, x181015, x181016 => if x98 = true then (some false) else (quirelaw05_SectionTells.l0 k x1 x5 0 x181000 x181001 x181002 x181003 x181004 x181005 x181006 x181007 x181008 x181009 x181010 x181011 x181012 x181013 x181014 x181015 x181016)
def quirelaw05_SectionTells.l0 : Nat → Int → List (S38) → Int → Int → Int → Int → Int → Int → Int → Int → Int → Int → Int → Int → ByteArray → ByteArray → ByteArray → ByteArray → ByteArray → ByteArray → Option (Bool)
  | 0, _, _, _, _, _, _, _, _, _, _, _, _, _, _, _, _, _, _, _, _ => none
  | k + 1, x1, x5, x12, x181000, x181001, x181002, x181003, x181004, x181005, x181006, x181007, x181008, x181009, x181010, x181011, x181012, x181013, x181014, x181015, x181016 => if x12 < (x5.length : Int) then (if 0 ≤ x12 then (quirelaw05_SectionTells.l0 k x1 (x5.set (x12 : Int).toNat (⟨(-1), 0, 0, 0⟩ : S38)) (wrap64 (x12 + 1)) x181000 x181001 x181002 x181003 x181004 x181005 x181006 x181007 x181008 x181009 x181010 x181011 x181012 x181013 x181014 x181015 x181016) else (none)) else ((section_Columns.f k x181000 x181001 x181002 x181003 x181004 x181005 x181006 x181007 x181008 x181009 x181010 x181011 x181012 x181013 x181014 x181015 x181016 x1).bind fun bt248 => ((quireref05_Columns.f k x181000 x181001 x181002 x181003 x181004 x181005 x181006 x181007 x181008 x181009 x181010 x181011 x181012 x181013 x181014 x181015 x181016 x1).bind fun t252 => ((quirelaw05_rects.f k bt248.1 t252).bind fun t255 => (some t255))))
end
def quirelaw05_SectionTells.f (k : Nat) (a0_0 : Int) (a0_1 : Int) (a0_2 : Int) (a0_3 : Int) (a0_4 : Int) (a0_5 : Int) (a0_6 : Int) (a0_7 : Int) (a0_8 : Int) (a0_9 : Int) (a0_10 : Int) (a0_11 : ByteArray) (a0_12 : ByteArray) (a0_13 : ByteArray) (a0_14 : ByteArray) (a0_15 : ByteArray) (a0_16 : ByteArray) (a1 : Int) : Option (Bool) := (quirelaw05_small.f a0_0 a0_1 a0_2 a0_3 a0_4 a0_5 a0_6 a0_7 a0_8 a0_9 a0_10 a0_11 a0_12 a0_13 a0_14 a0_15 a0_16).bind fun t181 => (if t181 = true then ((section_Columns.f k a0_0 a0_1 a0_2 a0_3 a0_4 a0_5 a0_6 a0_7 a0_8 a0_9 a0_10 a0_11 a0_12 a0_13 a0_14 a0_15 a0_16 a1).bind fun bt182 => ((section_Head.f a0_0 a0_1 a0_2 a0_3 a0_4 a0_5 a0_6 a0_7 a0_8 a0_9 a0_10 a0_11 a0_12 a0_13 a0_14 a0_15 a0_16 a1).bind fun bt186 => ((section_Foot.f a0_0 a0_1 a0_2 a0_3 a0_4 a0_5 a0_6 a0_7 a0_8 a0_9 a0_10 a0_11 a0_12 a0_13 a0_14 a0_15 a0_16 a1).bind fun bt192 => ((quireref05_Page.f a0_0 a0_1 a0_2 a0_3 a0_4 a0_5 a0_6 a0_7 a0_8 a0_9 a0_10 a0_11 a0_12 a0_13 a0_14 a0_15 a0_16 a1 1).bind fun t198 => ((section_Check.f a0_0 a0_1 a0_2 a0_3 a0_4 a0_5 a0_6 a0_7 a0_8 a0_9 a0_10 a0_11 a0_12 a0_13 a0_14 a0_15 a0_16).bind fun t199 => ((quireref05_Check.f a0_0 a0_1 a0_2 a0_3 a0_4 a0_5 a0_6 a0_7 a0_8 a0_9 a0_10 a0_11 a0_12 a0_13 a0_14 a0_15 a0_16).bind fun t200 => (if t199 = t200 then ((section_Plain.f).bind fun bt201 => ((quireref05_Plain.f).bind fun bt218 => (if (!(bt201.1 == bt218.1) || (!(bt201.2.1 == bt218.2.1) || (!(bt201.2.2.1 == bt218.2.2.1) || (!(bt201.2.2.2.1 == bt218.2.2.2.1) || (!(bt201.2.2.2.2.1 == bt218.2.2.2.2.1) || (!(bt201.2.2.2.2.2.1 == bt218.2.2.2.2.2.1) || (!(bt201.2.2.2.2.2.2.1 == bt218.2.2.2.2.2.2.1) || (!(bt201.2.2.2.2.2.2.2.1 == bt218.2.2.2.2.2.2.2.1) || (!(bt201.2.2.2.2.2.2.2.2.1 == bt218.2.2.2.2.2.2.2.2.1) || (!(bt201.2.2.2.2.2.2.2.2.2.1 == bt218.2.2.2.2.2.2.2.2.2.1) || (!(bt201.2.2.2.2.2.2.2.2.2.2.1 == bt218.2.2.2.2.2.2.2.2.2.2.1) || ((!(bt201.2.2.2.2.2.2.2.2.2.2.2.1.toList == bt218.2.2.2.2.2.2.2.2.2.2.2.1.toList) || (!(bt201.2.2.2.2.2.2.2.2.2.2.2.2.1.toList == bt218.2.2.2.2.2.2.2.2.2.2.2.2.1.toList) || (!(bt201.2.2.2.2.2.2.2.2.2.2.2.2.2.1.toList == bt218.2.2.2.2.2.2.2.2.2.2.2.2.2.1.toList)))) || ((!(bt201.2.2.2.2.2.2.2.2.2.2.2.2.2.2.1.toList == bt218.2.2.2.2.2.2.2.2.2.2.2.2.2.2.1.toList) || (!(bt201.2.2.2.2.2.2.2.2.2.2.2.2.2.2.2.1.toList == bt218.2.2.2.2.2.2.2.2.2.2.2.2.2.2.2.1.toList) || (!(bt201.2.2.2.2.2.2.2.2.2.2.2.2.2.2.2.2.toList == bt218.2.2.2.2.2.2.2.2.2.2.2.2.2.2.2.2.toList))))))))))))))))) = true then (quirelaw05_SectionTells.j0 k a1 bt182.1 t198 true a0_0 a0_1 a0_2 a0_3 a0_4 a0_5 a0_6 a0_7 a0_8 a0_9 a0_10 a0_11 a0_12 a0_13 a0_14 a0_15 a0_16 bt186.1 bt186.2.1 bt186.2.2.1 bt186.2.2.2.1 bt192.1 bt192.2.1 bt192.2.2.1 bt192.2.2.2.1) else (if bt182.2 = t198 then (if bt186.2.2.2.2 = t198 then (quirelaw05_SectionTells.j0 k a1 bt182.1 t198 (bt192.2.2.2.2 != t198) a0_0 a0_1 a0_2 a0_3 a0_4 a0_5 a0_6 a0_7 a0_8 a0_9 a0_10 a0_11 a0_12 a0_13 a0_14 a0_15 a0_16 bt186.1 bt186.2.1 bt186.2.2.1 bt186.2.2.2.1 bt192.1 bt192.2.1 bt192.2.2.1 bt192.2.2.2.1) else (quirelaw05_SectionTells.j0 k a1 bt182.1 t198 true a0_0 a0_1 a0_2 a0_3 a0_4 a0_5 a0_6 a0_7 a0_8 a0_9 a0_10 a0_11 a0_12 a0_13 a0_14 a0_15 a0_16 bt186.1 bt186.2.1 bt186.2.2.1 bt186.2.2.2.1 bt192.1 bt192.2.1 bt192.2.2.1 bt192.2.2.2.1)) else (quirelaw05_SectionTells.j0 k a1 bt182.1 t198 true a0_0 a0_1 a0_2 a0_3 a0_4 a0_5 a0_6 a0_7 a0_8 a0_9 a0_10 a0_11 a0_12 a0_13 a0_14 a0_15 a0_16 bt186.1 bt186.2.1 bt186.2.2.1 bt186.2.2.2.1 bt192.1 bt192.2.1 bt192.2.2.1 bt192.2.2.2.1))))) else (quirelaw05_SectionTells.j0 k a1 bt182.1 t198 true a0_0 a0_1 a0_2 a0_3 a0_4 a0_5 a0_6 a0_7 a0_8 a0_9 a0_10 a0_11 a0_12 a0_13 a0_14 a0_15 a0_16 bt186.1 bt186.2.1 bt186.2.2.1 bt186.2.2.2.1 bt192.1 bt192.2.1 bt192.2.2.1 bt192.2.2.2.1)))))))) else (some true))
theorem quirelaw05_SectionTells.mono_l : ∀ k, (∀ y0 y1 y2 y3 y4 y5 y6 y7 y8 y9 y10 y11 y12 y13 y14 y15 y16 y17 y18 y19 y20 y21 y22 y23 y24 y25 y26 y27 y28, LeO (quirelaw05_SectionTells.j0 k y0 y1 y2 y3 y4 y5 y6 y7 y8 y9 y10 y11 y12 y13 y14 y15 y16 y17 y18 y19 y20 y21 y22 y23 y24 y25 y26 y27 y28) (quirelaw05_SectionTells.j0 (k + 1) y0 y1 y2 y3 y4 y5 y6 y7 y8 y9 y10 y11 y12 y13 y14 y15 y16 y17 y18 y19 y20 y21 y22 y23 y24 y25 y26 y27 y28)) ∧ (∀ y0 y1 y2 y3 y4 y5 y6 y7 y8 y9 y10 y11 y12 y13 y14 y15 y16 y17 y18 y19, LeO (quirelaw05_SectionTells.j1 k y0 y1 y2 y3 y4 y5 y6 y7 y8 y9 y10 y11 y12 y13 y14 y15 y16 y17 y18 y19) (quirelaw05_SectionTells.j1 (k + 1) y0 y1 y2 y3 y4 y5 y6 y7 y8 y9 y10 y11 y12 y13 y14 y15 y16 y17 y18 y19)) ∧ (∀ y0 y1 y2 y3 y4 y5 y6 y7 y8 y9 y10 y11 y12 y13 y14 y15 y16 y17 y18 y19, LeO (quirelaw05_SectionTells.l0 k y0 y1 y2 y3 y4 y5 y6 y7 y8 y9 y10 y11 y12 y13 y14 y15 y16 y17 y18 y19) (quirelaw05_SectionTells.l0 (k + 1) y0 y1 y2 y3 y4 y5 y6 y7 y8 y9 y10 y11 y12 y13 y14 y15 y16 y17 y18 y19))
  | 0 => ⟨fun _ _ _ _ _ _ _ _ _ _ _ _ _ _ _ _ _ _ _ _ _ _ _ _ _ _ _ _ _ r h => by simp [quirelaw05_SectionTells.j0] at h, fun _ _ _ _ _ _ _ _ _ _ _ _ _ _ _ _ _ _ _ _ r h => by simp [quirelaw05_SectionTells.j1] at h, fun _ _ _ _ _ _ _ _ _ _ _ _ _ _ _ _ _ _ _ _ r h => by simp [quirelaw05_SectionTells.l0] at h⟩
  | k + 1 => by
    obtain ⟨ih0, ih1, ih2⟩ := quirelaw05_SectionTells.mono_l k
    refine ⟨?_, ?_, ?_⟩
    · intro y0 y1 y2 y3 y4 y5 y6 y7 y8 y9 y10 y11 y12 y13 y14 y15 y16 y17 y18 y19 y20 y21 y22 y23 y24 y25 y26 y27 y28
      unfold quirelaw05_SectionTells.j0
      repeat' first
      | (with_reducible exact ih0 _ _ _ _ _ _ _ _ _ _ _ _ _ _ _ _ _ _ _ _ _ _ _ _ _ _ _ _ _)
      | (with_reducible exact ih1 _ _ _ _ _ _ _ _ _ _ _ _ _ _ _ _ _ _ _ _)
      | (with_reducible exact ih2 _ _ _ _ _ _ _ _ _ _ _ _ _ _ _ _ _ _ _ _)
      | (with_reducible exact quirelaw05_rects.mono _ _ _)
      | (with_reducible exact quireref05_Columns.mono _ _ _ _ _ _ _ _ _ _ _ _ _ _ _ _ _ _ _)
      | (with_reducible exact section_Columns.mono _ _ _ _ _ _ _ _ _ _ _ _ _ _ _ _ _ _ _)
      | (with_reducible exact LeO.refl _)
      | (with_reducible exact LeO.none _)
      | (with_reducible refine LeO.ite ?_ ?_)
      | (with_reducible refine LeO.bind ?_ (fun _ => ?_))
      | exact ih0 _ _ _ _ _ _ _ _ _ _ _ _ _ _ _ _ _ _ _ _ _ _ _ _ _ _ _ _ _
      | exact ih1 _ _ _ _ _ _ _ _ _ _ _ _ _ _ _ _ _ _ _ _
      | exact ih2 _ _ _ _ _ _ _ _ _ _ _ _ _ _ _ _ _ _ _ _
      | exact quirelaw05_rects.mono _ _ _
      | exact quireref05_Columns.mono _ _ _ _ _ _ _ _ _ _ _ _ _ _ _ _ _ _ _
      | exact section_Columns.mono _ _ _ _ _ _ _ _ _ _ _ _ _ _ _ _ _ _ _
      | exact LeO.none _
      | refine LeO.ite ?_ ?_
      | refine LeO.bind ?_ (fun _ => ?_)
    · intro y0 y1 y2 y3 y4 y5 y6 y7 y8 y9 y10 y11 y12 y13 y14 y15 y16 y17 y18 y19
      unfold quirelaw05_SectionTells.j1
      repeat' first
      | (with_reducible exact ih0 _ _ _ _ _ _ _ _ _ _ _ _ _ _ _ _ _ _ _ _ _ _ _ _ _ _ _ _ _)
      | (with_reducible exact ih1 _ _ _ _ _ _ _ _ _ _ _ _ _ _ _ _ _ _ _ _)
      | (with_reducible exact ih2 _ _ _ _ _ _ _ _ _ _ _ _ _ _ _ _ _ _ _ _)
      | (with_reducible exact quirelaw05_rects.mono _ _ _)
      | (with_reducible exact quireref05_Columns.mono _ _ _ _ _ _ _ _ _ _ _ _ _ _ _ _ _ _ _)
      | (with_reducible exact section_Columns.mono _ _ _ _ _ _ _ _ _ _ _ _ _ _ _ _ _ _ _)
      | (with_reducible exact LeO.refl _)
      | (with_reducible exact LeO.none _)
      | (with_reducible refine LeO.ite ?_ ?_)
      | (with_reducible refine LeO.bind ?_ (fun _ => ?_))
      | exact ih0 _ _ _ _ _ _ _ _ _ _ _ _ _ _ _ _ _ _ _ _ _ _ _ _ _ _ _ _ _
      | exact ih1 _ _ _ _ _ _ _ _ _ _ _ _ _ _ _ _ _ _ _ _
      | exact ih2 _ _ _ _ _ _ _ _ _ _ _ _ _ _ _ _ _ _ _ _
      | exact quirelaw05_rects.mono _ _ _
      | exact quireref05_Columns.mono _ _ _ _ _ _ _ _ _ _ _ _ _ _ _ _ _ _ _
      | exact section_Columns.mono _ _ _ _ _ _ _ _ _ _ _ _ _ _ _ _ _ _ _
      | exact LeO.none _
      | refine LeO.ite ?_ ?_
      | refine LeO.bind ?_ (fun _ => ?_)
    · intro y0 y1 y2 y3 y4 y5 y6 y7 y8 y9 y10 y11 y12 y13 y14 y15 y16 y17 y18 y19
      unfold quirelaw05_SectionTells.l0
      repeat' first
      | (with_reducible exact ih0 _ _ _ _ _ _ _ _ _ _ _ _ _ _ _ _ _ _ _ _ _ _ _ _ _ _ _ _ _)
      | (with_reducible exact ih1 _ _ _ _ _ _ _ _ _ _ _ _ _ _ _ _ _ _ _ _)
      | (with_reducible exact ih2 _ _ _ _ _ _ _ _ _ _ _ _ _ _ _ _ _ _ _ _)
      | (with_reducible exact quirelaw05_rects.mono _ _ _)
      | (with_reducible exact quireref05_Columns.mono _ _ _ _ _ _ _ _ _ _ _ _ _ _ _ _ _ _ _)
      | (with_reducible exact section_Columns.mono _ _ _ _ _ _ _ _ _ _ _ _ _ _ _ _ _ _ _)
      | (with_reducible exact LeO.refl _)
      | (with_reducible exact LeO.none _)
      | (with_reducible refine LeO.ite ?_ ?_)
      | (with_reducible refine LeO.bind ?_ (fun _ => ?_))
      | exact ih0 _ _ _ _ _ _ _ _ _ _ _ _ _ _ _ _ _ _ _ _ _ _ _ _ _ _ _ _ _
      | exact ih1 _ _ _ _ _ _ _ _ _ _ _ _ _ _ _ _ _ _ _ _
      | exact ih2 _ _ _ _ _ _ _ _ _ _ _ _ _ _ _ _ _ _ _ _
      | exact quirelaw05_rects.mono _ _ _
      | exact quireref05_Columns.mono _ _ _ _ _ _ _ _ _ _ _ _ _ _ _ _ _ _ _
      | exact section_Columns.mono _ _ _ _ _ _ _ _ _ _ _ _ _ _ _ _ _ _ _
      | exact LeO.none _
      | refine LeO.ite ?_ ?_
      | refine LeO.bind ?_ (fun _ => ?_)
theorem quirelaw05_SectionTells.mono : ∀ a0 a1 a2 a3 a4 a5 a6 a7 a8 a9 a10 a11 a12 a13 a14 a15 a16 a17 k, LeO (quirelaw05_SectionTells.f k a0 a1 a2 a3 a4 a5 a6 a7 a8 a9 a10 a11 a12 a13 a14 a15 a16 a17) (quirelaw05_SectionTells.f (k + 1) a0 a1 a2 a3 a4 a5 a6 a7 a8 a9 a10 a11 a12 a13 a14 a15 a16 a17) := by
  intro a0 a1 a2 a3 a4 a5 a6 a7 a8 a9 a10 a11 a12 a13 a14 a15 a16 a17 k
  obtain ⟨ih0, ih1, ih2⟩ := quirelaw05_SectionTells.mono_l k
  unfold quirelaw05_SectionTells.f
  repeat' first
      | (with_reducible exact ih0 _ _ _ _ _ _ _ _ _ _ _ _ _ _ _ _ _ _ _ _ _ _ _ _ _ _ _ _ _)
      | (with_reducible exact ih1 _ _ _ _ _ _ _ _ _ _ _ _ _ _ _ _ _ _ _ _)
      | (with_reducible exact ih2 _ _ _ _ _ _ _ _ _ _ _ _ _ _ _ _ _ _ _ _)
      | (with_reducible exact quirelaw05_rects.mono _ _ _)
      | (with_reducible exact quireref05_Columns.mono _ _ _ _ _ _ _ _ _ _ _ _ _ _ _ _ _ _ _)
      | (with_reducible exact section_Columns.mono _ _ _ _ _ _ _ _ _ _ _ _ _ _ _ _ _ _ _)
      | (with_reducible exact LeO.refl _)
      | (with_reducible exact LeO.none _)
      | (with_reducible refine LeO.ite ?_ ?_)
      | (with_reducible refine LeO.bind ?_ (fun _ => ?_))
      | exact ih0 _ _ _ _ _ _ _ _ _ _ _ _ _ _ _ _ _ _ _ _ _ _ _ _ _ _ _ _ _
      | exact ih1 _ _ _ _ _ _ _ _ _ _ _ _ _ _ _ _ _ _ _ _
      | exact ih2 _ _ _ _ _ _ _ _ _ _ _ _ _ _ _ _ _ _ _ _
      | exact quirelaw05_rects.mono _ _ _
      | exact quireref05_Columns.mono _ _ _ _ _ _ _ _ _ _ _ _ _ _ _ _ _ _ _
      | exact section_Columns.mono _ _ _ _ _ _ _ _ _ _ _ _ _ _ _ _ _ _ _
      | exact LeO.none _
      | refine LeO.ite ?_ ?_
      | refine LeO.bind ?_ (fun _ => ?_)
def quirelaw05_SectionTells.T7 : Bool × List (List Nat × List Nat) := (true, [([], []), ([0], [0]), ([], []), ([2, 1], [2]), ([1, 3], [1, 3]), ([4, 3], [4]), ([5, 5], [5]), ([6, 5], [5]), ([6, 7, 5], [5, 6, 7]), ([5, 8], [5, 8]), ([9, 7], [9]), ([10], [10]), ([10], [10]), ([11, 12, 10], [10, 11, 12]), ([10, 13], [10, 13]), ([14, 10], [14]), ([15], [15]), ([15], [15]), ([16, 17, 15], [15, 16, 17]), ([15, 18], [15, 18]), ([19, 15], [19]), ([20], [20]), ([20], [20]), ([21, 22, 20], [20, 21, 22]), ([20, 23], [20, 23])])
def quirelaw05_SectionTells.B7 : List Nat := [0, 1, 0, 7, 15, 31, 63, 127, 255, 511, 1023, 2047, 2047, 8191, 16383, 32767, 65535, 65535, 262143, 524287, 1048575, 2097151, 2097151, 8388607, 16777215]
theorem quirelaw05_SectionTells.tab7 : rtab .any (opsOf Try.f4 7) = quirelaw05_SectionTells.T7 := by kernel_rfl
theorem quirelaw05_SectionTells.bits7 : waitsOk quirelaw05_SectionTells.T7.2 quirelaw05_SectionTells.B7 = true := by kernel_rfl
def quirelaw05_SectionTells.T11 : Bool × List (List Nat × List Nat) := (true, [([], []), ([], []), ([], []), ([1, 2], [1, 2]), ([0, 3, 3], [0, 3]), ([4], [4]), ([5, 4], [5]), ([6], [6]), ([6], [6]), ([6], [6]), ([8, 9, 6, 6], [6, 8, 9]), ([7, 10, 6], [6, 7, 10]), ([6, 11], [6, 11]), ([12, 10], [12]), ([13], [13]), ([13], [13]), ([13], [13]), ([15, 16, 13, 13], [13, 15, 16]), ([14, 17, 13], [13, 14, 17]), ([13, 18], [13, 18])])
def quirelaw05_SectionTells.B11 : List Nat := [0, 0, 0, 6, 15, 31, 63, 127, 127, 127, 895, 2047, 4095, 8191, 16383, 16383, 16383, 114687, 262143, 524287]
theorem quirelaw05_SectionTells.tab11 : rtab .any (opsOf Try.f4 11) = quirelaw05_SectionTells.T11 := by kernel_rfl
theorem quirelaw05_SectionTells.bits11 : waitsOk quirelaw05_SectionTells.T11.2 quirelaw05_SectionTells.B11 = true := by kernel_rfl
theorem quirelaw05_SectionTells.j0_true (y0 : Nat) (y1 : Int) (y2 : List (S38)) (y3 : Int) (y5 : Int) (y6 : Int) (y7 : Int) (y8 : Int) (y9 : Int) (y10 : Int) (y11 : Int) (y12 : Int) (y13 : Int) (y14 : Int) (y15 : Int) (y16 : ByteArray) (y17 : ByteArray) (y18 : ByteArray) (y19 : ByteArray) (y20 : ByteArray) (y21 : ByteArray) (y22 : Int) (y23 : Int) (y24 : Int) (y25 : Int) (y26 : Int) (y27 : Int) (y28 : Int) (y29 : Int) : quirelaw05_SectionTells.j0 y0 y1 y2 y3 true y5 y6 y7 y8 y9 y10 y11 y12 y13 y14 y15 y16 y17 y18 y19 y20 y21 y22 y23 y24 y25 y26 y27 y28 y29 ≠ some true := by
  cases y0 <;> simp [quirelaw05_SectionTells.j0]
theorem quirelaw05_SectionTells.j1_true (y0 : Nat) (y1 : Int) (y2 : List (S38)) (y4 : Int) (y5 : Int) (y6 : Int) (y7 : Int) (y8 : Int) (y9 : Int) (y10 : Int) (y11 : Int) (y12 : Int) (y13 : Int) (y14 : Int) (y15 : ByteArray) (y16 : ByteArray) (y17 : ByteArray) (y18 : ByteArray) (y19 : ByteArray) (y20 : ByteArray) : quirelaw05_SectionTells.j1 y0 y1 y2 true y4 y5 y6 y7 y8 y9 y10 y11 y12 y13 y14 y15 y16 y17 y18 y19 y20 ≠ some true := by
  cases y0 <;> simp [quirelaw05_SectionTells.j1]

end Go.Proofs.Ythpmchbbfbbakaa.PAll
