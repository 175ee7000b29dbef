/- The walk of the statement's Go function to its answer in plain Lean; no further condition. -/
import Derived.Test.YthpmchbbfbbakaaHandP
import Derived.Test.YthpmchbbfbbakaaB0
import Derived.Test.YthpmchbbfbbakaaB11
import Derived.Test.YthpmchbbfbbakaaBoxC
namespace Go.Proofs.Ythpmchbbfbbakaa.PAll
open Go.RowKit Go.Proofs.YthpmchbbfbbakaaW.PrintWords Go.Proofs.YthpmchbbfbbakaaW.PrintLast Go.Proofs.YthpmchbbfbbakaaW.PrintMore
attribute [local go_sem] max2_int min2_int max_two min_two max_three min_three max_four min_four   -- for this text's walks alone
set_option linter.unusedVariables false
set_option linter.unusedSimpArgs false

/-! ### quirelaw05_SectionNext: function 6 -/
mutual
def quirelaw05_SectionNext.j0 : Nat → Int → Bool → Bool → Int → Int → Int → Int → Int → Int → Int → Int → Int → Int → Int → ByteArray → ByteArray → ByteArray → ByteArray → ByteArray → ByteArray → Option (Bool)
  | 0, _, _, _, _, _, _, _, _, _, _, _, _, _, _, _, _, _, _, _, _ => none
  | k + 1, x1, x5, x29, x340000, x340001, x340002, x340003, x340004, x340005, x340006, x340007, x340008, x340009, x340010, x340011, x340012, x340013, x340014, x340015, x340016 => if x29 = true then (some x5) else ((section_Begin.f x340000 x340001 x340002 x340003 x340004 x340005 x340006 x340007 x340008 x340009 x340010 x340011 x340012 x340013 x340014 x340015 x340016 x1).bind fun bt343 => (if bt343.2 = 0 then (if bt343.1 = (wrap64 (x1 + 1)) then (if bt343.1 = (wrap64 (x1 + 2)) then (quirelaw05_SectionNext.j1 k x1 x5 bt343.1 (x340008 == 0) x340000 x340001 x340002 x340003 x340004 x340005 x340006 x340007 x340008 x340009 x340010 x340011 x340012 x340013 x340014 x340015 x340016) else (quirelaw05_SectionNext.j1 k x1 x5 bt343.1 false x340000 x340001 x340002 x340003 x340004 x340005 x340006 x340007 x340008 x340009 x340010 x340011 x340012 x340013 x340014 x340015 x340016)) else (if bt343.1 = (wrap64 (x1 + 2)) then (quirelaw05_SectionNext.j1 k x1 x5 bt343.1 (x340008 == 0) x340000 x340001 x340002 x340003 x340004 x340005 x340006 x340007 x340008 x340009 x340010 x340011 x340012 x340013 x340014 x340015 x340016) else (quirelaw05_SectionNext.j1 k x1 x5 bt343.1 true x340000 x340001 x340002 x340003 x340004 x340005 x340006 x340007 x340008 x340009 x340010 x340011 x340012 x340013 x340014 x340015 x340016))) else (quirelaw05_SectionNext.j1 k x1 x5 bt343.1 true x340000 x340001 x340002 x340003 x340004 x340005 x340006 x340007 x340008 x340009 x340010 x340011 x340012 x340013 x340014 x340015 x340016)))
def quirelaw05_SectionNext.j1 : Nat → Int → Bool → Int → Bool → Int → Int → Int → Int → Int → Int → Int → Int → Int → Int → Int → ByteArray → ByteArray → ByteArray → ByteArray → ByteArray → ByteArray → Option (Bool)
  | 0, _, _, _, _, _, _, _, _, _, _, _, _, _, _, _, _, _, _, _, _, _ => none
  | k + 1, x1, x5, x6, x61, x340000, x340001, x340002, x340003, x340004, x340005, x340006, x340007, x340008, x340009, x340010, x340011, x340012, x340013, x340014, x340015, x340016 => if x61 = true then (some false) else (if x340008 = 1 then (if (Int.tmod x6 2) = 0 then (quirelaw05_SectionNext.j2 k x1 x5 true x340000 x340001 x340002 x340003 x340004 x340005 x340006 x340007 x340008 x340009 x340010 x340011 x340012 x340013 x340014 x340015 x340016) else (if x340008 = 2 then (quirelaw05_SectionNext.j2 k x1 x5 ((Int.tmod x6 2) == 1) x340000 x340001 x340002 x340003 x340004 x340005 x340006 x340007 x340008 x340009 x340010 x340011 x340012 x340013 x340014 x340015 x340016) else (quirelaw05_SectionNext.j2 k x1 x5 false x340000 x340001 x340002 x340003 x340004 x340005 x340006 x340007 x340008 x340009 x340010 x340011 x340012 x340013 x340014 x340015 x340016))) else (if x340008 = 2 then (quirelaw05_SectionNext.j2 k x1 x5 ((Int.tmod x6 2) == 1) x340000 x340001 x340002 x340003 x340004 x340005 x340006 x340007 x340008 x340009 x340010 x340011 x340012 x340013 x340014 x340015 x340016) else (quirelaw05_SectionNext.j2 k x1 x5 false x340000 x340001 x340002 x340003 x340004 x340005 x340006 x340007 x340008 x340009 x340010 x340011 x340012 x340013 x340014 x340015 x340016)))
def quirelaw05_SectionNext.j2 : Nat → Int → Bool → Bool → Int → Int → Int → Int → Int → Int → Int → Int → Int → Int → Int → ByteArray → ByteArray → ByteArray → ByteArray → ByteArray → ByteArray → Option (Bool)
  | 0, _, _, _, _, _, _, _, _, _, _, _, _, _, _, _, _, _, _, _, _ => none
  | k + 1, x1, x5, x79, x340000, x340001, x340002, x340003, x340004, x340005, x340006, x340007, x340008, x340009, x340010, x340011, x340012, x340013, x340014, x340015, x340016 => if x79 = true then (some false) else (if x1 = 0 then (some x5) else ((section_Variant.f k x340000 x340001 x340002 x340003 x340004 x340005 x340006 x340007 x340008 x340009 x340010 x340011 x340012 x340013 x340014 x340015 x340016 x1 true).bind fun bt345 => ((section_Variant.f k x340000 x340001 x340002 x340003 x340004 x340005 x340006 x340007 x340008 x340009 x340010 x340011 x340012 x340013 x340014 x340015 x340016 x1 false).bind fun bt347 => (if x340011.toList = ([] : List UInt8) then (if x5 = true then (if bt345.2 = 0 then (if bt347.2 = 0 then (if ((bt345.1 == 0) == (x340014.toList != ([] : List UInt8))) = true then (if x340014.toList = ([] : List UInt8) then (if bt345.1 = bt347.1 then (some (bt347.1 == (wrap64 (2 - (Int.tmod x1 2))))) else (some false)) else (some (bt347.1 == (wrap64 (2 - (Int.tmod x1 2)))))) else (some false)) else (some false)) else (some false)) else (some false)) else (if x5 = true then (if bt345.2 = 0 then (if bt347.2 = 0 then (if ((bt345.1 == 0) == true) = true then (some (bt347.1 == (wrap64 (2 - (Int.tmod x1 2))))) else (some false)) else (some false)) else (some false)) else (some false))))))
end
def quirelaw05_SectionNext.f (k : Nat) (a0_0 : Int) (a0_1 : Int) (a0_2 : Int) (a0_3 : Int) (a0_4 : Int) (a0_5 : Int) (a0_6 : Int) (a0_7 : Int) (a0_8 : Int) (a0_9 : Int) (a0_10 : Int) (a0_11 : ByteArray) (a0_12 : ByteArray) (a0_13 : ByteArray) (a0_14 : ByteArray) (a0_15 : ByteArray) (a0_16 : ByteArray) (a1 : Int) : Option (Bool) := (quirelaw05_awake.f k).bind fun t340 => ((quirelaw05_small.f a0_0 a0_1 a0_2 a0_3 a0_4 a0_5 a0_6 a0_7 a0_8 a0_9 a0_10 a0_11 a0_12 a0_13 a0_14 a0_15 a0_16).bind fun t341 => (if t341 = true then ((section_Check.f a0_0 a0_1 a0_2 a0_3 a0_4 a0_5 a0_6 a0_7 a0_8 a0_9 a0_10 a0_11 a0_12 a0_13 a0_14 a0_15 a0_16).bind fun t342 => (if t342 = 0 then (if a1 < 0 then (quirelaw05_SectionNext.j0 k a1 t340 true a0_0 a0_1 a0_2 a0_3 a0_4 a0_5 a0_6 a0_7 a0_8 a0_9 a0_10 a0_11 a0_12 a0_13 a0_14 a0_15 a0_16) else (quirelaw05_SectionNext.j0 k a1 t340 (decide (a1 > 4095)) a0_0 a0_1 a0_2 a0_3 a0_4 a0_5 a0_6 a0_7 a0_8 a0_9 a0_10 a0_11 a0_12 a0_13 a0_14 a0_15 a0_16)) else (quirelaw05_SectionNext.j0 k a1 t340 true a0_0 a0_1 a0_2 a0_3 a0_4 a0_5 a0_6 a0_7 a0_8 a0_9 a0_10 a0_11 a0_12 a0_13 a0_14 a0_15 a0_16))) else (quirelaw05_SectionNext.j0 k a1 t340 true a0_0 a0_1 a0_2 a0_3 a0_4 a0_5 a0_6 a0_7 a0_8 a0_9 a0_10 a0_11 a0_12 a0_13 a0_14 a0_15 a0_16)))
theorem quirelaw05_SectionNext.mono_l : ∀ k, (∀ y0 y1 y2 y3 y4 y5 y6 y7 y8 y9 y10 y11 y12 y13 y14 y15 y16 y17 y18 y19, LeO (quirelaw05_SectionNext.j0 k y0 y1 y2 y3 y4 y5 y6 y7 y8 y9 y10 y11 y12 y13 y14 y15 y16 y17 y18 y19) (quirelaw05_SectionNext.j0 (k + 1) y0 y1 y2 y3 y4 y5 y6 y7 y8 y9 y10 y11 y12 y13 y14 y15 y16 y17 y18 y19)) ∧ (∀ y0 y1 y2 y3 y4 y5 y6 y7 y8 y9 y10 y11 y12 y13 y14 y15 y16 y17 y18 y19 y20, LeO (quirelaw05_SectionNext.j1 k y0 y1 y2 y3 y4 y5 y6 y7 y8 y9 y10 y11 y12 y13 y14 y15 y16 y17 y18 y19 y20) (quirelaw05_SectionNext.j1 (k + 1) y0 y1 y2 y3 y4 y5 y6 y7 y8 y9 y10 y11 y12 y13 y14 y15 y16 y17 y18 y19 y20)) ∧ (∀ y0 y1 y2 y3 y4 y5 y6 y7 y8 y9 y10 y11 y12 y13 y14 y15 y16 y17 y18 y19, LeO (quirelaw05_SectionNext.j2 k y0 y1 y2 y3 y4 y5 y6 y7 y8 y9 y10 y11 y12 y13 y14 y15 y16 y17 y18 y19) (quirelaw05_SectionNext.j2 (k + 1) y0 y1 y2 y3 y4 y5 y6 y7 y8 y9 y10 y11 y12 y13 y14 y15 y16 y17 y18 y19))
  | 0 => ⟨fun _ _ _ _ _ _ _ _ _ _ _ _ _ _ _ _ _ _ _ _ r h => by simp [quirelaw05_SectionNext.j0] at h, fun _ _ _ _ _ _ _ _ _ _ _ _ _ _ _ _ _ _ _ _ _ r h => by simp [quirelaw05_SectionNext.j1] at h, fun _ _ _ _ _ _ _ _ _ _ _ _ _ _ _ _ _ _ _ _ r h => by simp [quirelaw05_SectionNext.j2] at h⟩
  | k + 1 => by
    obtain ⟨ih0, ih1, ih2⟩ := quirelaw05_SectionNext.mono_l k
    refine ⟨?_, ?_, ?_⟩
    · intro y0 y1 y2 y3 y4 y5 y6 y7 y8 y9 y10 y11 y12 y13 y14 y15 y16 y17 y18 y19
      unfold quirelaw05_SectionNext.j0
      repeat' first
      | (with_reducible exact ih0 _ _ _ _ _ _ _ _ _ _ _ _ _ _ _ _ _ _ _ _)
      | (with_reducible exact ih1 _ _ _ _ _ _ _ _ _ _ _ _ _ _ _ _ _ _ _ _ _)
      | (with_reducible exact ih2 _ _ _ _ _ _ _ _ _ _ _ _ _ _ _ _ _ _ _ _)
      | (with_reducible exact quirelaw05_awake.mono _)
      | (with_reducible exact section_Variant.mono _ _ _ _ _ _ _ _ _ _ _ _ _ _ _ _ _ _ _ _)
      | (with_reducible exact LeO.refl _)
      | (with_reducible exact LeO.none _)
      | (with_reducible refine LeO.ite ?_ ?_)
      | (with_reducible refine LeO.bind ?_ (fun _ => ?_))
      | exact ih0 _ _ _ _ _ _ _ _ _ _ _ _ _ _ _ _ _ _ _ _
      | exact ih1 _ _ _ _ _ _ _ _ _ _ _ _ _ _ _ _ _ _ _ _ _
      | exact ih2 _ _ _ _ _ _ _ _ _ _ _ _ _ _ _ _ _ _ _ _
      | exact quirelaw05_awake.mono _
      | exact section_Variant.mono _ _ _ _ _ _ _ _ _ _ _ _ _ _ _ _ _ _ _ _
      | exact LeO.none _
      | refine LeO.ite ?_ ?_
      | refine LeO.bind ?_ (fun _ => ?_)
    · intro y0 y1 y2 y3 y4 y5 y6 y7 y8 y9 y10 y11 y12 y13 y14 y15 y16 y17 y18 y19 y20
      unfold quirelaw05_SectionNext.j1
      repeat' first
      | (with_reducible exact ih0 _ _ _ _ _ _ _ _ _ _ _ _ _ _ _ _ _ _ _ _)
      | (with_reducible exact ih1 _ _ _ _ _ _ _ _ _ _ _ _ _ _ _ _ _ _ _ _ _)
      | (with_reducible exact ih2 _ _ _ _ _ _ _ _ _ _ _ _ _ _ _ _ _ _ _ _)
      | (with_reducible exact quirelaw05_awake.mono _)
      | (with_reducible exact section_Variant.mono _ _ _ _ _ _ _ _ _ _ _ _ _ _ _ _ _ _ _ _)
      | (with_reducible exact LeO.refl _)
      | (with_reducible exact LeO.none _)
      | (with_reducible refine LeO.ite ?_ ?_)
      | (with_reducible refine LeO.bind ?_ (fun _ => ?_))
      | exact ih0 _ _ _ _ _ _ _ _ _ _ _ _ _ _ _ _ _ _ _ _
      | exact ih1 _ _ _ _ _ _ _ _ _ _ _ _ _ _ _ _ _ _ _ _ _
      | exact ih2 _ _ _ _ _ _ _ _ _ _ _ _ _ _ _ _ _ _ _ _
      | exact quirelaw05_awake.mono _
      | exact section_Variant.mono _ _ _ _ _ _ _ _ _ _ _ _ _ _ _ _ _ _ _ _
      | exact LeO.none _
      | refine LeO.ite ?_ ?_
      | refine LeO.bind ?_ (fun _ => ?_)
    · intro y0 y1 y2 y3 y4 y5 y6 y7 y8 y9 y10 y11 y12 y13 y14 y15 y16 y17 y18 y19
      unfold quirelaw05_SectionNext.j2
      repeat' first
      | (with_reducible exact ih0 _ _ _ _ _ _ _ _ _ _ _ _ _ _ _ _ _ _ _ _)
      | (with_reducible exact ih1 _ _ _ _ _ _ _ _ _ _ _ _ _ _ _ _ _ _ _ _ _)
      | (with_reducible exact ih2 _ _ _ _ _ _ _ _ _ _ _ _ _ _ _ _ _ _ _ _)
      | (with_reducible exact quirelaw05_awake.mono _)
      | (with_reducible exact section_Variant.mono _ _ _ _ _ _ _ _ _ _ _ _ _ _ _ _ _ _ _ _)
      | (with_reducible exact LeO.refl _)
      | (with_reducible exact LeO.none _)
      | (with_reducible refine LeO.ite ?_ ?_)
      | (with_reducible refine LeO.bind ?_ (fun _ => ?_))
      | exact ih0 _ _ _ _ _ _ _ _ _ _ _ _ _ _ _ _ _ _ _ _
      | exact ih1 _ _ _ _ _ _ _ _ _ _ _ _ _ _ _ _ _ _ _ _ _
      | exact ih2 _ _ _ _ _ _ _ _ _ _ _ _ _ _ _ _ _ _ _ _
      | exact quirelaw05_awake.mono _
      | exact section_Variant.mono _ _ _ _ _ _ _ _ _ _ _ _ _ _ _ _ _ _ _ _
      | exact LeO.none _
      | refine LeO.ite ?_ ?_
      | refine LeO.bind ?_ (fun _ => ?_)
theorem quirelaw05_SectionNext.mono : ∀ a0 a1 a2 a3 a4 a5 a6 a7 a8 a9 a10 a11 a12 a13 a14 a15 a16 a17 k, LeO (quirelaw05_SectionNext.f k a0 a1 a2 a3 a4 a5 a6 a7 a8 a9 a10 a11 a12 a13 a14 a15 a16 a17) (quirelaw05_SectionNext.f (k + 1) a0 a1 a2 a3 a4 a5 a6 a7 a8 a9 a10 a11 a12 a13 a14 a15 a16 a17) := by
  intro a0 a1 a2 a3 a4 a5 a6 a7 a8 a9 a10 a11 a12 a13 a14 a15 a16 a17 k
  obtain ⟨ih0, ih1, ih2⟩ := quirelaw05_SectionNext.mono_l k
  unfold quirelaw05_SectionNext.f
  repeat' first
      | (with_reducible exact ih0 _ _ _ _ _ _ _ _ _ _ _ _ _ _ _ _ _ _ _ _)
      | (with_reducible exact ih1 _ _ _ _ _ _ _ _ _ _ _ _ _ _ _ _ _ _ _ _ _)
      | (with_reducible exact ih2 _ _ _ _ _ _ _ _ _ _ _ _ _ _ _ _ _ _ _ _)
      | (with_reducible exact quirelaw05_awake.mono _)
      | (with_reducible exact section_Variant.mono _ _ _ _ _ _ _ _ _ _ _ _ _ _ _ _ _ _ _ _)
      | (with_reducible exact LeO.refl _)
      | (with_reducible exact LeO.none _)
      | (with_reducible refine LeO.ite ?_ ?_)
      | (with_reducible refine LeO.bind ?_ (fun _ => ?_))
      | exact ih0 _ _ _ _ _ _ _ _ _ _ _ _ _ _ _ _ _ _ _ _
      | exact ih1 _ _ _ _ _ _ _ _ _ _ _ _ _ _ _ _ _ _ _ _ _
      | exact ih2 _ _ _ _ _ _ _ _ _ _ _ _ _ _ _ _ _ _ _ _
      | exact quirelaw05_awake.mono _
      | exact section_Variant.mono _ _ _ _ _ _ _ _ _ _ _ _ _ _ _ _ _ _ _ _
      | exact LeO.none _
      | refine LeO.ite ?_ ?_
      | refine LeO.bind ?_ (fun _ => ?_)
theorem quirelaw05_SectionNext.j1_true (y0 : Nat) (y1 : Int) (y2 : Bool) (y3 : Int) (y5 : Int) (y6 : Int) (y7 : Int) (y8 : Int) (y9 : Int) (y10 : Int) (y11 : Int) (y12 : Int) (y13 : Int) (y14 : Int) (y15 : Int) (y16 : ByteArray) (y17 : ByteArray) (y18 : ByteArray) (y19 : ByteArray) (y20 : ByteArray) (y21 : ByteArray) : quirelaw05_SectionNext.j1 y0 y1 y2 y3 true y5 y6 y7 y8 y9 y10 y11 y12 y13 y14 y15 y16 y17 y18 y19 y20 y21 ≠ some true := by
  cases y0 <;> simp [quirelaw05_SectionNext.j1]
theorem quirelaw05_SectionNext.j2_true (y0 : Nat) (y1 : Int) (y2 : Bool) (y4 : Int) (y5 : Int) (y6 : Int) (y7 : Int) (y8 : Int) (y9 : Int) (y10 : Int) (y11 : Int) (y12 : Int) (y13 : Int) (y14 : Int) (y15 : ByteArray) (y16 : ByteArray) (y17 : ByteArray) (y18 : ByteArray) (y19 : ByteArray) (y20 : ByteArray) : quirelaw05_SectionNext.j2 y0 y1 y2 true y4 y5 y6 y7 y8 y9 y10 y11 y12 y13 y14 y15 y16 y17 y18 y19 y20 ≠ some true := by
  cases y0 <;> simp [quirelaw05_SectionNext.j2]

end Go.Proofs.Ythpmchbbfbbakaa.PAll
