/- The walk of the statement's Go function to its answer in plain Lean; no further condition. -/
import Derived.Test.YthpmchbbfbbakaaHandP
import Derived.Test.YthpmchbbfbbakaaB0
import Derived.Test.YthpmchbbfbbakaaB2
import Derived.Test.YthpmchbbfbbakaaB6
import Derived.Test.YthpmchbbfbbakaaB7
import Derived.Test.YthpmchbbfbbakaaB3
import Derived.Test.YthpmchbbfbbakaaB11
import Derived.Test.YthpmchbbfbbakaaBoxC
namespace Go.Proofs.Ythpmchbbfbbakaa.PAll
open Go.RowKit Go.Proofs.YthpmchbbfbbakaaW.PrintWords Go.Proofs.YthpmchbbfbbakaaW.PrintLast Go.Proofs.YthpmchbbfbbakaaW.PrintMore
attribute [local go_sem] max2_int min2_int max_two min_two max_three min_three max_four min_four   -- for this text's walks alone
set_option linter.unusedVariables false
set_option linter.unusedSimpArgs false

/-! ### quirelaw05_SectionApart: function 5 -/
mutual
def quirelaw05_SectionApart.j0 : Nat → Int → Bool → Bool → Int → Int → Int → Int → Int → Int → Int → Int → Int → Int → Int → ByteArray → ByteArray → ByteArray → ByteArray → ByteArray → ByteArray → Option (Bool)
  | 0, _, _, _, _, _, _, _, _, _, _, _, _, _, _, _, _, _, _, _, _ => none
  | k + 1, x1, x5, x32, x302000, x302001, x302002, x302003, x302004, x302005, x302006, x302007, x302008, x302009, x302010, x302011, x302012, x302013, x302014, x302015, x302016 => if x32 = true then (some x5) else ((section_Columns.f k x302000 x302001 x302002 x302003 x302004 x302005 x302006 x302007 x302008 x302009 x302010 x302011 x302012 x302013 x302014 x302015 x302016 x1).bind fun bt305 => ((section_Head.f x302000 x302001 x302002 x302003 x302004 x302005 x302006 x302007 x302008 x302009 x302010 x302011 x302012 x302013 x302014 x302015 x302016 x1).bind fun bt309 => ((section_Foot.f x302000 x302001 x302002 x302003 x302004 x302005 x302006 x302007 x302008 x302009 x302010 x302011 x302012 x302013 x302014 x302015 x302016 x1).bind fun bt315 => (if bt305.2 = 0 then (if bt309.2.2.2.2 = 0 then (if bt315.2.2.2.2 = 0 then (quirelaw05_SectionApart.j1 k x5 bt305.1 ((bt305.1.length : Int) != x302006) x302000 x302001 x302002 x302003 x302004 x302005 x302006 x302007 x302008 x302009 x302010 x302011 x302012 x302013 x302014 x302015 x302016 bt309.1 bt309.2.1 bt309.2.2.1 bt309.2.2.2.1 bt315.1 bt315.2.1 bt315.2.2.1 bt315.2.2.2.1) else (quirelaw05_SectionApart.j1 k x5 bt305.1 true x302000 x302001 x302002 x302003 x302004 x302005 x302006 x302007 x302008 x302009 x302010 x302011 x302012 x302013 x302014 x302015 x302016 bt309.1 bt309.2.1 bt309.2.2.1 bt309.2.2.2.1 bt315.1 bt315.2.1 bt315.2.2.1 bt315.2.2.2.1)) else (quirelaw05_SectionApart.j1 k x5 bt305.1 true x302000 x302001 x302002 x302003 x302004 x302005 x302006 x302007 x302008 x302009 x302010 x302011 x302012 x302013 x302014 x302015 x302016 bt309.1 bt309.2.1 bt309.2.2.1 bt309.2.2.2.1 bt315.1 bt315.2.1 bt315.2.2.1 bt315.2.2.2.1)) else (quirelaw05_SectionApart.j1 k x5 bt305.1 true x302000 x302001 x302002 x302003 x302004 x302005 x302006 x302007 x302008 x302009 x302010 x302011 x302012 x302013 x302014 x302015 x302016 bt309.1 bt309.2.1 bt309.2.2.1 bt309.2.2.2.1 bt315.1 bt315.2.1 bt315.2.2.1 bt315.2.2.2.1)))))
def quirelaw05_SectionApart.j1 : Nat → Bool → List (S38) → Bool → Int → Int → Int → Int → Int → Int → Int → Int → Int → Int → Int → ByteArray → ByteArray → ByteArray → ByteArray → ByteArray → ByteArray → Int → Int → Int → Int → Int → Int → Int → Int → Option (Bool)
  | 0, _, _, _, _, _, _, _, _, _, _, _, _, _, _, _, _, _, _, _, _, _, _, _, _, _, _, _, _ => none
  | k + 1, x5, x6, x68, x302000, x302001, x302002, x302003, x302004, x302005, x302006, x302007, x302008, x302009, x302010, x302011, x302012, x302013, x302014, x302015, x302016, x315000, x315001, x315002, x315003, x321000, x321001, x321002, x321003 => if x68 = true then (some false) else (quirelaw05_SectionApart.l0 k x5 x6 0 x302000 x302001 x302002 x302003 x302004 x302005 x302006 x302007 x302008 x302009 x302010 x302011 x302012 x302013 x302014 x302015 x302016 x315000 x315001 x315002 x315003 x321000 x321001 x321002 x321003 0 0 x302000 x302001)
def quirelaw05_SectionApart.l0 : Nat → Bool → List (S38) → Int → Int → Int → Int → Int → Int → Int → Int → Int → Int → Int → Int → ByteArray → ByteArray → ByteArray → ByteArray → ByteArray → ByteArray → Int → Int → Int → Int → Int → Int → Int → Int → Int → Int → Int → Int → Option (Bool)
  | 0, _, _, _, _, _, _, _, _, _, _, _, _, _, _, _, _, _, _, _, _, _, _, _, _, _, _, _, _, _, _, _, _ => none
  | k + 1, x5, x6, x13, x302000, x302001, x302002, x302003, x302004, x302005, x302006, x302007, x302008, x302009, x302010, x302011, x302012, x302013, x302014, x302015, x302016, x315000, x315001, x315002, x315003, x321000, x321001, x321002, x321003, x322000, x322001, x322002, x322003 => if x13 < (x6.length : Int) then (if 0 ≤ x13 then ((quirelaw05_within.f ((rd_T38 x6 x13).f0) ((rd_T38 x6 x13).f1) ((rd_T38 x6 x13).f2) ((rd_T38 x6 x13).f3) x322000 x322001 x322002 x322003).bind fun t330 => (if t330 = true then (if ((rd_T38 x6 x13).f1) = x302002 then (if ((rd_T38 x6 x13).f3) = (wrap64 ((wrap64 (x302001 - x302002)) - x302003)) then (if 0 < (x6.length : Int) then (if ((rd_T38 x6 x13).f2) = ((rd_T38 x6 0).f2) then (quirelaw05_SectionApart.j3 k x5 x6 x13 (decide (((rd_T38 x6 x13).f2) < 10)) x302000 x302001 x302002 x302003 x302004 x302005 x302006 x302007 x302008 x302009 x302010 x302011 x302012 x302013 x302014 x302015 x302016 x315000 x315001 x315002 x315003 x321000 x321001 x321002 x321003 x322000 x322001 x322002 x322003) else (quirelaw05_SectionApart.j3 k x5 x6 x13 true x302000 x302001 x302002 x302003 x302004 x302005 x302006 x302007 x302008 x302009 x302010 x302011 x302012 x302013 x302014 x302015 x302016 x315000 x315001 x315002 x315003 x321000 x321001 x321002 x321003 x322000 x322001 x322002 x322003)) else (none)) else (quirelaw05_SectionApart.j3 k x5 x6 x13 true x302000 x302001 x302002 x302003 x302004 x302005 x302006 x302007 x302008 x302009 x302010 x302011 x302012 x302013 x302014 x302015 x302016 x315000 x315001 x315002 x315003 x321000 x321001 x321002 x321003 x322000 x322001 x322002 x322003)) else (quirelaw05_SectionApart.j3 k x5 x6 x13 true x302000 x302001 x302002 x302003 x302004 x302005 x302006 x302007 x302008 x302009 x302010 x302011 x302012 x302013 x302014 x302015 x302016 x315000 x315001 x315002 x315003 x321000 x321001 x321002 x321003 x322000 x322001 x322002 x322003)) else (quirelaw05_SectionApart.j3 k x5 x6 x13 true x302000 x302001 x302002 x302003 x302004 x302005 x302006 x302007 x302008 x302009 x302010 x302011 x302012 x302013 x302014 x302015 x302016 x315000 x315001 x315002 x315003 x321000 x321001 x321002 x321003 x322000 x322001 x322002 x322003))) else (none)) else (if 0 ≤ (wrap64 ((x6.length : Int) - 1)) then (if (wrap64 ((x6.length : Int) - 1)) < (x6.length : Int) then (if 0 < (x6.length : Int) then (if x5 = true then (if (wrap64 ((wrap64 ((wrap64 (((rd_T38 x6 0).f0) + x302000)) - ((rd_T38 x6 (wrap64 ((x6.length : Int) - 1))).f0))) - ((rd_T38 x6 (wrap64 ((x6.length : Int) - 1))).f2))) ≥ (wrap64 (x302004 + x302005)) then (if (wrap64 ((wrap64 ((wrap64 (((rd_T38 x6 0).f0) + x302000)) - ((rd_T38 x6 (wrap64 ((x6.length : Int) - 1))).f0))) - ((rd_T38 x6 (wrap64 ((x6.length : Int) - 1))).f2))) < (wrap64 ((wrap64 (x302004 + x302005)) + x302006)) then ((quirelaw05_within.f x315000 x315001 x315002 x315003 0 0 x302000 x302002).bind fun t325 => (if t325 = true then ((quirelaw05_within.f x321000 x321001 x321002 x321003 0 (wrap64 (x302001 - x302003)) x302000 x302003).bind fun t326 => (if t326 = true then (if x315000 = ((rd_T38 x6 0).f0) then (if x321000 = ((rd_T38 x6 0).f0) then (some ((wrap64 (x315000 + x315002)) == (wrap64 (((rd_T38 x6 (wrap64 ((x6.length : Int) - 1))).f0) + ((rd_T38 x6 (wrap64 ((x6.length : Int) - 1))).f2))))) else (some false)) else (some false)) else (some false))) else (some false))) else (some false)) else (some false)) else (some false)) else (none)) else (none)) else (none))
def quirelaw05_SectionApart.j3 : Nat → Bool → List (S38) → Int → Bool → Int → Int → Int → Int → Int → Int → Int → Int → Int → Int → Int → ByteArray → ByteArray → ByteArray → ByteArray → ByteArray → ByteArray → Int → Int → Int → Int → Int → Int → Int → Int → Int → Int → Int → Int → Option (Bool)
  | 0, _, _, _, _, _, _, _, _, _, _, _, _, _, _, _, _, _, _, _, _, _, _, _, _, _, _, _, _, _, _, _, _, _ => none
  | k + 1, x5, x6, x13, x132, x302000, x302001, x302002, x302003, x302004, x302005, x302006, x302007, x302008, x302009, x302010, x302011, x302012, x302013, x302014, x302015, x302016, x315000, x315001, x315002, x315003, x321000, x321001, x321002, x321003, x322000, x322001, x322002, x322003 => if x132 = true then (some false) else (if x13 > 0 then (if 0 ≤ x13 then (if x13 < (x6.length : Int) then (if 0 ≤ (wrap64 (x13 - 1)) then (if (wrap64 (x13 - 1)) < (x6.length : Int) then (if ((rd_T38 x6 x13).f0) = (wrap64 ((wrap64 (((rd_T38 x6 (wrap64 (x13 - 1))).f0) + ((rd_T38 x6 (wrap64 (x13 - 1))).f2))) + x302007)) then (quirelaw05_SectionApart.l0 k x5 x6 (wrap64 (x13 + 1)) x302000 x302001 x302002 x302003 x302004 x302005 x302006 x302007 x302008 x302009 x302010 x302011 x302012 x302013 x302014 x302015 x302016 x315000 x315001 x315002 x315003 x321000 x321001 x321002 x321003 x322000 x322001 x322002 x322003) else (some false)) else (none)) else (none)) else (none)) else (none)) else (quirelaw05_SectionApart.l0 k x5 x6 (wrap64 (x13 + 1)) x302000 x302001 x302002 x302003 x302004 x302005 x302006 x302007 x302008 x302009 x302010 x302011 x302012 x302013 x302014 x302015 x302016 x315000 x315001 x315002 x315003 x321000 x321001 x321002 x321003 x322000 x322001 x322002 x322003))
end
def quirelaw05_SectionApart.f (k : Nat) (a0_0 : Int) (a0_1 : Int) (a0_2 : Int) (a0_3 : Int) (a0_4 : Int) (a0_5 : Int) (a0_6 : Int) (a0_7 : Int) (a0_8 : Int) (a0_9 : Int) (a0_10 : Int) (a0_11 : ByteArray) (a0_12 : ByteArray) (a0_13 : ByteArray) (a0_14 : ByteArray) (a0_15 : ByteArray) (a0_16 : ByteArray) (a1 : Int) : Option (Bool) := (quirelaw05_awake.f k).bind fun t302 => ((quirelaw05_small.f a0_0 a0_1 a0_2 a0_3 a0_4 a0_5 a0_6 a0_7 a0_8 a0_9 a0_10 a0_11 a0_12 a0_13 a0_14 a0_15 a0_16).bind fun t303 => (if t303 = true then ((section_Check.f a0_0 a0_1 a0_2 a0_3 a0_4 a0_5 a0_6 a0_7 a0_8 a0_9 a0_10 a0_11 a0_12 a0_13 a0_14 a0_15 a0_16).bind fun t304 => (if t304 = 0 then (if a1 < 1 then (quirelaw05_SectionApart.j0 k a1 t302 true a0_0 a0_1 a0_2 a0_3 a0_4 a0_5 a0_6 a0_7 a0_8 a0_9 a0_10 a0_11 a0_12 a0_13 a0_14 a0_15 a0_16) else (quirelaw05_SectionApart.j0 k a1 t302 (decide (a1 > 4096)) a0_0 a0_1 a0_2 a0_3 a0_4 a0_5 a0_6 a0_7 a0_8 a0_9 a0_10 a0_11 a0_12 a0_13 a0_14 a0_15 a0_16)) else (quirelaw05_SectionApart.j0 k a1 t302 true a0_0 a0_1 a0_2 a0_3 a0_4 a0_5 a0_6 a0_7 a0_8 a0_9 a0_10 a0_11 a0_12 a0_13 a0_14 a0_15 a0_16))) else (quirelaw05_SectionApart.j0 k a1 t302 true a0_0 a0_1 a0_2 a0_3 a0_4 a0_5 a0_6 a0_7 a0_8 a0_9 a0_10 a0_11 a0_12 a0_13 a0_14 a0_15 a0_16)))
theorem quirelaw05_SectionApart.mono_l : ∀ k, (∀ y0 y1 y2 y3 y4 y5 y6 y7 y8 y9 y10 y11 y12 y13 y14 y15 y16 y17 y18 y19, LeO (quirelaw05_SectionApart.j0 k y0 y1 y2 y3 y4 y5 y6 y7 y8 y9 y10 y11 y12 y13 y14 y15 y16 y17 y18 y19) (quirelaw05_SectionApart.j0 (k + 1) y0 y1 y2 y3 y4 y5 y6 y7 y8 y9 y10 y11 y12 y13 y14 y15 y16 y17 y18 y19)) ∧ (∀ y0 y1 y2 y3 y4 y5 y6 y7 y8 y9 y10 y11 y12 y13 y14 y15 y16 y17 y18 y19 y20 y21 y22 y23 y24 y25 y26 y27, LeO (quirelaw05_SectionApart.j1 k y0 y1 y2 y3 y4 y5 y6 y7 y8 y9 y10 y11 y12 y13 y14 y15 y16 y17 y18 y19 y20 y21 y22 y23 y24 y25 y26 y27) (quirelaw05_SectionApart.j1 (k + 1) y0 y1 y2 y3 y4 y5 y6 y7 y8 y9 y10 y11 y12 y13 y14 y15 y16 y17 y18 y19 y20 y21 y22 y23 y24 y25 y26 y27)) ∧ (∀ y0 y1 y2 y3 y4 y5 y6 y7 y8 y9 y10 y11 y12 y13 y14 y15 y16 y17 y18 y19 y20 y21 y22 y23 y24 y25 y26 y27 y28 y29 y30 y31, LeO (quirelaw05_SectionApart.l0 k y0 y1 y2 y3 y4 y5 y6 y7 y8 y9 y10 y11 y12 y13 y14 y15 y16 y17 y18 y19 y20 y21 y22 y23 y24 y25 y26 y27 y28 y29 y30 y31) (quirelaw05_SectionApart.l0 (k + 1) y0 y1 y2 y3 y4 y5 y6 y7 y8 y9 y10 y11 y12 y13 y14 y15 y16 y17 y18 y19 y20 y21 y22 y23 y24 y25 y26 y27 y28 y29 y30 y31)) ∧ (∀ y0 y1 y2 y3 y4 y5 y6 y7 y8 y9 y10 y11 y12 y13 y14 y15 y16 y17 y18 y19 y20 y21 y22 y23 y24 y25 y26 y27 y28 y29 y30 y31 y32, LeO (quirelaw05_SectionApart.j3 k y0 y1 y2 y3 y4 y5 y6 y7 y8 y9 y10 y11 y12 y13 y14 y15 y16 y17 y18 y19 y20 y21 y22 y23 y24 y25 y26 y27 y28 y29 y30 y31 y32) (quirelaw05_SectionApart.j3 (k + 1) y0 y1 y2 y3 y4 y5 y6 y7 y8 y9 y10 y11 y12 y13 y14 y15 y16 y17 y18 y19 y20 y21 y22 y23 y24 y25 y26 y27 y28 y29 y30 y31 y32))
  | 0 => ⟨fun _ _ _ _ _ _ _ _ _ _ _ _ _ _ _ _ _ _ _ _ r h => by simp [quirelaw05_SectionApart.j0] at h, fun _ _ _ _ _ _ _ _ _ _ _ _ _ _ _ _ _ _ _ _ _ _ _ _ _ _ _ _ r h => by simp [quirelaw05_SectionApart.j1] at h, fun _ _ _ _ _ _ _ _ _ _ _ _ _ _ _ _ _ _ _ _ _ _ _ _ _ _ _ _ _ _ _ _ r h => by simp [quirelaw05_SectionApart.l0] at h, fun _ _ _ _ _ _ _ _ _ _ _ _ _ _ _ _ _ _ _ _ _ _ _ _ _ _ _ _ _ _ _ _ _ r h => by simp [quirelaw05_SectionApart.j3] at h⟩
  | k + 1 => by
    obtain ⟨ih0, ih1, ih2, ih3⟩ := quirelaw05_SectionApart.mono_l k
    refine ⟨?_, ?_, ?_, ?_⟩
    · intro y0 y1 y2 y3 y4 y5 y6 y7 y8 y9 y10 y11 y12 y13 y14 y15 y16 y17 y18 y19
      unfold quirelaw05_SectionApart.j0
      repeat' first
      | (with_reducible exact ih0 _ _ _ _ _ _ _ _ _ _ _ _ _ _ _ _ _ _ _ _)
      | (with_reducible exact ih1 _ _ _ _ _ _ _ _ _ _ _ _ _ _ _ _ _ _ _ _ _ _ _ _ _ _ _ _)
      | (with_reducible exact ih2 _ _ _ _ _ _ _ _ _ _ _ _ _ _ _ _ _ _ _ _ _ _ _ _ _ _ _ _ _ _ _ _)
      | (with_reducible exact ih3 _ _ _ _ _ _ _ _ _ _ _ _ _ _ _ _ _ _ _ _ _ _ _ _ _ _ _ _ _ _ _ _ _)
      | (with_reducible exact quirelaw05_awake.mono _)
      | (with_reducible exact section_Columns.mono _ _ _ _ _ _ _ _ _ _ _ _ _ _ _ _ _ _ _)
      | (with_reducible exact LeO.refl _)
      | (with_reducible exact LeO.none _)
      | (with_reducible refine LeO.ite ?_ ?_)
      | (with_reducible refine LeO.bind ?_ (fun _ => ?_))
      | exact ih0 _ _ _ _ _ _ _ _ _ _ _ _ _ _ _ _ _ _ _ _
      | exact ih1 _ _ _ _ _ _ _ _ _ _ _ _ _ _ _ _ _ _ _ _ _ _ _ _ _ _ _ _
      | exact ih2 _ _ _ _ _ _ _ _ _ _ _ _ _ _ _ _ _ _ _ _ _ _ _ _ _ _ _ _ _ _ _ _
      | exact ih3 _ _ _ _ _ _ _ _ _ _ _ _ _ _ _ _ _ _ _ _ _ _ _ _ _ _ _ _ _ _ _ _ _
      | exact quirelaw05_awake.mono _
      | exact section_Columns.mono _ _ _ _ _ _ _ _ _ _ _ _ _ _ _ _ _ _ _
      | exact LeO.none _
      | refine LeO.ite ?_ ?_
      | refine LeO.bind ?_ (fun _ => ?_)
    · intro y0 y1 y2 y3 y4 y5 y6 y7 y8 y9 y10 y11 y12 y13 y14 y15 y16 y17 y18 y19 y20 y21 y22 y23 y24 y25 y26 y27
      unfold quirelaw05_SectionApart.j1
      repeat' first
      | (with_reducible exact ih0 _ _ _ _ _ _ _ _ _ _ _ _ _ _ _ _ _ _ _ _)
      | (with_reducible exact ih1 _ _ _ _ _ _ _ _ _ _ _ _ _ _ _ _ _ _ _ _ _ _ _ _ _ _ _ _)
      | (with_reducible exact ih2 _ _ _ _ _ _ _ _ _ _ _ _ _ _ _ _ _ _ _ _ _ _ _ _ _ _ _ _ _ _ _ _)
      | (with_reducible exact ih3 _ _ _ _ _ _ _ _ _ _ _ _ _ _ _ _ _ _ _ _ _ _ _ _ _ _ _ _ _ _ _ _ _)
      | (with_reducible exact quirelaw05_awake.mono _)
      | (with_reducible exact section_Columns.mono _ _ _ _ _ _ _ _ _ _ _ _ _ _ _ _ _ _ _)
      | (with_reducible exact LeO.refl _)
      | (with_reducible exact LeO.none _)
      | (with_reducible refine LeO.ite ?_ ?_)
      | (with_reducible refine LeO.bind ?_ (fun _ => ?_))
      | exact ih0 _ _ _ _ _ _ _ _ _ _ _ _ _ _ _ _ _ _ _ _
      | exact ih1 _ _ _ _ _ _ _ _ _ _ _ _ _ _ _ _ _ _ _ _ _ _ _ _ _ _ _ _
      | exact ih2 _ _ _ _ _ _ _ _ _ _ _ _ _ _ _ _ _ _ _ _ _ _ _ _ _ _ _ _ _ _ _ _
      | exact ih3 _ _ _ _ _ _ _ _ _ _ _ _ _ _ _ _ _ _ _ _ _ _ _ _ _ _ _ _ _ _ _ _ _
      | exact quirelaw05_awake.mono _
      | exact section_Columns.mono _ _ _ _ _ _ _ _ _ _ _ _ _ _ _ _ _ _ _
      | exact LeO.none _
      | refine LeO.ite ?_ ?_
      | refine LeO.bind ?_ (fun _ => ?_)
    · intro y0 y1 y2 y3 y4 y5 y6 y7 y8 y9 y10 y11 y12 y13 y14 y15 y16 y17 y18 y19 y20 y21 y22 y23 y24 y25 y26 y27 y28 y29 y30 y31
      unfold quirelaw05_SectionApart.l0
      repeat' first
      | (with_reducible exact ih0 _ _ _ _ _ _ _ _ _ _ _ _ _ _ _ _ _ _ _ _)
      | (with_reducible exact ih1 _ _ _ _ _ _ _ _ _ _ _ _ _ _ _ _ _ _ _ _ _ _ _ _ _ _ _ _)
      | (with_reducible exact ih2 _ _ _ _ _ _ _ _ _ _ _ _ _ _ _ _ _ _ _ _ _ _ _ _ _ _ _ _ _ _ _ _)
      | (with_reducible exact ih3 _ _ _ _ _ _ _ _ _ _ _ _ _ _ _ _ _ _ _ _ _ _ _ _ _ _ _ _ _ _ _ _ _)
      | (with_reducible exact quirelaw05_awake.mono _)
      | (with_reducible exact section_Columns.mono _ _ _ _ _ _ _ _ _ _ _ _ _ _ _ _ _ _ _)
      | (with_reducible exact LeO.refl _)
      | (with_reducible exact LeO.none _)
      | (with_reducible refine LeO.ite ?_ ?_)
      | (with_reducible refine LeO.bind ?_ (fun _ => ?_))
      | exact ih0 _ _ _ _ _ _ _ _ _ _ _ _ _ _ _ _ _ _ _ _
      | exact ih1 _ _ _ _ _ _ _ _ _ _ _ _ _ _ _ _ _ _ _ _ _ _ _ _ _ _ _ _
      | exact ih2 _ _ _ _ _ _ _ _ _ _ _ _ _ _ _ _ _ _ _ _ _ _ _ _ _ _ _ _ _ _ _ _
      | exact ih3 _ _ _ _ _ _ _ _ _ _ _ _ _ _ _ _ _ _ _ _ _ _ _ _ _ _ _ _ _ _ _ _ _
      | exact quirelaw05_awake.mono _
      | exact section_Columns.mono _ _ _ _ _ _ _ _ _ _ _ _ _ _ _ _ _ _ _
      | exact LeO.none _
      | refine LeO.ite ?_ ?_
      | refine LeO.bind ?_ (fun _ => ?_)
    · intro y0 y1 y2 y3 y4 y5 y6 y7 y8 y9 y10 y11 y12 y13 y14 y15 y16 y17 y18 y19 y20 y21 y22 y23 y24 y25 y26 y27 y28 y29 y30 y31 y32
      unfold quirelaw05_SectionApart.j3
      repeat' first
      | (with_reducible exact ih0 _ _ _ _ _ _ _ _ _ _ _ _ _ _ _ _ _ _ _ _)
      | (with_reducible exact ih1 _ _ _ _ _ _ _ _ _ _ _ _ _ _ _ _ _ _ _ _ _ _ _ _ _ _ _ _)
      | (with_reducible exact ih2 _ _ _ _ _ _ _ _ _ _ _ _ _ _ _ _ _ _ _ _ _ _ _ _ _ _ _ _ _ _ _ _)
      | (with_reducible exact ih3 _ _ _ _ _ _ _ _ _ _ _ _ _ _ _ _ _ _ _ _ _ _ _ _ _ _ _ _ _ _ _ _ _)
      | (with_reducible exact quirelaw05_awake.mono _)
      | (with_reducible exact section_Columns.mono _ _ _ _ _ _ _ _ _ _ _ _ _ _ _ _ _ _ _)
      | (with_reducible exact LeO.refl _)
      | (with_reducible exact LeO.none _)
      | (with_reducible refine LeO.ite ?_ ?_)
      | (with_reducible refine LeO.bind ?_ (fun _ => ?_))
      | exact ih0 _ _ _ _ _ _ _ _ _ _ _ _ _ _ _ _ _ _ _ _
      | exact ih1 _ _ _ _ _ _ _ _ _ _ _ _ _ _ _ _ _ _ _ _ _ _ _ _ _ _ _ _
      | exact ih2 _ _ _ _ _ _ _ _ _ _ _ _ _ _ _ _ _ _ _ _ _ _ _ _ _ _ _ _ _ _ _ _
      | exact ih3 _ _ _ _ _ _ _ _ _ _ _ _ _ _ _ _ _ _ _ _ _ _ _ _ _ _ _ _ _ _ _ _ _
      | exact quirelaw05_awake.mono _
      | exact section_Columns.mono _ _ _ _ _ _ _ _ _ _ _ _ _ _ _ _ _ _ _
      | exact LeO.none _
      | refine LeO.ite ?_ ?_
      | refine LeO.bind ?_ (fun _ => ?_)
theorem quirelaw05_SectionApart.mono : ∀ a0 a1 a2 a3 a4 a5 a6 a7 a8 a9 a10 a11 a12 a13 a14 a15 a16 a17 k, LeO (quirelaw05_SectionApart.f k a0 a1 a2 a3 a4 a5 a6 a7 a8 a9 a10 a11 a12 a13 a14 a15 a16 a17) (quirelaw05_SectionApart.f (k + 1) a0 a1 a2 a3 a4 a5 a6 a7 a8 a9 a10 a11 a12 a13 a14 a15 a16 a17) := by
  intro a0 a1 a2 a3 a4 a5 a6 a7 a8 a9 a10 a11 a12 a13 a14 a15 a16 a17 k
  obtain ⟨ih0, ih1, ih2, ih3⟩ := quirelaw05_SectionApart.mono_l k
  unfold quirelaw05_SectionApart.f
  repeat' first
      | (with_reducible exact ih0 _ _ _ _ _ _ _ _ _ _ _ _ _ _ _ _ _ _ _ _)
      | (with_reducible exact ih1 _ _ _ _ _ _ _ _ _ _ _ _ _ _ _ _ _ _ _ _ _ _ _ _ _ _ _ _)
      | (with_reducible exact ih2 _ _ _ _ _ _ _ _ _ _ _ _ _ _ _ _ _ _ _ _ _ _ _ _ _ _ _ _ _ _ _ _)
      | (with_reducible exact ih3 _ _ _ _ _ _ _ _ _ _ _ _ _ _ _ _ _ _ _ _ _ _ _ _ _ _ _ _ _ _ _ _ _)
      | (with_reducible exact quirelaw05_awake.mono _)
      | (with_reducible exact section_Columns.mono _ _ _ _ _ _ _ _ _ _ _ _ _ _ _ _ _ _ _)
      | (with_reducible exact LeO.refl _)
      | (with_reducible exact LeO.none _)
      | (with_reducible refine LeO.ite ?_ ?_)
      | (with_reducible refine LeO.bind ?_ (fun _ => ?_))
      | exact ih0 _ _ _ _ _ _ _ _ _ _ _ _ _ _ _ _ _ _ _ _
      | exact ih1 _ _ _ _ _ _ _ _ _ _ _ _ _ _ _ _ _ _ _ _ _ _ _ _ _ _ _ _
      | exact ih2 _ _ _ _ _ _ _ _ _ _ _ _ _ _ _ _ _ _ _ _ _ _ _ _ _ _ _ _ _ _ _ _
      | exact ih3 _ _ _ _ _ _ _ _ _ _ _ _ _ _ _ _ _ _ _ _ _ _ _ _ _ _ _ _ _ _ _ _ _
      | exact quirelaw05_awake.mono _
      | exact section_Columns.mono _ _ _ _ _ _ _ _ _ _ _ _ _ _ _ _ _ _ _
      | exact LeO.none _
      | refine LeO.ite ?_ ?_
      | refine LeO.bind ?_ (fun _ => ?_)
def quirelaw05_SectionApart.T13 : Bool × List (List Nat × List Nat) := (true, [([], []), ([], []), ([0, 1], [0, 1]), ([2], [2]), ([], []), ([3, 4], [3, 4]), ([5], [5]), ([6, 5], [6]), ([7], [7]), ([7], [7]), ([8, 9, 7], [7, 8, 9]), ([10, 7], [7, 10]), ([11, 7], [7, 11]), ([7], [7]), ([13, 7], [7, 13]), ([12, 14, 7], [7, 12, 14]), ([7, 15], [7, 15]), ([16, 7], [16]), ([17], [17]), ([17], [17]), ([18, 19, 17], [17, 18, 19]), ([20, 17], [17, 20]), ([21, 17], [17, 21]), ([17], [17]), ([23, 17], [17, 23]), ([17], [17]), ([25, 17], [17, 25]), ([24, 26, 17], [17, 24, 26]), ([17], [17]), ([28, 17], [17, 28]), ([27, 29, 17], [17, 27, 29]), ([22, 30, 17], [17, 22, 30]), ([17, 31], [17, 31]), ([32, 17], [32]), ([33], [33]), ([33], [33]), ([34, 35, 33], [33, 34, 35]), ([36, 33], [33, 36]), ([37, 33], [33, 37]), ([33], [33]), ([39, 33], [33, 39]), ([40, 33], [33, 40]), ([41, 33], [33, 41]), ([38, 42, 33], [33, 38, 42]), ([33, 43], [33, 43]), ([44, 33], [44]), ([45], [45]), ([45], [45]), ([46, 47, 45], [45, 46, 47]), ([48, 45], [45, 48]), ([49, 45], [45, 49]), ([50, 45], [45, 50]), ([45, 51], [45, 51])])
def quirelaw05_SectionApart.B13 : List Nat := [0, 0, 3, 7, 0, 31, 63, 127, 255, 255, 1023, 2047, 4095, 255, 8447, 32767, 65535, 131071, 262143, 262143, 1048575, 2097151, 4194303, 262143, 8650751, 262143, 33816575, 126091263, 262143, 268697599, 1065615359, 2147483647, 4294967295, 8589934591, 17179869183, 17179869183, 68719476735, 137438953471, 274877906943, 17179869183, 566935683071, 1666447310847, 3865470566399, 8796093022207, 17592186044415, 35184372088831, 70368744177663, 70368744177663, 281474976710655, 562949953421311, 1125899906842623, 2251799813685247, 4503599627370495]
theorem quirelaw05_SectionApart.tab13 : rtab .any (opsOf Try.f5 13) = quirelaw05_SectionApart.T13 := by kernel_rfl
theorem quirelaw05_SectionApart.bits13 : waitsOk quirelaw05_SectionApart.T13.2 quirelaw05_SectionApart.B13 = true := by kernel_rfl
def quirelaw05_SectionApart.T15 : Bool × List (List Nat × List Nat) := (true, [([], []), ([0], [0]), ([1], [1]), ([2], [2]), ([2], [2]), ([3, 4, 2], [2, 3, 4]), ([5, 2], [2, 5]), ([6, 2], [2, 6]), ([2], [2]), ([2], [2]), ([9, 2], [2, 9]), ([8, 10, 2], [2, 8, 10]), ([11, 2], [2, 11]), ([12, 2], [2, 12]), ([2], [2]), ([2], [2]), ([15, 2], [2, 15]), ([14, 16, 2], [2, 14, 16]), ([17, 2], [2, 17]), ([18, 2], [2, 18]), ([13, 19, 2], [2, 13, 19]), ([2], [2]), ([21, 2], [2, 21]), ([20, 22, 2], [2, 20, 22]), ([7, 23, 2], [2, 7, 23]), ([2, 24], [2, 24])])
def quirelaw05_SectionApart.B15 : List Nat := [0, 1, 3, 7, 7, 31, 63, 127, 7, 7, 519, 1799, 3847, 7943, 7, 7, 32775, 114695, 245767, 507911, 1048327, 7, 2097159, 8388359, 16777215, 33554431]
theorem quirelaw05_SectionApart.tab15 : rtab .any (opsOf Try.f5 15) = quirelaw05_SectionApart.T15 := by kernel_rfl
theorem quirelaw05_SectionApart.bits15 : waitsOk quirelaw05_SectionApart.T15.2 quirelaw05_SectionApart.B15 = true := by kernel_rfl
def quirelaw05_SectionApart.T18 : Bool × List (List Nat × List Nat) := (true, [([], []), ([0], [0]), ([1], [1]), ([2], [2]), ([], []), ([4], [4]), ([3, 5], [3, 5]), ([], []), ([7], [7]), ([6, 8], [6, 8]), ([], []), ([10], [10]), ([9, 11], [9, 11]), ([12, 0, 1, 2, 3, 4, 5, 6, 7, 8, 9, 10, 11, 12], [12])])
def quirelaw05_SectionApart.B18 : List Nat := [0, 1, 3, 7, 0, 16, 63, 0, 128, 511, 0, 1024, 4095, 8191]
theorem quirelaw05_SectionApart.tab18 : rtab .any (opsOf Try.f5 18) = quirelaw05_SectionApart.T18 := by kernel_rfl
theorem quirelaw05_SectionApart.bits18 : waitsOk quirelaw05_SectionApart.T18.2 quirelaw05_SectionApart.B18 = true := by kernel_rfl
def quirelaw05_SectionApart.T19 : Bool × List (List Nat × List Nat) := (true, [([], []), ([0], [0]), ([1], [1]), ([1], [1]), ([3, 1], [1, 3]), ([1], [1]), ([5, 1], [1, 5]), ([4, 6, 1], [1, 4, 6]), ([2, 7, 1], [1, 2, 7]), ([1, 8], [1, 8]), ([9, 1], [9]), ([10], [10]), ([10], [10]), ([12, 10], [10, 12]), ([10], [10]), ([14, 10], [10, 14]), ([13, 15, 10], [10, 13, 15]), ([10], [10]), ([17, 10], [10, 17]), ([16, 18, 10], [10, 16, 18]), ([11, 19, 10], [10, 11, 19]), ([10, 20], [10, 20]), ([21, 10], [21]), ([22], [22]), ([22], [22]), ([24, 22], [22, 24]), ([22], [22]), ([26, 22], [22, 26]), ([25, 27, 22], [22, 25, 27]), ([23, 28, 22, 22], [22, 23, 28]), ([22, 29], [22, 29]), ([30, 29], [30]), ([31], [31]), ([31], [31]), ([33, 31], [31, 33]), ([31], [31]), ([35, 31], [31, 35]), ([34, 36, 31], [31, 34, 36]), ([31], [31]), ([38, 31], [31, 38]), ([31], [31]), ([40, 31], [31, 40]), ([37, 39, 41, 31], [31, 37, 39, 41]), ([32, 42, 31, 31], [31, 32, 42]), ([31, 43], [31, 43]), ([44, 43], [44]), ([45], [45]), ([46, 45], [45, 46]), ([45], [45]), ([48, 45], [45, 48]), ([49, 45], [45, 49]), ([50, 45], [45, 50]), ([47, 51, 45], [45, 47, 51]), ([45, 52], [45, 52]), ([53, 45], [53]), ([54], [54]), ([55, 54], [54, 55]), ([54], [54]), ([57, 54], [54, 57]), ([58, 54], [54, 58]), ([59, 54], [54, 59]), ([56, 60, 54], [54, 56, 60]), ([54, 61], [54, 61]), ([62, 54], [62]), ([63], [63]), ([64, 63], [63, 64]), ([63], [63]), ([66, 63], [63, 66]), ([65, 67, 63], [63, 65, 67]), ([63], [63]), ([69, 63], [63, 69]), ([63], [63]), ([71, 63], [63, 71]), ([70, 72, 63], [63, 70, 72]), ([68, 73, 63], [63, 68, 73]), ([63, 74], [63, 74]), ([75, 63, 0, 1, 2, 3, 4, 5, 6, 7, 8, 9, 10, 11, 12, 13, 14, 15, 16, 17, 18, 19, 20, 21, 22, 23, 24, 25, 26, 27, 28, 29, 30, 31, 32, 33, 34, 35, 36, 37, 38, 39, 40, 41, 42, 43, 44, 45, 46, 47, 48, 49, 50, 51, 52, 53, 54, 55, 56, 57, 58, 59, 60, 61, 62, 63, 64, 65, 66, 67, 68, 69, 70, 71, 72, 73, 74, 75], [75])])
def quirelaw05_SectionApart.B19 : List Nat := [0, 1, 3, 3, 11, 3, 35, 123, 255, 511, 1023, 2047, 2047, 6143, 2047, 18431, 63487, 2047, 133119, 522239, 1048575, 2097151, 4194303, 8388607, 8388607, 25165823, 8388607, 75497471, 260046847, 536870911, 1073741823, 2147483647, 4294967295, 4294967295, 12884901887, 4294967295, 38654705663, 133143986175, 4294967295, 279172874239, 4294967295, 1103806595071, 4393751543807, 8796093022207, 17592186044415, 35184372088831, 70368744177663, 140737488355327, 70368744177663, 351843720888319, 914793674309631, 2040693581152255, 4503599627370495, 9007199254740991, 18014398509481983, 36028797018963967, 72057594037927935, 36028797018963967, 180143985094819839, 468374361246531583, 1044835113549955071, 2305843009213693951, 4611686018427387903, 9223372036854775807, 18446744073709551615, 36893488147419103231, 18446744073709551615, 92233720368547758079, 295147905179352825855, 18446744073709551615, 608742554432415203327, 18446744073709551615, 2379629985508532158463, 8872883899454294327295, 18889465931478580854783, 37778931862957161709567, 75557863725914323419135]
theorem quirelaw05_SectionApart.tab19 : rtab .any (opsOf Try.f5 19) = quirelaw05_SectionApart.T19 := by kernel_rfl
theorem quirelaw05_SectionApart.bits19 : waitsOk quirelaw05_SectionApart.T19.2 quirelaw05_SectionApart.B19 = true := by kernel_rfl
theorem quirelaw05_SectionApart.j1_true (y0 : Nat) (y1 : Bool) (y2 : List (S38)) (y4 : Int) (y5 : Int) (y6 : Int) (y7 : Int) (y8 : Int) (y9 : Int) (y10 : Int) (y11 : Int) (y12 : Int) (y13 : Int) (y14 : Int) (y15 : ByteArray) (y16 : ByteArray) (y17 : ByteArray) (y18 : ByteArray) (y19 : ByteArray) (y20 : ByteArray) (y21 : Int) (y22 : Int) (y23 : Int) (y24 : Int) (y25 : Int) (y26 : Int) (y27 : Int) (y28 : Int) : quirelaw05_SectionApart.j1 y0 y1 y2 true y4 y5 y6 y7 y8 y9 y10 y11 y12 y13 y14 y15 y16 y17 y18 y19 y20 y21 y22 y23 y24 y25 y26 y27 y28 ≠ some true := by
  cases y0 <;> simp [quirelaw05_SectionApart.j1]
theorem quirelaw05_SectionApart.j3_true (y0 : Nat) (y1 : Bool) (y2 : List (S38)) (y3 : Int) (y5 : Int) (y6 : Int) (y7 : Int) (y8 : Int) (y9 : Int) (y10 : Int) (y11 : Int) (y12 : Int) (y13 : Int) (y14 : Int) (y15 : Int) (y16 : ByteArray) (y17 : ByteArray) (y18 : ByteArray) (y19 : ByteArray) (y20 : ByteArray) (y21 : ByteArray) (y22 : Int) (y23 : Int) (y24 : Int) (y25 : Int) (y26 : Int) (y27 : Int) (y28 : Int) (y29 : Int) (y30 : Int) (y31 : Int) (y32 : Int) (y33 : Int) : quirelaw05_SectionApart.j3 y0 y1 y2 y3 true y5 y6 y7 y8 y9 y10 y11 y12 y13 y14 y15 y16 y17 y18 y19 y20 y21 y22 y23 y24 y25 y26 y27 y28 y29 y30 y31 y32 y33 ≠ some true := by
  cases y0 <;> simp [quirelaw05_SectionApart.j3]

end Go.Proofs.Ythpmchbbfbbakaa.PAll
