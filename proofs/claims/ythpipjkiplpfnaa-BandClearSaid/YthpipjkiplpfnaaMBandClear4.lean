/- The walk of a statement's Go functions to their answers in plain Lean: for every list that can be read; no further condition. -/
import Derived.Test.YthpipjkiplpfnaaPBandClearx0
import Derived.Test.YthpipjkiplpfnaaMBandClear2
import Derived.Test.YthpipjkiplpfnaaMBandClear3
namespace Go.Proofs.Ythpipjkiplpfnaa.PBandClear
open Go.RowKit Go.Proofs.YthpipjkiplpfnaaW.PrintWords Go.Proofs.YthpipjkiplpfnaaW.PrintLast Go.Proofs.YthpipjkiplpfnaaW.PrintMore
attribute [local go_sem] max2_int min2_int max_two min_two max_three min_three max_four min_four   -- for this text's walks alone
set_option linter.unusedVariables false
set_option linter.unusedSimpArgs false

/-! ### quirelaw15_BandClear: function 5 -/
mutual
def quirelaw15_BandClear.j0 : Nat → Int → List (S40) → Int → Int → Bool → Bool → Option (Bool)
 | 0, _, _, _, _, _, _ => none
 | k + 1, x0, x1, x2, x3, x9, x52 => if x52 = true then (some x9) else (quirelaw15_BandClear.l0 k x0 x1 x2 x3 x9 ([] : List (S24)) 0)
def quirelaw15_BandClear.l0 : Nat → Int → List (S40) → Int → Int → Bool → List (S24) → Int → Option (Bool)
 | 0, _, _, _, _, _, _, _ => none
 | k + 1, x0, x1, x2, x3, x9, x10, x11 => if x11 < (x1.length : Int) then (if 0 ≤ x11 then (if ((rd_T40 x1 x11).f0) = 0 then (if ((rd_T40 x1 x11).f1) < 0 then (quirelaw15_BandClear.j2 k x0 x1 x2 x3 x9 x10 x11 true ((rd_T40 x1 x11).f0) ((rd_T40 x1 x11).f1) ((rd_T40 x1 x11).f2) ((rd_T40 x1 x11).f3)) else (if ((rd_T40 x1 x11).f1) > 1000 then (quirelaw15_BandClear.j2 k x0 x1 x2 x3 x9 x10 x11 true ((rd_T40 x1 x11).f0) ((rd_T40 x1 x11).f1) ((rd_T40 x1 x11).f2) ((rd_T40 x1 x11).f3)) else (if ((rd_T40 x1 x11).f2) < 0 then (quirelaw15_BandClear.j2 k x0 x1 x2 x3 x9 x10 x11 true ((rd_T40 x1 x11).f0) ((rd_T40 x1 x11).f1) ((rd_T40 x1 x11).f2) ((rd_T40 x1 x11).f3)) else (if ((rd_T40 x1 x11).f2) > 200 then (quirelaw15_BandClear.j2 k x0 x1 x2 x3 x9 x10 x11 true ((rd_T40 x1 x11).f0) ((rd_T40 x1 x11).f1) ((rd_T40 x1 x11).f2) ((rd_T40 x1 x11).f3)) else (if ((rd_T40 x1 x11).f3) < 0 then (quirelaw15_BandClear.j2 k x0 x1 x2 x3 x9 x10 x11 true ((rd_T40 x1 x11).f0) ((rd_T40 x1 x11).f1) ((rd_T40 x1 x11).f2) ((rd_T40 x1 x11).f3)) else (quirelaw15_BandClear.j2 k x0 x1 x2 x3 x9 x10 x11 (decide (((rd_T40 x1 x11).f3) > 4095)) ((rd_T40 x1 x11).f0) ((rd_T40 x1 x11).f1) ((rd_T40 x1 x11).f2) ((rd_T40 x1 x11).f3))))))) else (if ((rd_T40 x1 x11).f0) = 2 then (if ((rd_T40 x1 x11).f1) < 0 then (quirelaw15_BandClear.j2 k x0 x1 x2 x3 x9 x10 x11 true ((rd_T40 x1 x11).f0) ((rd_T40 x1 x11).f1) ((rd_T40 x1 x11).f2) ((rd_T40 x1 x11).f3)) else (if ((rd_T40 x1 x11).f1) > 1000 then (quirelaw15_BandClear.j2 k x0 x1 x2 x3 x9 x10 x11 true ((rd_T40 x1 x11).f0) ((rd_T40 x1 x11).f1) ((rd_T40 x1 x11).f2) ((rd_T40 x1 x11).f3)) else (if ((rd_T40 x1 x11).f2) < 0 then (quirelaw15_BandClear.j2 k x0 x1 x2 x3 x9 x10 x11 true ((rd_T40 x1 x11).f0) ((rd_T40 x1 x11).f1) ((rd_T40 x1 x11).f2) ((rd_T40 x1 x11).f3)) else (if ((rd_T40 x1 x11).f2) > 200 then (quirelaw15_BandClear.j2 k x0 x1 x2 x3 x9 x10 x11 true ((rd_T40 x1 x11).f0) ((rd_T40 x1 x11).f1) ((rd_T40 x1 x11).f2) ((rd_T40 x1 x11).f3)) else (if ((rd_T40 x1 x11).f3) < 0 then (quirelaw15_BandClear.j2 k x0 x1 x2 x3 x9 x10 x11 true ((rd_T40 x1 x11).f0) ((rd_T40 x1 x11).f1) ((rd_T40 x1 x11).f2) ((rd_T40 x1 x11).f3)) else (quirelaw15_BandClear.j2 k x0 x1 x2 x3 x9 x10 x11 (decide (((rd_T40 x1 x11).f3) > 4095)) ((rd_T40 x1 x11).f0) ((rd_T40 x1 x11).f1) ((rd_T40 x1 x11).f2) ((rd_T40 x1 x11).f3))))))) else (quirelaw15_BandClear.j2 k x0 x1 x2 x3 x9 x10 x11 true ((rd_T40 x1 x11).f0) ((rd_T40 x1 x11).f1) ((rd_T40 x1 x11).f2) ((rd_T40 x1 x11).f3)))) else (none)) else ((band_Slots.f k x0 x10 x2 x3 256).bind fun bt169 => (if bt169.2 = 0 then (quirelaw15_BandClear.j5 k x0 x2 x3 x9 x10 bt169.1 ((bt169.1.length : Int) != 256)) else (quirelaw15_BandClear.j5 k x0 x2 x3 x9 x10 bt169.1 true)))
def quirelaw15_BandClear.j2 : Nat → Int → List (S40) → Int → Int → Bool → List (S24) → Int → Bool → Int → Int → Int → Int → Option (Bool)
 | 0, _, _, _, _, _, _, _, _, _, _, _, _ => none
 | k + 1, x0, x1, x2, x3, x9, x10, x11, x101, x156000, x156001, x156002, x156003 => if x101 = true then (some x9) else ((band_Put.f k x0 x10 x156000 x156001 x156002 x156003).bind fun bt156 => (if bt156.2.2.2.2 = 0 then (if bt156.1 = x156000 then (if bt156.2.2.1 = x156002 then (if bt156.2.1 < x156001 then (quirelaw15_BandClear.j3 k x0 x1 x2 x3 x9 x10 x11 true bt156.1 bt156.2.1 bt156.2.2.1 bt156.2.2.2.1) else (if bt156.2.2.2.1 > x156003 then (quirelaw15_BandClear.j3 k x0 x1 x2 x3 x9 x10 x11 true bt156.1 bt156.2.1 bt156.2.2.1 bt156.2.2.2.1) else (if bt156.2.2.2.1 < x156003 then (quirelaw15_BandClear.j3 k x0 x1 x2 x3 x9 x10 x11 (bt156.2.2.2.1 != (wrap64 (Int.tdiv (wrap64 (x0 - 10)) 2))) bt156.1 bt156.2.1 bt156.2.2.1 bt156.2.2.2.1) else (quirelaw15_BandClear.j3 k x0 x1 x2 x3 x9 x10 x11 false bt156.1 bt156.2.1 bt156.2.2.1 bt156.2.2.2.1)))) else (quirelaw15_BandClear.j3 k x0 x1 x2 x3 x9 x10 x11 true bt156.1 bt156.2.1 bt156.2.2.1 bt156.2.2.2.1)) else (quirelaw15_BandClear.j3 k x0 x1 x2 x3 x9 x10 x11 true bt156.1 bt156.2.1 bt156.2.2.1 bt156.2.2.2.1)) else (quirelaw15_BandClear.j3 k x0 x1 x2 x3 x9 x10 x11 true bt156.1 bt156.2.1 bt156.2.2.1 bt156.2.2.2.1)))
def quirelaw15_BandClear.j3 : Nat → Int → List (S40) → Int → Int → Bool → List (S24) → Int → Bool → Int → Int → Int → Int → Option (Bool)
 | 0, _, _, _, _, _, _, _, _, _, _, _, _ => none
 | k + 1, x0, x1, x2, x3, x9, x10, x11, x161, x162000, x162001, x162002, x162003 => if x161 = true then (some false) else (quirelaw15_BandClear.l1 k x0 x1 x2 x3 x9 x10 x11 0 x162000 x162001 x162002 x162003)
def quirelaw15_BandClear.l1 : Nat → Int → List (S40) → Int → Int → Bool → List (S24) → Int → Int → Int → Int → Int → Int → Option (Bool)
 | 0, _, _, _, _, _, _, _, _, _, _, _, _ => none
 | k + 1, x0, x1, x2, x3, x9, x10, x11, x15, x162000, x162001, x162002, x162003 => if x15 < (x10.length : Int) then (if 0 ≤ x15 then (if ((rd_T24 x10 x15).f0) = x162000 then ((quirelaw15_overlap.f ((rd_T24 x10 x15).f1) ((rd_T24 x10 x15).f2) x162001 x162002).bind fun t165 => (if t165 = true then (some false) else (quirelaw15_BandClear.l1 k x0 x1 x2 x3 x9 x10 x11 (wrap64 (x15 + 1)) x162000 x162001 x162002 x162003))) else (quirelaw15_BandClear.l1 k x0 x1 x2 x3 x9 x10 x11 (wrap64 (x15 + 1)) x162000 x162001 x162002 x162003)) else (none)) else (if x10.length < 4398046511104 then (quirelaw15_BandClear.l0 k x0 x1 x2 x3 x9 (x10 ++ [(⟨x162000, x162001, x162002, x162003⟩ : S24)]) (wrap64 (x11 + 1))) else (none))
def quirelaw15_BandClear.j5 : Nat → Int → Int → Int → Bool → List (S24) → List (S43) → Bool → Option (Bool)
 | 0, _, _, _, _, _, _, _ => none
 | k + 1, x0, x2, x3, x9, x10, x16, x211 => if x211 = true then (some false) else (quirelaw15_BandClear.l2 k x0 x2 x3 x9 x10 x16 0)
def quirelaw15_BandClear.l2 : Nat → Int → Int → Int → Bool → List (S24) → List (S43) → Int → Option (Bool)
 | 0, _, _, _, _, _, _, _ => none
 | k + 1, x0, x2, x3, x9, x10, x16, x18 => if x18 < (x16.length : Int) then (quirelaw15_BandClear.l3 k x0 x2 x3 x9 x10 x16 x18 0 0 0) else ((band_Clear.f k x10 x2).bind fun bt183 => (quirelaw15_BandClear.l4 k x2 x9 x10 bt183.1 bt183.2 0))
def quirelaw15_BandClear.l3 : Nat → Int → Int → Int → Bool → List (S24) → List (S43) → Int → Int → Int → Int → Option (Bool)
 | 0, _, _, _, _, _, _, _, _, _, _ => none
 | k + 1, x0, x2, x3, x9, x10, x16, x18, x19, x20, x21 => if x21 < (x10.length : Int) then (if 0 ≤ x21 then ((quirelaw15_overlap.f (wrap64 (x2 + (wrap64 (x18 * x3)))) x3 ((rd_T24 x10 x21).f1) ((rd_T24 x10 x21).f2)).bind fun t179 => (if t179 = true then (if ((rd_T24 x10 x21).f0) = 0 then (quirelaw15_BandClear.l3 k x0 x2 x3 x9 x10 x16 x18 (mx x19 ((rd_T24 x10 x21).f3)) x20 (wrap64 (x21 + 1))) else (quirelaw15_BandClear.l3 k x0 x2 x3 x9 x10 x16 x18 x19 (mx x20 ((rd_T24 x10 x21).f3)) (wrap64 (x21 + 1)))) else (quirelaw15_BandClear.l3 k x0 x2 x3 x9 x10 x16 x18 x19 x20 (wrap64 (x21 + 1))))) else (none)) else (if 0 ≤ x18 then (if x18 < (x16.length : Int) then (if ((rd_T43 x16 x18).f1) < 10 then (some false) else (if ((rd_T43 x16 x18).f0) = x19 then (if (wrap64 (((rd_T43 x16 x18).f0) + ((rd_T43 x16 x18).f1))) = (wrap64 (x0 - x20)) then (quirelaw15_BandClear.l2 k x0 x2 x3 x9 x10 x16 (wrap64 (x18 + 1))) else (some false)) else (some false))) else (none)) else (none))
def quirelaw15_BandClear.l4 : Nat → Int → Bool → List (S24) → Int → Int → Int → Option (Bool)
 | 0, _, _, _, _, _, _ => none
 | k + 1, x2, x9, x10, x22, x23, x24 => if x24 < (x10.length : Int) then (if 0 ≤ x24 then (if (wrap64 (((rd_T24 x10 x24).f1) + ((rd_T24 x10 x24).f2))) > x22 then (some false) else (quirelaw15_BandClear.l4 k x2 x9 x10 x22 x23 (wrap64 (x24 + 1)))) else (none)) else (if x9 = true then (if x23 = 0 then (some (decide (x22 ≥ x2))) else (some false)) else (some false))
end
def quirelaw15_BandClear.f (k : Nat) (a0 : Int) (l1 : List (S40)) (a2 : Int) (a3 : Int) : Option (Bool) := (quirelaw15_awake.f k).bind fun t153 => (if a0 < 10 then (quirelaw15_BandClear.j0 k a0 l1 a2 a3 t153 true) else (if a0 > 4095 then (quirelaw15_BandClear.j0 k a0 l1 a2 a3 t153 true) else (if (l1.length : Int) > 12 then (quirelaw15_BandClear.j0 k a0 l1 a2 a3 t153 true) else (if a2 < 0 then (quirelaw15_BandClear.j0 k a0 l1 a2 a3 t153 true) else (if a2 > 4095 then (quirelaw15_BandClear.j0 k a0 l1 a2 a3 t153 true) else (if a3 < 1 then (quirelaw15_BandClear.j0 k a0 l1 a2 a3 t153 true) else (quirelaw15_BandClear.j0 k a0 l1 a2 a3 t153 (decide (a3 > 255)))))))))
theorem quirelaw15_BandClear.mono_l : ∀ k, (∀ y0 y1 y2 y3 y4 y5, LeO (quirelaw15_BandClear.j0 k y0 y1 y2 y3 y4 y5) (quirelaw15_BandClear.j0 (k + 1) y0 y1 y2 y3 y4 y5)) ∧ (∀ y0 y1 y2 y3 y4 y5 y6, LeO (quirelaw15_BandClear.l0 k y0 y1 y2 y3 y4 y5 y6) (quirelaw15_BandClear.l0 (k + 1) y0 y1 y2 y3 y4 y5 y6)) ∧ (∀ y0 y1 y2 y3 y4 y5 y6 y7 y8 y9 y10 y11, LeO (quirelaw15_BandClear.j2 k y0 y1 y2 y3 y4 y5 y6 y7 y8 y9 y10 y11) (quirelaw15_BandClear.j2 (k + 1) y0 y1 y2 y3 y4 y5 y6 y7 y8 y9 y10 y11)) ∧ (∀ y0 y1 y2 y3 y4 y5 y6 y7 y8 y9 y10 y11, LeO (quirelaw15_BandClear.j3 k y0 y1 y2 y3 y4 y5 y6 y7 y8 y9 y10 y11) (quirelaw15_BandClear.j3 (k + 1) y0 y1 y2 y3 y4 y5 y6 y7 y8 y9 y10 y11)) ∧ (∀ y0 y1 y2 y3 y4 y5 y6 y7 y8 y9 y10 y11, LeO (quirelaw15_BandClear.l1 k y0 y1 y2 y3 y4 y5 y6 y7 y8 y9 y10 y11) (quirelaw15_BandClear.l1 (k + 1) y0 y1 y2 y3 y4 y5 y6 y7 y8 y9 y10 y11)) ∧ (∀ y0 y1 y2 y3 y4 y5 y6, LeO (quirelaw15_BandClear.j5 k y0 y1 y2 y3 y4 y5 y6) (quirelaw15_BandClear.j5 (k + 1) y0 y1 y2 y3 y4 y5 y6)) ∧ (∀ y0 y1 y2 y3 y4 y5 y6, LeO (quirelaw15_BandClear.l2 k y0 y1 y2 y3 y4 y5 y6) (quirelaw15_BandClear.l2 (k + 1) y0 y1 y2 y3 y4 y5 y6)) ∧ (∀ y0 y1 y2 y3 y4 y5 y6 y7 y8 y9, LeO (quirelaw15_BandClear.l3 k y0 y1 y2 y3 y4 y5 y6 y7 y8 y9) (quirelaw15_BandClear.l3 (k + 1) y0 y1 y2 y3 y4 y5 y6 y7 y8 y9)) ∧ (∀ y0 y1 y2 y3 y4 y5, LeO (quirelaw15_BandClear.l4 k y0 y1 y2 y3 y4 y5) (quirelaw15_BandClear.l4 (k + 1) y0 y1 y2 y3 y4 y5))
 | 0 => ⟨fun _ _ _ _ _ _ r h => by simp [quirelaw15_BandClear.j0] at h, fun _ _ _ _ _ _ _ r h => by simp [quirelaw15_BandClear.l0] at h, fun _ _ _ _ _ _ _ _ _ _ _ _ r h => by simp [quirelaw15_BandClear.j2] at h, fun _ _ _ _ _ _ _ _ _ _ _ _ r h => by simp [quirelaw15_BandClear.j3] at h, fun _ _ _ _ _ _ _ _ _ _ _ _ r h => by simp [quirelaw15_BandClear.l1] at h, fun _ _ _ _ _ _ _ r h => by simp [quirelaw15_BandClear.j5] at h, fun _ _ _ _ _ _ _ r h => by simp [quirelaw15_BandClear.l2] at h, fun _ _ _ _ _ _ _ _ _ _ r h => by simp [quirelaw15_BandClear.l3] at h, fun _ _ _ _ _ _ r h => by simp [quirelaw15_BandClear.l4] at h⟩
 | k + 1 => by
  obtain ⟨ih0, ih1, ih2, ih3, ih4, ih5, ih6, ih7, ih8⟩ := quirelaw15_BandClear.mono_l k
  refine ⟨?_, ?_, ?_, ?_, ?_, ?_, ?_, ?_, ?_⟩
  ·intro y0 y1 y2 y3 y4 y5
   unfold quirelaw15_BandClear.j0
   repeat' first
   | (with_reducible exact ih0 _ _ _ _ _ _)
   | (with_reducible exact ih1 _ _ _ _ _ _ _)
   | (with_reducible exact ih2 _ _ _ _ _ _ _ _ _ _ _ _)
   | (with_reducible exact ih3 _ _ _ _ _ _ _ _ _ _ _ _)
   | (with_reducible exact ih4 _ _ _ _ _ _ _ _ _ _ _ _)
   | (with_reducible exact ih5 _ _ _ _ _ _ _)
   | (with_reducible exact ih6 _ _ _ _ _ _ _)
   | (with_reducible exact ih7 _ _ _ _ _ _ _ _ _ _)
   | (with_reducible exact ih8 _ _ _ _ _ _)
   | (with_reducible exact band_Clear.mono _ _ _)
   | (with_reducible exact band_Put.mono _ _ _ _ _ _ _)
   | (with_reducible exact band_Slots.mono _ _ _ _ _ _)
   | (with_reducible exact quirelaw15_awake.mono _)
   | (with_reducible exact LeO.refl _)
   | (with_reducible exact LeO.none _)
   | (with_reducible refine LeO.ite ?_ ?_)
   | (with_reducible refine LeO.bind ?_ (fun _ => ?_))
   | exact ih0 _ _ _ _ _ _
   | exact ih1 _ _ _ _ _ _ _
   | exact ih2 _ _ _ _ _ _ _ _ _ _ _ _
   | exact ih3 _ _ _ _ _ _ _ _ _ _ _ _
   | exact ih4 _ _ _ _ _ _ _ _ _ _ _ _
   | exact ih5 _ _ _ _ _ _ _
   | exact ih6 _ _ _ _ _ _ _
   | exact ih7 _ _ _ _ _ _ _ _ _ _
   | exact ih8 _ _ _ _ _ _
   | exact band_Clear.mono _ _ _
   | exact band_Put.mono _ _ _ _ _ _ _
   | exact band_Slots.mono _ _ _ _ _ _
   | exact quirelaw15_awake.mono _
   | exact LeO.none _
   | refine LeO.ite ?_ ?_
   | refine LeO.bind ?_ (fun _ => ?_)
  ·intro y0 y1 y2 y3 y4 y5 y6
   unfold quirelaw15_BandClear.l0
   repeat' first
   | (with_reducible exact ih0 _ _ _ _ _ _)
   | (with_reducible exact ih1 _ _ _ _ _ _ _)
   | (with_reducible exact ih2 _ _ _ _ _ _ _ _ _ _ _ _)
   | (with_reducible exact ih3 _ _ _ _ _ _ _ _ _ _ _ _)
   | (with_reducible exact ih4 _ _ _ _ _ _ _ _ _ _ _ _)
   | (with_reducible exact ih5 _ _ _ _ _ _ _)
   | (with_reducible exact ih6 _ _ _ _ _ _ _)
   | (with_reducible exact ih7 _ _ _ _ _ _ _ _ _ _)
   | (with_reducible exact ih8 _ _ _ _ _ _)
   | (with_reducible exact band_Clear.mono _ _ _)
   | (with_reducible exact band_Put.mono _ _ _ _ _ _ _)
   | (with_reducible exact band_Slots.mono _ _ _ _ _ _)
   | (with_reducible exact quirelaw15_awake.mono _)
   | (with_reducible exact LeO.refl _)
   | (with_reducible exact LeO.none _)
   | (with_reducible refine LeO.ite ?_ ?_)
   | (with_reducible refine LeO.bind ?_ (fun _ => ?_))
   | exact ih0 _ _ _ _ _ _
   | exact ih1 _ _ _ _ _ _ _
   | exact ih2 _ _ _ _ _ _ _ _ _ _ _ _
   | exact ih3 _ _ _ _ _ _ _ _ _ _ _ _
   | exact ih4 _ _ _ _ _ _ _ _ _ _ _ _
   | exact ih5 _ _ _ _ _ _ _
   | exact ih6 _ _ _ _ _ _ _
   | exact ih7 _ _ _ _ _ _ _ _ _ _
   | exact ih8 _ _ _ _ _ _
   | exact band_Clear.mono _ _ _
   | exact band_Put.mono _ _ _ _ _ _ _
   | exact band_Slots.mono _ _ _ _ _ _
   | exact quirelaw15_awake.mono _
   | exact LeO.none _
   | refine LeO.ite ?_ ?_
   | refine LeO.bind ?_ (fun _ => ?_)
  ·intro y0 y1 y2 y3 y4 y5 y6 y7 y8 y9 y10 y11
   unfold quirelaw15_BandClear.j2
   repeat' first
   | (with_reducible exact ih0 _ _ _ _ _ _)
   | (with_reducible exact ih1 _ _ _ _ _ _ _)
   | (with_reducible exact ih2 _ _ _ _ _ _ _ _ _ _ _ _)
   | (with_reducible exact ih3 _ _ _ _ _ _ _ _ _ _ _ _)
   | (with_reducible exact ih4 _ _ _ _ _ _ _ _ _ _ _ _)
   | (with_reducible exact ih5 _ _ _ _ _ _ _)
   | (with_reducible exact ih6 _ _ _ _ _ _ _)
   | (with_reducible exact ih7 _ _ _ _ _ _ _ _ _ _)
   | (with_reducible exact ih8 _ _ _ _ _ _)
   | (with_reducible exact band_Clear.mono _ _ _)
   | (with_reducible exact band_Put.mono _ _ _ _ _ _ _)
   | (with_reducible exact band_Slots.mono _ _ _ _ _ _)
   | (with_reducible exact quirelaw15_awake.mono _)
   | (with_reducible exact LeO.refl _)
   | (with_reducible exact LeO.none _)
   | (with_reducible refine LeO.ite ?_ ?_)
   | (with_reducible refine LeO.bind ?_ (fun _ => ?_))
   | exact ih0 _ _ _ _ _ _
   | exact ih1 _ _ _ _ _ _ _
   | exact ih2 _ _ _ _ _ _ _ _ _ _ _ _
   | exact ih3 _ _ _ _ _ _ _ _ _ _ _ _
   | exact ih4 _ _ _ _ _ _ _ _ _ _ _ _
   | exact ih5 _ _ _ _ _ _ _
   | exact ih6 _ _ _ _ _ _ _
   | exact ih7 _ _ _ _ _ _ _ _ _ _
   | exact ih8 _ _ _ _ _ _
   | exact band_Clear.mono _ _ _
   | exact band_Put.mono _ _ _ _ _ _ _
   | exact band_Slots.mono _ _ _ _ _ _
   | exact quirelaw15_awake.mono _
   | exact LeO.none _
   | refine LeO.ite ?_ ?_
   | refine LeO.bind ?_ (fun _ => ?_)
  ·intro y0 y1 y2 y3 y4 y5 y6 y7 y8 y9 y10 y11
   unfold quirelaw15_BandClear.j3
   repeat' first
   | (with_reducible exact ih0 _ _ _ _ _ _)
   | (with_reducible exact ih1 _ _ _ _ _ _ _)
   | (with_reducible exact ih2 _ _ _ _ _ _ _ _ _ _ _ _)
   | (with_reducible exact ih3 _ _ _ _ _ _ _ _ _ _ _ _)
   | (with_reducible exact ih4 _ _ _ _ _ _ _ _ _ _ _ _)
   | (with_reducible exact ih5 _ _ _ _ _ _ _)
   | (with_reducible exact ih6 _ _ _ _ _ _ _)
   | (with_reducible exact ih7 _ _ _ _ _ _ _ _ _ _)
   | (with_reducible exact ih8 _ _ _ _ _ _)
   | (with_reducible exact band_Clear.mono _ _ _)
   | (with_reducible exact band_Put.mono _ _ _ _ _ _ _)
   | (with_reducible exact band_Slots.mono _ _ _ _ _ _)
   | (with_reducible exact quirelaw15_awake.mono _)
   | (with_reducible exact LeO.refl _)
   | (with_reducible exact LeO.none _)
   | (with_reducible refine LeO.ite ?_ ?_)
   | (with_reducible refine LeO.bind ?_ (fun _ => ?_))
   | exact ih0 _ _ _ _ _ _
   | exact ih1 _ _ _ _ _ _ _
   | exact ih2 _ _ _ _ _ _ _ _ _ _ _ _
   | exact ih3 _ _ _ _ _ _ _ _ _ _ _ _
   | exact ih4 _ _ _ _ _ _ _ _ _ _ _ _
   | exact ih5 _ _ _ _ _ _ _
   | exact ih6 _ _ _ _ _ _ _
   | exact ih7 _ _ _ _ _ _ _ _ _ _
   | exact ih8 _ _ _ _ _ _
   | exact band_Clear.mono _ _ _
   | exact band_Put.mono _ _ _ _ _ _ _
   | exact band_Slots.mono _ _ _ _ _ _
   | exact quirelaw15_awake.mono _
   | exact LeO.none _
   | refine LeO.ite ?_ ?_
   | refine LeO.bind ?_ (fun _ => ?_)
  ·intro y0 y1 y2 y3 y4 y5 y6 y7 y8 y9 y10 y11
   unfold quirelaw15_BandClear.l1
   repeat' first
   | (with_reducible exact ih0 _ _ _ _ _ _)
   | (with_reducible exact ih1 _ _ _ _ _ _ _)
   | (with_reducible exact ih2 _ _ _ _ _ _ _ _ _ _ _ _)
   | (with_reducible exact ih3 _ _ _ _ _ _ _ _ _ _ _ _)
   | (with_reducible exact ih4 _ _ _ _ _ _ _ _ _ _ _ _)
   | (with_reducible exact ih5 _ _ _ _ _ _ _)
   | (with_reducible exact ih6 _ _ _ _ _ _ _)
   | (with_reducible exact ih7 _ _ _ _ _ _ _ _ _ _)
   | (with_reducible exact ih8 _ _ _ _ _ _)
   | (with_reducible exact band_Clear.mono _ _ _)
   | (with_reducible exact band_Put.mono _ _ _ _ _ _ _)
   | (with_reducible exact band_Slots.mono _ _ _ _ _ _)
   | (with_reducible exact quirelaw15_awake.mono _)
   | (with_reducible exact LeO.refl _)
   | (with_reducible exact LeO.none _)
   | (with_reducible refine LeO.ite ?_ ?_)
   | (with_reducible refine LeO.bind ?_ (fun _ => ?_))
   | exact ih0 _ _ _ _ _ _
   | exact ih1 _ _ _ _ _ _ _
   | exact ih2 _ _ _ _ _ _ _ _ _ _ _ _
   | exact ih3 _ _ _ _ _ _ _ _ _ _ _ _
   | exact ih4 _ _ _ _ _ _ _ _ _ _ _ _
   | exact ih5 _ _ _ _ _ _ _
   | exact ih6 _ _ _ _ _ _ _
   | exact ih7 _ _ _ _ _ _ _ _ _ _
   | exact ih8 _ _ _ _ _ _
   | exact band_Clear.mono _ _ _
   | exact band_Put.mono _ _ _ _ _ _ _
   | exact band_Slots.mono _ _ _ _ _ _
   | exact quirelaw15_awake.mono _
   | exact LeO.none _
   | refine LeO.ite ?_ ?_
   | refine LeO.bind ?_ (fun _ => ?_)
  ·intro y0 y1 y2 y3 y4 y5 y6
   unfold quirelaw15_BandClear.j5
   repeat' first
   | (with_reducible exact ih0 _ _ _ _ _ _)
   | (with_reducible exact ih1 _ _ _ _ _ _ _)
   | (with_reducible exact ih2 _ _ _ _ _ _ _ _ _ _ _ _)
   | (with_reducible exact ih3 _ _ _ _ _ _ _ _ _ _ _ _)
   | (with_reducible exact ih4 _ _ _ _ _ _ _ _ _ _ _ _)
   | (with_reducible exact ih5 _ _ _ _ _ _ _)
   | (with_reducible exact ih6 _ _ _ _ _ _ _)
   | (with_reducible exact ih7 _ _ _ _ _ _ _ _ _ _)
   | (with_reducible exact ih8 _ _ _ _ _ _)
   | (with_reducible exact band_Clear.mono _ _ _)
   | (with_reducible exact band_Put.mono _ _ _ _ _ _ _)
   | (with_reducible exact band_Slots.mono _ _ _ _ _ _)
   | (with_reducible exact quirelaw15_awake.mono _)
   | (with_reducible exact LeO.refl _)
   | (with_reducible exact LeO.none _)
   | (with_reducible refine LeO.ite ?_ ?_)
   | (with_reducible refine LeO.bind ?_ (fun _ => ?_))
   | exact ih0 _ _ _ _ _ _
   | exact ih1 _ _ _ _ _ _ _
   | exact ih2 _ _ _ _ _ _ _ _ _ _ _ _
   | exact ih3 _ _ _ _ _ _ _ _ _ _ _ _
   | exact ih4 _ _ _ _ _ _ _ _ _ _ _ _
   | exact ih5 _ _ _ _ _ _ _
   | exact ih6 _ _ _ _ _ _ _
   | exact ih7 _ _ _ _ _ _ _ _ _ _
   | exact ih8 _ _ _ _ _ _
   | exact band_Clear.mono _ _ _
   | exact band_Put.mono _ _ _ _ _ _ _
   | exact band_Slots.mono _ _ _ _ _ _
   | exact quirelaw15_awake.mono _
   | exact LeO.none _
   | refine LeO.ite ?_ ?_
   | refine LeO.bind ?_ (fun _ => ?_)
  ·intro y0 y1 y2 y3 y4 y5 y6
   unfold quirelaw15_BandClear.l2
   repeat' first
   | (with_reducible exact ih0 _ _ _ _ _ _)
   | (with_reducible exact ih1 _ _ _ _ _ _ _)
   | (with_reducible exact ih2 _ _ _ _ _ _ _ _ _ _ _ _)
   | (with_reducible exact ih3 _ _ _ _ _ _ _ _ _ _ _ _)
   | (with_reducible exact ih4 _ _ _ _ _ _ _ _ _ _ _ _)
   | (with_reducible exact ih5 _ _ _ _ _ _ _)
   | (with_reducible exact ih6 _ _ _ _ _ _ _)
   | (with_reducible exact ih7 _ _ _ _ _ _ _ _ _ _)
   | (with_reducible exact ih8 _ _ _ _ _ _)
   | (with_reducible exact band_Clear.mono _ _ _)
   | (with_reducible exact band_Put.mono _ _ _ _ _ _ _)
   | (with_reducible exact band_Slots.mono _ _ _ _ _ _)
   | (with_reducible exact quirelaw15_awake.mono _)
   | (with_reducible exact LeO.refl _)
   | (with_reducible exact LeO.none _)
   | (with_reducible refine LeO.ite ?_ ?_)
   | (with_reducible refine LeO.bind ?_ (fun _ => ?_))
   | exact ih0 _ _ _ _ _ _
   | exact ih1 _ _ _ _ _ _ _
   | exact ih2 _ _ _ _ _ _ _ _ _ _ _ _
   | exact ih3 _ _ _ _ _ _ _ _ _ _ _ _
   | exact ih4 _ _ _ _ _ _ _ _ _ _ _ _
   | exact ih5 _ _ _ _ _ _ _
   | exact ih6 _ _ _ _ _ _ _
   | exact ih7 _ _ _ _ _ _ _ _ _ _
   | exact ih8 _ _ _ _ _ _
   | exact band_Clear.mono _ _ _
   | exact band_Put.mono _ _ _ _ _ _ _
   | exact band_Slots.mono _ _ _ _ _ _
   | exact quirelaw15_awake.mono _
   | exact LeO.none _
   | refine LeO.ite ?_ ?_
   | refine LeO.bind ?_ (fun _ => ?_)
  ·intro y0 y1 y2 y3 y4 y5 y6 y7 y8 y9
   unfold quirelaw15_BandClear.l3
   repeat' first
   | (with_reducible exact ih0 _ _ _ _ _ _)
   | (with_reducible exact ih1 _ _ _ _ _ _ _)
   | (with_reducible exact ih2 _ _ _ _ _ _ _ _ _ _ _ _)
   | (with_reducible exact ih3 _ _ _ _ _ _ _ _ _ _ _ _)
   | (with_reducible exact ih4 _ _ _ _ _ _ _ _ _ _ _ _)
   | (with_reducible exact ih5 _ _ _ _ _ _ _)
   | (with_reducible exact ih6 _ _ _ _ _ _ _)
   | (with_reducible exact ih7 _ _ _ _ _ _ _ _ _ _)
   | (with_reducible exact ih8 _ _ _ _ _ _)
   | (with_reducible exact band_Clear.mono _ _ _)
   | (with_reducible exact band_Put.mono _ _ _ _ _ _ _)
   | (with_reducible exact band_Slots.mono _ _ _ _ _ _)
   | (with_reducible exact quirelaw15_awake.mono _)
   | (with_reducible exact LeO.refl _)
   | (with_reducible exact LeO.none _)
   | (with_reducible refine LeO.ite ?_ ?_)
   | (with_reducible refine LeO.bind ?_ (fun _ => ?_))
   | exact ih0 _ _ _ _ _ _
   | exact ih1 _ _ _ _ _ _ _
   | exact ih2 _ _ _ _ _ _ _ _ _ _ _ _
   | exact ih3 _ _ _ _ _ _ _ _ _ _ _ _
   | exact ih4 _ _ _ _ _ _ _ _ _ _ _ _
   | exact ih5 _ _ _ _ _ _ _
   | exact ih6 _ _ _ _ _ _ _
   | exact ih7 _ _ _ _ _ _ _ _ _ _
   | exact ih8 _ _ _ _ _ _
   | exact band_Clear.mono _ _ _
   | exact band_Put.mono _ _ _ _ _ _ _
   | exact band_Slots.mono _ _ _ _ _ _
   | exact quirelaw15_awake.mono _
   | exact LeO.none _
   | refine LeO.ite ?_ ?_
   | refine LeO.bind ?_ (fun _ => ?_)
  ·intro y0 y1 y2 y3 y4 y5
   unfold quirelaw15_BandClear.l4
   repeat' first
   | (with_reducible exact ih0 _ _ _ _ _ _)
   | (with_reducible exact ih1 _ _ _ _ _ _ _)
   | (with_reducible exact ih2 _ _ _ _ _ _ _ _ _ _ _ _)
   | (with_reducible exact ih3 _ _ _ _ _ _ _ _ _ _ _ _)
   | (with_reducible exact ih4 _ _ _ _ _ _ _ _ _ _ _ _)
   | (with_reducible exact ih5 _ _ _ _ _ _ _)
   | (with_reducible exact ih6 _ _ _ _ _ _ _)
   | (with_reducible exact ih7 _ _ _ _ _ _ _ _ _ _)
   | (with_reducible exact ih8 _ _ _ _ _ _)
   | (with_reducible exact band_Clear.mono _ _ _)
   | (with_reducible exact band_Put.mono _ _ _ _ _ _ _)
   | (with_reducible exact band_Slots.mono _ _ _ _ _ _)
   | (with_reducible exact quirelaw15_awake.mono _)
   | (with_reducible exact LeO.refl _)
   | (with_reducible exact LeO.none _)
   | (with_reducible refine LeO.ite ?_ ?_)
   | (with_reducible refine LeO.bind ?_ (fun _ => ?_))
   | exact ih0 _ _ _ _ _ _
   | exact ih1 _ _ _ _ _ _ _
   | exact ih2 _ _ _ _ _ _ _ _ _ _ _ _
   | exact ih3 _ _ _ _ _ _ _ _ _ _ _ _
   | exact ih4 _ _ _ _ _ _ _ _ _ _ _ _
   | exact ih5 _ _ _ _ _ _ _
   | exact ih6 _ _ _ _ _ _ _
   | exact ih7 _ _ _ _ _ _ _ _ _ _
   | exact ih8 _ _ _ _ _ _
   | exact band_Clear.mono _ _ _
   | exact band_Put.mono _ _ _ _ _ _ _
   | exact band_Slots.mono _ _ _ _ _ _
   | exact quirelaw15_awake.mono _
   | exact LeO.none _
   | refine LeO.ite ?_ ?_
   | refine LeO.bind ?_ (fun _ => ?_)
theorem quirelaw15_BandClear.mono : ∀ a0 a1 a2 a3 k, LeO (quirelaw15_BandClear.f k a0 a1 a2 a3) (quirelaw15_BandClear.f (k + 1) a0 a1 a2 a3) := by
 intro a0 a1 a2 a3 k
 obtain ⟨ih0, ih1, ih2, ih3, ih4, ih5, ih6, ih7, ih8⟩ := quirelaw15_BandClear.mono_l k
 unfold quirelaw15_BandClear.f
 repeat' first
   | (with_reducible exact ih0 _ _ _ _ _ _)
   | (with_reducible exact ih1 _ _ _ _ _ _ _)
   | (with_reducible exact ih2 _ _ _ _ _ _ _ _ _ _ _ _)
   | (with_reducible exact ih3 _ _ _ _ _ _ _ _ _ _ _ _)
   | (with_reducible exact ih4 _ _ _ _ _ _ _ _ _ _ _ _)
   | (with_reducible exact ih5 _ _ _ _ _ _ _)
   | (with_reducible exact ih6 _ _ _ _ _ _ _)
   | (with_reducible exact ih7 _ _ _ _ _ _ _ _ _ _)
   | (with_reducible exact ih8 _ _ _ _ _ _)
   | (with_reducible exact band_Clear.mono _ _ _)
   | (with_reducible exact band_Put.mono _ _ _ _ _ _ _)
   | (with_reducible exact band_Slots.mono _ _ _ _ _ _)
   | (with_reducible exact quirelaw15_awake.mono _)
   | (with_reducible exact LeO.refl _)
   | (with_reducible exact LeO.none _)
   | (with_reducible refine LeO.ite ?_ ?_)
   | (with_reducible refine LeO.bind ?_ (fun _ => ?_))
   | exact ih0 _ _ _ _ _ _
   | exact ih1 _ _ _ _ _ _ _
   | exact ih2 _ _ _ _ _ _ _ _ _ _ _ _
   | exact ih3 _ _ _ _ _ _ _ _ _ _ _ _
   | exact ih4 _ _ _ _ _ _ _ _ _ _ _ _
   | exact ih5 _ _ _ _ _ _ _
   | exact ih6 _ _ _ _ _ _ _
   | exact ih7 _ _ _ _ _ _ _ _ _ _
   | exact ih8 _ _ _ _ _ _
   | exact band_Clear.mono _ _ _
   | exact band_Put.mono _ _ _ _ _ _ _
   | exact band_Slots.mono _ _ _ _ _ _
   | exact quirelaw15_awake.mono _
   | exact LeO.none _
   | refine LeO.ite ?_ ?_
   | refine LeO.bind ?_ (fun _ => ?_)
set_option maxHeartbeats 8000000 in
set_option maxRecDepth 100000 in
theorem quirelaw15_BandClear.calls (k : Nat) (a0 : Int) (A1 : Option Addr) (c1 : Nat) (l1 : List (S40)) (a2 : Int) (a3 : Int) (r : Bool) (w : World) (hr1 : Kd.C k40 w A1 l1.length l1) (hc1 : l1.length ≤ c1) (h : quirelaw15_BandClear.f k a0 l1 a2 a3 = some r) :
  Calls Try.prog 5 #[.int .i64 a0, .slice A1 l1.length c1, .int .i64 a2, .int .i64 a3] w fun e w' => e = .returned (.bool r) ∧ Below w.heap.size w w' := by
 have hu40 := Try.underlying40
 have hu24 := Try.underlying24
 have HR1 := Aside0.mk hr1
 have HC1 := Aside0.mk hc1
 clear hr1 hc1
 have HB := Aside0.mk (Below.refl w.heap.size w)
 have H : ((quirelaw15_awake.f k).bind fun t153 => (if a0 < 10 then (quirelaw15_BandClear.j0 k a0 l1 a2 a3 t153 true) else (if a0 > 4095 then (quirelaw15_BandClear.j0 k a0 l1 a2 a3 t153 true) else (if (l1.length : Int) > 12 then (quirelaw15_BandClear.j0 k a0 l1 a2 a3 t153 true) else (if a2 < 0 then (quirelaw15_BandClear.j0 k a0 l1 a2 a3 t153 true) else (if a2 > 4095 then (quirelaw15_BandClear.j0 k a0 l1 a2 a3 t153 true) else (if a3 < 1 then (quirelaw15_BandClear.j0 k a0 l1 a2 a3 t153 true) else (quirelaw15_BandClear.j0 k a0 l1 a2 a3 t153 (decide (a3 > 255)))))))))) = some r := h
 clear h
 replace H := Option.bind_eq_some_iff.mp H
 obtain ⟨t153, A50, H⟩ := H
 replace H : (if a0 < 10 then (quirelaw15_BandClear.j0 k a0 l1 a2 a3 t153 true) else (if a0 > 4095 then (quirelaw15_BandClear.j0 k a0 l1 a2 a3 t153 true) else (if (l1.length : Int) > 12 then (quirelaw15_BandClear.j0 k a0 l1 a2 a3 t153 true) else (if a2 < 0 then (quirelaw15_BandClear.j0 k a0 l1 a2 a3 t153 true) else (if a2 > 4095 then (quirelaw15_BandClear.j0 k a0 l1 a2 a3 t153 true) else (if a3 < 1 then (quirelaw15_BandClear.j0 k a0 l1 a2 a3 t153 true) else (quirelaw15_BandClear.j0 k a0 l1 a2 a3 t153 (decide (a3 > 255))))))))) = some r := H
 have A5 := Aside0.mk A50
 clear A50
 have HC6 := Aside0.mk H
 clear H
 go_enter Try.func5, Try.ntmps5
 go_upto_region 2 with (first | (go_at_call 17; (with_reducible refine (quirelaw15_awake.calls k  t153 _ A5.out).mono ?_); rintro e w7 ⟨rfl, hb⟩; have n0_ := Aside0.mk (below_step (by repeat (first | (with_reducible first | exact HB.out | apply below_alloc | apply pw_below_drewN | apply below_drew1) | exact HB.out)) hb); clear HB; have HB := n0_; clear n0_; (try clear hb); (try clear hb2); (try clear hk); (try clear hi)))
 repeat (go_quiet (first | (go_at_call 17; (with_reducible refine (quirelaw15_awake.calls k  t153 _ A5.out).mono ?_); rintro e w7 ⟨rfl, hb⟩; have n0_ := Aside0.mk (below_step (by repeat (first | (with_reducible first | exact HB.out | apply below_alloc | apply pw_below_drewN | apply below_drew1) | exact HB.out)) hb); clear HB; have HB := n0_; clear n0_; (try clear hb); (try clear hb2); (try clear hk); (try clear hi))); go_upto_region 2 with (first | (go_at_call 17; (with_reducible refine (quirelaw15_awake.calls k  t153 _ A5.out).mono ?_); rintro e w7 ⟨rfl, hb⟩; have n0_ := Aside0.mk (below_step (by repeat (first | (with_reducible first | exact HB.out | apply below_alloc | apply pw_below_drewN | apply below_drew1) | exact HB.out)) hb); clear HB; have HB := n0_; clear n0_; (try clear hb); (try clear hb2); (try clear hk); (try clear hi))))
 (try simp only [Act.put, List.setIfInBounds_toArray, List.set_cons_zero, List.set_cons_succ])
 go_cut [52] (fun v52 wc => ∃ (kq : Nat) (x52_5 : Bool), v52 = .bool x52_5 ∧ Aside0 (quirelaw15_BandClear.j0 kq a0 l1 a2 a3 t153 x52_5 = some r) ∧ Aside0 (kq ≤ k) ∧ Aside0 (Below w.heap.size w wc))
 case first => as_aux_lemma =>
  have H := HC6.out
  clear HC6
  by_cases c8 : a0 < 10
  ·rw [if_pos c8] at H
   have c8b0 : decide (a0 < 10) = true := decide_eq_true c8
   clear c8
   (first | rw [c8b0] | (simp only [i64_w, i32_w]; rw [c8b0]) | skip)
   have H' := Aside0.mk H
   clear H
   go_wp2
   repeat (go_quiet (fail); try go_wp2)
   go_meet
   case rel => exact ⟨_, (true), (by first | rfl | (simp; done) | (simp [*]; done)), H', ⟨by first | omega | exact Nat.le_refl _⟩, ⟨by repeat (first | (with_reducible first | exact HB.out | apply below_alloc | apply pw_below_drewN | apply below_drew1) | exact HB.out)⟩⟩
  ·rw [if_neg c8] at H
   have c8b0 : decide (a0 < 10) = false := decide_eq_false c8
   clear c8
   (first | rw [c8b0] | (simp only [i64_w, i32_w]; rw [c8b0]) | skip)
   by_cases c9 : a0 > 4095
   ·rw [if_pos c9] at H
    have c9b0 : decide (4095 < a0) = true := decide_eq_true c9
    clear c9
    have H' := Aside0.mk H
    clear H
    go_wp2
    repeat (go_quiet (fail); try go_wp2)
    go_meet
    case rel => exact ⟨_, (true), (by first | rfl | (simp; done) | (simp [*]; done)), H', ⟨by first | omega | exact Nat.le_refl _⟩, ⟨by repeat (first | (with_reducible first | exact HB.out | apply below_alloc | apply pw_below_drewN | apply below_drew1) | exact HB.out)⟩⟩
   ·rw [if_neg c9] at H
    have c9b0 : decide (4095 < a0) = false := decide_eq_false c9
    clear c9
    by_cases c10 : (l1.length : Int) > 12
    ·rw [if_pos c10] at H
     have c10b0 : decide (12 < (l1.length : Int)) = true := decide_eq_true c10
     have c10b1 : decide (12 < l1.length) = true := decide_eq_true (by omega)
     clear c10
     have H' := Aside0.mk H
     clear H
     go_wp2
     repeat (go_quiet (fail); try go_wp2)
     go_meet
     case rel => exact ⟨_, (true), (by first | rfl | (simp; done) | (simp [*]; done)), H', ⟨by first | omega | exact Nat.le_refl _⟩, ⟨by repeat (first | (with_reducible first | exact HB.out | apply below_alloc | apply pw_below_drewN | apply below_drew1) | exact HB.out)⟩⟩
    ·rw [if_neg c10] at H
     have c10b0 : decide (12 < (l1.length : Int)) = false := decide_eq_false c10
     have c10b1 : decide (12 < l1.length) = false := decide_eq_false (by omega)
     clear c10
     by_cases c11 : a2 < 0
     ·rw [if_pos c11] at H
      have c11b0 : decide (a2 < 0) = true := decide_eq_true c11
      clear c11
      have H' := Aside0.mk H
      clear H
      go_wp2
      repeat (go_quiet (fail); try go_wp2)
      go_meet
      case rel => exact ⟨_, (true), (by first | rfl | (simp; done) | (simp [*]; done)), H', ⟨by first | omega | exact Nat.le_refl _⟩, ⟨by repeat (first | (with_reducible first | exact HB.out | apply below_alloc | apply pw_below_drewN | apply below_drew1) | exact HB.out)⟩⟩
     ·rw [if_neg c11] at H
      have c11b0 : decide (a2 < 0) = false := decide_eq_false c11
      clear c11
      by_cases c12 : a2 > 4095
      ·rw [if_pos c12] at H
       have c12b0 : decide (4095 < a2) = true := decide_eq_true c12
       clear c12
       have H' := Aside0.mk H
       clear H
       go_wp2
       repeat (go_quiet (fail); try go_wp2)
       go_meet
       case rel => exact ⟨_, (true), (by first | rfl | (simp; done) | (simp [*]; done)), H', ⟨by first | omega | exact Nat.le_refl _⟩, ⟨by repeat (first | (with_reducible first | exact HB.out | apply below_alloc | apply pw_below_drewN | apply below_drew1) | exact HB.out)⟩⟩
      ·rw [if_neg c12] at H
       have c12b0 : decide (4095 < a2) = false := decide_eq_false c12
       clear c12
       by_cases c13 : a3 < 1
       ·rw [if_pos c13] at H
        have c13b0 : decide (a3 < 1) = true := decide_eq_true c13
        clear c13
        have H' := Aside0.mk H
        clear H
        go_wp2
        repeat (go_quiet (fail); try go_wp2)
        go_meet
        case rel => exact ⟨_, (true), (by first | rfl | (simp; done) | (simp [*]; done)), H', ⟨by first | omega | exact Nat.le_refl _⟩, ⟨by repeat (first | (with_reducible first | exact HB.out | apply below_alloc | apply pw_below_drewN | apply below_drew1) | exact HB.out)⟩⟩
       ·rw [if_neg c13] at H
        have c13b0 : decide (a3 < 1) = false := decide_eq_false c13
        clear c13
        have H' := Aside0.mk H
        clear H
        go_wp2
        repeat (go_quiet (fail); try go_wp2)
        go_meet
        case rel => exact ⟨_, (decide (a3 > 255)), (by first | rfl | (simp; done) | (simp [*]; done)), H', ⟨by first | omega | exact Nat.le_refl _⟩, ⟨by repeat (first | (with_reducible first | exact HB.out | apply below_alloc | apply pw_below_drewN | apply below_drew1) | exact HB.out)⟩⟩
 case rest => as_aux_lemma =>
  clear HC6
  try clear c1
  try clear p2
  try clear c5
  try clear c8
  try clear c8b0
  try clear c9
  try clear c9b0
  try clear c10
  try clear c10b0
  try clear c10b1
  try clear c11
  try clear c11b0
  try clear c12
  try clear c12b0
  try clear c13
  try clear c13b0
  obtain ⟨kq, x52_5, rfl, HA, HJ5, HB⟩ := hcut
  cases kq with
  | zero => exact absurd HA.out (by simp [quirelaw15_BandClear.j0])
  | succ kj5 =>
   have H := HA.out
   clear HA
   simp only [quirelaw15_BandClear.j0] at H
   by_cases c14 : x52_5 = true
   ·subst c14
    have H1 : (some t153) = some r := by rw [if_pos rfl] at H; exact H
    clear H
    have H := H1
    clear H1
    obtain rfl := Option.some.inj H
    go_wp2
    repeat (go_quiet (fail); try go_wp2)
    go_ret
    exact ⟨by first | rfl | (simp [errW_none, errW_some] <;> rfl) | (simp [*, errW_none, errW_some] <;> rfl), by repeat (first | (with_reducible first | exact HB.out | apply below_alloc | apply pw_below_drewN | apply below_drew1) | exact HB.out)⟩
   ·replace c14 := Bool.eq_false_iff.mpr c14
    subst c14
    have H1 : (quirelaw15_BandClear.l0 kj5 a0 l1 a2 a3 t153 ([] : List (S24)) 0) = some r := by rw [if_neg (show ¬ (false = true) by decide)] at H; exact H
    clear H
    have H := H1
    clear H1
    have H' := Aside0.mk H
    clear H
    go_wp2
    repeat (go_quiet (fail); try go_wp2)
    go_loopg [10, 11] kj5 (fun kq v10 v11 w' => ∃ (x10_2 : List (S24)) (x11_2 : Int), v11 = .int .i64 x11_2 ∧ Aside0 (quirelaw15_BandClear.l0 kq a0 l1 a2 a3 t153 x10_2 x11_2 = some r) ∧ Aside0 (kq ≤ kj5) ∧ Aside0 (Kd.R k24 24 w' w.heap.size (fun _ => True) v10 x10_2) ∧ Aside0 (Below w.heap.size w w'))
    case atStart => exact ⟨(([] : List (S24))), (0), (by first | rfl | (simp; done) | (simp [*]; done)), H', ⟨Nat.le_refl _⟩, ⟨by first | exact Kd.R_nil _ _ _ _ _ | exact Kd.N_nil _ _ _ _ _ | exact Kd.V_nil _ _ _ _ _ | exact Kd.Q_nil _ _ _ _ _ | exact Kd.S_nil _ _ _ _ _⟩, ⟨by repeat (first | (with_reducible first | exact HB.out | apply below_alloc | apply pw_below_drewN | apply below_drew1) | exact HB.out)⟩⟩
    case round => as_aux_lemma =>
     clear H'
     try clear c1
     try clear p2
     try clear c5
     try clear c8
     try clear c8b0
     try clear c9
     try clear c9b0
     try clear c10
     try clear c10b0
     try clear c10b1
     try clear c11
     try clear c11b0
     try clear c12
     try clear c12b0
     try clear c13
     try clear c13b0
     try clear c14
     try clear p2
     obtain ⟨x10_2, x11_2, rfl, HA, HK2, HO_10, HB⟩ := hrel
     cases gk with
     | zero => exact absurd HA.out (by simp [quirelaw15_BandClear.l0])
     | succ k2 =>
      have H := HA.out
      clear HA
      simp only [quirelaw15_BandClear.l0] at H
      by_cases c15 : x11_2 < (l1.length : Int)
      ·rw [if_pos c15] at H
       have c15b0 : decide (x11_2 < (l1.length : Int)) = true := decide_eq_true c15
       clear c15
       by_cases c16 : 0 ≤ x11_2
       ·rw [if_pos c16] at H
        have c16b0 : decide (0 ≤ x11_2) = true := decide_eq_true c16
        clear c16
        have HC17 := Aside0.mk H
        clear H
        have p154 : 0 ≤ (x11_2 : Int) := of_decide_eq_true (by first | (with_reducible assumption) | assumption)
        have q154 : x11_2 < (l1.length : Int) := of_decide_eq_true (by first | (with_reducible assumption) | assumption)
        obtain ⟨ad154, e154, hx154_0, hx154_1, hx154_2, hx154_3⟩ := at_T40 HR1.out x11_2 p154 q154
        cases e154
        replace hx154_0 := (HB.out.cell (World.block_lt_of_cell? w _ hx154_0)).trans hx154_0
        replace hx154_1 := (HB.out.cell (World.block_lt_of_cell? w _ hx154_1)).trans hx154_1
        replace hx154_2 := (HB.out.cell (World.block_lt_of_cell? w _ hx154_2)).trans hx154_2
        replace hx154_3 := (HB.out.cell (World.block_lt_of_cell? w _ hx154_3)).trans hx154_3
        replace p154 := eq_true p154
        replace q154 := eq_true q154
        go_upto_region 9 with (first | ((with_reducible refine gate_dst (N := 12) rfl ?_); (try (refine gate_guard (by rfl) ?_; dsimp only)); refine box_event ?hg (N := 12) ?hd (cs := #[.int .i64 0, .int .i64 0, .int .i64 0, .int .i64 0]) (t := 40) ?hr ?_; (case hd => rfl); (case hg => rfl); (case hr => first | (go_simp; done) | (go_simp; rfl)); intro gb155 hg w18 hbox hb; have n0_ := Aside0.mk (Kd.R_below (by (with_reducible repeat (first | apply Kd.R_alloc | apply Kd.R_drewN | apply Kd.R_drew)); exact HO_10.out) hb); have n1_ := Aside0.mk (below_step (by repeat (first | (with_reducible first | exact HB.out | apply below_alloc | apply pw_below_drewN | apply below_drew1) | exact HB.out)) hb); have n2_ := Aside0.mk (hbox); have n3_ := Aside0.mk ((by rw [hg]; exact (below_size (by repeat (first | (with_reducible first | exact HB.out | apply below_alloc | apply pw_below_drewN | apply below_drew1) | exact HB.out))) : w.heap.size ≤ gb155)); have n4_ := Aside0.mk ((by rw [hg]; exact (below_size (by repeat (first | (with_reducible first | exact HB.out | apply below_alloc | apply pw_below_drewN | apply below_drew1) | exact HB.out))) : w.heap.size ≤ gb155)); clear HO_10; clear HB; have HO_10 := n0_; have HB := n1_; have BK155 := n2_; have GW155 := n3_; have GE155 := n4_; clear n0_ n1_ n2_ n3_ n4_; clear hb hbox hg; have hcz19_0 : w18.cell? ⟨gb155, 0, none⟩ = some (.int .i64 0) := (blk_cell BK155.out 0).trans rfl; have hcz19_1 : w18.cell? ⟨gb155, 1, none⟩ = some (.int .i64 0) := (blk_cell BK155.out 1).trans rfl; have hcz19_2 : w18.cell? ⟨gb155, 2, none⟩ = some (.int .i64 0) := (blk_cell BK155.out 2).trans rfl; have hcz19_3 : w18.cell? ⟨gb155, 3, none⟩ = some (.int .i64 0) := (blk_cell BK155.out 3).trans rfl; have hfz19_0 := blk_frozen BK155.out 0; have hfz19_1 := blk_frozen BK155.out 1; have hfz19_2 := blk_frozen BK155.out 2; have hfz19_3 := blk_frozen BK155.out 3))
        repeat (go_quiet (first | ((with_reducible refine gate_dst (N := 12) rfl ?_); (try (refine gate_guard (by rfl) ?_; dsimp only)); refine box_event ?hg (N := 12) ?hd (cs := #[.int .i64 0, .int .i64 0, .int .i64 0, .int .i64 0]) (t := 40) ?hr ?_; (case hd => rfl); (case hg => rfl); (case hr => first | (go_simp; done) | (go_simp; rfl)); intro gb155 hg w18 hbox hb; have n0_ := Aside0.mk (Kd.R_below (by (with_reducible repeat (first | apply Kd.R_alloc | apply Kd.R_drewN | apply Kd.R_drew)); exact HO_10.out) hb); have n1_ := Aside0.mk (below_step (by repeat (first | (with_reducible first | exact HB.out | apply below_alloc | apply pw_below_drewN | apply below_drew1) | exact HB.out)) hb); have n2_ := Aside0.mk (hbox); have n3_ := Aside0.mk ((by rw [hg]; exact (below_size (by repeat (first | (with_reducible first | exact HB.out | apply below_alloc | apply pw_below_drewN | apply below_drew1) | exact HB.out))) : w.heap.size ≤ gb155)); have n4_ := Aside0.mk ((by rw [hg]; exact (below_size (by repeat (first | (with_reducible first | exact HB.out | apply below_alloc | apply pw_below_drewN | apply below_drew1) | exact HB.out))) : w.heap.size ≤ gb155)); clear HO_10; clear HB; have HO_10 := n0_; have HB := n1_; have BK155 := n2_; have GW155 := n3_; have GE155 := n4_; clear n0_ n1_ n2_ n3_ n4_; clear hb hbox hg; have hcz19_0 : w18.cell? ⟨gb155, 0, none⟩ = some (.int .i64 0) := (blk_cell BK155.out 0).trans rfl; have hcz19_1 : w18.cell? ⟨gb155, 1, none⟩ = some (.int .i64 0) := (blk_cell BK155.out 1).trans rfl; have hcz19_2 : w18.cell? ⟨gb155, 2, none⟩ = some (.int .i64 0) := (blk_cell BK155.out 2).trans rfl; have hcz19_3 : w18.cell? ⟨gb155, 3, none⟩ = some (.int .i64 0) := (blk_cell BK155.out 3).trans rfl; have hfz19_0 := blk_frozen BK155.out 0; have hfz19_1 := blk_frozen BK155.out 1; have hfz19_2 := blk_frozen BK155.out 2; have hfz19_3 := blk_frozen BK155.out 3)); go_upto_region 9 with (first | ((with_reducible refine gate_dst (N := 12) rfl ?_); (try (refine gate_guard (by rfl) ?_; dsimp only)); refine box_event ?hg (N := 12) ?hd (cs := #[.int .i64 0, .int .i64 0, .int .i64 0, .int .i64 0]) (t := 40) ?hr ?_; (case hd => rfl); (case hg => rfl); (case hr => first | (go_simp; done) | (go_simp; rfl)); intro gb155 hg w18 hbox hb; have n0_ := Aside0.mk (Kd.R_below (by (with_reducible repeat (first | apply Kd.R_alloc | apply Kd.R_drewN | apply Kd.R_drew)); exact HO_10.out) hb); have n1_ := Aside0.mk (below_step (by repeat (first | (with_reducible first | exact HB.out | apply below_alloc | apply pw_below_drewN | apply below_drew1) | exact HB.out)) hb); have n2_ := Aside0.mk (hbox); have n3_ := Aside0.mk ((by rw [hg]; exact (below_size (by repeat (first | (with_reducible first | exact HB.out | apply below_alloc | apply pw_below_drewN | apply below_drew1) | exact HB.out))) : w.heap.size ≤ gb155)); have n4_ := Aside0.mk ((by rw [hg]; exact (below_size (by repeat (first | (with_reducible first | exact HB.out | apply below_alloc | apply pw_below_drewN | apply below_drew1) | exact HB.out))) : w.heap.size ≤ gb155)); clear HO_10; clear HB; have HO_10 := n0_; have HB := n1_; have BK155 := n2_; have GW155 := n3_; have GE155 := n4_; clear n0_ n1_ n2_ n3_ n4_; clear hb hbox hg; have hcz19_0 : w18.cell? ⟨gb155, 0, none⟩ = some (.int .i64 0) := (blk_cell BK155.out 0).trans rfl; have hcz19_1 : w18.cell? ⟨gb155, 1, none⟩ = some (.int .i64 0) := (blk_cell BK155.out 1).trans rfl; have hcz19_2 : w18.cell? ⟨gb155, 2, none⟩ = some (.int .i64 0) := (blk_cell BK155.out 2).trans rfl; have hcz19_3 : w18.cell? ⟨gb155, 3, none⟩ = some (.int .i64 0) := (blk_cell BK155.out 3).trans rfl; have hfz19_0 := blk_frozen BK155.out 0; have hfz19_1 := blk_frozen BK155.out 1; have hfz19_2 := blk_frozen BK155.out 2; have hfz19_3 := blk_frozen BK155.out 3)))
        (try simp only [Act.put, List.setIfInBounds_toArray, List.set_cons_zero, List.set_cons_succ])
        go_cut [101] (fun v101 wc => ∃ (kq : Nat) (x101_16 : Bool), v101 = .bool x101_16 ∧ Aside0 (quirelaw15_BandClear.j2 kq a0 l1 a2 a3 t153 x10_2 x11_2 x101_16 ((rd_T40 l1 x11_2).f0) ((rd_T40 l1 x11_2).f1) ((rd_T40 l1 x11_2).f2) ((rd_T40 l1 x11_2).f3) = some r) ∧ Aside0 (kq ≤ k2) ∧ Aside0 (Kd.R k24 24 wc w.heap.size (fun _ => True) u10 x10_2) ∧ Aside0 (wc.heap[gb155]? = some (.cells #[.int .i64 ((rd_T40 l1 x11_2).f0), .int .i64 ((rd_T40 l1 x11_2).f1), .int .i64 ((rd_T40 l1 x11_2).f2), .int .i64 ((rd_T40 l1 x11_2).f3)] 40 (0, 0))) ∧ Aside0 (Below w.heap.size w wc))
        case first => as_aux_lemma =>
         have H := HC17.out
         clear HC17
         by_cases c20 : ((rd_T40 l1 x11_2).f0) = 0
         ·rw [if_pos c20] at H
          have c20b0 : (((rd_T40 l1 x11_2).f0) == 0) = true := beq_iff_eq.mpr c20
          have c20b1 : (((rd_T40 l1 x11_2).f0) != 0) = false := bne_eq_false_iff_eq.mpr c20
          clear c20
          (first | rw [c20b0] | (simp only [i64_w, i32_w]; rw [c20b0]) | skip)
          by_cases c21 : ((rd_T40 l1 x11_2).f1) < 0
          ·rw [if_pos c21] at H
           have c21b0 : decide (((rd_T40 l1 x11_2).f1) < 0) = true := decide_eq_true c21
           clear c21
           have H' := Aside0.mk H
           clear H
           have hcz22_0 : w18.cell? ⟨gb155, 0, none⟩ = some (.int .i64 0) := (blk_cell BK155.out 0).trans rfl
           have hcz22_1 : w18.cell? ⟨gb155, 1, none⟩ = some (.int .i64 0) := (blk_cell BK155.out 1).trans rfl
           have hcz22_2 : w18.cell? ⟨gb155, 2, none⟩ = some (.int .i64 0) := (blk_cell BK155.out 2).trans rfl
           have hcz22_3 : w18.cell? ⟨gb155, 3, none⟩ = some (.int .i64 0) := (blk_cell BK155.out 3).trans rfl
           have hfz22_0 := blk_frozen BK155.out 0
           have hfz22_1 := blk_frozen BK155.out 1
           have hfz22_2 := blk_frozen BK155.out 2
           have hfz22_3 := blk_frozen BK155.out 3
           go_wp2
           repeat (go_quiet (fail); try go_wp2)
           go_meet
           case rel => exact ⟨_, (true), (by first | rfl | (simp; done) | (simp [*]; done)), H', ⟨by have := HJ5.out; have := HK2.out; first | omega | exact Nat.le_refl _⟩, ⟨by (with_reducible repeat (first | apply Kd.R_alloc | apply Kd.R_drewN | apply Kd.R_drew)); exact Kd.R_mono (Kd.R_far (p := ⟨gb155, 3, none⟩) (Kd.R_far (p := ⟨gb155, 2, none⟩) (Kd.R_far (p := ⟨gb155, 1, none⟩) (Kd.R_far (p := ⟨gb155, 0, none⟩) (Kd.R_types HO_10.out BK155.out (by decide)) (fun _ hk => hk.2) (.int .i64 ((rd_T40 l1 x11_2).f0))) (fun _ hk => hk.2) (.int .i64 ((rd_T40 l1 x11_2).f1))) (fun _ hk => hk.2) (.int .i64 ((rd_T40 l1 x11_2).f2))) (fun _ hk => hk.2) (.int .i64 ((rd_T40 l1 x11_2).f3))) (fun _ hk => trivial)⟩, ⟨by (with_reducible repeat (first | refine blk_drewN ?_ _ | refine blk_drew ?_ | refine blk_alloc ?_ _)); refine blk_put (cs := #[.int .i64 ((rd_T40 l1 x11_2).f0), .int .i64 ((rd_T40 l1 x11_2).f1), .int .i64 ((rd_T40 l1 x11_2).f2), .int .i64 0]) ?_ 3 _ rfl; (with_reducible repeat (first | refine blk_drewN ?_ _ | refine blk_drew ?_ | refine blk_alloc ?_ _)); refine blk_put (cs := #[.int .i64 ((rd_T40 l1 x11_2).f0), .int .i64 ((rd_T40 l1 x11_2).f1), .int .i64 0, .int .i64 0]) ?_ 2 _ rfl; (with_reducible repeat (first | refine blk_drewN ?_ _ | refine blk_drew ?_ | refine blk_alloc ?_ _)); refine blk_put (cs := #[.int .i64 ((rd_T40 l1 x11_2).f0), .int .i64 0, .int .i64 0, .int .i64 0]) ?_ 1 _ rfl; (with_reducible repeat (first | refine blk_drewN ?_ _ | refine blk_drew ?_ | refine blk_alloc ?_ _)); refine blk_put (cs := #[.int .i64 0, .int .i64 0, .int .i64 0, .int .i64 0]) ?_ 0 _ rfl; (with_reducible repeat (first | refine blk_drewN ?_ _ | refine blk_drew ?_ | refine blk_alloc ?_ _)); exact BK155.out⟩, ⟨by repeat (first | (with_reducible first | exact HB.out | apply below_alloc | apply pw_below_drewN | apply below_drew1 | refine below_set ?_ GE155.out) | exact HB.out)⟩⟩
          ·rw [if_neg c21] at H
           have c21b0 : decide (((rd_T40 l1 x11_2).f1) < 0) = false := decide_eq_false c21
           clear c21
           by_cases c23 : ((rd_T40 l1 x11_2).f1) > 1000
           ·rw [if_pos c23] at H
            have c23b0 : decide (1000 < ((rd_T40 l1 x11_2).f1)) = true := decide_eq_true c23
            clear c23
            have H' := Aside0.mk H
            clear H
            have hcz24_0 : w18.cell? ⟨gb155, 0, none⟩ = some (.int .i64 0) := (blk_cell BK155.out 0).trans rfl
            have hcz24_1 : w18.cell? ⟨gb155, 1, none⟩ = some (.int .i64 0) := (blk_cell BK155.out 1).trans rfl
            have hcz24_2 : w18.cell? ⟨gb155, 2, none⟩ = some (.int .i64 0) := (blk_cell BK155.out 2).trans rfl
            have hcz24_3 : w18.cell? ⟨gb155, 3, none⟩ = some (.int .i64 0) := (blk_cell BK155.out 3).trans rfl
            have hfz24_0 := blk_frozen BK155.out 0
            have hfz24_1 := blk_frozen BK155.out 1
            have hfz24_2 := blk_frozen BK155.out 2
            have hfz24_3 := blk_frozen BK155.out 3
            go_wp2
            repeat (go_quiet (fail); try go_wp2)
            go_meet
            case rel => exact ⟨_, (true), (by first | rfl | (simp; done) | (simp [*]; done)), H', ⟨by have := HJ5.out; have := HK2.out; first | omega | exact Nat.le_refl _⟩, ⟨by (with_reducible repeat (first | apply Kd.R_alloc | apply Kd.R_drewN | apply Kd.R_drew)); exact Kd.R_mono (Kd.R_far (p := ⟨gb155, 3, none⟩) (Kd.R_far (p := ⟨gb155, 2, none⟩) (Kd.R_far (p := ⟨gb155, 1, none⟩) (Kd.R_far (p := ⟨gb155, 0, none⟩) (Kd.R_types HO_10.out BK155.out (by decide)) (fun _ hk => hk.2) (.int .i64 ((rd_T40 l1 x11_2).f0))) (fun _ hk => hk.2) (.int .i64 ((rd_T40 l1 x11_2).f1))) (fun _ hk => hk.2) (.int .i64 ((rd_T40 l1 x11_2).f2))) (fun _ hk => hk.2) (.int .i64 ((rd_T40 l1 x11_2).f3))) (fun _ hk => trivial)⟩, ⟨by (with_reducible repeat (first | refine blk_drewN ?_ _ | refine blk_drew ?_ | refine blk_alloc ?_ _)); refine blk_put (cs := #[.int .i64 ((rd_T40 l1 x11_2).f0), .int .i64 ((rd_T40 l1 x11_2).f1), .int .i64 ((rd_T40 l1 x11_2).f2), .int .i64 0]) ?_ 3 _ rfl; (with_reducible repeat (first | refine blk_drewN ?_ _ | refine blk_drew ?_ | refine blk_alloc ?_ _)); refine blk_put (cs := #[.int .i64 ((rd_T40 l1 x11_2).f0), .int .i64 ((rd_T40 l1 x11_2).f1), .int .i64 0, .int .i64 0]) ?_ 2 _ rfl; (with_reducible repeat (first | refine blk_drewN ?_ _ | refine blk_drew ?_ | refine blk_alloc ?_ _)); refine blk_put (cs := #[.int .i64 ((rd_T40 l1 x11_2).f0), .int .i64 0, .int .i64 0, .int .i64 0]) ?_ 1 _ rfl; (with_reducible repeat (first | refine blk_drewN ?_ _ | refine blk_drew ?_ | refine blk_alloc ?_ _)); refine blk_put (cs := #[.int .i64 0, .int .i64 0, .int .i64 0, .int .i64 0]) ?_ 0 _ rfl; (with_reducible repeat (first | refine blk_drewN ?_ _ | refine blk_drew ?_ | refine blk_alloc ?_ _)); exact BK155.out⟩, ⟨by repeat (first | (with_reducible first | exact HB.out | apply below_alloc | apply pw_below_drewN | apply below_drew1 | refine below_set ?_ GE155.out) | exact HB.out)⟩⟩
           ·rw [if_neg c23] at H
            have c23b0 : decide (1000 < ((rd_T40 l1 x11_2).f1)) = false := decide_eq_false c23
            clear c23
            by_cases c25 : ((rd_T40 l1 x11_2).f2) < 0
            ·rw [if_pos c25] at H
             have c25b0 : decide (((rd_T40 l1 x11_2).f2) < 0) = true := decide_eq_true c25
             clear c25
             have H' := Aside0.mk H
             clear H
             have hcz26_0 : w18.cell? ⟨gb155, 0, none⟩ = some (.int .i64 0) := (blk_cell BK155.out 0).trans rfl
             have hcz26_1 : w18.cell? ⟨gb155, 1, none⟩ = some (.int .i64 0) := (blk_cell BK155.out 1).trans rfl
             have hcz26_2 : w18.cell? ⟨gb155, 2, none⟩ = some (.int .i64 0) := (blk_cell BK155.out 2).trans rfl
             have hcz26_3 : w18.cell? ⟨gb155, 3, none⟩ = some (.int .i64 0) := (blk_cell BK155.out 3).trans rfl
             have hfz26_0 := blk_frozen BK155.out 0
             have hfz26_1 := blk_frozen BK155.out 1
             have hfz26_2 := blk_frozen BK155.out 2
             have hfz26_3 := blk_frozen BK155.out 3
             go_wp2
             repeat (go_quiet (fail); try go_wp2)
             go_meet
             case rel => exact ⟨_, (true), (by first | rfl | (simp; done) | (simp [*]; done)), H', ⟨by have := HJ5.out; have := HK2.out; first | omega | exact Nat.le_refl _⟩, ⟨by (with_reducible repeat (first | apply Kd.R_alloc | apply Kd.R_drewN | apply Kd.R_drew)); exact Kd.R_mono (Kd.R_far (p := ⟨gb155, 3, none⟩) (Kd.R_far (p := ⟨gb155, 2, none⟩) (Kd.R_far (p := ⟨gb155, 1, none⟩) (Kd.R_far (p := ⟨gb155, 0, none⟩) (Kd.R_types HO_10.out BK155.out (by decide)) (fun _ hk => hk.2) (.int .i64 ((rd_T40 l1 x11_2).f0))) (fun _ hk => hk.2) (.int .i64 ((rd_T40 l1 x11_2).f1))) (fun _ hk => hk.2) (.int .i64 ((rd_T40 l1 x11_2).f2))) (fun _ hk => hk.2) (.int .i64 ((rd_T40 l1 x11_2).f3))) (fun _ hk => trivial)⟩, ⟨by (with_reducible repeat (first | refine blk_drewN ?_ _ | refine blk_drew ?_ | refine blk_alloc ?_ _)); refine blk_put (cs := #[.int .i64 ((rd_T40 l1 x11_2).f0), .int .i64 ((rd_T40 l1 x11_2).f1), .int .i64 ((rd_T40 l1 x11_2).f2), .int .i64 0]) ?_ 3 _ rfl; (with_reducible repeat (first | refine blk_drewN ?_ _ | refine blk_drew ?_ | refine blk_alloc ?_ _)); refine blk_put (cs := #[.int .i64 ((rd_T40 l1 x11_2).f0), .int .i64 ((rd_T40 l1 x11_2).f1), .int .i64 0, .int .i64 0]) ?_ 2 _ rfl; (with_reducible repeat (first | refine blk_drewN ?_ _ | refine blk_drew ?_ | refine blk_alloc ?_ _)); refine blk_put (cs := #[.int .i64 ((rd_T40 l1 x11_2).f0), .int .i64 0, .int .i64 0, .int .i64 0]) ?_ 1 _ rfl; (with_reducible repeat (first | refine blk_drewN ?_ _ | refine blk_drew ?_ | refine blk_alloc ?_ _)); refine blk_put (cs := #[.int .i64 0, .int .i64 0, .int .i64 0, .int .i64 0]) ?_ 0 _ rfl; (with_reducible repeat (first | refine blk_drewN ?_ _ | refine blk_drew ?_ | refine blk_alloc ?_ _)); exact BK155.out⟩, ⟨by repeat (first | (with_reducible first | exact HB.out | apply below_alloc | apply pw_below_drewN | apply below_drew1 | refine below_set ?_ GE155.out) | exact HB.out)⟩⟩
            ·rw [if_neg c25] at H
             have c25b0 : decide (((rd_T40 l1 x11_2).f2) < 0) = false := decide_eq_false c25
             clear c25
             by_cases c27 : ((rd_T40 l1 x11_2).f2) > 200
             ·rw [if_pos c27] at H
              have c27b0 : decide (200 < ((rd_T40 l1 x11_2).f2)) = true := decide_eq_true c27
              clear c27
              have H' := Aside0.mk H
              clear H
              have hcz28_0 : w18.cell? ⟨gb155, 0, none⟩ = some (.int .i64 0) := (blk_cell BK155.out 0).trans rfl
              have hcz28_1 : w18.cell? ⟨gb155, 1, none⟩ = some (.int .i64 0) := (blk_cell BK155.out 1).trans rfl
              have hcz28_2 : w18.cell? ⟨gb155, 2, none⟩ = some (.int .i64 0) := (blk_cell BK155.out 2).trans rfl
              have hcz28_3 : w18.cell? ⟨gb155, 3, none⟩ = some (.int .i64 0) := (blk_cell BK155.out 3).trans rfl
              have hfz28_0 := blk_frozen BK155.out 0
              have hfz28_1 := blk_frozen BK155.out 1
              have hfz28_2 := blk_frozen BK155.out 2
              have hfz28_3 := blk_frozen BK155.out 3
              go_wp2
              repeat (go_quiet (fail); try go_wp2)
              go_meet
              case rel => exact ⟨_, (true), (by first | rfl | (simp; done) | (simp [*]; done)), H', ⟨by have := HJ5.out; have := HK2.out; first | omega | exact Nat.le_refl _⟩, ⟨by (with_reducible repeat (first | apply Kd.R_alloc | apply Kd.R_drewN | apply Kd.R_drew)); exact Kd.R_mono (Kd.R_far (p := ⟨gb155, 3, none⟩) (Kd.R_far (p := ⟨gb155, 2, none⟩) (Kd.R_far (p := ⟨gb155, 1, none⟩) (Kd.R_far (p := ⟨gb155, 0, none⟩) (Kd.R_types HO_10.out BK155.out (by decide)) (fun _ hk => hk.2) (.int .i64 ((rd_T40 l1 x11_2).f0))) (fun _ hk => hk.2) (.int .i64 ((rd_T40 l1 x11_2).f1))) (fun _ hk => hk.2) (.int .i64 ((rd_T40 l1 x11_2).f2))) (fun _ hk => hk.2) (.int .i64 ((rd_T40 l1 x11_2).f3))) (fun _ hk => trivial)⟩, ⟨by (with_reducible repeat (first | refine blk_drewN ?_ _ | refine blk_drew ?_ | refine blk_alloc ?_ _)); refine blk_put (cs := #[.int .i64 ((rd_T40 l1 x11_2).f0), .int .i64 ((rd_T40 l1 x11_2).f1), .int .i64 ((rd_T40 l1 x11_2).f2), .int .i64 0]) ?_ 3 _ rfl; (with_reducible repeat (first | refine blk_drewN ?_ _ | refine blk_drew ?_ | refine blk_alloc ?_ _)); refine blk_put (cs := #[.int .i64 ((rd_T40 l1 x11_2).f0), .int .i64 ((rd_T40 l1 x11_2).f1), .int .i64 0, .int .i64 0]) ?_ 2 _ rfl; (with_reducible repeat (first | refine blk_drewN ?_ _ | refine blk_drew ?_ | refine blk_alloc ?_ _)); refine blk_put (cs := #[.int .i64 ((rd_T40 l1 x11_2).f0), .int .i64 0, .int .i64 0, .int .i64 0]) ?_ 1 _ rfl; (with_reducible repeat (first | refine blk_drewN ?_ _ | refine blk_drew ?_ | refine blk_alloc ?_ _)); refine blk_put (cs := #[.int .i64 0, .int .i64 0, .int .i64 0, .int .i64 0]) ?_ 0 _ rfl; (with_reducible repeat (first | refine blk_drewN ?_ _ | refine blk_drew ?_ | refine blk_alloc ?_ _)); exact BK155.out⟩, ⟨by repeat (first | (with_reducible first | exact HB.out | apply below_alloc | apply pw_below_drewN | apply below_drew1 | refine below_set ?_ GE155.out) | exact HB.out)⟩⟩
             ·rw [if_neg c27] at H
              have c27b0 : decide (200 < ((rd_T40 l1 x11_2).f2)) = false := decide_eq_false c27
              clear c27
              by_cases c29 : ((rd_T40 l1 x11_2).f3) < 0
              ·rw [if_pos c29] at H
               have c29b0 : decide (((rd_T40 l1 x11_2).f3) < 0) = true := decide_eq_true c29
               clear c29
               have H' := Aside0.mk H
               clear H
               have hcz30_0 : w18.cell? ⟨gb155, 0, none⟩ = some (.int .i64 0) := (blk_cell BK155.out 0).trans rfl
               have hcz30_1 : w18.cell? ⟨gb155, 1, none⟩ = some (.int .i64 0) := (blk_cell BK155.out 1).trans rfl
               have hcz30_2 : w18.cell? ⟨gb155, 2, none⟩ = some (.int .i64 0) := (blk_cell BK155.out 2).trans rfl
               have hcz30_3 : w18.cell? ⟨gb155, 3, none⟩ = some (.int .i64 0) := (blk_cell BK155.out 3).trans rfl
               have hfz30_0 := blk_frozen BK155.out 0
               have hfz30_1 := blk_frozen BK155.out 1
               have hfz30_2 := blk_frozen BK155.out 2
               have hfz30_3 := blk_frozen BK155.out 3
               go_wp2
               repeat (go_quiet (fail); try go_wp2)
               go_meet
               case rel => exact ⟨_, (true), (by first | rfl | (simp; done) | (simp [*]; done)), H', ⟨by have := HJ5.out; have := HK2.out; first | omega | exact Nat.le_refl _⟩, ⟨by (with_reducible repeat (first | apply Kd.R_alloc | apply Kd.R_drewN | apply Kd.R_drew)); exact Kd.R_mono (Kd.R_far (p := ⟨gb155, 3, none⟩) (Kd.R_far (p := ⟨gb155, 2, none⟩) (Kd.R_far (p := ⟨gb155, 1, none⟩) (Kd.R_far (p := ⟨gb155, 0, none⟩) (Kd.R_types HO_10.out BK155.out (by decide)) (fun _ hk => hk.2) (.int .i64 ((rd_T40 l1 x11_2).f0))) (fun _ hk => hk.2) (.int .i64 ((rd_T40 l1 x11_2).f1))) (fun _ hk => hk.2) (.int .i64 ((rd_T40 l1 x11_2).f2))) (fun _ hk => hk.2) (.int .i64 ((rd_T40 l1 x11_2).f3))) (fun _ hk => trivial)⟩, ⟨by (with_reducible repeat (first | refine blk_drewN ?_ _ | refine blk_drew ?_ | refine blk_alloc ?_ _)); refine blk_put (cs := #[.int .i64 ((rd_T40 l1 x11_2).f0), .int .i64 ((rd_T40 l1 x11_2).f1), .int .i64 ((rd_T40 l1 x11_2).f2), .int .i64 0]) ?_ 3 _ rfl; (with_reducible repeat (first | refine blk_drewN ?_ _ | refine blk_drew ?_ | refine blk_alloc ?_ _)); refine blk_put (cs := #[.int .i64 ((rd_T40 l1 x11_2).f0), .int .i64 ((rd_T40 l1 x11_2).f1), .int .i64 0, .int .i64 0]) ?_ 2 _ rfl; (with_reducible repeat (first | refine blk_drewN ?_ _ | refine blk_drew ?_ | refine blk_alloc ?_ _)); refine blk_put (cs := #[.int .i64 ((rd_T40 l1 x11_2).f0), .int .i64 0, .int .i64 0, .int .i64 0]) ?_ 1 _ rfl; (with_reducible repeat (first | refine blk_drewN ?_ _ | refine blk_drew ?_ | refine blk_alloc ?_ _)); refine blk_put (cs := #[.int .i64 0, .int .i64 0, .int .i64 0, .int .i64 0]) ?_ 0 _ rfl; (with_reducible repeat (first | refine blk_drewN ?_ _ | refine blk_drew ?_ | refine blk_alloc ?_ _)); exact BK155.out⟩, ⟨by repeat (first | (with_reducible first | exact HB.out | apply below_alloc | apply pw_below_drewN | apply below_drew1 | refine below_set ?_ GE155.out) | exact HB.out)⟩⟩
              ·rw [if_neg c29] at H
               have c29b0 : decide (((rd_T40 l1 x11_2).f3) < 0) = false := decide_eq_false c29
               clear c29
               have H' := Aside0.mk H
               clear H
               have hcz31_0 : w18.cell? ⟨gb155, 0, none⟩ = some (.int .i64 0) := (blk_cell BK155.out 0).trans rfl
               have hcz31_1 : w18.cell? ⟨gb155, 1, none⟩ = some (.int .i64 0) := (blk_cell BK155.out 1).trans rfl
               have hcz31_2 : w18.cell? ⟨gb155, 2, none⟩ = some (.int .i64 0) := (blk_cell BK155.out 2).trans rfl
               have hcz31_3 : w18.cell? ⟨gb155, 3, none⟩ = some (.int .i64 0) := (blk_cell BK155.out 3).trans rfl
               have hfz31_0 := blk_frozen BK155.out 0
               have hfz31_1 := blk_frozen BK155.out 1
               have hfz31_2 := blk_frozen BK155.out 2
               have hfz31_3 := blk_frozen BK155.out 3
               go_wp2
               repeat (go_quiet (fail); try go_wp2)
               go_meet
               case rel => exact ⟨_, (decide (((rd_T40 l1 x11_2).f3) > 4095)), (by first | rfl | (simp; done) | (simp [*]; done)), H', ⟨by have := HJ5.out; have := HK2.out; first | omega | exact Nat.le_refl _⟩, ⟨by (with_reducible repeat (first | apply Kd.R_alloc | apply Kd.R_drewN | apply Kd.R_drew)); exact Kd.R_mono (Kd.R_far (p := ⟨gb155, 3, none⟩) (Kd.R_far (p := ⟨gb155, 2, none⟩) (Kd.R_far (p := ⟨gb155, 1, none⟩) (Kd.R_far (p := ⟨gb155, 0, none⟩) (Kd.R_types HO_10.out BK155.out (by decide)) (fun _ hk => hk.2) (.int .i64 ((rd_T40 l1 x11_2).f0))) (fun _ hk => hk.2) (.int .i64 ((rd_T40 l1 x11_2).f1))) (fun _ hk => hk.2) (.int .i64 ((rd_T40 l1 x11_2).f2))) (fun _ hk => hk.2) (.int .i64 ((rd_T40 l1 x11_2).f3))) (fun _ hk => trivial)⟩, ⟨by (with_reducible repeat (first | refine blk_drewN ?_ _ | refine blk_drew ?_ | refine blk_alloc ?_ _)); refine blk_put (cs := #[.int .i64 ((rd_T40 l1 x11_2).f0), .int .i64 ((rd_T40 l1 x11_2).f1), .int .i64 ((rd_T40 l1 x11_2).f2), .int .i64 0]) ?_ 3 _ rfl; (with_reducible repeat (first | refine blk_drewN ?_ _ | refine blk_drew ?_ | refine blk_alloc ?_ _)); refine blk_put (cs := #[.int .i64 ((rd_T40 l1 x11_2).f0), .int .i64 ((rd_T40 l1 x11_2).f1), .int .i64 0, .int .i64 0]) ?_ 2 _ rfl; (with_reducible repeat (first | refine blk_drewN ?_ _ | refine blk_drew ?_ | refine blk_alloc ?_ _)); refine blk_put (cs := #[.int .i64 ((rd_T40 l1 x11_2).f0), .int .i64 0, .int .i64 0, .int .i64 0]) ?_ 1 _ rfl; (with_reducible repeat (first | refine blk_drewN ?_ _ | refine blk_drew ?_ | refine blk_alloc ?_ _)); refine blk_put (cs := #[.int .i64 0, .int .i64 0, .int .i64 0, .int .i64 0]) ?_ 0 _ rfl; (with_reducible repeat (first | refine blk_drewN ?_ _ | refine blk_drew ?_ | refine blk_alloc ?_ _)); exact BK155.out⟩, ⟨by repeat (first | (with_reducible first | exact HB.out | apply below_alloc | apply pw_below_drewN | apply below_drew1 | refine below_set ?_ GE155.out) | exact HB.out)⟩⟩
         ·rw [if_neg c20] at H
          have c20b0 : (((rd_T40 l1 x11_2).f0) == 0) = false := beq_eq_false_iff_ne.mpr c20
          have c20b1 : (((rd_T40 l1 x11_2).f0) != 0) = true := bne_iff_ne.mpr c20
          (first | rw [c20b0] | (simp only [i64_w, i32_w]; rw [c20b0]) | skip)
          by_cases c32 : ((rd_T40 l1 x11_2).f0) = 2
          ·rw [if_pos c32] at H
           have c32b0 : (((rd_T40 l1 x11_2).f0) == 2) = true := beq_iff_eq.mpr c32
           have c32b1 : (((rd_T40 l1 x11_2).f0) != 2) = false := bne_eq_false_iff_eq.mpr c32
           clear c32
           by_cases c33 : ((rd_T40 l1 x11_2).f1) < 0
           ·rw [if_pos c33] at H
            have c33b0 : decide (((rd_T40 l1 x11_2).f1) < 0) = true := decide_eq_true c33
            clear c33
            have H' := Aside0.mk H
            clear H
            have hcz34_0 : w18.cell? ⟨gb155, 0, none⟩ = some (.int .i64 0) := (blk_cell BK155.out 0).trans rfl
            have hcz34_1 : w18.cell? ⟨gb155, 1, none⟩ = some (.int .i64 0) := (blk_cell BK155.out 1).trans rfl
            have hcz34_2 : w18.cell? ⟨gb155, 2, none⟩ = some (.int .i64 0) := (blk_cell BK155.out 2).trans rfl
            have hcz34_3 : w18.cell? ⟨gb155, 3, none⟩ = some (.int .i64 0) := (blk_cell BK155.out 3).trans rfl
            have hfz34_0 := blk_frozen BK155.out 0
            have hfz34_1 := blk_frozen BK155.out 1
            have hfz34_2 := blk_frozen BK155.out 2
            have hfz34_3 := blk_frozen BK155.out 3
            go_wp2
            repeat (go_quiet (fail); try go_wp2)
            go_meet
            case rel => exact ⟨_, (true), (by first | rfl | (simp; done) | (simp [*]; done)), H', ⟨by have := HJ5.out; have := HK2.out; first | omega | exact Nat.le_refl _⟩, ⟨by (with_reducible repeat (first | apply Kd.R_alloc | apply Kd.R_drewN | apply Kd.R_drew)); exact Kd.R_mono (Kd.R_far (p := ⟨gb155, 3, none⟩) (Kd.R_far (p := ⟨gb155, 2, none⟩) (Kd.R_far (p := ⟨gb155, 1, none⟩) (Kd.R_far (p := ⟨gb155, 0, none⟩) (Kd.R_types HO_10.out BK155.out (by decide)) (fun _ hk => hk.2) (.int .i64 ((rd_T40 l1 x11_2).f0))) (fun _ hk => hk.2) (.int .i64 ((rd_T40 l1 x11_2).f1))) (fun _ hk => hk.2) (.int .i64 ((rd_T40 l1 x11_2).f2))) (fun _ hk => hk.2) (.int .i64 ((rd_T40 l1 x11_2).f3))) (fun _ hk => trivial)⟩, ⟨by (with_reducible repeat (first | refine blk_drewN ?_ _ | refine blk_drew ?_ | refine blk_alloc ?_ _)); refine blk_put (cs := #[.int .i64 ((rd_T40 l1 x11_2).f0), .int .i64 ((rd_T40 l1 x11_2).f1), .int .i64 ((rd_T40 l1 x11_2).f2), .int .i64 0]) ?_ 3 _ rfl; (with_reducible repeat (first | refine blk_drewN ?_ _ | refine blk_drew ?_ | refine blk_alloc ?_ _)); refine blk_put (cs := #[.int .i64 ((rd_T40 l1 x11_2).f0), .int .i64 ((rd_T40 l1 x11_2).f1), .int .i64 0, .int .i64 0]) ?_ 2 _ rfl; (with_reducible repeat (first | refine blk_drewN ?_ _ | refine blk_drew ?_ | refine blk_alloc ?_ _)); refine blk_put (cs := #[.int .i64 ((rd_T40 l1 x11_2).f0), .int .i64 0, .int .i64 0, .int .i64 0]) ?_ 1 _ rfl; (with_reducible repeat (first | refine blk_drewN ?_ _ | refine blk_drew ?_ | refine blk_alloc ?_ _)); refine blk_put (cs := #[.int .i64 0, .int .i64 0, .int .i64 0, .int .i64 0]) ?_ 0 _ rfl; (with_reducible repeat (first | refine blk_drewN ?_ _ | refine blk_drew ?_ | refine blk_alloc ?_ _)); exact BK155.out⟩, ⟨by repeat (first | (with_reducible first | exact HB.out | apply below_alloc | apply pw_below_drewN | apply below_drew1 | refine below_set ?_ GE155.out) | exact HB.out)⟩⟩
           ·rw [if_neg c33] at H
            have c33b0 : decide (((rd_T40 l1 x11_2).f1) < 0) = false := decide_eq_false c33
            clear c33
            by_cases c35 : ((rd_T40 l1 x11_2).f1) > 1000
            ·rw [if_pos c35] at H
             have c35b0 : decide (1000 < ((rd_T40 l1 x11_2).f1)) = true := decide_eq_true c35
             clear c35
             have H' := Aside0.mk H
             clear H
             have hcz36_0 : w18.cell? ⟨gb155, 0, none⟩ = some (.int .i64 0) := (blk_cell BK155.out 0).trans rfl
             have hcz36_1 : w18.cell? ⟨gb155, 1, none⟩ = some (.int .i64 0) := (blk_cell BK155.out 1).trans rfl
             have hcz36_2 : w18.cell? ⟨gb155, 2, none⟩ = some (.int .i64 0) := (blk_cell BK155.out 2).trans rfl
             have hcz36_3 : w18.cell? ⟨gb155, 3, none⟩ = some (.int .i64 0) := (blk_cell BK155.out 3).trans rfl
             have hfz36_0 := blk_frozen BK155.out 0
             have hfz36_1 := blk_frozen BK155.out 1
             have hfz36_2 := blk_frozen BK155.out 2
             have hfz36_3 := blk_frozen BK155.out 3
             go_wp2
             repeat (go_quiet (fail); try go_wp2)
             go_meet
             case rel => exact ⟨_, (true), (by first | rfl | (simp; done) | (simp [*]; done)), H', ⟨by have := HJ5.out; have := HK2.out; first | omega | exact Nat.le_refl _⟩, ⟨by (with_reducible repeat (first | apply Kd.R_alloc | apply Kd.R_drewN | apply Kd.R_drew)); exact Kd.R_mono (Kd.R_far (p := ⟨gb155, 3, none⟩) (Kd.R_far (p := ⟨gb155, 2, none⟩) (Kd.R_far (p := ⟨gb155, 1, none⟩) (Kd.R_far (p := ⟨gb155, 0, none⟩) (Kd.R_types HO_10.out BK155.out (by decide)) (fun _ hk => hk.2) (.int .i64 ((rd_T40 l1 x11_2).f0))) (fun _ hk => hk.2) (.int .i64 ((rd_T40 l1 x11_2).f1))) (fun _ hk => hk.2) (.int .i64 ((rd_T40 l1 x11_2).f2))) (fun _ hk => hk.2) (.int .i64 ((rd_T40 l1 x11_2).f3))) (fun _ hk => trivial)⟩, ⟨by (with_reducible repeat (first | refine blk_drewN ?_ _ | refine blk_drew ?_ | refine blk_alloc ?_ _)); refine blk_put (cs := #[.int .i64 ((rd_T40 l1 x11_2).f0), .int .i64 ((rd_T40 l1 x11_2).f1), .int .i64 ((rd_T40 l1 x11_2).f2), .int .i64 0]) ?_ 3 _ rfl; (with_reducible repeat (first | refine blk_drewN ?_ _ | refine blk_drew ?_ | refine blk_alloc ?_ _)); refine blk_put (cs := #[.int .i64 ((rd_T40 l1 x11_2).f0), .int .i64 ((rd_T40 l1 x11_2).f1), .int .i64 0, .int .i64 0]) ?_ 2 _ rfl; (with_reducible repeat (first | refine blk_drewN ?_ _ | refine blk_drew ?_ | refine blk_alloc ?_ _)); refine blk_put (cs := #[.int .i64 ((rd_T40 l1 x11_2).f0), .int .i64 0, .int .i64 0, .int .i64 0]) ?_ 1 _ rfl; (with_reducible repeat (first | refine blk_drewN ?_ _ | refine blk_drew ?_ | refine blk_alloc ?_ _)); refine blk_put (cs := #[.int .i64 0, .int .i64 0, .int .i64 0, .int .i64 0]) ?_ 0 _ rfl; (with_reducible repeat (first | refine blk_drewN ?_ _ | refine blk_drew ?_ | refine blk_alloc ?_ _)); exact BK155.out⟩, ⟨by repeat (first | (with_reducible first | exact HB.out | apply below_alloc | apply pw_below_drewN | apply below_drew1 | refine below_set ?_ GE155.out) | exact HB.out)⟩⟩
            ·rw [if_neg c35] at H
             have c35b0 : decide (1000 < ((rd_T40 l1 x11_2).f1)) = false := decide_eq_false c35
             clear c35
             by_cases c37 : ((rd_T40 l1 x11_2).f2) < 0
             ·rw [if_pos c37] at H
              have c37b0 : decide (((rd_T40 l1 x11_2).f2) < 0) = true := decide_eq_true c37
              clear c37
              have H' := Aside0.mk H
              clear H
              have hcz38_0 : w18.cell? ⟨gb155, 0, none⟩ = some (.int .i64 0) := (blk_cell BK155.out 0).trans rfl
              have hcz38_1 : w18.cell? ⟨gb155, 1, none⟩ = some (.int .i64 0) := (blk_cell BK155.out 1).trans rfl
              have hcz38_2 : w18.cell? ⟨gb155, 2, none⟩ = some (.int .i64 0) := (blk_cell BK155.out 2).trans rfl
              have hcz38_3 : w18.cell? ⟨gb155, 3, none⟩ = some (.int .i64 0) := (blk_cell BK155.out 3).trans rfl
              have hfz38_0 := blk_frozen BK155.out 0
              have hfz38_1 := blk_frozen BK155.out 1
              have hfz38_2 := blk_frozen BK155.out 2
              have hfz38_3 := blk_frozen BK155.out 3
              go_wp2
              repeat (go_quiet (fail); try go_wp2)
              go_meet
              case rel => exact ⟨_, (true), (by first | rfl | (simp; done) | (simp [*]; done)), H', ⟨by have := HJ5.out; have := HK2.out; first | omega | exact Nat.le_refl _⟩, ⟨by (with_reducible repeat (first | apply Kd.R_alloc | apply Kd.R_drewN | apply Kd.R_drew)); exact Kd.R_mono (Kd.R_far (p := ⟨gb155, 3, none⟩) (Kd.R_far (p := ⟨gb155, 2, none⟩) (Kd.R_far (p := ⟨gb155, 1, none⟩) (Kd.R_far (p := ⟨gb155, 0, none⟩) (Kd.R_types HO_10.out BK155.out (by decide)) (fun _ hk => hk.2) (.int .i64 ((rd_T40 l1 x11_2).f0))) (fun _ hk => hk.2) (.int .i64 ((rd_T40 l1 x11_2).f1))) (fun _ hk => hk.2) (.int .i64 ((rd_T40 l1 x11_2).f2))) (fun _ hk => hk.2) (.int .i64 ((rd_T40 l1 x11_2).f3))) (fun _ hk => trivial)⟩, ⟨by (with_reducible repeat (first | refine blk_drewN ?_ _ | refine blk_drew ?_ | refine blk_alloc ?_ _)); refine blk_put (cs := #[.int .i64 ((rd_T40 l1 x11_2).f0), .int .i64 ((rd_T40 l1 x11_2).f1), .int .i64 ((rd_T40 l1 x11_2).f2), .int .i64 0]) ?_ 3 _ rfl; (with_reducible repeat (first | refine blk_drewN ?_ _ | refine blk_drew ?_ | refine blk_alloc ?_ _)); refine blk_put (cs := #[.int .i64 ((rd_T40 l1 x11_2).f0), .int .i64 ((rd_T40 l1 x11_2).f1), .int .i64 0, .int .i64 0]) ?_ 2 _ rfl; (with_reducible repeat (first | refine blk_drewN ?_ _ | refine blk_drew ?_ | refine blk_alloc ?_ _)); refine blk_put (cs := #[.int .i64 ((rd_T40 l1 x11_2).f0), .int .i64 0, .int .i64 0, .int .i64 0]) ?_ 1 _ rfl; (with_reducible repeat (first | refine blk_drewN ?_ _ | refine blk_drew ?_ | refine blk_alloc ?_ _)); refine blk_put (cs := #[.int .i64 0, .int .i64 0, .int .i64 0, .int .i64 0]) ?_ 0 _ rfl; (with_reducible repeat (first | refine blk_drewN ?_ _ | refine blk_drew ?_ | refine blk_alloc ?_ _)); exact BK155.out⟩, ⟨by repeat (first | (with_reducible first | exact HB.out | apply below_alloc | apply pw_below_drewN | apply below_drew1 | refine below_set ?_ GE155.out) | exact HB.out)⟩⟩
             ·rw [if_neg c37] at H
              have c37b0 : decide (((rd_T40 l1 x11_2).f2) < 0) = false := decide_eq_false c37
              clear c37
              by_cases c39 : ((rd_T40 l1 x11_2).f2) > 200
              ·rw [if_pos c39] at H
               have c39b0 : decide (200 < ((rd_T40 l1 x11_2).f2)) = true := decide_eq_true c39
               clear c39
               have H' := Aside0.mk H
               clear H
               have hcz40_0 : w18.cell? ⟨gb155, 0, none⟩ = some (.int .i64 0) := (blk_cell BK155.out 0).trans rfl
               have hcz40_1 : w18.cell? ⟨gb155, 1, none⟩ = some (.int .i64 0) := (blk_cell BK155.out 1).trans rfl
               have hcz40_2 : w18.cell? ⟨gb155, 2, none⟩ = some (.int .i64 0) := (blk_cell BK155.out 2).trans rfl
               have hcz40_3 : w18.cell? ⟨gb155, 3, none⟩ = some (.int .i64 0) := (blk_cell BK155.out 3).trans rfl
               have hfz40_0 := blk_frozen BK155.out 0
               have hfz40_1 := blk_frozen BK155.out 1
               have hfz40_2 := blk_frozen BK155.out 2
               have hfz40_3 := blk_frozen BK155.out 3
               go_wp2
               repeat (go_quiet (fail); try go_wp2)
               go_meet
               case rel => exact ⟨_, (true), (by first | rfl | (simp; done) | (simp [*]; done)), H', ⟨by have := HJ5.out; have := HK2.out; first | omega | exact Nat.le_refl _⟩, ⟨by (with_reducible repeat (first | apply Kd.R_alloc | apply Kd.R_drewN | apply Kd.R_drew)); exact Kd.R_mono (Kd.R_far (p := ⟨gb155, 3, none⟩) (Kd.R_far (p := ⟨gb155, 2, none⟩) (Kd.R_far (p := ⟨gb155, 1, none⟩) (Kd.R_far (p := ⟨gb155, 0, none⟩) (Kd.R_types HO_10.out BK155.out (by decide)) (fun _ hk => hk.2) (.int .i64 ((rd_T40 l1 x11_2).f0))) (fun _ hk => hk.2) (.int .i64 ((rd_T40 l1 x11_2).f1))) (fun _ hk => hk.2) (.int .i64 ((rd_T40 l1 x11_2).f2))) (fun _ hk => hk.2) (.int .i64 ((rd_T40 l1 x11_2).f3))) (fun _ hk => trivial)⟩, ⟨by (with_reducible repeat (first | refine blk_drewN ?_ _ | refine blk_drew ?_ | refine blk_alloc ?_ _)); refine blk_put (cs := #[.int .i64 ((rd_T40 l1 x11_2).f0), .int .i64 ((rd_T40 l1 x11_2).f1), .int .i64 ((rd_T40 l1 x11_2).f2), .int .i64 0]) ?_ 3 _ rfl; (with_reducible repeat (first | refine blk_drewN ?_ _ | refine blk_drew ?_ | refine blk_alloc ?_ _)); refine blk_put (cs := #[.int .i64 ((rd_T40 l1 x11_2).f0), .int .i64 ((rd_T40 l1 x11_2).f1), .int .i64 0, .int .i64 0]) ?_ 2 _ rfl; (with_reducible repeat (first | refine blk_drewN ?_ _ | refine blk_drew ?_ | refine blk_alloc ?_ _)); refine blk_put (cs := #[.int .i64 ((rd_T40 l1 x11_2).f0), .int .i64 0, .int .i64 0, .int .i64 0]) ?_ 1 _ rfl; (with_reducible repeat (first | refine blk_drewN ?_ _ | refine blk_drew ?_ | refine blk_alloc ?_ _)); refine blk_put (cs := #[.int .i64 0, .int .i64 0, .int .i64 0, .int .i64 0]) ?_ 0 _ rfl; (with_reducible repeat (first | refine blk_drewN ?_ _ | refine blk_drew ?_ | refine blk_alloc ?_ _)); exact BK155.out⟩, ⟨by repeat (first | (with_reducible first | exact HB.out | apply below_alloc | apply pw_below_drewN | apply below_drew1 | refine below_set ?_ GE155.out) | exact HB.out)⟩⟩
              ·rw [if_neg c39] at H
               have c39b0 : decide (200 < ((rd_T40 l1 x11_2).f2)) = false := decide_eq_false c39
               clear c39
               by_cases c41 : ((rd_T40 l1 x11_2).f3) < 0
               ·rw [if_pos c41] at H
                have c41b0 : decide (((rd_T40 l1 x11_2).f3) < 0) = true := decide_eq_true c41
                clear c41
                have H' := Aside0.mk H
                clear H
                have hcz42_0 : w18.cell? ⟨gb155, 0, none⟩ = some (.int .i64 0) := (blk_cell BK155.out 0).trans rfl
                have hcz42_1 : w18.cell? ⟨gb155, 1, none⟩ = some (.int .i64 0) := (blk_cell BK155.out 1).trans rfl
                have hcz42_2 : w18.cell? ⟨gb155, 2, none⟩ = some (.int .i64 0) := (blk_cell BK155.out 2).trans rfl
                have hcz42_3 : w18.cell? ⟨gb155, 3, none⟩ = some (.int .i64 0) := (blk_cell BK155.out 3).trans rfl
                have hfz42_0 := blk_frozen BK155.out 0
                have hfz42_1 := blk_frozen BK155.out 1
                have hfz42_2 := blk_frozen BK155.out 2
                have hfz42_3 := blk_frozen BK155.out 3
                go_wp2
                repeat (go_quiet (fail); try go_wp2)
                go_meet
                case rel => exact ⟨_, (true), (by first | rfl | (simp; done) | (simp [*]; done)), H', ⟨by have := HJ5.out; have := HK2.out; first | omega | exact Nat.le_refl _⟩, ⟨by (with_reducible repeat (first | apply Kd.R_alloc | apply Kd.R_drewN | apply Kd.R_drew)); exact Kd.R_mono (Kd.R_far (p := ⟨gb155, 3, none⟩) (Kd.R_far (p := ⟨gb155, 2, none⟩) (Kd.R_far (p := ⟨gb155, 1, none⟩) (Kd.R_far (p := ⟨gb155, 0, none⟩) (Kd.R_types HO_10.out BK155.out (by decide)) (fun _ hk => hk.2) (.int .i64 ((rd_T40 l1 x11_2).f0))) (fun _ hk => hk.2) (.int .i64 ((rd_T40 l1 x11_2).f1))) (fun _ hk => hk.2) (.int .i64 ((rd_T40 l1 x11_2).f2))) (fun _ hk => hk.2) (.int .i64 ((rd_T40 l1 x11_2).f3))) (fun _ hk => trivial)⟩, ⟨by (with_reducible repeat (first | refine blk_drewN ?_ _ | refine blk_drew ?_ | refine blk_alloc ?_ _)); refine blk_put (cs := #[.int .i64 ((rd_T40 l1 x11_2).f0), .int .i64 ((rd_T40 l1 x11_2).f1), .int .i64 ((rd_T40 l1 x11_2).f2), .int .i64 0]) ?_ 3 _ rfl; (with_reducible repeat (first | refine blk_drewN ?_ _ | refine blk_drew ?_ | refine blk_alloc ?_ _)); refine blk_put (cs := #[.int .i64 ((rd_T40 l1 x11_2).f0), .int .i64 ((rd_T40 l1 x11_2).f1), .int .i64 0, .int .i64 0]) ?_ 2 _ rfl; (with_reducible repeat (first | refine blk_drewN ?_ _ | refine blk_drew ?_ | refine blk_alloc ?_ _)); refine blk_put (cs := #[.int .i64 ((rd_T40 l1 x11_2).f0), .int .i64 0, .int .i64 0, .int .i64 0]) ?_ 1 _ rfl; (with_reducible repeat (first | refine blk_drewN ?_ _ | refine blk_drew ?_ | refine blk_alloc ?_ _)); refine blk_put (cs := #[.int .i64 0, .int .i64 0, .int .i64 0, .int .i64 0]) ?_ 0 _ rfl; (with_reducible repeat (first | refine blk_drewN ?_ _ | refine blk_drew ?_ | refine blk_alloc ?_ _)); exact BK155.out⟩, ⟨by repeat (first | (with_reducible first | exact HB.out | apply below_alloc | apply pw_below_drewN | apply below_drew1 | refine below_set ?_ GE155.out) | exact HB.out)⟩⟩
               ·rw [if_neg c41] at H
                have c41b0 : decide (((rd_T40 l1 x11_2).f3) < 0) = false := decide_eq_false c41
                clear c41
                have H' := Aside0.mk H
                clear H
                have hcz43_0 : w18.cell? ⟨gb155, 0, none⟩ = some (.int .i64 0) := (blk_cell BK155.out 0).trans rfl
                have hcz43_1 : w18.cell? ⟨gb155, 1, none⟩ = some (.int .i64 0) := (blk_cell BK155.out 1).trans rfl
                have hcz43_2 : w18.cell? ⟨gb155, 2, none⟩ = some (.int .i64 0) := (blk_cell BK155.out 2).trans rfl
                have hcz43_3 : w18.cell? ⟨gb155, 3, none⟩ = some (.int .i64 0) := (blk_cell BK155.out 3).trans rfl
                have hfz43_0 := blk_frozen BK155.out 0
                have hfz43_1 := blk_frozen BK155.out 1
                have hfz43_2 := blk_frozen BK155.out 2
                have hfz43_3 := blk_frozen BK155.out 3
                go_wp2
                repeat (go_quiet (fail); try go_wp2)
                go_meet
                case rel => exact ⟨_, (decide (((rd_T40 l1 x11_2).f3) > 4095)), (by first | rfl | (simp; done) | (simp [*]; done)), H', ⟨by have := HJ5.out; have := HK2.out; first | omega | exact Nat.le_refl _⟩, ⟨by (with_reducible repeat (first | apply Kd.R_alloc | apply Kd.R_drewN | apply Kd.R_drew)); exact Kd.R_mono (Kd.R_far (p := ⟨gb155, 3, none⟩) (Kd.R_far (p := ⟨gb155, 2, none⟩) (Kd.R_far (p := ⟨gb155, 1, none⟩) (Kd.R_far (p := ⟨gb155, 0, none⟩) (Kd.R_types HO_10.out BK155.out (by decide)) (fun _ hk => hk.2) (.int .i64 ((rd_T40 l1 x11_2).f0))) (fun _ hk => hk.2) (.int .i64 ((rd_T40 l1 x11_2).f1))) (fun _ hk => hk.2) (.int .i64 ((rd_T40 l1 x11_2).f2))) (fun _ hk => hk.2) (.int .i64 ((rd_T40 l1 x11_2).f3))) (fun _ hk => trivial)⟩, ⟨by (with_reducible repeat (first | refine blk_drewN ?_ _ | refine blk_drew ?_ | refine blk_alloc ?_ _)); refine blk_put (cs := #[.int .i64 ((rd_T40 l1 x11_2).f0), .int .i64 ((rd_T40 l1 x11_2).f1), .int .i64 ((rd_T40 l1 x11_2).f2), .int .i64 0]) ?_ 3 _ rfl; (with_reducible repeat (first | refine blk_drewN ?_ _ | refine blk_drew ?_ | refine blk_alloc ?_ _)); refine blk_put (cs := #[.int .i64 ((rd_T40 l1 x11_2).f0), .int .i64 ((rd_T40 l1 x11_2).f1), .int .i64 0, .int .i64 0]) ?_ 2 _ rfl; (with_reducible repeat (first | refine blk_drewN ?_ _ | refine blk_drew ?_ | refine blk_alloc ?_ _)); refine blk_put (cs := #[.int .i64 ((rd_T40 l1 x11_2).f0), .int .i64 0, .int .i64 0, .int .i64 0]) ?_ 1 _ rfl; (with_reducible repeat (first | refine blk_drewN ?_ _ | refine blk_drew ?_ | refine blk_alloc ?_ _)); refine blk_put (cs := #[.int .i64 0, .int .i64 0, .int .i64 0, .int .i64 0]) ?_ 0 _ rfl; (with_reducible repeat (first | refine blk_drewN ?_ _ | refine blk_drew ?_ | refine blk_alloc ?_ _)); exact BK155.out⟩, ⟨by repeat (first | (with_reducible first | exact HB.out | apply below_alloc | apply pw_below_drewN | apply below_drew1 | refine below_set ?_ GE155.out) | exact HB.out)⟩⟩
          ·rw [if_neg c32] at H
           have c32b0 : (((rd_T40 l1 x11_2).f0) == 2) = false := beq_eq_false_iff_ne.mpr c32
           have c32b1 : (((rd_T40 l1 x11_2).f0) != 2) = true := bne_iff_ne.mpr c32
           have H' := Aside0.mk H
           clear H
           have hcz44_0 : w18.cell? ⟨gb155, 0, none⟩ = some (.int .i64 0) := (blk_cell BK155.out 0).trans rfl
           have hcz44_1 : w18.cell? ⟨gb155, 1, none⟩ = some (.int .i64 0) := (blk_cell BK155.out 1).trans rfl
           have hcz44_2 : w18.cell? ⟨gb155, 2, none⟩ = some (.int .i64 0) := (blk_cell BK155.out 2).trans rfl
           have hcz44_3 : w18.cell? ⟨gb155, 3, none⟩ = some (.int .i64 0) := (blk_cell BK155.out 3).trans rfl
           have hfz44_0 := blk_frozen BK155.out 0
           have hfz44_1 := blk_frozen BK155.out 1
           have hfz44_2 := blk_frozen BK155.out 2
           have hfz44_3 := blk_frozen BK155.out 3
           go_wp2
           repeat (go_quiet (fail); try go_wp2)
           go_meet
           case rel => exact ⟨_, (true), (by first | rfl | (simp; done) | (simp [*]; done)), H', ⟨by have := HJ5.out; have := HK2.out; first | omega | exact Nat.le_refl _⟩, ⟨by (with_reducible repeat (first | apply Kd.R_alloc | apply Kd.R_drewN | apply Kd.R_drew)); exact Kd.R_mono (Kd.R_far (p := ⟨gb155, 3, none⟩) (Kd.R_far (p := ⟨gb155, 2, none⟩) (Kd.R_far (p := ⟨gb155, 1, none⟩) (Kd.R_far (p := ⟨gb155, 0, none⟩) (Kd.R_types HO_10.out BK155.out (by decide)) (fun _ hk => hk.2) (.int .i64 ((rd_T40 l1 x11_2).f0))) (fun _ hk => hk.2) (.int .i64 ((rd_T40 l1 x11_2).f1))) (fun _ hk => hk.2) (.int .i64 ((rd_T40 l1 x11_2).f2))) (fun _ hk => hk.2) (.int .i64 ((rd_T40 l1 x11_2).f3))) (fun _ hk => trivial)⟩, ⟨by (with_reducible repeat (first | refine blk_drewN ?_ _ | refine blk_drew ?_ | refine blk_alloc ?_ _)); refine blk_put (cs := #[.int .i64 ((rd_T40 l1 x11_2).f0), .int .i64 ((rd_T40 l1 x11_2).f1), .int .i64 ((rd_T40 l1 x11_2).f2), .int .i64 0]) ?_ 3 _ rfl; (with_reducible repeat (first | refine blk_drewN ?_ _ | refine blk_drew ?_ | refine blk_alloc ?_ _)); refine blk_put (cs := #[.int .i64 ((rd_T40 l1 x11_2).f0), .int .i64 ((rd_T40 l1 x11_2).f1), .int .i64 0, .int .i64 0]) ?_ 2 _ rfl; (with_reducible repeat (first | refine blk_drewN ?_ _ | refine blk_drew ?_ | refine blk_alloc ?_ _)); refine blk_put (cs := #[.int .i64 ((rd_T40 l1 x11_2).f0), .int .i64 0, .int .i64 0, .int .i64 0]) ?_ 1 _ rfl; (with_reducible repeat (first | refine blk_drewN ?_ _ | refine blk_drew ?_ | refine blk_alloc ?_ _)); refine blk_put (cs := #[.int .i64 0, .int .i64 0, .int .i64 0, .int .i64 0]) ?_ 0 _ rfl; (with_reducible repeat (first | refine blk_drewN ?_ _ | refine blk_drew ?_ | refine blk_alloc ?_ _)); exact BK155.out⟩, ⟨by repeat (first | (with_reducible first | exact HB.out | apply below_alloc | apply pw_below_drewN | apply below_drew1 | refine below_set ?_ GE155.out) | exact HB.out)⟩⟩
        case rest => as_aux_lemma =>
         clear HC17
         try clear c1
         try clear p1
         try clear q1
         try clear hx1
         try clear c2
         try clear p2
         try clear c3
         try clear c4
         try clear c5
         try clear c8
         try clear c8b0
         try clear c9
         try clear c9b0
         try clear c10
         try clear c10b0
         try clear c10b1
         try clear c11
         try clear c11b0
         try clear c12
         try clear c12b0
         try clear c13
         try clear c13b0
         try clear c14
         try clear c15
         try clear c15b0
         try clear p15
         try clear q15
         try clear hx15
         try clear c16
         try clear c16b0
         try clear c20
         try clear c20b0
         try clear c20b1
         try clear c21
         try clear c21b0
         try clear c23
         try clear c23b0
         try clear c25
         try clear c25b0
         try clear c27
         try clear c27b0
         try clear c29
         try clear c29b0
         try clear c32
         try clear c32b0
         try clear c32b1
         try clear c33
         try clear c33b0
         try clear c35
         try clear c35b0
         try clear c37
         try clear c37b0
         try clear c39
         try clear c39b0
         try clear c41
         try clear c41b0
         try clear hcz19_0
         try clear hcz19_1
         try clear hcz19_2
         try clear hcz19_3
         try clear hcz22_0
         try clear hcz22_1
         try clear hcz22_2
         try clear hcz22_3
         try clear hcz24_0
         try clear hcz24_1
         try clear hcz24_2
         try clear hcz24_3
         try clear hcz26_0
         try clear hcz26_1
         try clear hcz26_2
         try clear hcz26_3
         try clear hcz28_0
         try clear hcz28_1
         try clear hcz28_2
         try clear hcz28_3
         try clear hcz30_0
         try clear hcz30_1
         try clear hcz30_2
         try clear hcz30_3
         try clear hcz31_0
         try clear hcz31_1
         try clear hcz31_2
         try clear hcz31_3
         try clear hcz34_0
         try clear hcz34_1
         try clear hcz34_2
         try clear hcz34_3
         try clear hcz36_0
         try clear hcz36_1
         try clear hcz36_2
         try clear hcz36_3
         try clear hcz38_0
         try clear hcz38_1
         try clear hcz38_2
         try clear hcz38_3
         try clear hcz40_0
         try clear hcz40_1
         try clear hcz40_2
         try clear hcz40_3
         try clear hcz42_0
         try clear hcz42_1
         try clear hcz42_2
         try clear hcz42_3
         try clear hcz43_0
         try clear hcz43_1
         try clear hcz43_2
         try clear hcz43_3
         try clear hcz44_0
         try clear hcz44_1
         try clear hcz44_2
         try clear hcz44_3
         try clear hfz19_0
         try clear hfz19_1
         try clear hfz19_2
         try clear hfz19_3
         try clear hfz22_0
         try clear hfz22_1
         try clear hfz22_2
         try clear hfz22_3
         try clear hfz24_0
         try clear hfz24_1
         try clear hfz24_2
         try clear hfz24_3
         try clear hfz26_0
         try clear hfz26_1
         try clear hfz26_2
         try clear hfz26_3
         try clear hfz28_0
         try clear hfz28_1
         try clear hfz28_2
         try clear hfz28_3
         try clear hfz30_0
         try clear hfz30_1
         try clear hfz30_2
         try clear hfz30_3
         try clear hfz31_0
         try clear hfz31_1
         try clear hfz31_2
         try clear hfz31_3
         try clear hfz34_0
         try clear hfz34_1
         try clear hfz34_2
         try clear hfz34_3
         try clear hfz36_0
         try clear hfz36_1
         try clear hfz36_2
         try clear hfz36_3
         try clear hfz38_0
         try clear hfz38_1
         try clear hfz38_2
         try clear hfz38_3
         try clear hfz40_0
         try clear hfz40_1
         try clear hfz40_2
         try clear hfz40_3
         try clear hfz42_0
         try clear hfz42_1
         try clear hfz42_2
         try clear hfz42_3
         try clear hfz43_0
         try clear hfz43_1
         try clear hfz43_2
         try clear hfz43_3
         try clear hfz44_0
         try clear hfz44_1
         try clear hfz44_2
         try clear hfz44_3
         try clear hx154_0
         try clear hx154_1
         try clear hx154_2
         try clear hx154_3
         try clear p154
         try clear p2
         try clear q154
         obtain ⟨kq, x101_16, rfl, HA, HJ16, HO_10, BK155, HB⟩ := hcut
         cases kq with
         | zero => exact absurd HA.out (by simp [quirelaw15_BandClear.j2])
         | succ kj16 =>
          have H := HA.out
          clear HA
          simp only [quirelaw15_BandClear.j2] at H
          by_cases c45 : x101_16 = true
          ·subst c45
           have H1 : (some t153) = some r := by rw [if_pos rfl] at H; exact H
           clear H
           have H := H1
           clear H1
           obtain rfl := Option.some.inj H
           go_wp2
           repeat (go_quiet (fail); try go_wp2)
           go_ret
           exact ⟨by first | rfl | (simp [errW_none, errW_some] <;> rfl) | (simp [*, errW_none, errW_some] <;> rfl), by repeat (first | (with_reducible first | exact HB.out | apply below_alloc | apply pw_below_drewN | apply below_drew1 | refine below_set ?_ GE155.out) | exact HB.out)⟩
          ·replace c45 := Bool.eq_false_iff.mpr c45
           subst c45
           have H1 : ((band_Put.f kj16 a0 x10_2 ((rd_T40 l1 x11_2).f0) ((rd_T40 l1 x11_2).f1) ((rd_T40 l1 x11_2).f2) ((rd_T40 l1 x11_2).f3)).bind fun bt156 => (if bt156.2.2.2.2 = 0 then (if bt156.1 = ((rd_T40 l1 x11_2).f0) then (if bt156.2.2.1 = ((rd_T40 l1 x11_2).f2) then (if bt156.2.1 < ((rd_T40 l1 x11_2).f1) then (quirelaw15_BandClear.j3 kj16 a0 l1 a2 a3 t153 x10_2 x11_2 true bt156.1 bt156.2.1 bt156.2.2.1 bt156.2.2.2.1) else (if bt156.2.2.2.1 > ((rd_T40 l1 x11_2).f3) then (quirelaw15_BandClear.j3 kj16 a0 l1 a2 a3 t153 x10_2 x11_2 true bt156.1 bt156.2.1 bt156.2.2.1 bt156.2.2.2.1) else (if bt156.2.2.2.1 < ((rd_T40 l1 x11_2).f3) then (quirelaw15_BandClear.j3 kj16 a0 l1 a2 a3 t153 x10_2 x11_2 (bt156.2.2.2.1 != (wrap64 (Int.tdiv (wrap64 (a0 - 10)) 2))) bt156.1 bt156.2.1 bt156.2.2.1 bt156.2.2.2.1) else (quirelaw15_BandClear.j3 kj16 a0 l1 a2 a3 t153 x10_2 x11_2 false bt156.1 bt156.2.1 bt156.2.2.1 bt156.2.2.2.1)))) else (quirelaw15_BandClear.j3 kj16 a0 l1 a2 a3 t153 x10_2 x11_2 true bt156.1 bt156.2.1 bt156.2.2.1 bt156.2.2.2.1)) else (quirelaw15_BandClear.j3 kj16 a0 l1 a2 a3 t153 x10_2 x11_2 true bt156.1 bt156.2.1 bt156.2.2.1 bt156.2.2.2.1)) else (quirelaw15_BandClear.j3 kj16 a0 l1 a2 a3 t153 x10_2 x11_2 true bt156.1 bt156.2.1 bt156.2.2.1 bt156.2.2.2.1))) = some r := by rw [if_neg (show ¬ (false = true) by decide)] at H; exact H
           clear H
           have H := H1
           clear H1
           replace H := Option.bind_eq_some_iff.mp H
           obtain ⟨⟨t156, t157, t158, t159, t160⟩, A460, H⟩ := H
           replace H : (if t160 = 0 then (if t156 = ((rd_T40 l1 x11_2).f0) then (if t158 = ((rd_T40 l1 x11_2).f2) then (if t157 < ((rd_T40 l1 x11_2).f1) then (quirelaw15_BandClear.j3 kj16 a0 l1 a2 a3 t153 x10_2 x11_2 true t156 t157 t158 t159) else (if t159 > ((rd_T40 l1 x11_2).f3) then (quirelaw15_BandClear.j3 kj16 a0 l1 a2 a3 t153 x10_2 x11_2 true t156 t157 t158 t159) else (if t159 < ((rd_T40 l1 x11_2).f3) then (quirelaw15_BandClear.j3 kj16 a0 l1 a2 a3 t153 x10_2 x11_2 (t159 != (wrap64 (Int.tdiv (wrap64 (a0 - 10)) 2))) t156 t157 t158 t159) else (quirelaw15_BandClear.j3 kj16 a0 l1 a2 a3 t153 x10_2 x11_2 false t156 t157 t158 t159)))) else (quirelaw15_BandClear.j3 kj16 a0 l1 a2 a3 t153 x10_2 x11_2 true t156 t157 t158 t159)) else (quirelaw15_BandClear.j3 kj16 a0 l1 a2 a3 t153 x10_2 x11_2 true t156 t157 t158 t159)) else (quirelaw15_BandClear.j3 kj16 a0 l1 a2 a3 t153 x10_2 x11_2 true t156 t157 t158 t159)) = some r := H
           have A46 := Aside0.mk A460
           clear A460
           have HC47 := Aside0.mk H
           clear H
           have hcz48_0 : wc.cell? ⟨gb155, 0, none⟩ = some (.int .i64 ((rd_T40 l1 x11_2).f0)) := (blk_cell BK155.out 0).trans rfl
           have hcz48_1 : wc.cell? ⟨gb155, 1, none⟩ = some (.int .i64 ((rd_T40 l1 x11_2).f1)) := (blk_cell BK155.out 1).trans rfl
           have hcz48_2 : wc.cell? ⟨gb155, 2, none⟩ = some (.int .i64 ((rd_T40 l1 x11_2).f2)) := (blk_cell BK155.out 2).trans rfl
           have hcz48_3 : wc.cell? ⟨gb155, 3, none⟩ = some (.int .i64 ((rd_T40 l1 x11_2).f3)) := (blk_cell BK155.out 3).trans rfl
           have hfz48_0 := blk_frozen BK155.out 0
           have hfz48_1 := blk_frozen BK155.out 1
           have hfz48_2 := blk_frozen BK155.out 2
           have hfz48_3 := blk_frozen BK155.out 3
           obtain ⟨Ao49, co49, eo49⟩ := Kd.R_slice HO_10.out
           subst eo49
           go_upto_region 12 with (first | (go_at_call 7; (with_reducible refine (band_Put.calls kj16 a0 _ _ x10_2 ((rd_T40 l1 x11_2).f0) ((rd_T40 l1 x11_2).f1) ((rd_T40 l1 x11_2).f2) ((rd_T40 l1 x11_2).f3) t156 t157 t158 t159 t160 _ ?side1 ?side2 A46.out).mono ?_); (case side1 => repeat (first | exact (Kd.R_reads' HO_10.out).2.2 | (with_reducible refine Kd.C_alloc ?_ _) | (with_reducible refine Kd.C_drewN ?_ _) | (with_reducible refine Kd.C_drew ?_))); (case side2 => exact (Kd.R_reads' HO_10.out).2.1); rintro e w50 ⟨rfl, hb⟩; have n0_ := Aside0.mk (Kd.R_below (by (with_reducible repeat (first | apply Kd.R_alloc | apply Kd.R_drewN | apply Kd.R_drew)); exact HO_10.out) hb); have n1_ := Aside0.mk (blk_below (g := gb155) (o := .cells #[.int .i64 ((rd_T40 l1 x11_2).f0), .int .i64 ((rd_T40 l1 x11_2).f1), .int .i64 ((rd_T40 l1 x11_2).f2), .int .i64 ((rd_T40 l1 x11_2).f3)] 40 (0, 0)) (by (with_reducible repeat (first | refine blk_drewN ?_ _ | refine blk_drew ?_ | refine blk_alloc ?_ _)); exact BK155.out) hb); have n2_ := Aside0.mk (below_step (by repeat (first | (with_reducible first | exact HB.out | apply below_alloc | apply pw_below_drewN | apply below_drew1 | refine below_set ?_ GE155.out) | exact HB.out)) hb); clear HO_10; clear BK155; clear HB; have HO_10 := n0_; have BK155 := n1_; have HB := n2_; clear n0_ n1_ n2_; (try clear hb); (try clear hb2); (try clear hk); (try clear hi)) | ((with_reducible refine gate_dst (N := 13) rfl ?_); (try (refine gate_guard (by rfl) ?_; dsimp only)); refine box_event ?hg (N := 13) ?hd (cs := #[.int .i64 0, .int .i64 0, .int .i64 0, .int .i64 0]) (t := 24) ?hr ?_; (case hd => rfl); (case hg => rfl); (case hr => first | (go_simp; done) | (go_simp; rfl)); intro gb161 hg w51 hbox hb; have n0_ := Aside0.mk (Kd.R_below (Kd.R_elderB (by (with_reducible repeat (first | apply Kd.R_alloc | apply Kd.R_drewN | apply Kd.R_drew)); exact HO_10.out) gb161 (Nat.le_of_eq hg.symm)) hb); have n1_ := Aside0.mk (blk_below (g := gb155) (o := .cells #[.int .i64 ((rd_T40 l1 x11_2).f0), .int .i64 ((rd_T40 l1 x11_2).f1), .int .i64 ((rd_T40 l1 x11_2).f2), .int .i64 ((rd_T40 l1 x11_2).f3)] 40 (0, 0)) (by (with_reducible repeat (first | refine blk_drewN ?_ _ | refine blk_drew ?_ | refine blk_alloc ?_ _)); exact BK155.out) hb); have n2_ := Aside0.mk (below_step (by repeat (first | (with_reducible first | exact HB.out | apply below_alloc | apply pw_below_drewN | apply below_drew1 | refine below_set ?_ GE155.out) | exact HB.out)) hb); have n3_ := Aside0.mk (hbox); have n4_ := Aside0.mk ((by rw [hg]; exact (below_size (by repeat (first | (with_reducible first | exact HB.out | apply below_alloc | apply pw_below_drewN | apply below_drew1 | refine below_set ?_ GE155.out) | exact HB.out))) : w.heap.size ≤ gb161)); have n5_ := Aside0.mk ((by rw [hg]; exact (below_size (by repeat (first | (with_reducible first | exact HB.out | apply below_alloc | apply pw_below_drewN | apply below_drew1 | refine below_set ?_ GE155.out) | exact HB.out))) : w.heap.size ≤ gb161)); have n6_ := Aside0.mk ((by rw [hg]; exact Nat.ne_of_lt (blk_lt (g := gb155) (o := .cells #[.int .i64 ((rd_T40 l1 x11_2).f0), .int .i64 ((rd_T40 l1 x11_2).f1), .int .i64 ((rd_T40 l1 x11_2).f2), .int .i64 ((rd_T40 l1 x11_2).f3)] 40 (0, 0)) (by (with_reducible repeat (first | refine blk_drewN ?_ _ | refine blk_drew ?_ | refine blk_alloc ?_ _)); exact BK155.out)) : gb155 ≠ gb161)); have n7_ := Aside0.mk ((by rw [hg]; exact Nat.ne_of_gt (blk_lt (g := gb155) (o := .cells #[.int .i64 ((rd_T40 l1 x11_2).f0), .int .i64 ((rd_T40 l1 x11_2).f1), .int .i64 ((rd_T40 l1 x11_2).f2), .int .i64 ((rd_T40 l1 x11_2).f3)] 40 (0, 0)) (by (with_reducible repeat (first | refine blk_drewN ?_ _ | refine blk_drew ?_ | refine blk_alloc ?_ _)); exact BK155.out)) : gb161 ≠ gb155)); clear HO_10; clear BK155; clear HB; have HO_10 := n0_; have BK155 := n1_; have HB := n2_; have BK161 := n3_; have GW161 := n4_; have GE161 := n5_; have NB155_161 := n6_; have NB161_155 := n7_; clear n0_ n1_ n2_ n3_ n4_ n5_ n6_ n7_; clear hb hbox hg; have hnb52 := NB161_155.out; have hnc52 := NB155_161.out; have hcz53_0 : w51.cell? ⟨gb161, 0, none⟩ = some (.int .i64 0) := (blk_cell BK161.out 0).trans rfl; have hcz53_1 : w51.cell? ⟨gb161, 1, none⟩ = some (.int .i64 0) := (blk_cell BK161.out 1).trans rfl; have hcz53_2 : w51.cell? ⟨gb161, 2, none⟩ = some (.int .i64 0) := (blk_cell BK161.out 2).trans rfl; have hcz53_3 : w51.cell? ⟨gb161, 3, none⟩ = some (.int .i64 0) := (blk_cell BK161.out 3).trans rfl; have hfz53_0 := blk_frozen BK161.out 0; have hfz53_1 := blk_frozen BK161.out 1; have hfz53_2 := blk_frozen BK161.out 2; have hfz53_3 := blk_frozen BK161.out 3))
           repeat (go_quiet (first | (go_at_call 7; (with_reducible refine (band_Put.calls kj16 a0 _ _ x10_2 ((rd_T40 l1 x11_2).f0) ((rd_T40 l1 x11_2).f1) ((rd_T40 l1 x11_2).f2) ((rd_T40 l1 x11_2).f3) t156 t157 t158 t159 t160 _ ?side1 ?side2 A46.out).mono ?_); (case side1 => repeat (first | exact (Kd.R_reads' HO_10.out).2.2 | (with_reducible refine Kd.C_alloc ?_ _) | (with_reducible refine Kd.C_drewN ?_ _) | (with_reducible refine Kd.C_drew ?_))); (case side2 => exact (Kd.R_reads' HO_10.out).2.1); rintro e w50 ⟨rfl, hb⟩; have n0_ := Aside0.mk (Kd.R_below (by (with_reducible repeat (first | apply Kd.R_alloc | apply Kd.R_drewN | apply Kd.R_drew)); exact HO_10.out) hb); have n1_ := Aside0.mk (blk_below (g := gb155) (o := .cells #[.int .i64 ((rd_T40 l1 x11_2).f0), .int .i64 ((rd_T40 l1 x11_2).f1), .int .i64 ((rd_T40 l1 x11_2).f2), .int .i64 ((rd_T40 l1 x11_2).f3)] 40 (0, 0)) (by (with_reducible repeat (first | refine blk_drewN ?_ _ | refine blk_drew ?_ | refine blk_alloc ?_ _)); exact BK155.out) hb); have n2_ := Aside0.mk (below_step (by repeat (first | (with_reducible first | exact HB.out | apply below_alloc | apply pw_below_drewN | apply below_drew1 | refine below_set ?_ GE155.out) | exact HB.out)) hb); clear HO_10; clear BK155; clear HB; have HO_10 := n0_; have BK155 := n1_; have HB := n2_; clear n0_ n1_ n2_; (try clear hb); (try clear hb2); (try clear hk); (try clear hi)) | ((with_reducible refine gate_dst (N := 13) rfl ?_); (try (refine gate_guard (by rfl) ?_; dsimp only)); refine box_event ?hg (N := 13) ?hd (cs := #[.int .i64 0, .int .i64 0, .int .i64 0, .int .i64 0]) (t := 24) ?hr ?_; (case hd => rfl); (case hg => rfl); (case hr => first | (go_simp; done) | (go_simp; rfl)); intro gb161 hg w51 hbox hb; have n0_ := Aside0.mk (Kd.R_below (Kd.R_elderB (by (with_reducible repeat (first | apply Kd.R_alloc | apply Kd.R_drewN | apply Kd.R_drew)); exact HO_10.out) gb161 (Nat.le_of_eq hg.symm)) hb); have n1_ := Aside0.mk (blk_below (g := gb155) (o := .cells #[.int .i64 ((rd_T40 l1 x11_2).f0), .int .i64 ((rd_T40 l1 x11_2).f1), .int .i64 ((rd_T40 l1 x11_2).f2), .int .i64 ((rd_T40 l1 x11_2).f3)] 40 (0, 0)) (by (with_reducible repeat (first | refine blk_drewN ?_ _ | refine blk_drew ?_ | refine blk_alloc ?_ _)); exact BK155.out) hb); have n2_ := Aside0.mk (below_step (by repeat (first | (with_reducible first | exact HB.out | apply below_alloc | apply pw_below_drewN | apply below_drew1 | refine below_set ?_ GE155.out) | exact HB.out)) hb); have n3_ := Aside0.mk (hbox); have n4_ := Aside0.mk ((by rw [hg]; exact (below_size (by repeat (first | (with_reducible first | exact HB.out | apply below_alloc | apply pw_below_drewN | apply below_drew1 | refine below_set ?_ GE155.out) | exact HB.out))) : w.heap.size ≤ gb161)); have n5_ := Aside0.mk ((by rw [hg]; exact (below_size (by repeat (first | (with_reducible first | exact HB.out | apply below_alloc | apply pw_below_drewN | apply below_drew1 | refine below_set ?_ GE155.out) | exact HB.out))) : w.heap.size ≤ gb161)); have n6_ := Aside0.mk ((by rw [hg]; exact Nat.ne_of_lt (blk_lt (g := gb155) (o := .cells #[.int .i64 ((rd_T40 l1 x11_2).f0), .int .i64 ((rd_T40 l1 x11_2).f1), .int .i64 ((rd_T40 l1 x11_2).f2), .int .i64 ((rd_T40 l1 x11_2).f3)] 40 (0, 0)) (by (with_reducible repeat (first | refine blk_drewN ?_ _ | refine blk_drew ?_ | refine blk_alloc ?_ _)); exact BK155.out)) : gb155 ≠ gb161)); have n7_ := Aside0.mk ((by rw [hg]; exact Nat.ne_of_gt (blk_lt (g := gb155) (o := .cells #[.int .i64 ((rd_T40 l1 x11_2).f0), .int .i64 ((rd_T40 l1 x11_2).f1), .int .i64 ((rd_T40 l1 x11_2).f2), .int .i64 ((rd_T40 l1 x11_2).f3)] 40 (0, 0)) (by (with_reducible repeat (first | refine blk_drewN ?_ _ | refine blk_drew ?_ | refine blk_alloc ?_ _)); exact BK155.out)) : gb161 ≠ gb155)); clear HO_10; clear BK155; clear HB; have HO_10 := n0_; have BK155 := n1_; have HB := n2_; have BK161 := n3_; have GW161 := n4_; have GE161 := n5_; have NB155_161 := n6_; have NB161_155 := n7_; clear n0_ n1_ n2_ n3_ n4_ n5_ n6_ n7_; clear hb hbox hg; have hnb52 := NB161_155.out; have hnc52 := NB155_161.out; have hcz53_0 : w51.cell? ⟨gb161, 0, none⟩ = some (.int .i64 0) := (blk_cell BK161.out 0).trans rfl; have hcz53_1 : w51.cell? ⟨gb161, 1, none⟩ = some (.int .i64 0) := (blk_cell BK161.out 1).trans rfl; have hcz53_2 : w51.cell? ⟨gb161, 2, none⟩ = some (.int .i64 0) := (blk_cell BK161.out 2).trans rfl; have hcz53_3 : w51.cell? ⟨gb161, 3, none⟩ = some (.int .i64 0) := (blk_cell BK161.out 3).trans rfl; have hfz53_0 := blk_frozen BK161.out 0; have hfz53_1 := blk_frozen BK161.out 1; have hfz53_2 := blk_frozen BK161.out 2; have hfz53_3 := blk_frozen BK161.out 3)); go_upto_region 12 with (first | (go_at_call 7; (with_reducible refine (band_Put.calls kj16 a0 _ _ x10_2 ((rd_T40 l1 x11_2).f0) ((rd_T40 l1 x11_2).f1) ((rd_T40 l1 x11_2).f2) ((rd_T40 l1 x11_2).f3) t156 t157 t158 t159 t160 _ ?side1 ?side2 A46.out).mono ?_); (case side1 => repeat (first | exact (Kd.R_reads' HO_10.out).2.2 | (with_reducible refine Kd.C_alloc ?_ _) | (with_reducible refine Kd.C_drewN ?_ _) | (with_reducible refine Kd.C_drew ?_))); (case side2 => exact (Kd.R_reads' HO_10.out).2.1); rintro e w50 ⟨rfl, hb⟩; have n0_ := Aside0.mk (Kd.R_below (by (with_reducible repeat (first | apply Kd.R_alloc | apply Kd.R_drewN | apply Kd.R_drew)); exact HO_10.out) hb); have n1_ := Aside0.mk (blk_below (g := gb155) (o := .cells #[.int .i64 ((rd_T40 l1 x11_2).f0), .int .i64 ((rd_T40 l1 x11_2).f1), .int .i64 ((rd_T40 l1 x11_2).f2), .int .i64 ((rd_T40 l1 x11_2).f3)] 40 (0, 0)) (by (with_reducible repeat (first | refine blk_drewN ?_ _ | refine blk_drew ?_ | refine blk_alloc ?_ _)); exact BK155.out) hb); have n2_ := Aside0.mk (below_step (by repeat (first | (with_reducible first | exact HB.out | apply below_alloc | apply pw_below_drewN | apply below_drew1 | refine below_set ?_ GE155.out) | exact HB.out)) hb); clear HO_10; clear BK155; clear HB; have HO_10 := n0_; have BK155 := n1_; have HB := n2_; clear n0_ n1_ n2_; (try clear hb); (try clear hb2); (try clear hk); (try clear hi)) | ((with_reducible refine gate_dst (N := 13) rfl ?_); (try (refine gate_guard (by rfl) ?_; dsimp only)); refine box_event ?hg (N := 13) ?hd (cs := #[.int .i64 0, .int .i64 0, .int .i64 0, .int .i64 0]) (t := 24) ?hr ?_; (case hd => rfl); (case hg => rfl); (case hr => first | (go_simp; done) | (go_simp; rfl)); intro gb161 hg w51 hbox hb; have n0_ := Aside0.mk (Kd.R_below (Kd.R_elderB (by (with_reducible repeat (first | apply Kd.R_alloc | apply Kd.R_drewN | apply Kd.R_drew)); exact HO_10.out) gb161 (Nat.le_of_eq hg.symm)) hb); have n1_ := Aside0.mk (blk_below (g := gb155) (o := .cells #[.int .i64 ((rd_T40 l1 x11_2).f0), .int .i64 ((rd_T40 l1 x11_2).f1), .int .i64 ((rd_T40 l1 x11_2).f2), .int .i64 ((rd_T40 l1 x11_2).f3)] 40 (0, 0)) (by (with_reducible repeat (first | refine blk_drewN ?_ _ | refine blk_drew ?_ | refine blk_alloc ?_ _)); exact BK155.out) hb); have n2_ := Aside0.mk (below_step (by repeat (first | (with_reducible first | exact HB.out | apply below_alloc | apply pw_below_drewN | apply below_drew1 | refine below_set ?_ GE155.out) | exact HB.out)) hb); have n3_ := Aside0.mk (hbox); have n4_ := Aside0.mk ((by rw [hg]; exact (below_size (by repeat (first | (with_reducible first | exact HB.out | apply below_alloc | apply pw_below_drewN | apply below_drew1 | refine below_set ?_ GE155.out) | exact HB.out))) : w.heap.size ≤ gb161)); have n5_ := Aside0.mk ((by rw [hg]; exact (below_size (by repeat (first | (with_reducible first | exact HB.out | apply below_alloc | apply pw_below_drewN | apply below_drew1 | refine below_set ?_ GE155.out) | exact HB.out))) : w.heap.size ≤ gb161)); have n6_ := Aside0.mk ((by rw [hg]; exact Nat.ne_of_lt (blk_lt (g := gb155) (o := .cells #[.int .i64 ((rd_T40 l1 x11_2).f0), .int .i64 ((rd_T40 l1 x11_2).f1), .int .i64 ((rd_T40 l1 x11_2).f2), .int .i64 ((rd_T40 l1 x11_2).f3)] 40 (0, 0)) (by (with_reducible repeat (first | refine blk_drewN ?_ _ | refine blk_drew ?_ | refine blk_alloc ?_ _)); exact BK155.out)) : gb155 ≠ gb161)); have n7_ := Aside0.mk ((by rw [hg]; exact Nat.ne_of_gt (blk_lt (g := gb155) (o := .cells #[.int .i64 ((rd_T40 l1 x11_2).f0), .int .i64 ((rd_T40 l1 x11_2).f1), .int .i64 ((rd_T40 l1 x11_2).f2), .int .i64 ((rd_T40 l1 x11_2).f3)] 40 (0, 0)) (by (with_reducible repeat (first | refine blk_drewN ?_ _ | refine blk_drew ?_ | refine blk_alloc ?_ _)); exact BK155.out)) : gb161 ≠ gb155)); clear HO_10; clear BK155; clear HB; have HO_10 := n0_; have BK155 := n1_; have HB := n2_; have BK161 := n3_; have GW161 := n4_; have GE161 := n5_; have NB155_161 := n6_; have NB161_155 := n7_; clear n0_ n1_ n2_ n3_ n4_ n5_ n6_ n7_; clear hb hbox hg; have hnb52 := NB161_155.out; have hnc52 := NB155_161.out; have hcz53_0 : w51.cell? ⟨gb161, 0, none⟩ = some (.int .i64 0) := (blk_cell BK161.out 0).trans rfl; have hcz53_1 : w51.cell? ⟨gb161, 1, none⟩ = some (.int .i64 0) := (blk_cell BK161.out 1).trans rfl; have hcz53_2 : w51.cell? ⟨gb161, 2, none⟩ = some (.int .i64 0) := (blk_cell BK161.out 2).trans rfl; have hcz53_3 : w51.cell? ⟨gb161, 3, none⟩ = some (.int .i64 0) := (blk_cell BK161.out 3).trans rfl; have hfz53_0 := blk_frozen BK161.out 0; have hfz53_1 := blk_frozen BK161.out 1; have hfz53_2 := blk_frozen BK161.out 2; have hfz53_3 := blk_frozen BK161.out 3)))
           (try simp only [Act.put, List.setIfInBounds_toArray, List.set_cons_zero, List.set_cons_succ])
           go_cut [161] (fun v161 wc => ∃ (kq : Nat) (x161_46 : Bool), v161 = .bool x161_46 ∧ Aside0 (quirelaw15_BandClear.j3 kq a0 l1 a2 a3 t153 x10_2 x11_2 x161_46 t156 t157 t158 t159 = some r) ∧ Aside0 (kq ≤ kj16) ∧ Aside0 (Kd.R k24 24 wc w.heap.size (fun k_ => k_ ≠ gb161) (.slice Ao49 x10_2.length co49) x10_2) ∧ Aside0 (wc.heap[gb155]? = some (.cells #[.int .i64 ((rd_T40 l1 x11_2).f0), .int .i64 ((rd_T40 l1 x11_2).f1), .int .i64 ((rd_T40 l1 x11_2).f2), .int .i64 ((rd_T40 l1 x11_2).f3)] 40 (0, 0))) ∧ Aside0 (wc.heap[gb161]? = some (.cells #[.int .i64 t156, .int .i64 t157, .int .i64 t158, .int .i64 t159] 24 (0, 0))) ∧ Aside0 (Below w.heap.size w wc))
           case first => as_aux_lemma =>
            have H := HC47.out
            clear HC47
            by_cases c54 : t160 = 0
            ·rw [if_pos c54] at H
             have c54b0 : (t160 == 0) = true := beq_iff_eq.mpr c54
             have c54b1 : (t160 != 0) = false := bne_eq_false_iff_eq.mpr c54
             clear c54
             (first | rw [c54b0] | (simp only [i64_w, i32_w]; rw [c54b0]) | skip)
             by_cases c55 : t156 = ((rd_T40 l1 x11_2).f0)
             ·rw [if_pos c55] at H
              have c55b0 : (t156 == ((rd_T40 l1 x11_2).f0)) = true := beq_iff_eq.mpr c55
              have c55b1 : (t156 != ((rd_T40 l1 x11_2).f0)) = false := bne_eq_false_iff_eq.mpr c55
              clear c55
              by_cases c56 : t158 = ((rd_T40 l1 x11_2).f2)
              ·rw [if_pos c56] at H
               have c56b0 : (t158 == ((rd_T40 l1 x11_2).f2)) = true := beq_iff_eq.mpr c56
               have c56b1 : (t158 != ((rd_T40 l1 x11_2).f2)) = false := bne_eq_false_iff_eq.mpr c56
               clear c56
               by_cases c57 : t157 < ((rd_T40 l1 x11_2).f1)
               ·rw [if_pos c57] at H
                have c57b0 : decide (t157 < ((rd_T40 l1 x11_2).f1)) = true := decide_eq_true c57
                clear c57
                have H' := Aside0.mk H
                clear H
                have hnb58 := NB161_155.out
                have hnc58 := NB155_161.out
                have hcz59_0 : w51.cell? ⟨gb161, 0, none⟩ = some (.int .i64 0) := (blk_cell BK161.out 0).trans rfl
                have hcz59_1 : w51.cell? ⟨gb161, 1, none⟩ = some (.int .i64 0) := (blk_cell BK161.out 1).trans rfl
                have hcz59_2 : w51.cell? ⟨gb161, 2, none⟩ = some (.int .i64 0) := (blk_cell BK161.out 2).trans rfl
                have hcz59_3 : w51.cell? ⟨gb161, 3, none⟩ = some (.int .i64 0) := (blk_cell BK161.out 3).trans rfl
                have hfz59_0 := blk_frozen BK161.out 0
                have hfz59_1 := blk_frozen BK161.out 1
                have hfz59_2 := blk_frozen BK161.out 2
                have hfz59_3 := blk_frozen BK161.out 3
                have hcz60_0 : w51.cell? ⟨gb155, 0, none⟩ = some (.int .i64 ((rd_T40 l1 x11_2).f0)) := (blk_cell BK155.out 0).trans rfl
                have hcz60_1 : w51.cell? ⟨gb155, 1, none⟩ = some (.int .i64 ((rd_T40 l1 x11_2).f1)) := (blk_cell BK155.out 1).trans rfl
                have hcz60_2 : w51.cell? ⟨gb155, 2, none⟩ = some (.int .i64 ((rd_T40 l1 x11_2).f2)) := (blk_cell BK155.out 2).trans rfl
                have hcz60_3 : w51.cell? ⟨gb155, 3, none⟩ = some (.int .i64 ((rd_T40 l1 x11_2).f3)) := (blk_cell BK155.out 3).trans rfl
                have hfz60_0 := blk_frozen BK155.out 0
                have hfz60_1 := blk_frozen BK155.out 1
                have hfz60_2 := blk_frozen BK155.out 2
                have hfz60_3 := blk_frozen BK155.out 3
                go_wp2
                repeat (go_quiet (fail); try go_wp2)
                go_meet
                case rel => exact ⟨_, (true), (by first | rfl | (simp; done) | (simp [*]; done)), H', ⟨by have := HJ5.out; have := HK2.out; have := HJ16.out; first | omega | exact Nat.le_refl _⟩, ⟨by (with_reducible repeat (first | apply Kd.R_alloc | apply Kd.R_drewN | apply Kd.R_drew)); exact Kd.R_mono (Kd.R_far (p := ⟨gb161, 3, none⟩) (Kd.R_far (p := ⟨gb161, 2, none⟩) (Kd.R_far (p := ⟨gb161, 1, none⟩) (Kd.R_far (p := ⟨gb161, 0, none⟩) (Kd.R_mono HO_10.out (fun k_ hk => (⟨hk, hk.2⟩ : _ ∧ k_ ≠ gb161))) (fun _ hk => hk.2) (.int .i64 t156)) (fun _ hk => hk.2) (.int .i64 t157)) (fun _ hk => hk.2) (.int .i64 t158)) (fun _ hk => hk.2) (.int .i64 t159)) (fun _ hk => hk.1.2)⟩, ⟨by (with_reducible repeat (first | refine blk_drewN ?_ _ | refine blk_drew ?_ | refine blk_alloc ?_ _)); refine blk_far ?_ NB155_161.out _; (with_reducible repeat (first | refine blk_drewN ?_ _ | refine blk_drew ?_ | refine blk_alloc ?_ _)); refine blk_far ?_ NB155_161.out _; (with_reducible repeat (first | refine blk_drewN ?_ _ | refine blk_drew ?_ | refine blk_alloc ?_ _)); refine blk_far ?_ NB155_161.out _; (with_reducible repeat (first | refine blk_drewN ?_ _ | refine blk_drew ?_ | refine blk_alloc ?_ _)); refine blk_far ?_ NB155_161.out _; (with_reducible repeat (first | refine blk_drewN ?_ _ | refine blk_drew ?_ | refine blk_alloc ?_ _)); exact BK155.out⟩, ⟨by (with_reducible repeat (first | refine blk_drewN ?_ _ | refine blk_drew ?_ | refine blk_alloc ?_ _)); refine blk_put (cs := #[.int .i64 t156, .int .i64 t157, .int .i64 t158, .int .i64 0]) ?_ 3 _ rfl; (with_reducible repeat (first | refine blk_drewN ?_ _ | refine blk_drew ?_ | refine blk_alloc ?_ _)); refine blk_put (cs := #[.int .i64 t156, .int .i64 t157, .int .i64 0, .int .i64 0]) ?_ 2 _ rfl; (with_reducible repeat (first | refine blk_drewN ?_ _ | refine blk_drew ?_ | refine blk_alloc ?_ _)); refine blk_put (cs := #[.int .i64 t156, .int .i64 0, .int .i64 0, .int .i64 0]) ?_ 1 _ rfl; (with_reducible repeat (first | refine blk_drewN ?_ _ | refine blk_drew ?_ | refine blk_alloc ?_ _)); refine blk_put (cs := #[.int .i64 0, .int .i64 0, .int .i64 0, .int .i64 0]) ?_ 0 _ rfl; (with_reducible repeat (first | refine blk_drewN ?_ _ | refine blk_drew ?_ | refine blk_alloc ?_ _)); exact BK161.out⟩, ⟨by repeat (first | (with_reducible first | exact HB.out | apply below_alloc | apply pw_below_drewN | apply below_drew1 | refine below_set ?_ GE155.out | refine below_set ?_ GE161.out) | exact HB.out)⟩⟩
               ·rw [if_neg c57] at H
                have c57b0 : decide (t157 < ((rd_T40 l1 x11_2).f1)) = false := decide_eq_false c57
                clear c57
                by_cases c61 : t159 > ((rd_T40 l1 x11_2).f3)
                ·rw [if_pos c61] at H
                 have c61b0 : decide (((rd_T40 l1 x11_2).f3) < t159) = true := decide_eq_true c61
                 clear c61
                 have H' := Aside0.mk H
                 clear H
                 have hnb62 := NB161_155.out
                 have hnc62 := NB155_161.out
                 have hcz63_0 : w51.cell? ⟨gb161, 0, none⟩ = some (.int .i64 0) := (blk_cell BK161.out 0).trans rfl
                 have hcz63_1 : w51.cell? ⟨gb161, 1, none⟩ = some (.int .i64 0) := (blk_cell BK161.out 1).trans rfl
                 have hcz63_2 : w51.cell? ⟨gb161, 2, none⟩ = some (.int .i64 0) := (blk_cell BK161.out 2).trans rfl
                 have hcz63_3 : w51.cell? ⟨gb161, 3, none⟩ = some (.int .i64 0) := (blk_cell BK161.out 3).trans rfl
                 have hfz63_0 := blk_frozen BK161.out 0
                 have hfz63_1 := blk_frozen BK161.out 1
                 have hfz63_2 := blk_frozen BK161.out 2
                 have hfz63_3 := blk_frozen BK161.out 3
                 have hcz64_0 : w51.cell? ⟨gb155, 0, none⟩ = some (.int .i64 ((rd_T40 l1 x11_2).f0)) := (blk_cell BK155.out 0).trans rfl
                 have hcz64_1 : w51.cell? ⟨gb155, 1, none⟩ = some (.int .i64 ((rd_T40 l1 x11_2).f1)) := (blk_cell BK155.out 1).trans rfl
                 have hcz64_2 : w51.cell? ⟨gb155, 2, none⟩ = some (.int .i64 ((rd_T40 l1 x11_2).f2)) := (blk_cell BK155.out 2).trans rfl
                 have hcz64_3 : w51.cell? ⟨gb155, 3, none⟩ = some (.int .i64 ((rd_T40 l1 x11_2).f3)) := (blk_cell BK155.out 3).trans rfl
                 have hfz64_0 := blk_frozen BK155.out 0
                 have hfz64_1 := blk_frozen BK155.out 1
                 have hfz64_2 := blk_frozen BK155.out 2
                 have hfz64_3 := blk_frozen BK155.out 3
                 go_wp2
                 repeat (go_quiet (fail); try go_wp2)
                 go_meet
                 case rel => exact ⟨_, (true), (by first | rfl | (simp; done) | (simp [*]; done)), H', ⟨by have := HJ5.out; have := HK2.out; have := HJ16.out; first | omega | exact Nat.le_refl _⟩, ⟨by (with_reducible repeat (first | apply Kd.R_alloc | apply Kd.R_drewN | apply Kd.R_drew)); exact Kd.R_mono (Kd.R_far (p := ⟨gb161, 3, none⟩) (Kd.R_far (p := ⟨gb161, 2, none⟩) (Kd.R_far (p := ⟨gb161, 1, none⟩) (Kd.R_far (p := ⟨gb161, 0, none⟩) (Kd.R_mono HO_10.out (fun k_ hk => (⟨hk, hk.2⟩ : _ ∧ k_ ≠ gb161))) (fun _ hk => hk.2) (.int .i64 t156)) (fun _ hk => hk.2) (.int .i64 t157)) (fun _ hk => hk.2) (.int .i64 t158)) (fun _ hk => hk.2) (.int .i64 t159)) (fun _ hk => hk.1.2)⟩, ⟨by (with_reducible repeat (first | refine blk_drewN ?_ _ | refine blk_drew ?_ | refine blk_alloc ?_ _)); refine blk_far ?_ NB155_161.out _; (with_reducible repeat (first | refine blk_drewN ?_ _ | refine blk_drew ?_ | refine blk_alloc ?_ _)); refine blk_far ?_ NB155_161.out _; (with_reducible repeat (first | refine blk_drewN ?_ _ | refine blk_drew ?_ | refine blk_alloc ?_ _)); refine blk_far ?_ NB155_161.out _; (with_reducible repeat (first | refine blk_drewN ?_ _ | refine blk_drew ?_ | refine blk_alloc ?_ _)); refine blk_far ?_ NB155_161.out _; (with_reducible repeat (first | refine blk_drewN ?_ _ | refine blk_drew ?_ | refine blk_alloc ?_ _)); exact BK155.out⟩, ⟨by (with_reducible repeat (first | refine blk_drewN ?_ _ | refine blk_drew ?_ | refine blk_alloc ?_ _)); refine blk_put (cs := #[.int .i64 t156, .int .i64 t157, .int .i64 t158, .int .i64 0]) ?_ 3 _ rfl; (with_reducible repeat (first | refine blk_drewN ?_ _ | refine blk_drew ?_ | refine blk_alloc ?_ _)); refine blk_put (cs := #[.int .i64 t156, .int .i64 t157, .int .i64 0, .int .i64 0]) ?_ 2 _ rfl; (with_reducible repeat (first | refine blk_drewN ?_ _ | refine blk_drew ?_ | refine blk_alloc ?_ _)); refine blk_put (cs := #[.int .i64 t156, .int .i64 0, .int .i64 0, .int .i64 0]) ?_ 1 _ rfl; (with_reducible repeat (first | refine blk_drewN ?_ _ | refine blk_drew ?_ | refine blk_alloc ?_ _)); refine blk_put (cs := #[.int .i64 0, .int .i64 0, .int .i64 0, .int .i64 0]) ?_ 0 _ rfl; (with_reducible repeat (first | refine blk_drewN ?_ _ | refine blk_drew ?_ | refine blk_alloc ?_ _)); exact BK161.out⟩, ⟨by repeat (first | (with_reducible first | exact HB.out | apply below_alloc | apply pw_below_drewN | apply below_drew1 | refine below_set ?_ GE155.out | refine below_set ?_ GE161.out) | exact HB.out)⟩⟩
                ·rw [if_neg c61] at H
                 have c61b0 : decide (((rd_T40 l1 x11_2).f3) < t159) = false := decide_eq_false c61
                 clear c61
                 by_cases c65 : t159 < ((rd_T40 l1 x11_2).f3)
                 ·rw [if_pos c65] at H
                  have c65b0 : decide (t159 < ((rd_T40 l1 x11_2).f3)) = true := decide_eq_true c65
                  clear c65
                  have H' := Aside0.mk H
                  clear H
                  have hnb66 := NB161_155.out
                  have hnc66 := NB155_161.out
                  have hcz67_0 : w51.cell? ⟨gb161, 0, none⟩ = some (.int .i64 0) := (blk_cell BK161.out 0).trans rfl
                  have hcz67_1 : w51.cell? ⟨gb161, 1, none⟩ = some (.int .i64 0) := (blk_cell BK161.out 1).trans rfl
                  have hcz67_2 : w51.cell? ⟨gb161, 2, none⟩ = some (.int .i64 0) := (blk_cell BK161.out 2).trans rfl
                  have hcz67_3 : w51.cell? ⟨gb161, 3, none⟩ = some (.int .i64 0) := (blk_cell BK161.out 3).trans rfl
                  have hfz67_0 := blk_frozen BK161.out 0
                  have hfz67_1 := blk_frozen BK161.out 1
                  have hfz67_2 := blk_frozen BK161.out 2
                  have hfz67_3 := blk_frozen BK161.out 3
                  have hcz68_0 : w51.cell? ⟨gb155, 0, none⟩ = some (.int .i64 ((rd_T40 l1 x11_2).f0)) := (blk_cell BK155.out 0).trans rfl
                  have hcz68_1 : w51.cell? ⟨gb155, 1, none⟩ = some (.int .i64 ((rd_T40 l1 x11_2).f1)) := (blk_cell BK155.out 1).trans rfl
                  have hcz68_2 : w51.cell? ⟨gb155, 2, none⟩ = some (.int .i64 ((rd_T40 l1 x11_2).f2)) := (blk_cell BK155.out 2).trans rfl
                  have hcz68_3 : w51.cell? ⟨gb155, 3, none⟩ = some (.int .i64 ((rd_T40 l1 x11_2).f3)) := (blk_cell BK155.out 3).trans rfl
                  have hfz68_0 := blk_frozen BK155.out 0
                  have hfz68_1 := blk_frozen BK155.out 1
                  have hfz68_2 := blk_frozen BK155.out 2
                  have hfz68_3 := blk_frozen BK155.out 3
                  go_wp2
                  repeat (go_quiet (fail); try go_wp2)
                  go_meet
                  case rel => exact ⟨_, ((t159 != (wrap64 (Int.tdiv (wrap64 (a0 - 10)) 2)))), (by first | rfl | (simp; done) | (simp [*]; done)), H', ⟨by have := HJ5.out; have := HK2.out; have := HJ16.out; first | omega | exact Nat.le_refl _⟩, ⟨by (with_reducible repeat (first | apply Kd.R_alloc | apply Kd.R_drewN | apply Kd.R_drew)); exact Kd.R_mono (Kd.R_far (p := ⟨gb161, 3, none⟩) (Kd.R_far (p := ⟨gb161, 2, none⟩) (Kd.R_far (p := ⟨gb161, 1, none⟩) (Kd.R_far (p := ⟨gb161, 0, none⟩) (Kd.R_mono HO_10.out (fun k_ hk => (⟨hk, hk.2⟩ : _ ∧ k_ ≠ gb161))) (fun _ hk => hk.2) (.int .i64 t156)) (fun _ hk => hk.2) (.int .i64 t157)) (fun _ hk => hk.2) (.int .i64 t158)) (fun _ hk => hk.2) (.int .i64 t159)) (fun _ hk => hk.1.2)⟩, ⟨by (with_reducible repeat (first | refine blk_drewN ?_ _ | refine blk_drew ?_ | refine blk_alloc ?_ _)); refine blk_far ?_ NB155_161.out _; (with_reducible repeat (first | refine blk_drewN ?_ _ | refine blk_drew ?_ | refine blk_alloc ?_ _)); refine blk_far ?_ NB155_161.out _; (with_reducible repeat (first | refine blk_drewN ?_ _ | refine blk_drew ?_ | refine blk_alloc ?_ _)); refine blk_far ?_ NB155_161.out _; (with_reducible repeat (first | refine blk_drewN ?_ _ | refine blk_drew ?_ | refine blk_alloc ?_ _)); refine blk_far ?_ NB155_161.out _; (with_reducible repeat (first | refine blk_drewN ?_ _ | refine blk_drew ?_ | refine blk_alloc ?_ _)); exact BK155.out⟩, ⟨by (with_reducible repeat (first | refine blk_drewN ?_ _ | refine blk_drew ?_ | refine blk_alloc ?_ _)); refine blk_put (cs := #[.int .i64 t156, .int .i64 t157, .int .i64 t158, .int .i64 0]) ?_ 3 _ rfl; (with_reducible repeat (first | refine blk_drewN ?_ _ | refine blk_drew ?_ | refine blk_alloc ?_ _)); refine blk_put (cs := #[.int .i64 t156, .int .i64 t157, .int .i64 0, .int .i64 0]) ?_ 2 _ rfl; (with_reducible repeat (first | refine blk_drewN ?_ _ | refine blk_drew ?_ | refine blk_alloc ?_ _)); refine blk_put (cs := #[.int .i64 t156, .int .i64 0, .int .i64 0, .int .i64 0]) ?_ 1 _ rfl; (with_reducible repeat (first | refine blk_drewN ?_ _ | refine blk_drew ?_ | refine blk_alloc ?_ _)); refine blk_put (cs := #[.int .i64 0, .int .i64 0, .int .i64 0, .int .i64 0]) ?_ 0 _ rfl; (with_reducible repeat (first | refine blk_drewN ?_ _ | refine blk_drew ?_ | refine blk_alloc ?_ _)); exact BK161.out⟩, ⟨by repeat (first | (with_reducible first | exact HB.out | apply below_alloc | apply pw_below_drewN | apply below_drew1 | refine below_set ?_ GE155.out | refine below_set ?_ GE161.out) | exact HB.out)⟩⟩
                 ·rw [if_neg c65] at H
                  have c65b0 : decide (t159 < ((rd_T40 l1 x11_2).f3)) = false := decide_eq_false c65
                  clear c65
                  have H' := Aside0.mk H
                  clear H
                  have hnb69 := NB161_155.out
                  have hnc69 := NB155_161.out
                  have hcz70_0 : w51.cell? ⟨gb161, 0, none⟩ = some (.int .i64 0) := (blk_cell BK161.out 0).trans rfl
                  have hcz70_1 : w51.cell? ⟨gb161, 1, none⟩ = some (.int .i64 0) := (blk_cell BK161.out 1).trans rfl
                  have hcz70_2 : w51.cell? ⟨gb161, 2, none⟩ = some (.int .i64 0) := (blk_cell BK161.out 2).trans rfl
                  have hcz70_3 : w51.cell? ⟨gb161, 3, none⟩ = some (.int .i64 0) := (blk_cell BK161.out 3).trans rfl
                  have hfz70_0 := blk_frozen BK161.out 0
                  have hfz70_1 := blk_frozen BK161.out 1
                  have hfz70_2 := blk_frozen BK161.out 2
                  have hfz70_3 := blk_frozen BK161.out 3
                  have hcz71_0 : w51.cell? ⟨gb155, 0, none⟩ = some (.int .i64 ((rd_T40 l1 x11_2).f0)) := (blk_cell BK155.out 0).trans rfl
                  have hcz71_1 : w51.cell? ⟨gb155, 1, none⟩ = some (.int .i64 ((rd_T40 l1 x11_2).f1)) := (blk_cell BK155.out 1).trans rfl
                  have hcz71_2 : w51.cell? ⟨gb155, 2, none⟩ = some (.int .i64 ((rd_T40 l1 x11_2).f2)) := (blk_cell BK155.out 2).trans rfl
                  have hcz71_3 : w51.cell? ⟨gb155, 3, none⟩ = some (.int .i64 ((rd_T40 l1 x11_2).f3)) := (blk_cell BK155.out 3).trans rfl
                  have hfz71_0 := blk_frozen BK155.out 0
                  have hfz71_1 := blk_frozen BK155.out 1
                  have hfz71_2 := blk_frozen BK155.out 2
                  have hfz71_3 := blk_frozen BK155.out 3
                  go_wp2
                  repeat (go_quiet (fail); try go_wp2)
                  go_meet
                  case rel => exact ⟨_, (false), (by first | rfl | (simp; done) | (simp [*]; done)), H', ⟨by have := HJ5.out; have := HK2.out; have := HJ16.out; first | omega | exact Nat.le_refl _⟩, ⟨by (with_reducible repeat (first | apply Kd.R_alloc | apply Kd.R_drewN | apply Kd.R_drew)); exact Kd.R_mono (Kd.R_far (p := ⟨gb161, 3, none⟩) (Kd.R_far (p := ⟨gb161, 2, none⟩) (Kd.R_far (p := ⟨gb161, 1, none⟩) (Kd.R_far (p := ⟨gb161, 0, none⟩) (Kd.R_mono HO_10.out (fun k_ hk => (⟨hk, hk.2⟩ : _ ∧ k_ ≠ gb161))) (fun _ hk => hk.2) (.int .i64 t156)) (fun _ hk => hk.2) (.int .i64 t157)) (fun _ hk => hk.2) (.int .i64 t158)) (fun _ hk => hk.2) (.int .i64 t159)) (fun _ hk => hk.1.2)⟩, ⟨by (with_reducible repeat (first | refine blk_drewN ?_ _ | refine blk_drew ?_ | refine blk_alloc ?_ _)); refine blk_far ?_ NB155_161.out _; (with_reducible repeat (first | refine blk_drewN ?_ _ | refine blk_drew ?_ | refine blk_alloc ?_ _)); refine blk_far ?_ NB155_161.out _; (with_reducible repeat (first | refine blk_drewN ?_ _ | refine blk_drew ?_ | refine blk_alloc ?_ _)); refine blk_far ?_ NB155_161.out _; (with_reducible repeat (first | refine blk_drewN ?_ _ | refine blk_drew ?_ | refine blk_alloc ?_ _)); refine blk_far ?_ NB155_161.out _; (with_reducible repeat (first | refine blk_drewN ?_ _ | refine blk_drew ?_ | refine blk_alloc ?_ _)); exact BK155.out⟩, ⟨by (with_reducible repeat (first | refine blk_drewN ?_ _ | refine blk_drew ?_ | refine blk_alloc ?_ _)); refine blk_put (cs := #[.int .i64 t156, .int .i64 t157, .int .i64 t158, .int .i64 0]) ?_ 3 _ rfl; (with_reducible repeat (first | refine blk_drewN ?_ _ | refine blk_drew ?_ | refine blk_alloc ?_ _)); refine blk_put (cs := #[.int .i64 t156, .int .i64 t157, .int .i64 0, .int .i64 0]) ?_ 2 _ rfl; (with_reducible repeat (first | refine blk_drewN ?_ _ | refine blk_drew ?_ | refine blk_alloc ?_ _)); refine blk_put (cs := #[.int .i64 t156, .int .i64 0, .int .i64 0, .int .i64 0]) ?_ 1 _ rfl; (with_reducible repeat (first | refine blk_drewN ?_ _ | refine blk_drew ?_ | refine blk_alloc ?_ _)); refine blk_put (cs := #[.int .i64 0, .int .i64 0, .int .i64 0, .int .i64 0]) ?_ 0 _ rfl; (with_reducible repeat (first | refine blk_drewN ?_ _ | refine blk_drew ?_ | refine blk_alloc ?_ _)); exact BK161.out⟩, ⟨by repeat (first | (with_reducible first | exact HB.out | apply below_alloc | apply pw_below_drewN | apply below_drew1 | refine below_set ?_ GE155.out | refine below_set ?_ GE161.out) | exact HB.out)⟩⟩
              ·rw [if_neg c56] at H
               have c56b0 : (t158 == ((rd_T40 l1 x11_2).f2)) = false := beq_eq_false_iff_ne.mpr c56
               have c56b1 : (t158 != ((rd_T40 l1 x11_2).f2)) = true := bne_iff_ne.mpr c56
               have H' := Aside0.mk H
               clear H
               have hnb72 := NB161_155.out
               have hnc72 := NB155_161.out
               have hcz73_0 : w51.cell? ⟨gb161, 0, none⟩ = some (.int .i64 0) := (blk_cell BK161.out 0).trans rfl
               have hcz73_1 : w51.cell? ⟨gb161, 1, none⟩ = some (.int .i64 0) := (blk_cell BK161.out 1).trans rfl
               have hcz73_2 : w51.cell? ⟨gb161, 2, none⟩ = some (.int .i64 0) := (blk_cell BK161.out 2).trans rfl
               have hcz73_3 : w51.cell? ⟨gb161, 3, none⟩ = some (.int .i64 0) := (blk_cell BK161.out 3).trans rfl
               have hfz73_0 := blk_frozen BK161.out 0
               have hfz73_1 := blk_frozen BK161.out 1
               have hfz73_2 := blk_frozen BK161.out 2
               have hfz73_3 := blk_frozen BK161.out 3
               have hcz74_0 : w51.cell? ⟨gb155, 0, none⟩ = some (.int .i64 ((rd_T40 l1 x11_2).f0)) := (blk_cell BK155.out 0).trans rfl
               have hcz74_1 : w51.cell? ⟨gb155, 1, none⟩ = some (.int .i64 ((rd_T40 l1 x11_2).f1)) := (blk_cell BK155.out 1).trans rfl
               have hcz74_2 : w51.cell? ⟨gb155, 2, none⟩ = some (.int .i64 ((rd_T40 l1 x11_2).f2)) := (blk_cell BK155.out 2).trans rfl
               have hcz74_3 : w51.cell? ⟨gb155, 3, none⟩ = some (.int .i64 ((rd_T40 l1 x11_2).f3)) := (blk_cell BK155.out 3).trans rfl
               have hfz74_0 := blk_frozen BK155.out 0
               have hfz74_1 := blk_frozen BK155.out 1
               have hfz74_2 := blk_frozen BK155.out 2
               have hfz74_3 := blk_frozen BK155.out 3
               go_wp2
               repeat (go_quiet (fail); try go_wp2)
               go_meet
               case rel => exact ⟨_, (true), (by first | rfl | (simp; done) | (simp [*]; done)), H', ⟨by have := HJ5.out; have := HK2.out; have := HJ16.out; first | omega | exact Nat.le_refl _⟩, ⟨by (with_reducible repeat (first | apply Kd.R_alloc | apply Kd.R_drewN | apply Kd.R_drew)); exact Kd.R_mono (Kd.R_far (p := ⟨gb161, 3, none⟩) (Kd.R_far (p := ⟨gb161, 2, none⟩) (Kd.R_far (p := ⟨gb161, 1, none⟩) (Kd.R_far (p := ⟨gb161, 0, none⟩) (Kd.R_mono HO_10.out (fun k_ hk => (⟨hk, hk.2⟩ : _ ∧ k_ ≠ gb161))) (fun _ hk => hk.2) (.int .i64 t156)) (fun _ hk => hk.2) (.int .i64 t157)) (fun _ hk => hk.2) (.int .i64 t158)) (fun _ hk => hk.2) (.int .i64 t159)) (fun _ hk => hk.1.2)⟩, ⟨by (with_reducible repeat (first | refine blk_drewN ?_ _ | refine blk_drew ?_ | refine blk_alloc ?_ _)); refine blk_far ?_ NB155_161.out _; (with_reducible repeat (first | refine blk_drewN ?_ _ | refine blk_drew ?_ | refine blk_alloc ?_ _)); refine blk_far ?_ NB155_161.out _; (with_reducible repeat (first | refine blk_drewN ?_ _ | refine blk_drew ?_ | refine blk_alloc ?_ _)); refine blk_far ?_ NB155_161.out _; (with_reducible repeat (first | refine blk_drewN ?_ _ | refine blk_drew ?_ | refine blk_alloc ?_ _)); refine blk_far ?_ NB155_161.out _; (with_reducible repeat (first | refine blk_drewN ?_ _ | refine blk_drew ?_ | refine blk_alloc ?_ _)); exact BK155.out⟩, ⟨by (with_reducible repeat (first | refine blk_drewN ?_ _ | refine blk_drew ?_ | refine blk_alloc ?_ _)); refine blk_put (cs := #[.int .i64 t156, .int .i64 t157, .int .i64 t158, .int .i64 0]) ?_ 3 _ rfl; (with_reducible repeat (first | refine blk_drewN ?_ _ | refine blk_drew ?_ | refine blk_alloc ?_ _)); refine blk_put (cs := #[.int .i64 t156, .int .i64 t157, .int .i64 0, .int .i64 0]) ?_ 2 _ rfl; (with_reducible repeat (first | refine blk_drewN ?_ _ | refine blk_drew ?_ | refine blk_alloc ?_ _)); refine blk_put (cs := #[.int .i64 t156, .int .i64 0, .int .i64 0, .int .i64 0]) ?_ 1 _ rfl; (with_reducible repeat (first | refine blk_drewN ?_ _ | refine blk_drew ?_ | refine blk_alloc ?_ _)); refine blk_put (cs := #[.int .i64 0, .int .i64 0, .int .i64 0, .int .i64 0]) ?_ 0 _ rfl; (with_reducible repeat (first | refine blk_drewN ?_ _ | refine blk_drew ?_ | refine blk_alloc ?_ _)); exact BK161.out⟩, ⟨by repeat (first | (with_reducible first | exact HB.out | apply below_alloc | apply pw_below_drewN | apply below_drew1 | refine below_set ?_ GE155.out | refine below_set ?_ GE161.out) | exact HB.out)⟩⟩
             ·rw [if_neg c55] at H
              have c55b0 : (t156 == ((rd_T40 l1 x11_2).f0)) = false := beq_eq_false_iff_ne.mpr c55
              have c55b1 : (t156 != ((rd_T40 l1 x11_2).f0)) = true := bne_iff_ne.mpr c55
              have H' := Aside0.mk H
              clear H
              have hnb75 := NB161_155.out
              have hnc75 := NB155_161.out
              have hcz76_0 : w51.cell? ⟨gb161, 0, none⟩ = some (.int .i64 0) := (blk_cell BK161.out 0).trans rfl
              have hcz76_1 : w51.cell? ⟨gb161, 1, none⟩ = some (.int .i64 0) := (blk_cell BK161.out 1).trans rfl
              have hcz76_2 : w51.cell? ⟨gb161, 2, none⟩ = some (.int .i64 0) := (blk_cell BK161.out 2).trans rfl
              have hcz76_3 : w51.cell? ⟨gb161, 3, none⟩ = some (.int .i64 0) := (blk_cell BK161.out 3).trans rfl
              have hfz76_0 := blk_frozen BK161.out 0
              have hfz76_1 := blk_frozen BK161.out 1
              have hfz76_2 := blk_frozen BK161.out 2
              have hfz76_3 := blk_frozen BK161.out 3
              have hcz77_0 : w51.cell? ⟨gb155, 0, none⟩ = some (.int .i64 ((rd_T40 l1 x11_2).f0)) := (blk_cell BK155.out 0).trans rfl
              have hcz77_1 : w51.cell? ⟨gb155, 1, none⟩ = some (.int .i64 ((rd_T40 l1 x11_2).f1)) := (blk_cell BK155.out 1).trans rfl
              have hcz77_2 : w51.cell? ⟨gb155, 2, none⟩ = some (.int .i64 ((rd_T40 l1 x11_2).f2)) := (blk_cell BK155.out 2).trans rfl
              have hcz77_3 : w51.cell? ⟨gb155, 3, none⟩ = some (.int .i64 ((rd_T40 l1 x11_2).f3)) := (blk_cell BK155.out 3).trans rfl
              have hfz77_0 := blk_frozen BK155.out 0
              have hfz77_1 := blk_frozen BK155.out 1
              have hfz77_2 := blk_frozen BK155.out 2
              have hfz77_3 := blk_frozen BK155.out 3
              go_wp2
              repeat (go_quiet (fail); try go_wp2)
              go_meet
              case rel => exact ⟨_, (true), (by first | rfl | (simp; done) | (simp [*]; done)), H', ⟨by have := HJ5.out; have := HK2.out; have := HJ16.out; first | omega | exact Nat.le_refl _⟩, ⟨by (with_reducible repeat (first | apply Kd.R_alloc | apply Kd.R_drewN | apply Kd.R_drew)); exact Kd.R_mono (Kd.R_far (p := ⟨gb161, 3, none⟩) (Kd.R_far (p := ⟨gb161, 2, none⟩) (Kd.R_far (p := ⟨gb161, 1, none⟩) (Kd.R_far (p := ⟨gb161, 0, none⟩) (Kd.R_mono HO_10.out (fun k_ hk => (⟨hk, hk.2⟩ : _ ∧ k_ ≠ gb161))) (fun _ hk => hk.2) (.int .i64 t156)) (fun _ hk => hk.2) (.int .i64 t157)) (fun _ hk => hk.2) (.int .i64 t158)) (fun _ hk => hk.2) (.int .i64 t159)) (fun _ hk => hk.1.2)⟩, ⟨by (with_reducible repeat (first | refine blk_drewN ?_ _ | refine blk_drew ?_ | refine blk_alloc ?_ _)); refine blk_far ?_ NB155_161.out _; (with_reducible repeat (first | refine blk_drewN ?_ _ | refine blk_drew ?_ | refine blk_alloc ?_ _)); refine blk_far ?_ NB155_161.out _; (with_reducible repeat (first | refine blk_drewN ?_ _ | refine blk_drew ?_ | refine blk_alloc ?_ _)); refine blk_far ?_ NB155_161.out _; (with_reducible repeat (first | refine blk_drewN ?_ _ | refine blk_drew ?_ | refine blk_alloc ?_ _)); refine blk_far ?_ NB155_161.out _; (with_reducible repeat (first | refine blk_drewN ?_ _ | refine blk_drew ?_ | refine blk_alloc ?_ _)); exact BK155.out⟩, ⟨by (with_reducible repeat (first | refine blk_drewN ?_ _ | refine blk_drew ?_ | refine blk_alloc ?_ _)); refine blk_put (cs := #[.int .i64 t156, .int .i64 t157, .int .i64 t158, .int .i64 0]) ?_ 3 _ rfl; (with_reducible repeat (first | refine blk_drewN ?_ _ | refine blk_drew ?_ | refine blk_alloc ?_ _)); refine blk_put (cs := #[.int .i64 t156, .int .i64 t157, .int .i64 0, .int .i64 0]) ?_ 2 _ rfl; (with_reducible repeat (first | refine blk_drewN ?_ _ | refine blk_drew ?_ | refine blk_alloc ?_ _)); refine blk_put (cs := #[.int .i64 t156, .int .i64 0, .int .i64 0, .int .i64 0]) ?_ 1 _ rfl; (with_reducible repeat (first | refine blk_drewN ?_ _ | refine blk_drew ?_ | refine blk_alloc ?_ _)); refine blk_put (cs := #[.int .i64 0, .int .i64 0, .int .i64 0, .int .i64 0]) ?_ 0 _ rfl; (with_reducible repeat (first | refine blk_drewN ?_ _ | refine blk_drew ?_ | refine blk_alloc ?_ _)); exact BK161.out⟩, ⟨by repeat (first | (with_reducible first | exact HB.out | apply below_alloc | apply pw_below_drewN | apply below_drew1 | refine below_set ?_ GE155.out | refine below_set ?_ GE161.out) | exact HB.out)⟩⟩
            ·rw [if_neg c54] at H
             have c54b0 : (t160 == 0) = false := beq_eq_false_iff_ne.mpr c54
             have c54b1 : (t160 != 0) = true := bne_iff_ne.mpr c54
             (first | rw [c54b0] | (simp only [i64_w, i32_w]; rw [c54b0]) | skip)
             have H' := Aside0.mk H
             clear H
             go_wp2
             repeat (go_quiet (fail); try go_wp2)
             go_meet
             case rel => exact ⟨_, (true), (by first | rfl | (simp; done) | (simp [*]; done)), H', ⟨by have := HJ5.out; have := HK2.out; have := HJ16.out; first | omega | exact Nat.le_refl _⟩, ⟨by (with_reducible repeat (first | apply Kd.R_alloc | apply Kd.R_drewN | apply Kd.R_drew)); exact Kd.R_mono (Kd.R_far (p := ⟨gb161, 3, none⟩) (Kd.R_far (p := ⟨gb161, 2, none⟩) (Kd.R_far (p := ⟨gb161, 1, none⟩) (Kd.R_far (p := ⟨gb161, 0, none⟩) (Kd.R_mono HO_10.out (fun k_ hk => (⟨hk, hk.2⟩ : _ ∧ k_ ≠ gb161))) (fun _ hk => hk.2) (.int .i64 t156)) (fun _ hk => hk.2) (.int .i64 t157)) (fun _ hk => hk.2) (.int .i64 t158)) (fun _ hk => hk.2) (.int .i64 t159)) (fun _ hk => hk.1.2)⟩, ⟨by (with_reducible repeat (first | refine blk_drewN ?_ _ | refine blk_drew ?_ | refine blk_alloc ?_ _)); refine blk_far ?_ NB155_161.out _; (with_reducible repeat (first | refine blk_drewN ?_ _ | refine blk_drew ?_ | refine blk_alloc ?_ _)); refine blk_far ?_ NB155_161.out _; (with_reducible repeat (first | refine blk_drewN ?_ _ | refine blk_drew ?_ | refine blk_alloc ?_ _)); refine blk_far ?_ NB155_161.out _; (with_reducible repeat (first | refine blk_drewN ?_ _ | refine blk_drew ?_ | refine blk_alloc ?_ _)); refine blk_far ?_ NB155_161.out _; (with_reducible repeat (first | refine blk_drewN ?_ _ | refine blk_drew ?_ | refine blk_alloc ?_ _)); exact BK155.out⟩, ⟨by (with_reducible repeat (first | refine blk_drewN ?_ _ | refine blk_drew ?_ | refine blk_alloc ?_ _)); refine blk_put (cs := #[.int .i64 t156, .int .i64 t157, .int .i64 t158, .int .i64 0]) ?_ 3 _ rfl; (with_reducible repeat (first | refine blk_drewN ?_ _ | refine blk_drew ?_ | refine blk_alloc ?_ _)); refine blk_put (cs := #[.int .i64 t156, .int .i64 t157, .int .i64 0, .int .i64 0]) ?_ 2 _ rfl; (with_reducible repeat (first | refine blk_drewN ?_ _ | refine blk_drew ?_ | refine blk_alloc ?_ _)); refine blk_put (cs := #[.int .i64 t156, .int .i64 0, .int .i64 0, .int .i64 0]) ?_ 1 _ rfl; (with_reducible repeat (first | refine blk_drewN ?_ _ | refine blk_drew ?_ | refine blk_alloc ?_ _)); refine blk_put (cs := #[.int .i64 0, .int .i64 0, .int .i64 0, .int .i64 0]) ?_ 0 _ rfl; (with_reducible repeat (first | refine blk_drewN ?_ _ | refine blk_drew ?_ | refine blk_alloc ?_ _)); exact BK161.out⟩, ⟨by repeat (first | (with_reducible first | exact HB.out | apply below_alloc | apply pw_below_drewN | apply below_drew1 | refine below_set ?_ GE155.out | refine below_set ?_ GE161.out) | exact HB.out)⟩⟩
           case rest => as_aux_lemma =>
            clear HC47
            try clear c1
            try clear p1
            try clear q1
            try clear hx1
            try clear c2
            try clear p2
            try clear c3
            try clear c4
            try clear c5
            try clear c6
            try clear p6
            try clear c7
            try clear c8
            try clear c8b0
            try clear c9
            try clear c9b0
            try clear c10
            try clear c10b0
            try clear c10b1
            try clear c11
            try clear c11b0
            try clear c12
            try clear c12b0
            try clear c13
            try clear c13b0
            try clear c14
            try clear c15
            try clear c15b0
            try clear p15
            try clear q15
            try clear hx15
            try clear c16
            try clear c16b0
            try clear c20
            try clear c20b0
            try clear c20b1
            try clear c21
            try clear c21b0
            try clear c23
            try clear c23b0
            try clear c25
            try clear c25b0
            try clear c27
            try clear c27b0
            try clear c29
            try clear c29b0
            try clear c32
            try clear c32b0
            try clear c32b1
            try clear c33
            try clear c33b0
            try clear c35
            try clear c35b0
            try clear c37
            try clear c37b0
            try clear c39
            try clear c39b0
            try clear c41
            try clear c41b0
            try clear c45
            try clear c52
            try clear c54
            try clear c54b0
            try clear c54b1
            try clear c55
            try clear c55b0
            try clear c55b1
            try clear c56
            try clear c56b0
            try clear c56b1
            try clear c57
            try clear c57b0
            try clear c58
            try clear c61
            try clear c61b0
            try clear c62
            try clear p64
            try clear c65
            try clear c65b0
            try clear c66
            try clear c69
            try clear c72
            try clear c75
            try clear hcz19_0
            try clear hcz19_1
            try clear hcz19_2
            try clear hcz19_3
            try clear hcz22_0
            try clear hcz22_1
            try clear hcz22_2
            try clear hcz22_3
            try clear hcz24_0
            try clear hcz24_1
            try clear hcz24_2
            try clear hcz24_3
            try clear hcz26_0
            try clear hcz26_1
            try clear hcz26_2
            try clear hcz26_3
            try clear hcz28_0
            try clear hcz28_1
            try clear hcz28_2
            try clear hcz28_3
            try clear hcz30_0
            try clear hcz30_1
            try clear hcz30_2
            try clear hcz30_3
            try clear hcz31_0
            try clear hcz31_1
            try clear hcz31_2
            try clear hcz31_3
            try clear hcz34_0
            try clear hcz34_1
            try clear hcz34_2
            try clear hcz34_3
            try clear hcz36_0
            try clear hcz36_1
            try clear hcz36_2
            try clear hcz36_3
            try clear hcz38_0
            try clear hcz38_1
            try clear hcz38_2
            try clear hcz38_3
            try clear hcz40_0
            try clear hcz40_1
            try clear hcz40_2
            try clear hcz40_3
            try clear hcz42_0
            try clear hcz42_1
            try clear hcz42_2
            try clear hcz42_3
            try clear hcz43_0
            try clear hcz43_1
            try clear hcz43_2
            try clear hcz43_3
            try clear hcz44_0
            try clear hcz44_1
            try clear hcz44_2
            try clear hcz44_3
            try clear hcz48_0
            try clear hcz48_1
            try clear hcz48_2
            try clear hcz48_3
            try clear hcz53_0
            try clear hcz53_1
            try clear hcz53_2
            try clear hcz53_3
            try clear hcz59_0
            try clear hcz59_1
            try clear hcz59_2
            try clear hcz59_3
            try clear hcz60_0
            try clear hcz60_1
            try clear hcz60_2
            try clear hcz60_3
            try clear hcz63_0
            try clear hcz63_1
            try clear hcz63_2
            try clear hcz63_3
            try clear hcz64_0
            try clear hcz64_1
            try clear hcz64_2
            try clear hcz64_3
            try clear hcz67_0
            try clear hcz67_1
            try clear hcz67_2
            try clear hcz67_3
            try clear hcz68_0
            try clear hcz68_1
            try clear hcz68_2
            try clear hcz68_3
            try clear hcz70_0
            try clear hcz70_1
            try clear hcz70_2
            try clear hcz70_3
            try clear hcz71_0
            try clear hcz71_1
            try clear hcz71_2
            try clear hcz71_3
            try clear hcz73_0
            try clear hcz73_1
            try clear hcz73_2
            try clear hcz73_3
            try clear hcz74_0
            try clear hcz74_1
            try clear hcz74_2
            try clear hcz74_3
            try clear hcz76_0
            try clear hcz76_1
            try clear hcz76_2
            try clear hcz76_3
            try clear hcz77_0
            try clear hcz77_1
            try clear hcz77_2
            try clear hcz77_3
            try clear hfz19_0
            try clear hfz19_1
            try clear hfz19_2
            try clear hfz19_3
            try clear hfz22_0
            try clear hfz22_1
            try clear hfz22_2
            try clear hfz22_3
            try clear hfz24_0
            try clear hfz24_1
            try clear hfz24_2
            try clear hfz24_3
            try clear hfz26_0
            try clear hfz26_1
            try clear hfz26_2
            try clear hfz26_3
            try clear hfz28_0
            try clear hfz28_1
            try clear hfz28_2
            try clear hfz28_3
            try clear hfz30_0
            try clear hfz30_1
            try clear hfz30_2
            try clear hfz30_3
            try clear hfz31_0
            try clear hfz31_1
            try clear hfz31_2
            try clear hfz31_3
            try clear hfz34_0
            try clear hfz34_1
            try clear hfz34_2
            try clear hfz34_3
            try clear hfz36_0
            try clear hfz36_1
            try clear hfz36_2
            try clear hfz36_3
            try clear hfz38_0
            try clear hfz38_1
            try clear hfz38_2
            try clear hfz38_3
            try clear hfz40_0
            try clear hfz40_1
            try clear hfz40_2
            try clear hfz40_3
            try clear hfz42_0
            try clear hfz42_1
            try clear hfz42_2
            try clear hfz42_3
            try clear hfz43_0
            try clear hfz43_1
            try clear hfz43_2
            try clear hfz43_3
            try clear hfz44_0
            try clear hfz44_1
            try clear hfz44_2
            try clear hfz44_3
            try clear hfz48_0
            try clear hfz48_1
            try clear hfz48_2
            try clear hfz48_3
            try clear hfz53_0
            try clear hfz53_1
            try clear hfz53_2
            try clear hfz53_3
            try clear hfz59_0
            try clear hfz59_1
            try clear hfz59_2
            try clear hfz59_3
            try clear hfz60_0
            try clear hfz60_1
            try clear hfz60_2
            try clear hfz60_3
            try clear hfz63_0
            try clear hfz63_1
            try clear hfz63_2
            try clear hfz63_3
            try clear hfz64_0
            try clear hfz64_1
            try clear hfz64_2
            try clear hfz64_3
            try clear hfz67_0
            try clear hfz67_1
            try clear hfz67_2
            try clear hfz67_3
            try clear hfz68_0
            try clear hfz68_1
            try clear hfz68_2
            try clear hfz68_3
            try clear hfz70_0
            try clear hfz70_1
            try clear hfz70_2
            try clear hfz70_3
            try clear hfz71_0
            try clear hfz71_1
            try clear hfz71_2
            try clear hfz71_3
            try clear hfz73_0
            try clear hfz73_1
            try clear hfz73_2
            try clear hfz73_3
            try clear hfz74_0
            try clear hfz74_1
            try clear hfz74_2
            try clear hfz74_3
            try clear hfz76_0
            try clear hfz76_1
            try clear hfz76_2
            try clear hfz76_3
            try clear hfz77_0
            try clear hfz77_1
            try clear hfz77_2
            try clear hfz77_3
            try clear hx154_0
            try clear hx154_1
            try clear hx154_2
            try clear hx154_3
            try clear p1
            try clear p15
            try clear p154
            try clear p2
            try clear q1
            try clear q15
            try clear q154
            obtain ⟨kq, x161_46, rfl, HA, HJ46, HO_10, BK155, BK161, HB⟩ := hcut
            cases kq with
            | zero => exact absurd HA.out (by simp [quirelaw15_BandClear.j3])
            | succ kj46 =>
             have H := HA.out
             clear HA
             simp only [quirelaw15_BandClear.j3] at H
             by_cases c78 : x161_46 = true
             ·subst c78
              have H1 : (some false) = some r := by rw [if_pos rfl] at H; exact H
              clear H
              have H := H1
              clear H1
              obtain rfl := Option.some.inj H
              go_wp2
              repeat (go_quiet (fail); try go_wp2)
              go_ret
              exact ⟨by first | rfl | (simp [errW_none, errW_some] <;> rfl) | (simp [*, errW_none, errW_some] <;> rfl), by repeat (first | (with_reducible first | exact HB.out | apply below_alloc | apply pw_below_drewN | apply below_drew1 | refine below_set ?_ GE155.out | refine below_set ?_ GE161.out) | exact HB.out)⟩
             ·replace c78 := Bool.eq_false_iff.mpr c78
              subst c78
              have H1 : (quirelaw15_BandClear.l1 kj46 a0 l1 a2 a3 t153 x10_2 x11_2 0 t156 t157 t158 t159) = some r := by rw [if_neg (show ¬ (false = true) by decide)] at H; exact H
              clear H
              have H := H1
              clear H1
              have H' := Aside0.mk H
              clear H
              go_wp2
              repeat (go_quiet (fail); try go_wp2)
              go_loopg [15] kj46 (fun kq v15 w' => ∃ (x15_5 : Int), v15 = .int .i64 x15_5 ∧ Aside0 (quirelaw15_BandClear.l1 kq a0 l1 a2 a3 t153 x10_2 x11_2 x15_5 t156 t157 t158 t159 = some r) ∧ Aside0 (kq ≤ kj46) ∧ Aside0 (Kd.R k24 24 w' w.heap.size (fun k_ => k_ ≠ gb161) (.slice Ao49 x10_2.length co49) x10_2) ∧ Aside0 (w'.heap[gb155]? = some (.cells #[.int .i64 ((rd_T40 l1 x11_2).f0), .int .i64 ((rd_T40 l1 x11_2).f1), .int .i64 ((rd_T40 l1 x11_2).f2), .int .i64 ((rd_T40 l1 x11_2).f3)] 40 (0, 0))) ∧ Aside0 (w'.heap[gb161]? = some (.cells #[.int .i64 t156, .int .i64 t157, .int .i64 t158, .int .i64 t159] 24 (0, 0))) ∧ Aside0 (Below w.heap.size w w'))
              case atStart => exact ⟨(0), (by first | rfl | (simp; done) | (simp [*]; done)), H', ⟨Nat.le_refl _⟩, ⟨by (with_reducible repeat (first | apply Kd.R_alloc | apply Kd.R_drewN | apply Kd.R_drew)); exact HO_10.out⟩, ⟨by (with_reducible repeat (first | refine blk_drewN ?_ _ | refine blk_drew ?_ | refine blk_alloc ?_ _)); exact BK155.out⟩, ⟨by (with_reducible repeat (first | refine blk_drewN ?_ _ | refine blk_drew ?_ | refine blk_alloc ?_ _)); exact BK161.out⟩, ⟨by repeat (first | (with_reducible first | exact HB.out | apply below_alloc | apply pw_below_drewN | apply below_drew1 | refine below_set ?_ GE155.out | refine below_set ?_ GE161.out) | exact HB.out)⟩⟩
              case round => as_aux_lemma =>
               clear H'
               try clear c1
               try clear p1
               try clear q1
               try clear hx1
               try clear c2
               try clear p2
               try clear c3
               try clear c4
               try clear c5
               try clear c6
               try clear p6
               try clear c7
               try clear c8
               try clear c8b0
               try clear c9
               try clear c9b0
               try clear c10
               try clear c10b0
               try clear c10b1
               try clear c11
               try clear c11b0
               try clear c12
               try clear c12b0
               try clear c13
               try clear c13b0
               try clear c14
               try clear c15
               try clear c15b0
               try clear p15
               try clear q15
               try clear hx15
               try clear c16
               try clear c16b0
               try clear c20
               try clear c20b0
               try clear c20b1
               try clear c21
               try clear c21b0
               try clear c23
               try clear c23b0
               try clear c25
               try clear c25b0
               try clear c27
               try clear c27b0
               try clear c29
               try clear c29b0
               try clear c32
               try clear c32b0
               try clear c32b1
               try clear c33
               try clear c33b0
               try clear c35
               try clear c35b0
               try clear c37
               try clear c37b0
               try clear c39
               try clear c39b0
               try clear c41
               try clear c41b0
               try clear c45
               try clear c52
               try clear c54
               try clear c54b0
               try clear c54b1
               try clear c55
               try clear c55b0
               try clear c55b1
               try clear c56
               try clear c56b0
               try clear c56b1
               try clear c57
               try clear c57b0
               try clear c58
               try clear c61
               try clear c61b0
               try clear c62
               try clear p64
               try clear c65
               try clear c65b0
               try clear c66
               try clear c69
               try clear c72
               try clear c75
               try clear c78
               try clear hcz19_0
               try clear hcz19_1
               try clear hcz19_2
               try clear hcz19_3
               try clear hcz22_0
               try clear hcz22_1
               try clear hcz22_2
               try clear hcz22_3
               try clear hcz24_0
               try clear hcz24_1
               try clear hcz24_2
               try clear hcz24_3
               try clear hcz26_0
               try clear hcz26_1
               try clear hcz26_2
               try clear hcz26_3
               try clear hcz28_0
               try clear hcz28_1
               try clear hcz28_2
               try clear hcz28_3
               try clear hcz30_0
               try clear hcz30_1
               try clear hcz30_2
               try clear hcz30_3
               try clear hcz31_0
               try clear hcz31_1
               try clear hcz31_2
               try clear hcz31_3
               try clear hcz34_0
               try clear hcz34_1
               try clear hcz34_2
               try clear hcz34_3
               try clear hcz36_0
               try clear hcz36_1
               try clear hcz36_2
               try clear hcz36_3
               try clear hcz38_0
               try clear hcz38_1
               try clear hcz38_2
               try clear hcz38_3
               try clear hcz40_0
               try clear hcz40_1
               try clear hcz40_2
               try clear hcz40_3
               try clear hcz42_0
               try clear hcz42_1
               try clear hcz42_2
               try clear hcz42_3
               try clear hcz43_0
               try clear hcz43_1
               try clear hcz43_2
               try clear hcz43_3
               try clear hcz44_0
               try clear hcz44_1
               try clear hcz44_2
               try clear hcz44_3
               try clear hcz48_0
               try clear hcz48_1
               try clear hcz48_2
               try clear hcz48_3
               try clear hcz53_0
               try clear hcz53_1
               try clear hcz53_2
               try clear hcz53_3
               try clear hcz59_0
               try clear hcz59_1
               try clear hcz59_2
               try clear hcz59_3
               try clear hcz60_0
               try clear hcz60_1
               try clear hcz60_2
               try clear hcz60_3
               try clear hcz63_0
               try clear hcz63_1
               try clear hcz63_2
               try clear hcz63_3
               try clear hcz64_0
               try clear hcz64_1
               try clear hcz64_2
               try clear hcz64_3
               try clear hcz67_0
               try clear hcz67_1
               try clear hcz67_2
               try clear hcz67_3
               try clear hcz68_0
               try clear hcz68_1
               try clear hcz68_2
               try clear hcz68_3
               try clear hcz70_0
               try clear hcz70_1
               try clear hcz70_2
               try clear hcz70_3
               try clear hcz71_0
               try clear hcz71_1
               try clear hcz71_2
               try clear hcz71_3
               try clear hcz73_0
               try clear hcz73_1
               try clear hcz73_2
               try clear hcz73_3
               try clear hcz74_0
               try clear hcz74_1
               try clear hcz74_2
               try clear hcz74_3
               try clear hcz76_0
               try clear hcz76_1
               try clear hcz76_2
               try clear hcz76_3
               try clear hcz77_0
               try clear hcz77_1
               try clear hcz77_2
               try clear hcz77_3
               try clear hfz19_0
               try clear hfz19_1
               try clear hfz19_2
               try clear hfz19_3
               try clear hfz22_0
               try clear hfz22_1
               try clear hfz22_2
               try clear hfz22_3
               try clear hfz24_0
               try clear hfz24_1
               try clear hfz24_2
               try clear hfz24_3
               try clear hfz26_0
               try clear hfz26_1
               try clear hfz26_2
               try clear hfz26_3
               try clear hfz28_0
               try clear hfz28_1
               try clear hfz28_2
               try clear hfz28_3
               try clear hfz30_0
               try clear hfz30_1
               try clear hfz30_2
               try clear hfz30_3
               try clear hfz31_0
               try clear hfz31_1
               try clear hfz31_2
               try clear hfz31_3
               try clear hfz34_0
               try clear hfz34_1
               try clear hfz34_2
               try clear hfz34_3
               try clear hfz36_0
               try clear hfz36_1
               try clear hfz36_2
               try clear hfz36_3
               try clear hfz38_0
               try clear hfz38_1
               try clear hfz38_2
               try clear hfz38_3
               try clear hfz40_0
               try clear hfz40_1
               try clear hfz40_2
               try clear hfz40_3
               try clear hfz42_0
               try clear hfz42_1
               try clear hfz42_2
               try clear hfz42_3
               try clear hfz43_0
               try clear hfz43_1
               try clear hfz43_2
               try clear hfz43_3
               try clear hfz44_0
               try clear hfz44_1
               try clear hfz44_2
               try clear hfz44_3
               try clear hfz48_0
               try clear hfz48_1
               try clear hfz48_2
               try clear hfz48_3
               try clear hfz53_0
               try clear hfz53_1
               try clear hfz53_2
               try clear hfz53_3
               try clear hfz59_0
               try clear hfz59_1
               try clear hfz59_2
               try clear hfz59_3
               try clear hfz60_0
               try clear hfz60_1
               try clear hfz60_2
               try clear hfz60_3
               try clear hfz63_0
               try clear hfz63_1
               try clear hfz63_2
               try clear hfz63_3
               try clear hfz64_0
               try clear hfz64_1
               try clear hfz64_2
               try clear hfz64_3
               try clear hfz67_0
               try clear hfz67_1
               try clear hfz67_2
               try clear hfz67_3
               try clear hfz68_0
               try clear hfz68_1
               try clear hfz68_2
               try clear hfz68_3
               try clear hfz70_0
               try clear hfz70_1
               try clear hfz70_2
               try clear hfz70_3
               try clear hfz71_0
               try clear hfz71_1
               try clear hfz71_2
               try clear hfz71_3
               try clear hfz73_0
               try clear hfz73_1
               try clear hfz73_2
               try clear hfz73_3
               try clear hfz74_0
               try clear hfz74_1
               try clear hfz74_2
               try clear hfz74_3
               try clear hfz76_0
               try clear hfz76_1
               try clear hfz76_2
               try clear hfz76_3
               try clear hfz77_0
               try clear hfz77_1
               try clear hfz77_2
               try clear hfz77_3
               try clear hx154_0
               try clear hx154_1
               try clear hx154_2
               try clear hx154_3
               try clear p1
               try clear p15
               try clear p154
               try clear p2
               try clear p6
               try clear p64
               try clear q1
               try clear q15
               try clear q154
               obtain ⟨x15_5, rfl, HA, HK5, HO_10, BK155, BK161, HB⟩ := hrel
               cases gk with
               | zero => exact absurd HA.out (by simp [quirelaw15_BandClear.l1])
               | succ k5 =>
                have H := HA.out
                clear HA
                simp only [quirelaw15_BandClear.l1] at H
                by_cases c79 : x15_5 < (x10_2.length : Int)
                ·rw [if_pos c79] at H
                 have c79b0 : decide (x15_5 < (x10_2.length : Int)) = true := decide_eq_true c79
                 clear c79
                 by_cases c80 : 0 ≤ x15_5
                 ·rw [if_pos c80] at H
                  have c80b0 : decide (0 ≤ x15_5) = true := decide_eq_true c80
                  clear c80
                  by_cases c81 : ((rd_T24 x10_2 x15_5).f0) = t156
                  ·rw [if_pos c81] at H
                   have c81b0 : (((rd_T24 x10_2 x15_5).f0) == t156) = true := beq_iff_eq.mpr c81
                   have c81b1 : (((rd_T24 x10_2 x15_5).f0) != t156) = false := bne_eq_false_iff_eq.mpr c81
                   clear c81
                   replace H := Option.bind_eq_some_iff.mp H
                   obtain ⟨t165, A820, H⟩ := H
                   replace H : (if t165 = true then (some false) else (quirelaw15_BandClear.l1 k5 a0 l1 a2 a3 t153 x10_2 x11_2 (wrap64 (x15_5 + 1)) t156 t157 t158 t159)) = some r := H
                   have A82 := Aside0.mk A820
                   clear A820
                   by_cases c83 : t165 = true
                   ·subst c83
                    have H1 : (some false) = some r := by rw [if_pos rfl] at H; exact H
                    clear H
                    have H := H1
                    clear H1
                    obtain rfl := Option.some.inj H
                    have p162 : 0 ≤ (x15_5 : Int) := of_decide_eq_true (by first | (with_reducible assumption) | assumption)
                    have q162 : x15_5 < (x10_2.length : Int) := of_decide_eq_true (by first | (with_reducible assumption) | assumption)
                    obtain ⟨ad162, e162, hx162_0, hx162_1, hx162_2, hx162_3⟩ := at_T24 (Kd.R_reads' HO_10.out).2.2 x15_5 p162 q162
                    cases e162
                    replace p162 := eq_true p162
                    replace q162 := eq_true q162
                    have hnb84 := NB161_155.out
                    have hnc84 := NB155_161.out
                    have hcz85_0 : wr.cell? ⟨gb161, 0, none⟩ = some (.int .i64 t156) := (blk_cell BK161.out 0).trans rfl
                    have hcz85_1 : wr.cell? ⟨gb161, 1, none⟩ = some (.int .i64 t157) := (blk_cell BK161.out 1).trans rfl
                    have hcz85_2 : wr.cell? ⟨gb161, 2, none⟩ = some (.int .i64 t158) := (blk_cell BK161.out 2).trans rfl
                    have hcz85_3 : wr.cell? ⟨gb161, 3, none⟩ = some (.int .i64 t159) := (blk_cell BK161.out 3).trans rfl
                    have hfz85_0 := blk_frozen BK161.out 0
                    have hfz85_1 := blk_frozen BK161.out 1
                    have hfz85_2 := blk_frozen BK161.out 2
                    have hfz85_3 := blk_frozen BK161.out 3
                    have p163 : 0 ≤ (x15_5 : Int) := of_decide_eq_true (by first | (with_reducible assumption) | assumption)
                    have q163 : x15_5 < (x10_2.length : Int) := of_decide_eq_true (by first | (with_reducible assumption) | assumption)
                    obtain ⟨ad163, e163, hx163_0, hx163_1, hx163_2, hx163_3⟩ := at_T24 (Kd.R_reads' HO_10.out).2.2 x15_5 p163 q163
                    obtain rfl : ad162 = ad163 := (by injection e163)
                    replace p163 := eq_true p163
                    replace q163 := eq_true q163
                    have p164 : 0 ≤ (x15_5 : Int) := of_decide_eq_true (by first | (with_reducible assumption) | assumption)
                    have q164 : x15_5 < (x10_2.length : Int) := of_decide_eq_true (by first | (with_reducible assumption) | assumption)
                    obtain ⟨ad164, e164, hx164_0, hx164_1, hx164_2, hx164_3⟩ := at_T24 (Kd.R_reads' HO_10.out).2.2 x15_5 p164 q164
                    obtain rfl : ad162 = ad164 := (by injection e164)
                    replace p164 := eq_true p164
                    replace q164 := eq_true q164
                    go_wp2_with (first | (go_at_call 18; (with_reducible refine (quirelaw15_overlap.calls ((rd_T24 x10_2 x15_5).f1) ((rd_T24 x10_2 x15_5).f2) t157 t158 true _ A82.out).mono ?_); rintro e w' ⟨rfl, ⟨nd, rfl⟩⟩; (try first | exact ⟨rfl, _, World.drewN_drewN _ _ _⟩ | exact ⟨rfl, _, Eq.trans (World.drewN_drewN _ _ _) (congrArg (World.drewN _) (Nat.add_assoc _ _ _))⟩)))
                    repeat (go_quiet (first | (go_at_call 18; (with_reducible refine (quirelaw15_overlap.calls ((rd_T24 x10_2 x15_5).f1) ((rd_T24 x10_2 x15_5).f2) t157 t158 true _ A82.out).mono ?_); rintro e w' ⟨rfl, ⟨nd, rfl⟩⟩; (try first | exact ⟨rfl, _, World.drewN_drewN _ _ _⟩ | exact ⟨rfl, _, Eq.trans (World.drewN_drewN _ _ _) (congrArg (World.drewN _) (Nat.add_assoc _ _ _))⟩))); try go_wp2_with (first | (go_at_call 18; (with_reducible refine (quirelaw15_overlap.calls ((rd_T24 x10_2 x15_5).f1) ((rd_T24 x10_2 x15_5).f2) t157 t158 true _ A82.out).mono ?_); rintro e w' ⟨rfl, ⟨nd, rfl⟩⟩; (try first | exact ⟨rfl, _, World.drewN_drewN _ _ _⟩ | exact ⟨rfl, _, Eq.trans (World.drewN_drewN _ _ _) (congrArg (World.drewN _) (Nat.add_assoc _ _ _))⟩))))
                    go_ret
                    exact ⟨by first | rfl | (simp [errW_none, errW_some] <;> rfl) | (simp [*, errW_none, errW_some] <;> rfl), by repeat (first | (with_reducible first | exact HB.out | apply below_alloc | apply pw_below_drewN | apply below_drew1 | refine below_set ?_ GE155.out | refine below_set ?_ GE161.out) | exact HB.out)⟩
                   ·replace c83 := Bool.eq_false_iff.mpr c83
                    subst c83
                    have H1 : (quirelaw15_BandClear.l1 k5 a0 l1 a2 a3 t153 x10_2 x11_2 (wrap64 (x15_5 + 1)) t156 t157 t158 t159) = some r := by rw [if_neg (show ¬ (false = true) by decide)] at H; exact H
                    clear H
                    have H := H1
                    clear H1
                    have H' := Aside0.mk H
                    clear H
                    have p162 : 0 ≤ (x15_5 : Int) := of_decide_eq_true (by first | (with_reducible assumption) | assumption)
                    have q162 : x15_5 < (x10_2.length : Int) := of_decide_eq_true (by first | (with_reducible assumption) | assumption)
                    obtain ⟨ad162, e162, hx162_0, hx162_1, hx162_2, hx162_3⟩ := at_T24 (Kd.R_reads' HO_10.out).2.2 x15_5 p162 q162
                    cases e162
                    replace p162 := eq_true p162
                    replace q162 := eq_true q162
                    have hnb86 := NB161_155.out
                    have hnc86 := NB155_161.out
                    have hcz87_0 : wr.cell? ⟨gb161, 0, none⟩ = some (.int .i64 t156) := (blk_cell BK161.out 0).trans rfl
                    have hcz87_1 : wr.cell? ⟨gb161, 1, none⟩ = some (.int .i64 t157) := (blk_cell BK161.out 1).trans rfl
                    have hcz87_2 : wr.cell? ⟨gb161, 2, none⟩ = some (.int .i64 t158) := (blk_cell BK161.out 2).trans rfl
                    have hcz87_3 : wr.cell? ⟨gb161, 3, none⟩ = some (.int .i64 t159) := (blk_cell BK161.out 3).trans rfl
                    have hfz87_0 := blk_frozen BK161.out 0
                    have hfz87_1 := blk_frozen BK161.out 1
                    have hfz87_2 := blk_frozen BK161.out 2
                    have hfz87_3 := blk_frozen BK161.out 3
                    have p163 : 0 ≤ (x15_5 : Int) := of_decide_eq_true (by first | (with_reducible assumption) | assumption)
                    have q163 : x15_5 < (x10_2.length : Int) := of_decide_eq_true (by first | (with_reducible assumption) | assumption)
                    obtain ⟨ad163, e163, hx163_0, hx163_1, hx163_2, hx163_3⟩ := at_T24 (Kd.R_reads' HO_10.out).2.2 x15_5 p163 q163
                    obtain rfl : ad162 = ad163 := (by injection e163)
                    replace p163 := eq_true p163
                    replace q163 := eq_true q163
                    have p164 : 0 ≤ (x15_5 : Int) := of_decide_eq_true (by first | (with_reducible assumption) | assumption)
                    have q164 : x15_5 < (x10_2.length : Int) := of_decide_eq_true (by first | (with_reducible assumption) | assumption)
                    obtain ⟨ad164, e164, hx164_0, hx164_1, hx164_2, hx164_3⟩ := at_T24 (Kd.R_reads' HO_10.out).2.2 x15_5 p164 q164
                    obtain rfl : ad162 = ad164 := (by injection e164)
                    replace p164 := eq_true p164
                    replace q164 := eq_true q164
                    go_wp2_with (first | (go_at_call 18; (with_reducible refine (quirelaw15_overlap.calls ((rd_T24 x10_2 x15_5).f1) ((rd_T24 x10_2 x15_5).f2) t157 t158 false _ A82.out).mono ?_); rintro e w' ⟨rfl, ⟨nd, rfl⟩⟩; (try first | exact ⟨rfl, _, World.drewN_drewN _ _ _⟩ | exact ⟨rfl, _, Eq.trans (World.drewN_drewN _ _ _) (congrArg (World.drewN _) (Nat.add_assoc _ _ _))⟩)))
                    repeat (go_quiet (first | (go_at_call 18; (with_reducible refine (quirelaw15_overlap.calls ((rd_T24 x10_2 x15_5).f1) ((rd_T24 x10_2 x15_5).f2) t157 t158 false _ A82.out).mono ?_); rintro e w' ⟨rfl, ⟨nd, rfl⟩⟩; (try first | exact ⟨rfl, _, World.drewN_drewN _ _ _⟩ | exact ⟨rfl, _, Eq.trans (World.drewN_drewN _ _ _) (congrArg (World.drewN _) (Nat.add_assoc _ _ _))⟩))); try go_wp2_with (first | (go_at_call 18; (with_reducible refine (quirelaw15_overlap.calls ((rd_T24 x10_2 x15_5).f1) ((rd_T24 x10_2 x15_5).f2) t157 t158 false _ A82.out).mono ?_); rintro e w' ⟨rfl, ⟨nd, rfl⟩⟩; (try first | exact ⟨rfl, _, World.drewN_drewN _ _ _⟩ | exact ⟨rfl, _, Eq.trans (World.drewN_drewN _ _ _) (congrArg (World.drewN _) (Nat.add_assoc _ _ _))⟩))))
                    go_roundg k5
                    case measure => have := HJ5.out; have := HK2.out; have := HJ16.out; have := HJ46.out; have := HK5.out; omega
                    case rel => exact ⟨(wrap64 (x15_5 + 1)), (by first | rfl | (simp; done) | (simp [*]; done)), H', ⟨by have := HJ5.out; have := HK2.out; have := HJ16.out; have := HJ46.out; have := HK5.out; omega⟩, ⟨by (with_reducible repeat (first | apply Kd.R_alloc | apply Kd.R_drewN | apply Kd.R_drew)); exact HO_10.out⟩, ⟨by (with_reducible repeat (first | refine blk_drewN ?_ _ | refine blk_drew ?_ | refine blk_alloc ?_ _)); exact BK155.out⟩, ⟨by (with_reducible repeat (first | refine blk_drewN ?_ _ | refine blk_drew ?_ | refine blk_alloc ?_ _)); exact BK161.out⟩, ⟨by repeat (first | (with_reducible first | exact HB.out | apply below_alloc | apply pw_below_drewN | apply below_drew1 | refine below_set ?_ GE155.out | refine below_set ?_ GE161.out) | exact HB.out)⟩⟩
                  ·rw [if_neg c81] at H
                   have c81b0 : (((rd_T24 x10_2 x15_5).f0) == t156) = false := beq_eq_false_iff_ne.mpr c81
                   have c81b1 : (((rd_T24 x10_2 x15_5).f0) != t156) = true := bne_iff_ne.mpr c81
                   have H' := Aside0.mk H
                   clear H
                   have p162 : 0 ≤ (x15_5 : Int) := of_decide_eq_true (by first | (with_reducible assumption) | assumption)
                   have q162 : x15_5 < (x10_2.length : Int) := of_decide_eq_true (by first | (with_reducible assumption) | assumption)
                   obtain ⟨ad162, e162, hx162_0, hx162_1, hx162_2, hx162_3⟩ := at_T24 (Kd.R_reads' HO_10.out).2.2 x15_5 p162 q162
                   cases e162
                   replace p162 := eq_true p162
                   replace q162 := eq_true q162
                   have hnb88 := NB161_155.out
                   have hnc88 := NB155_161.out
                   have hcz89_0 : wr.cell? ⟨gb161, 0, none⟩ = some (.int .i64 t156) := (blk_cell BK161.out 0).trans rfl
                   have hcz89_1 : wr.cell? ⟨gb161, 1, none⟩ = some (.int .i64 t157) := (blk_cell BK161.out 1).trans rfl
                   have hcz89_2 : wr.cell? ⟨gb161, 2, none⟩ = some (.int .i64 t158) := (blk_cell BK161.out 2).trans rfl
                   have hcz89_3 : wr.cell? ⟨gb161, 3, none⟩ = some (.int .i64 t159) := (blk_cell BK161.out 3).trans rfl
                   have hfz89_0 := blk_frozen BK161.out 0
                   have hfz89_1 := blk_frozen BK161.out 1
                   have hfz89_2 := blk_frozen BK161.out 2
                   have hfz89_3 := blk_frozen BK161.out 3
                   go_wp2
                   repeat (go_quiet (fail); try go_wp2)
                   go_roundg k5
                   case measure => have := HJ5.out; have := HK2.out; have := HJ16.out; have := HJ46.out; have := HK5.out; omega
                   case rel => exact ⟨(wrap64 (x15_5 + 1)), (by first | rfl | (simp; done) | (simp [*]; done)), H', ⟨by have := HJ5.out; have := HK2.out; have := HJ16.out; have := HJ46.out; have := HK5.out; omega⟩, ⟨by (with_reducible repeat (first | apply Kd.R_alloc | apply Kd.R_drewN | apply Kd.R_drew)); exact HO_10.out⟩, ⟨by (with_reducible repeat (first | refine blk_drewN ?_ _ | refine blk_drew ?_ | refine blk_alloc ?_ _)); exact BK155.out⟩, ⟨by (with_reducible repeat (first | refine blk_drewN ?_ _ | refine blk_drew ?_ | refine blk_alloc ?_ _)); exact BK161.out⟩, ⟨by repeat (first | (with_reducible first | exact HB.out | apply below_alloc | apply pw_below_drewN | apply below_drew1 | refine below_set ?_ GE155.out | refine below_set ?_ GE161.out) | exact HB.out)⟩⟩
                 ·rw [if_neg c80] at H
                  exact absurd H (by simp)
                ·rw [if_neg c79] at H
                 have c79b0 : decide (x15_5 < (x10_2.length : Int)) = false := decide_eq_false c79
                 clear c79
                 by_cases c90 : x10_2.length < 4398046511104
                 ·rw [if_pos c90] at H
                  have LMc90 := Aside0.mk c90
                  clear c90
                  obtain ⟨y166, hy166⟩ : ∃ y_ : List (S24), y_ = (x10_2 ++ [(⟨t156, t157, t158, t159⟩ : S24)]) := ⟨_, rfl⟩
                  replace H : (quirelaw15_BandClear.l0 k5 a0 l1 a2 a3 t153 y166 (wrap64 (x11_2 + 1))) = some r := by first | (rw [hy166]; with_reducible exact H) | (have H2_ := (Option.bind_some _ _).symm.trans H; rw [hy166]; with_reducible exact H2_) | (have H2_ := (Option.bind_some _ _).symm.trans H; with_reducible exact H2_) | with_reducible exact H | (rw [hy166]; exact H) | exact H
                  have Ny166 := Aside0.mk hy166
                  clear hy166
                  have H' := Aside0.mk H
                  clear H
                  have hnb91 := NB161_155.out
                  have hnc91 := NB155_161.out
                  have hcz92_0 : wr.cell? ⟨gb161, 0, none⟩ = some (.int .i64 t156) := (blk_cell BK161.out 0).trans rfl
                  have hcz92_1 : wr.cell? ⟨gb161, 1, none⟩ = some (.int .i64 t157) := (blk_cell BK161.out 1).trans rfl
                  have hcz92_2 : wr.cell? ⟨gb161, 2, none⟩ = some (.int .i64 t158) := (blk_cell BK161.out 2).trans rfl
                  have hcz92_3 : wr.cell? ⟨gb161, 3, none⟩ = some (.int .i64 t159) := (blk_cell BK161.out 3).trans rfl
                  have hfz92_0 := blk_frozen BK161.out 0
                  have hfz92_1 := blk_frozen BK161.out 1
                  have hfz92_2 := blk_frozen BK161.out 2
                  have hfz92_3 := blk_frozen BK161.out 3
                  go_wp2_with (first | ((with_reducible refine gate_builtin (b := .append) (xs := #[.tmp 193, .tmp 195]) rfl ?_); (try (refine gate_guard (by rfl) ?_; dsimp only)); at_builtin; refine Kd.R_append k24 (w0 := w) w.heap.size rfl (.tmp 193) (.tmp 195) 22 24 (.agg #[(.int .i64 0), (.int .i64 0), (.int .i64 0), (.int .i64 0)]) 32 rfl Try.underlying22 info24 rfl (by decide) (by omega) (.slice Ao49 x10_2.length co49) x10_2 (⟨t156, t157, t158, t159⟩ : S24) [.int .i64 t156, .int .i64 t157, .int .i64 t158, .int .i64 t159] (fun k_ => k_ ≠ gb161) (fun _ => False) rfl rfl ?aP (fun _ hk => hk.elim) ?aF ?aO ?aB ?aS ?aL ?_; (case aP => exact k24_mkM _ _ _ (⟨t156, t157, t158, t159⟩ : S24)); (case aB => exact (by repeat (first | (with_reducible first | exact HB.out | apply below_alloc | apply pw_below_drewN | apply below_drew1 | refine below_set ?_ GE155.out | refine below_set ?_ GE161.out) | exact HB.out))); (case aF => exact (fun k_ hk => Kd.freshB (g := gb161) (o := .cells #[.int .i64 t156, .int .i64 t157, .int .i64 t158, .int .i64 t159] 24 (0, 0)) (by (with_reducible repeat (first | refine blk_drewN ?_ _ | refine blk_drew ?_ | refine blk_alloc ?_ _)); exact BK161.out) k_ hk)); (case aO => exact (by (with_reducible repeat (first | apply Kd.R_alloc | apply Kd.R_drewN | apply Kd.R_drew)); exact HO_10.out)); (case aS => exact (below_size (by repeat (first | (with_reducible first | exact HB.out | apply below_alloc | apply pw_below_drewN | apply below_drew1 | refine below_set ?_ GE155.out | refine below_set ?_ GE161.out) | exact HB.out)))); (case aL => have := LMc90.out; omega); intro v167 w93 ho hb hg hat; rw [← Ny166.out] at ho; have n0_ := Aside0.mk (blk_grown (g := gb155) (o := .cells #[.int .i64 ((rd_T40 l1 x11_2).f0), .int .i64 ((rd_T40 l1 x11_2).f1), .int .i64 ((rd_T40 l1 x11_2).f2), .int .i64 ((rd_T40 l1 x11_2).f3)] 40 (0, 0)) (by (with_reducible repeat (first | refine blk_drewN ?_ _ | refine blk_drew ?_ | refine blk_alloc ?_ _)); exact BK155.out) hg (Kd.R_ne HO_10.out BK155.out (by decide))); have n1_ := Aside0.mk (blk_grown (g := gb161) (o := .cells #[.int .i64 t156, .int .i64 t157, .int .i64 t158, .int .i64 t159] 24 (0, 0)) (by (with_reducible repeat (first | refine blk_drewN ?_ _ | refine blk_drew ?_ | refine blk_alloc ?_ _)); exact BK161.out) hg (Kd.R_away HO_10.out (fun _ hk => hk))); have n2_ := Aside0.mk (hb); have n3_ := Aside0.mk (ho); clear BK155; clear BK161; clear HB; clear HO_10; have BK155 := n0_; have BK161 := n1_; have HB := n2_; have HO168 := n3_; clear n0_ n1_ n2_ n3_; clear ho hb hg hat))
                  repeat (go_quiet (first | ((with_reducible refine gate_builtin (b := .append) (xs := #[.tmp 193, .tmp 195]) rfl ?_); (try (refine gate_guard (by rfl) ?_; dsimp only)); at_builtin; refine Kd.R_append k24 (w0 := w) w.heap.size rfl (.tmp 193) (.tmp 195) 22 24 (.agg #[(.int .i64 0), (.int .i64 0), (.int .i64 0), (.int .i64 0)]) 32 rfl Try.underlying22 info24 rfl (by decide) (by omega) (.slice Ao49 x10_2.length co49) x10_2 (⟨t156, t157, t158, t159⟩ : S24) [.int .i64 t156, .int .i64 t157, .int .i64 t158, .int .i64 t159] (fun k_ => k_ ≠ gb161) (fun _ => False) rfl rfl ?aP (fun _ hk => hk.elim) ?aF ?aO ?aB ?aS ?aL ?_; (case aP => exact k24_mkM _ _ _ (⟨t156, t157, t158, t159⟩ : S24)); (case aB => exact (by repeat (first | (with_reducible first | exact HB.out | apply below_alloc | apply pw_below_drewN | apply below_drew1 | refine below_set ?_ GE155.out | refine below_set ?_ GE161.out) | exact HB.out))); (case aF => exact (fun k_ hk => Kd.freshB (g := gb161) (o := .cells #[.int .i64 t156, .int .i64 t157, .int .i64 t158, .int .i64 t159] 24 (0, 0)) (by (with_reducible repeat (first | refine blk_drewN ?_ _ | refine blk_drew ?_ | refine blk_alloc ?_ _)); exact BK161.out) k_ hk)); (case aO => exact (by (with_reducible repeat (first | apply Kd.R_alloc | apply Kd.R_drewN | apply Kd.R_drew)); exact HO_10.out)); (case aS => exact (below_size (by repeat (first | (with_reducible first | exact HB.out | apply below_alloc | apply pw_below_drewN | apply below_drew1 | refine below_set ?_ GE155.out | refine below_set ?_ GE161.out) | exact HB.out)))); (case aL => have := LMc90.out; omega); intro v167 w93 ho hb hg hat; rw [← Ny166.out] at ho; have n0_ := Aside0.mk (blk_grown (g := gb155) (o := .cells #[.int .i64 ((rd_T40 l1 x11_2).f0), .int .i64 ((rd_T40 l1 x11_2).f1), .int .i64 ((rd_T40 l1 x11_2).f2), .int .i64 ((rd_T40 l1 x11_2).f3)] 40 (0, 0)) (by (with_reducible repeat (first | refine blk_drewN ?_ _ | refine blk_drew ?_ | refine blk_alloc ?_ _)); exact BK155.out) hg (Kd.R_ne HO_10.out BK155.out (by decide))); have n1_ := Aside0.mk (blk_grown (g := gb161) (o := .cells #[.int .i64 t156, .int .i64 t157, .int .i64 t158, .int .i64 t159] 24 (0, 0)) (by (with_reducible repeat (first | refine blk_drewN ?_ _ | refine blk_drew ?_ | refine blk_alloc ?_ _)); exact BK161.out) hg (Kd.R_away HO_10.out (fun _ hk => hk))); have n2_ := Aside0.mk (hb); have n3_ := Aside0.mk (ho); clear BK155; clear BK161; clear HB; clear HO_10; have BK155 := n0_; have BK161 := n1_; have HB := n2_; have HO168 := n3_; clear n0_ n1_ n2_ n3_; clear ho hb hg hat)); try go_wp2_with (first | ((with_reducible refine gate_builtin (b := .append) (xs := #[.tmp 193, .tmp 195]) rfl ?_); (try (refine gate_guard (by rfl) ?_; dsimp only)); at_builtin; refine Kd.R_append k24 (w0 := w) w.heap.size rfl (.tmp 193) (.tmp 195) 22 24 (.agg #[(.int .i64 0), (.int .i64 0), (.int .i64 0), (.int .i64 0)]) 32 rfl Try.underlying22 info24 rfl (by decide) (by omega) (.slice Ao49 x10_2.length co49) x10_2 (⟨t156, t157, t158, t159⟩ : S24) [.int .i64 t156, .int .i64 t157, .int .i64 t158, .int .i64 t159] (fun k_ => k_ ≠ gb161) (fun _ => False) rfl rfl ?aP (fun _ hk => hk.elim) ?aF ?aO ?aB ?aS ?aL ?_; (case aP => exact k24_mkM _ _ _ (⟨t156, t157, t158, t159⟩ : S24)); (case aB => exact (by repeat (first | (with_reducible first | exact HB.out | apply below_alloc | apply pw_below_drewN | apply below_drew1 | refine below_set ?_ GE155.out | refine below_set ?_ GE161.out) | exact HB.out))); (case aF => exact (fun k_ hk => Kd.freshB (g := gb161) (o := .cells #[.int .i64 t156, .int .i64 t157, .int .i64 t158, .int .i64 t159] 24 (0, 0)) (by (with_reducible repeat (first | refine blk_drewN ?_ _ | refine blk_drew ?_ | refine blk_alloc ?_ _)); exact BK161.out) k_ hk)); (case aO => exact (by (with_reducible repeat (first | apply Kd.R_alloc | apply Kd.R_drewN | apply Kd.R_drew)); exact HO_10.out)); (case aS => exact (below_size (by repeat (first | (with_reducible first | exact HB.out | apply below_alloc | apply pw_below_drewN | apply below_drew1 | refine below_set ?_ GE155.out | refine below_set ?_ GE161.out) | exact HB.out)))); (case aL => have := LMc90.out; omega); intro v167 w93 ho hb hg hat; rw [← Ny166.out] at ho; have n0_ := Aside0.mk (blk_grown (g := gb155) (o := .cells #[.int .i64 ((rd_T40 l1 x11_2).f0), .int .i64 ((rd_T40 l1 x11_2).f1), .int .i64 ((rd_T40 l1 x11_2).f2), .int .i64 ((rd_T40 l1 x11_2).f3)] 40 (0, 0)) (by (with_reducible repeat (first | refine blk_drewN ?_ _ | refine blk_drew ?_ | refine blk_alloc ?_ _)); exact BK155.out) hg (Kd.R_ne HO_10.out BK155.out (by decide))); have n1_ := Aside0.mk (blk_grown (g := gb161) (o := .cells #[.int .i64 t156, .int .i64 t157, .int .i64 t158, .int .i64 t159] 24 (0, 0)) (by (with_reducible repeat (first | refine blk_drewN ?_ _ | refine blk_drew ?_ | refine blk_alloc ?_ _)); exact BK161.out) hg (Kd.R_away HO_10.out (fun _ hk => hk))); have n2_ := Aside0.mk (hb); have n3_ := Aside0.mk (ho); clear BK155; clear BK161; clear HB; clear HO_10; have BK155 := n0_; have BK161 := n1_; have HB := n2_; have HO168 := n3_; clear n0_ n1_ n2_ n3_; clear ho hb hg hat)))
                  go_roundg k5
                  case measure => have := HJ5.out; have := HK2.out; have := HJ16.out; have := HJ46.out; have := HK5.out; omega
                  case rel => exact ⟨(y166), (wrap64 (x11_2 + 1)), (by first | rfl | (simp; done) | (simp [*]; done)), H', ⟨by have := HJ5.out; have := HK2.out; have := HJ16.out; have := HJ46.out; have := HK5.out; omega⟩, ⟨by (with_reducible repeat (first | apply Kd.R_alloc | apply Kd.R_drewN | apply Kd.R_drew)); exact Kd.R_mono HO168.out (fun _ hk => trivial)⟩, ⟨by repeat (first | (with_reducible first | exact HB.out | apply below_alloc | apply pw_below_drewN | apply below_drew1 | refine below_set ?_ GE155.out | refine below_set ?_ GE161.out) | exact HB.out)⟩⟩
                 ·rw [if_neg c90] at H
                  exact absurd H (by simp)
       ·rw [if_neg c16] at H
        exact absurd H (by simp)
      ·rw [if_neg c15] at H
       have c15b0 : decide (x11_2 < (l1.length : Int)) = false := decide_eq_false c15
       clear c15
       replace H := Option.bind_eq_some_iff.mp H
       obtain ⟨⟨t169, t170⟩, A940, H⟩ := H
       replace H : (if t170 = 0 then (quirelaw15_BandClear.j5 k2 a0 a2 a3 t153 x10_2 t169 ((t169.length : Int) != 256)) else (quirelaw15_BandClear.j5 k2 a0 a2 a3 t153 x10_2 t169 true)) = some r := H
       have A94 := Aside0.mk A940
       clear A940
       have HC95 := Aside0.mk H
       clear H
       obtain ⟨Ao96, co96, eo96⟩ := Kd.R_slice HO_10.out
       subst eo96
       go_upto_region 21 with (first | (go_at_call 10; (with_reducible refine (band_Slots.calls k2 a0 _ _ x10_2 a2 a3 256 t169 t170 _ ?side1 ?side2 A94.out).mono ?_); (case side1 => repeat (first | exact (Kd.R_reads' HO_10.out).2.2 | (with_reducible refine Kd.C_alloc ?_ _) | (with_reducible refine Kd.C_drewN ?_ _) | (with_reducible refine Kd.C_drew ?_))); (case side2 => exact (Kd.R_reads' HO_10.out).2.1); rintro e w97 ⟨v171, rfl, ho0, hb⟩; have n0_ := Aside0.mk (Kd.R_below (by (with_reducible repeat (first | apply Kd.R_alloc | apply Kd.R_drewN | apply Kd.R_drew)); exact HO_10.out) hb); have n1_ := Aside0.mk (Kd.R_lower ho0 (below_size (by repeat (first | (with_reducible first | exact HB.out | apply below_alloc | apply pw_below_drewN | apply below_drew1) | exact HB.out)))); have n2_ := Aside0.mk (below_step (by repeat (first | (with_reducible first | exact HB.out | apply below_alloc | apply pw_below_drewN | apply below_drew1) | exact HB.out)) hb); clear HO_10; clear HB; have HO_10 := n0_; have HO172 := n1_; have HB := n2_; clear n0_ n1_ n2_; (try clear hb); (try clear hb2); (try clear hk); (try clear hi); (try clear ho0)))
       repeat (go_quiet (first | (go_at_call 10; (with_reducible refine (band_Slots.calls k2 a0 _ _ x10_2 a2 a3 256 t169 t170 _ ?side1 ?side2 A94.out).mono ?_); (case side1 => repeat (first | exact (Kd.R_reads' HO_10.out).2.2 | (with_reducible refine Kd.C_alloc ?_ _) | (with_reducible refine Kd.C_drewN ?_ _) | (with_reducible refine Kd.C_drew ?_))); (case side2 => exact (Kd.R_reads' HO_10.out).2.1); rintro e w97 ⟨v171, rfl, ho0, hb⟩; have n0_ := Aside0.mk (Kd.R_below (by (with_reducible repeat (first | apply Kd.R_alloc | apply Kd.R_drewN | apply Kd.R_drew)); exact HO_10.out) hb); have n1_ := Aside0.mk (Kd.R_lower ho0 (below_size (by repeat (first | (with_reducible first | exact HB.out | apply below_alloc | apply pw_below_drewN | apply below_drew1) | exact HB.out)))); have n2_ := Aside0.mk (below_step (by repeat (first | (with_reducible first | exact HB.out | apply below_alloc | apply pw_below_drewN | apply below_drew1) | exact HB.out)) hb); clear HO_10; clear HB; have HO_10 := n0_; have HO172 := n1_; have HB := n2_; clear n0_ n1_ n2_; (try clear hb); (try clear hb2); (try clear hk); (try clear hi); (try clear ho0))); go_upto_region 21 with (first | (go_at_call 10; (with_reducible refine (band_Slots.calls k2 a0 _ _ x10_2 a2 a3 256 t169 t170 _ ?side1 ?side2 A94.out).mono ?_); (case side1 => repeat (first | exact (Kd.R_reads' HO_10.out).2.2 | (with_reducible refine Kd.C_alloc ?_ _) | (with_reducible refine Kd.C_drewN ?_ _) | (with_reducible refine Kd.C_drew ?_))); (case side2 => exact (Kd.R_reads' HO_10.out).2.1); rintro e w97 ⟨v171, rfl, ho0, hb⟩; have n0_ := Aside0.mk (Kd.R_below (by (with_reducible repeat (first | apply Kd.R_alloc | apply Kd.R_drewN | apply Kd.R_drew)); exact HO_10.out) hb); have n1_ := Aside0.mk (Kd.R_lower ho0 (below_size (by repeat (first | (with_reducible first | exact HB.out | apply below_alloc | apply pw_below_drewN | apply below_drew1) | exact HB.out)))); have n2_ := Aside0.mk (below_step (by repeat (first | (with_reducible first | exact HB.out | apply below_alloc | apply pw_below_drewN | apply below_drew1) | exact HB.out)) hb); clear HO_10; clear HB; have HO_10 := n0_; have HO172 := n1_; have HB := n2_; clear n0_ n1_ n2_; (try clear hb); (try clear hb2); (try clear hk); (try clear hi); (try clear ho0))))
       (try simp only [Act.put, List.setIfInBounds_toArray, List.set_cons_zero, List.set_cons_succ])
       go_cut [211] (fun v211 wc => ∃ (kq : Nat) (x211_94 : Bool), v211 = .bool x211_94 ∧ Aside0 (quirelaw15_BandClear.j5 kq a0 a2 a3 t153 x10_2 t169 x211_94 = some r) ∧ Aside0 (kq ≤ k2) ∧ Aside0 (Kd.R k24 24 wc w.heap.size (fun _ => True) (.slice Ao96 x10_2.length co96) x10_2) ∧ Aside0 (Kd.R k43 43 wc w.heap.size (fun _ => True) v171 t169) ∧ Aside0 (Below w.heap.size w wc))
       case first => as_aux_lemma =>
        have H := HC95.out
        clear HC95
        by_cases c98 : t170 = 0
        ·rw [if_pos c98] at H
         have c98b0 : (t170 == 0) = true := beq_iff_eq.mpr c98
         have c98b1 : (t170 != 0) = false := bne_eq_false_iff_eq.mpr c98
         clear c98
         (first | rw [c98b0] | (simp only [i64_w, i32_w]; rw [c98b0]) | skip)
         have H' := Aside0.mk H
         clear H
         obtain ⟨Ao99, co99, eo99⟩ := Kd.R_slice HO172.out
         subst eo99
         go_wp2
         repeat (go_quiet (fail); try go_wp2)
         go_meet
         case rel => exact ⟨_, (((t169.length : Int) != 256)), (by first | rfl | (simp; done) | (simp [*]; done)), H', ⟨by have := HJ5.out; have := HK2.out; first | omega | exact Nat.le_refl _⟩, ⟨by (with_reducible repeat (first | apply Kd.R_alloc | apply Kd.R_drewN | apply Kd.R_drew)); exact HO_10.out⟩, ⟨by (with_reducible repeat (first | apply Kd.R_alloc | apply Kd.R_drewN | apply Kd.R_drew)); exact HO172.out⟩, ⟨by repeat (first | (with_reducible first | exact HB.out | apply below_alloc | apply pw_below_drewN | apply below_drew1) | exact HB.out)⟩⟩
        ·rw [if_neg c98] at H
         have c98b0 : (t170 == 0) = false := beq_eq_false_iff_ne.mpr c98
         have c98b1 : (t170 != 0) = true := bne_iff_ne.mpr c98
         (first | rw [c98b0] | (simp only [i64_w, i32_w]; rw [c98b0]) | skip)
         have H' := Aside0.mk H
         clear H
         go_wp2
         repeat (go_quiet (fail); try go_wp2)
         go_meet
         case rel => exact ⟨_, (true), (by first | rfl | (simp; done) | (simp [*]; done)), H', ⟨by have := HJ5.out; have := HK2.out; first | omega | exact Nat.le_refl _⟩, ⟨by (with_reducible repeat (first | apply Kd.R_alloc | apply Kd.R_drewN | apply Kd.R_drew)); exact HO_10.out⟩, ⟨by (with_reducible repeat (first | apply Kd.R_alloc | apply Kd.R_drewN | apply Kd.R_drew)); exact HO172.out⟩, ⟨by repeat (first | (with_reducible first | exact HB.out | apply below_alloc | apply pw_below_drewN | apply below_drew1) | exact HB.out)⟩⟩
       case rest => as_aux_lemma =>
        clear HC95
        try clear c1
        try clear p1
        try clear q1
        try clear hx1
        try clear c2
        try clear p2
        try clear c3
        try clear c4
        try clear c5
        try clear c6
        try clear p6
        try clear c7
        try clear c8
        try clear c8b0
        try clear c9
        try clear c9b0
        try clear c10
        try clear c10b0
        try clear c10b1
        try clear c11
        try clear c11b0
        try clear c12
        try clear c12b0
        try clear c13
        try clear c13b0
        try clear c14
        try clear c15
        try clear c15b0
        try clear p15
        try clear q15
        try clear hx15
        try clear c16
        try clear c16b0
        try clear p16
        try clear q16
        try clear hx16
        try clear c20
        try clear c20b0
        try clear c20b1
        try clear c21
        try clear c21b0
        try clear c23
        try clear c23b0
        try clear c25
        try clear c25b0
        try clear c27
        try clear c27b0
        try clear c29
        try clear c29b0
        try clear c32
        try clear c32b0
        try clear c32b1
        try clear c33
        try clear c33b0
        try clear c35
        try clear c35b0
        try clear c37
        try clear c37b0
        try clear c39
        try clear c39b0
        try clear c41
        try clear c41b0
        try clear c45
        try clear c52
        try clear c54
        try clear c54b0
        try clear c54b1
        try clear c55
        try clear c55b0
        try clear c55b1
        try clear c56
        try clear c56b0
        try clear c56b1
        try clear c57
        try clear c57b0
        try clear c58
        try clear c61
        try clear c61b0
        try clear c62
        try clear p64
        try clear c65
        try clear c65b0
        try clear c66
        try clear c69
        try clear c72
        try clear c75
        try clear c78
        try clear c79
        try clear c79b0
        try clear c80
        try clear c80b0
        try clear c81
        try clear c81b0
        try clear c81b1
        try clear c83
        try clear c84
        try clear c86
        try clear c88
        try clear c90
        try clear c91
        try clear c98
        try clear c98b0
        try clear c98b1
        try clear hcz19_0
        try clear hcz19_1
        try clear hcz19_2
        try clear hcz19_3
        try clear hcz22_0
        try clear hcz22_1
        try clear hcz22_2
        try clear hcz22_3
        try clear hcz24_0
        try clear hcz24_1
        try clear hcz24_2
        try clear hcz24_3
        try clear hcz26_0
        try clear hcz26_1
        try clear hcz26_2
        try clear hcz26_3
        try clear hcz28_0
        try clear hcz28_1
        try clear hcz28_2
        try clear hcz28_3
        try clear hcz30_0
        try clear hcz30_1
        try clear hcz30_2
        try clear hcz30_3
        try clear hcz31_0
        try clear hcz31_1
        try clear hcz31_2
        try clear hcz31_3
        try clear hcz34_0
        try clear hcz34_1
        try clear hcz34_2
        try clear hcz34_3
        try clear hcz36_0
        try clear hcz36_1
        try clear hcz36_2
        try clear hcz36_3
        try clear hcz38_0
        try clear hcz38_1
        try clear hcz38_2
        try clear hcz38_3
        try clear hcz40_0
        try clear hcz40_1
        try clear hcz40_2
        try clear hcz40_3
        try clear hcz42_0
        try clear hcz42_1
        try clear hcz42_2
        try clear hcz42_3
        try clear hcz43_0
        try clear hcz43_1
        try clear hcz43_2
        try clear hcz43_3
        try clear hcz44_0
        try clear hcz44_1
        try clear hcz44_2
        try clear hcz44_3
        try clear hcz48_0
        try clear hcz48_1
        try clear hcz48_2
        try clear hcz48_3
        try clear hcz53_0
        try clear hcz53_1
        try clear hcz53_2
        try clear hcz53_3
        try clear hcz59_0
        try clear hcz59_1
        try clear hcz59_2
        try clear hcz59_3
        try clear hcz60_0
        try clear hcz60_1
        try clear hcz60_2
        try clear hcz60_3
        try clear hcz63_0
        try clear hcz63_1
        try clear hcz63_2
        try clear hcz63_3
        try clear hcz64_0
        try clear hcz64_1
        try clear hcz64_2
        try clear hcz64_3
        try clear hcz67_0
        try clear hcz67_1
        try clear hcz67_2
        try clear hcz67_3
        try clear hcz68_0
        try clear hcz68_1
        try clear hcz68_2
        try clear hcz68_3
        try clear hcz70_0
        try clear hcz70_1
        try clear hcz70_2
        try clear hcz70_3
        try clear hcz71_0
        try clear hcz71_1
        try clear hcz71_2
        try clear hcz71_3
        try clear hcz73_0
        try clear hcz73_1
        try clear hcz73_2
        try clear hcz73_3
        try clear hcz74_0
        try clear hcz74_1
        try clear hcz74_2
        try clear hcz74_3
        try clear hcz76_0
        try clear hcz76_1
        try clear hcz76_2
        try clear hcz76_3
        try clear hcz77_0
        try clear hcz77_1
        try clear hcz77_2
        try clear hcz77_3
        try clear hcz85_0
        try clear hcz85_1
        try clear hcz85_2
        try clear hcz85_3
        try clear hcz87_0
        try clear hcz87_1
        try clear hcz87_2
        try clear hcz87_3
        try clear hcz89_0
        try clear hcz89_1
        try clear hcz89_2
        try clear hcz89_3
        try clear hcz92_0
        try clear hcz92_1
        try clear hcz92_2
        try clear hcz92_3
        try clear hfz19_0
        try clear hfz19_1
        try clear hfz19_2
        try clear hfz19_3
        try clear hfz22_0
        try clear hfz22_1
        try clear hfz22_2
        try clear hfz22_3
        try clear hfz24_0
        try clear hfz24_1
        try clear hfz24_2
        try clear hfz24_3
        try clear hfz26_0
        try clear hfz26_1
        try clear hfz26_2
        try clear hfz26_3
        try clear hfz28_0
        try clear hfz28_1
        try clear hfz28_2
        try clear hfz28_3
        try clear hfz30_0
        try clear hfz30_1
        try clear hfz30_2
        try clear hfz30_3
        try clear hfz31_0
        try clear hfz31_1
        try clear hfz31_2
        try clear hfz31_3
        try clear hfz34_0
        try clear hfz34_1
        try clear hfz34_2
        try clear hfz34_3
        try clear hfz36_0
        try clear hfz36_1
        try clear hfz36_2
        try clear hfz36_3
        try clear hfz38_0
        try clear hfz38_1
        try clear hfz38_2
        try clear hfz38_3
        try clear hfz40_0
        try clear hfz40_1
        try clear hfz40_2
        try clear hfz40_3
        try clear hfz42_0
        try clear hfz42_1
        try clear hfz42_2
        try clear hfz42_3
        try clear hfz43_0
        try clear hfz43_1
        try clear hfz43_2
        try clear hfz43_3
        try clear hfz44_0
        try clear hfz44_1
        try clear hfz44_2
        try clear hfz44_3
        try clear hfz48_0
        try clear hfz48_1
        try clear hfz48_2
        try clear hfz48_3
        try clear hfz53_0
        try clear hfz53_1
        try clear hfz53_2
        try clear hfz53_3
        try clear hfz59_0
        try clear hfz59_1
        try clear hfz59_2
        try clear hfz59_3
        try clear hfz60_0
        try clear hfz60_1
        try clear hfz60_2
        try clear hfz60_3
        try clear hfz63_0
        try clear hfz63_1
        try clear hfz63_2
        try clear hfz63_3
        try clear hfz64_0
        try clear hfz64_1
        try clear hfz64_2
        try clear hfz64_3
        try clear hfz67_0
        try clear hfz67_1
        try clear hfz67_2
        try clear hfz67_3
        try clear hfz68_0
        try clear hfz68_1
        try clear hfz68_2
        try clear hfz68_3
        try clear hfz70_0
        try clear hfz70_1
        try clear hfz70_2
        try clear hfz70_3
        try clear hfz71_0
        try clear hfz71_1
        try clear hfz71_2
        try clear hfz71_3
        try clear hfz73_0
        try clear hfz73_1
        try clear hfz73_2
        try clear hfz73_3
        try clear hfz74_0
        try clear hfz74_1
        try clear hfz74_2
        try clear hfz74_3
        try clear hfz76_0
        try clear hfz76_1
        try clear hfz76_2
        try clear hfz76_3
        try clear hfz77_0
        try clear hfz77_1
        try clear hfz77_2
        try clear hfz77_3
        try clear hfz85_0
        try clear hfz85_1
        try clear hfz85_2
        try clear hfz85_3
        try clear hfz87_0
        try clear hfz87_1
        try clear hfz87_2
        try clear hfz87_3
        try clear hfz89_0
        try clear hfz89_1
        try clear hfz89_2
        try clear hfz89_3
        try clear hfz92_0
        try clear hfz92_1
        try clear hfz92_2
        try clear hfz92_3
        try clear hx154_0
        try clear hx154_1
        try clear hx154_2
        try clear hx154_3
        try clear hx162_0
        try clear hx162_1
        try clear hx162_2
        try clear hx162_3
        try clear hx163_0
        try clear hx163_1
        try clear hx163_2
        try clear hx163_3
        try clear hx164_0
        try clear hx164_1
        try clear hx164_2
        try clear hx164_3
        try clear p1
        try clear p15
        try clear p154
        try clear p162
        try clear p163
        try clear p164
        try clear p2
        try clear p6
        try clear p64
        try clear q1
        try clear q15
        try clear q154
        try clear q162
        try clear q163
        try clear q164
        obtain ⟨kq, x211_94, rfl, HA, HJ94, HO_10, HO_16, HB⟩ := hcut
        cases kq with
        | zero => exact absurd HA.out (by simp [quirelaw15_BandClear.j5])
        | succ kj94 =>
         have H := HA.out
         clear HA
         simp only [quirelaw15_BandClear.j5] at H
         by_cases c100 : x211_94 = true
         ·subst c100
          have H1 : (some false) = some r := by rw [if_pos rfl] at H; exact H
          clear H
          have H := H1
          clear H1
          obtain rfl := Option.some.inj H
          go_wp2
          repeat (go_quiet (fail); try go_wp2)
          go_ret
          exact ⟨by first | rfl | (simp [errW_none, errW_some] <;> rfl) | (simp [*, errW_none, errW_some] <;> rfl), by repeat (first | (with_reducible first | exact HB.out | apply below_alloc | apply pw_below_drewN | apply below_drew1) | exact HB.out)⟩
         ·replace c100 := Bool.eq_false_iff.mpr c100
          subst c100
          have H1 : (quirelaw15_BandClear.l2 kj94 a0 a2 a3 t153 x10_2 t169 0) = some r := by rw [if_neg (show ¬ (false = true) by decide)] at H; exact H
          clear H
          have H := H1
          clear H1
          have H' := Aside0.mk H
          clear H
          go_wp2
          repeat (go_quiet (fail); try go_wp2)
          go_loopg [18] kj94 (fun kq v18 w' => ∃ (x18_4 : Int), v18 = .int .i64 x18_4 ∧ Aside0 (quirelaw15_BandClear.l2 kq a0 a2 a3 t153 x10_2 t169 x18_4 = some r) ∧ Aside0 (kq ≤ kj94) ∧ Aside0 (Kd.R k24 24 w' w.heap.size (fun _ => True) (.slice Ao96 x10_2.length co96) x10_2) ∧ Aside0 (Kd.R k43 43 w' w.heap.size (fun _ => True) v171 t169) ∧ Aside0 (Below w.heap.size w w'))
          case atStart => exact ⟨(0), (by first | rfl | (simp; done) | (simp [*]; done)), H', ⟨Nat.le_refl _⟩, ⟨by (with_reducible repeat (first | apply Kd.R_alloc | apply Kd.R_drewN | apply Kd.R_drew)); exact HO_10.out⟩, ⟨by (with_reducible repeat (first | apply Kd.R_alloc | apply Kd.R_drewN | apply Kd.R_drew)); exact HO_16.out⟩, ⟨by repeat (first | (with_reducible first | exact HB.out | apply below_alloc | apply pw_below_drewN | apply below_drew1) | exact HB.out)⟩⟩
          case round => as_aux_lemma =>
           clear H'
           try clear c1
           try clear p1
           try clear q1
           try clear hx1
           try clear c2
           try clear p2
           try clear c3
           try clear c4
           try clear c5
           try clear c6
           try clear p6
           try clear c7
           try clear c8
           try clear c8b0
           try clear c9
           try clear c9b0
           try clear c10
           try clear c10b0
           try clear c10b1
           try clear c11
           try clear c11b0
           try clear c12
           try clear c12b0
           try clear c13
           try clear c13b0
           try clear c14
           try clear c15
           try clear c15b0
           try clear p15
           try clear q15
           try clear hx15
           try clear c16
           try clear c16b0
           try clear p16
           try clear q16
           try clear hx16
           try clear c20
           try clear c20b0
           try clear c20b1
           try clear c21
           try clear c21b0
           try clear c23
           try clear c23b0
           try clear c25
           try clear c25b0
           try clear c27
           try clear c27b0
           try clear c29
           try clear c29b0
           try clear c32
           try clear c32b0
           try clear c32b1
           try clear c33
           try clear c33b0
           try clear c35
           try clear c35b0
           try clear c37
           try clear c37b0
           try clear c39
           try clear c39b0
           try clear c41
           try clear c41b0
           try clear c45
           try clear c52
           try clear c54
           try clear c54b0
           try clear c54b1
           try clear c55
           try clear c55b0
           try clear c55b1
           try clear c56
           try clear c56b0
           try clear c56b1
           try clear c57
           try clear c57b0
           try clear c58
           try clear c61
           try clear c61b0
           try clear c62
           try clear p64
           try clear c65
           try clear c65b0
           try clear c66
           try clear c69
           try clear c72
           try clear c75
           try clear c78
           try clear c79
           try clear c79b0
           try clear c80
           try clear c80b0
           try clear c81
           try clear c81b0
           try clear c81b1
           try clear c83
           try clear c84
           try clear c86
           try clear c88
           try clear c90
           try clear c91
           try clear c98
           try clear c98b0
           try clear c98b1
           try clear c100
           try clear hcz19_0
           try clear hcz19_1
           try clear hcz19_2
           try clear hcz19_3
           try clear hcz22_0
           try clear hcz22_1
           try clear hcz22_2
           try clear hcz22_3
           try clear hcz24_0
           try clear hcz24_1
           try clear hcz24_2
           try clear hcz24_3
           try clear hcz26_0
           try clear hcz26_1
           try clear hcz26_2
           try clear hcz26_3
           try clear hcz28_0
           try clear hcz28_1
           try clear hcz28_2
           try clear hcz28_3
           try clear hcz30_0
           try clear hcz30_1
           try clear hcz30_2
           try clear hcz30_3
           try clear hcz31_0
           try clear hcz31_1
           try clear hcz31_2
           try clear hcz31_3
           try clear hcz34_0
           try clear hcz34_1
           try clear hcz34_2
           try clear hcz34_3
           try clear hcz36_0
           try clear hcz36_1
           try clear hcz36_2
           try clear hcz36_3
           try clear hcz38_0
           try clear hcz38_1
           try clear hcz38_2
           try clear hcz38_3
           try clear hcz40_0
           try clear hcz40_1
           try clear hcz40_2
           try clear hcz40_3
           try clear hcz42_0
           try clear hcz42_1
           try clear hcz42_2
           try clear hcz42_3
           try clear hcz43_0
           try clear hcz43_1
           try clear hcz43_2
           try clear hcz43_3
           try clear hcz44_0
           try clear hcz44_1
           try clear hcz44_2
           try clear hcz44_3
           try clear hcz48_0
           try clear hcz48_1
           try clear hcz48_2
           try clear hcz48_3
           try clear hcz53_0
           try clear hcz53_1
           try clear hcz53_2
           try clear hcz53_3
           try clear hcz59_0
           try clear hcz59_1
           try clear hcz59_2
           try clear hcz59_3
           try clear hcz60_0
           try clear hcz60_1
           try clear hcz60_2
           try clear hcz60_3
           try clear hcz63_0
           try clear hcz63_1
           try clear hcz63_2
           try clear hcz63_3
           try clear hcz64_0
           try clear hcz64_1
           try clear hcz64_2
           try clear hcz64_3
           try clear hcz67_0
           try clear hcz67_1
           try clear hcz67_2
           try clear hcz67_3
           try clear hcz68_0
           try clear hcz68_1
           try clear hcz68_2
           try clear hcz68_3
           try clear hcz70_0
           try clear hcz70_1
           try clear hcz70_2
           try clear hcz70_3
           try clear hcz71_0
           try clear hcz71_1
           try clear hcz71_2
           try clear hcz71_3
           try clear hcz73_0
           try clear hcz73_1
           try clear hcz73_2
           try clear hcz73_3
           try clear hcz74_0
           try clear hcz74_1
           try clear hcz74_2
           try clear hcz74_3
           try clear hcz76_0
           try clear hcz76_1
           try clear hcz76_2
           try clear hcz76_3
           try clear hcz77_0
           try clear hcz77_1
           try clear hcz77_2
           try clear hcz77_3
           try clear hcz85_0
           try clear hcz85_1
           try clear hcz85_2
           try clear hcz85_3
           try clear hcz87_0
           try clear hcz87_1
           try clear hcz87_2
           try clear hcz87_3
           try clear hcz89_0
           try clear hcz89_1
           try clear hcz89_2
           try clear hcz89_3
           try clear hcz92_0
           try clear hcz92_1
           try clear hcz92_2
           try clear hcz92_3
           try clear hfz19_0
           try clear hfz19_1
           try clear hfz19_2
           try clear hfz19_3
           try clear hfz22_0
           try clear hfz22_1
           try clear hfz22_2
           try clear hfz22_3
           try clear hfz24_0
           try clear hfz24_1
           try clear hfz24_2
           try clear hfz24_3
           try clear hfz26_0
           try clear hfz26_1
           try clear hfz26_2
           try clear hfz26_3
           try clear hfz28_0
           try clear hfz28_1
           try clear hfz28_2
           try clear hfz28_3
           try clear hfz30_0
           try clear hfz30_1
           try clear hfz30_2
           try clear hfz30_3
           try clear hfz31_0
           try clear hfz31_1
           try clear hfz31_2
           try clear hfz31_3
           try clear hfz34_0
           try clear hfz34_1
           try clear hfz34_2
           try clear hfz34_3
           try clear hfz36_0
           try clear hfz36_1
           try clear hfz36_2
           try clear hfz36_3
           try clear hfz38_0
           try clear hfz38_1
           try clear hfz38_2
           try clear hfz38_3
           try clear hfz40_0
           try clear hfz40_1
           try clear hfz40_2
           try clear hfz40_3
           try clear hfz42_0
           try clear hfz42_1
           try clear hfz42_2
           try clear hfz42_3
           try clear hfz43_0
           try clear hfz43_1
           try clear hfz43_2
           try clear hfz43_3
           try clear hfz44_0
           try clear hfz44_1
           try clear hfz44_2
           try clear hfz44_3
           try clear hfz48_0
           try clear hfz48_1
           try clear hfz48_2
           try clear hfz48_3
           try clear hfz53_0
           try clear hfz53_1
           try clear hfz53_2
           try clear hfz53_3
           try clear hfz59_0
           try clear hfz59_1
           try clear hfz59_2
           try clear hfz59_3
           try clear hfz60_0
           try clear hfz60_1
           try clear hfz60_2
           try clear hfz60_3
           try clear hfz63_0
           try clear hfz63_1
           try clear hfz63_2
           try clear hfz63_3
           try clear hfz64_0
           try clear hfz64_1
           try clear hfz64_2
           try clear hfz64_3
           try clear hfz67_0
           try clear hfz67_1
           try clear hfz67_2
           try clear hfz67_3
           try clear hfz68_0
           try clear hfz68_1
           try clear hfz68_2
           try clear hfz68_3
           try clear hfz70_0
           try clear hfz70_1
           try clear hfz70_2
           try clear hfz70_3
           try clear hfz71_0
           try clear hfz71_1
           try clear hfz71_2
           try clear hfz71_3
           try clear hfz73_0
           try clear hfz73_1
           try clear hfz73_2
           try clear hfz73_3
           try clear hfz74_0
           try clear hfz74_1
           try clear hfz74_2
           try clear hfz74_3
           try clear hfz76_0
           try clear hfz76_1
           try clear hfz76_2
           try clear hfz76_3
           try clear hfz77_0
           try clear hfz77_1
           try clear hfz77_2
           try clear hfz77_3
           try clear hfz85_0
           try clear hfz85_1
           try clear hfz85_2
           try clear hfz85_3
           try clear hfz87_0
           try clear hfz87_1
           try clear hfz87_2
           try clear hfz87_3
           try clear hfz89_0
           try clear hfz89_1
           try clear hfz89_2
           try clear hfz89_3
           try clear hfz92_0
           try clear hfz92_1
           try clear hfz92_2
           try clear hfz92_3
           try clear hx154_0
           try clear hx154_1
           try clear hx154_2
           try clear hx154_3
           try clear hx162_0
           try clear hx162_1
           try clear hx162_2
           try clear hx162_3
           try clear hx163_0
           try clear hx163_1
           try clear hx163_2
           try clear hx163_3
           try clear hx164_0
           try clear hx164_1
           try clear hx164_2
           try clear hx164_3
           try clear p1
           try clear p15
           try clear p154
           try clear p16
           try clear p162
           try clear p163
           try clear p164
           try clear p2
           try clear p6
           try clear p64
           try clear q1
           try clear q15
           try clear q154
           try clear q16
           try clear q162
           try clear q163
           try clear q164
           obtain ⟨x18_4, rfl, HA, HK4, HO_10, HO_16, HB⟩ := hrel
           cases gk with
           | zero => exact absurd HA.out (by simp [quirelaw15_BandClear.l2])
           | succ k4 =>
            have H := HA.out
            clear HA
            simp only [quirelaw15_BandClear.l2] at H
            by_cases c101 : x18_4 < (t169.length : Int)
            ·rw [if_pos c101] at H
             have c101b0 : decide (x18_4 < (t169.length : Int)) = true := decide_eq_true c101
             clear c101
             have H' := Aside0.mk H
             clear H
             obtain ⟨Ao102, co102, eo102⟩ := Kd.R_slice HO_16.out
             subst eo102
             go_wp2
             repeat (go_quiet (fail); try go_wp2)
             go_loopg [19, 20, 21] k4 (fun kq v19 v20 v21 w' => ∃ (x19_5 : Int) (x20_5 : Int) (x21_5 : Int), v19 = .int .i64 x19_5 ∧ v20 = .int .i64 x20_5 ∧ v21 = .int .i64 x21_5 ∧ Aside0 (quirelaw15_BandClear.l3 kq a0 a2 a3 t153 x10_2 t169 x18_4 x19_5 x20_5 x21_5 = some r) ∧ Aside0 (kq ≤ k4) ∧ Aside0 (Kd.R k24 24 w' w.heap.size (fun _ => True) (.slice Ao96 x10_2.length co96) x10_2) ∧ Aside0 (Kd.R k43 43 w' w.heap.size (fun _ => True) (.slice Ao102 t169.length co102) t169) ∧ Aside0 (Below w.heap.size w w'))
             case atStart => exact ⟨(0), (0), (0), (by first | rfl | (simp; done) | (simp [*]; done)), (by first | rfl | (simp; done) | (simp [*]; done)), (by first | rfl | (simp; done) | (simp [*]; done)), H', ⟨Nat.le_refl _⟩, ⟨by (with_reducible repeat (first | apply Kd.R_alloc | apply Kd.R_drewN | apply Kd.R_drew)); exact HO_10.out⟩, ⟨by (with_reducible repeat (first | apply Kd.R_alloc | apply Kd.R_drewN | apply Kd.R_drew)); exact HO_16.out⟩, ⟨by repeat (first | (with_reducible first | exact HB.out | apply below_alloc | apply pw_below_drewN | apply below_drew1) | exact HB.out)⟩⟩
             case round => as_aux_lemma =>
              clear H'
              try clear c1
              try clear p1
              try clear q1
              try clear hx1
              try clear c2
              try clear p2
              try clear c3
              try clear c4
              try clear c5
              try clear c6
              try clear p6
              try clear c7
              try clear c8
              try clear c8b0
              try clear c9
              try clear c9b0
              try clear c10
              try clear c10b0
              try clear c10b1
              try clear c11
              try clear c11b0
              try clear c12
              try clear c12b0
              try clear c13
              try clear c13b0
              try clear c14
              try clear c15
              try clear c15b0
              try clear p15
              try clear q15
              try clear hx15
              try clear c16
              try clear c16b0
              try clear p16
              try clear q16
              try clear hx16
              try clear c20
              try clear c20b0
              try clear c20b1
              try clear c21
              try clear c21b0
              try clear c23
              try clear c23b0
              try clear c25
              try clear c25b0
              try clear c27
              try clear c27b0
              try clear c29
              try clear c29b0
              try clear c32
              try clear c32b0
              try clear c32b1
              try clear c33
              try clear c33b0
              try clear c35
              try clear c35b0
              try clear c37
              try clear c37b0
              try clear c39
              try clear c39b0
              try clear c41
              try clear c41b0
              try clear c45
              try clear c52
              try clear c54
              try clear c54b0
              try clear c54b1
              try clear c55
              try clear c55b0
              try clear c55b1
              try clear c56
              try clear c56b0
              try clear c56b1
              try clear c57
              try clear c57b0
              try clear c58
              try clear c61
              try clear c61b0
              try clear c62
              try clear p64
              try clear c65
              try clear c65b0
              try clear c66
              try clear c69
              try clear c72
              try clear c75
              try clear c78
              try clear c79
              try clear c79b0
              try clear c80
              try clear c80b0
              try clear c81
              try clear c81b0
              try clear c81b1
              try clear c83
              try clear c84
              try clear c86
              try clear c88
              try clear c90
              try clear c91
              try clear c98
              try clear c98b0
              try clear c98b1
              try clear c100
              try clear c101
              try clear c101b0
              try clear hcz19_0
              try clear hcz19_1
              try clear hcz19_2
              try clear hcz19_3
              try clear hcz22_0
              try clear hcz22_1
              try clear hcz22_2
              try clear hcz22_3
              try clear hcz24_0
              try clear hcz24_1
              try clear hcz24_2
              try clear hcz24_3
              try clear hcz26_0
              try clear hcz26_1
              try clear hcz26_2
              try clear hcz26_3
              try clear hcz28_0
              try clear hcz28_1
              try clear hcz28_2
              try clear hcz28_3
              try clear hcz30_0
              try clear hcz30_1
              try clear hcz30_2
              try clear hcz30_3
              try clear hcz31_0
              try clear hcz31_1
              try clear hcz31_2
              try clear hcz31_3
              try clear hcz34_0
              try clear hcz34_1
              try clear hcz34_2
              try clear hcz34_3
              try clear hcz36_0
              try clear hcz36_1
              try clear hcz36_2
              try clear hcz36_3
              try clear hcz38_0
              try clear hcz38_1
              try clear hcz38_2
              try clear hcz38_3
              try clear hcz40_0
              try clear hcz40_1
              try clear hcz40_2
              try clear hcz40_3
              try clear hcz42_0
              try clear hcz42_1
              try clear hcz42_2
              try clear hcz42_3
              try clear hcz43_0
              try clear hcz43_1
              try clear hcz43_2
              try clear hcz43_3
              try clear hcz44_0
              try clear hcz44_1
              try clear hcz44_2
              try clear hcz44_3
              try clear hcz48_0
              try clear hcz48_1
              try clear hcz48_2
              try clear hcz48_3
              try clear hcz53_0
              try clear hcz53_1
              try clear hcz53_2
              try clear hcz53_3
              try clear hcz59_0
              try clear hcz59_1
              try clear hcz59_2
              try clear hcz59_3
              try clear hcz60_0
              try clear hcz60_1
              try clear hcz60_2
              try clear hcz60_3
              try clear hcz63_0
              try clear hcz63_1
              try clear hcz63_2
              try clear hcz63_3
              try clear hcz64_0
              try clear hcz64_1
              try clear hcz64_2
              try clear hcz64_3
              try clear hcz67_0
              try clear hcz67_1
              try clear hcz67_2
              try clear hcz67_3
              try clear hcz68_0
              try clear hcz68_1
              try clear hcz68_2
              try clear hcz68_3
              try clear hcz70_0
              try clear hcz70_1
              try clear hcz70_2
              try clear hcz70_3
              try clear hcz71_0
              try clear hcz71_1
              try clear hcz71_2
              try clear hcz71_3
              try clear hcz73_0
              try clear hcz73_1
              try clear hcz73_2
              try clear hcz73_3
              try clear hcz74_0
              try clear hcz74_1
              try clear hcz74_2
              try clear hcz74_3
              try clear hcz76_0
              try clear hcz76_1
              try clear hcz76_2
              try clear hcz76_3
              try clear hcz77_0
              try clear hcz77_1
              try clear hcz77_2
              try clear hcz77_3
              try clear hcz85_0
              try clear hcz85_1
              try clear hcz85_2
              try clear hcz85_3
              try clear hcz87_0
              try clear hcz87_1
              try clear hcz87_2
              try clear hcz87_3
              try clear hcz89_0
              try clear hcz89_1
              try clear hcz89_2
              try clear hcz89_3
              try clear hcz92_0
              try clear hcz92_1
              try clear hcz92_2
              try clear hcz92_3
              try clear hfz19_0
              try clear hfz19_1
              try clear hfz19_2
              try clear hfz19_3
              try clear hfz22_0
              try clear hfz22_1
              try clear hfz22_2
              try clear hfz22_3
              try clear hfz24_0
              try clear hfz24_1
              try clear hfz24_2
              try clear hfz24_3
              try clear hfz26_0
              try clear hfz26_1
              try clear hfz26_2
              try clear hfz26_3
              try clear hfz28_0
              try clear hfz28_1
              try clear hfz28_2
              try clear hfz28_3
              try clear hfz30_0
              try clear hfz30_1
              try clear hfz30_2
              try clear hfz30_3
              try clear hfz31_0
              try clear hfz31_1
              try clear hfz31_2
              try clear hfz31_3
              try clear hfz34_0
              try clear hfz34_1
              try clear hfz34_2
              try clear hfz34_3
              try clear hfz36_0
              try clear hfz36_1
              try clear hfz36_2
              try clear hfz36_3
              try clear hfz38_0
              try clear hfz38_1
              try clear hfz38_2
              try clear hfz38_3
              try clear hfz40_0
              try clear hfz40_1
              try clear hfz40_2
              try clear hfz40_3
              try clear hfz42_0
              try clear hfz42_1
              try clear hfz42_2
              try clear hfz42_3
              try clear hfz43_0
              try clear hfz43_1
              try clear hfz43_2
              try clear hfz43_3
              try clear hfz44_0
              try clear hfz44_1
              try clear hfz44_2
              try clear hfz44_3
              try clear hfz48_0
              try clear hfz48_1
              try clear hfz48_2
              try clear hfz48_3
              try clear hfz53_0
              try clear hfz53_1
              try clear hfz53_2
              try clear hfz53_3
              try clear hfz59_0
              try clear hfz59_1
              try clear hfz59_2
              try clear hfz59_3
              try clear hfz60_0
              try clear hfz60_1
              try clear hfz60_2
              try clear hfz60_3
              try clear hfz63_0
              try clear hfz63_1
              try clear hfz63_2
              try clear hfz63_3
              try clear hfz64_0
              try clear hfz64_1
              try clear hfz64_2
              try clear hfz64_3
              try clear hfz67_0
              try clear hfz67_1
              try clear hfz67_2
              try clear hfz67_3
              try clear hfz68_0
              try clear hfz68_1
              try clear hfz68_2
              try clear hfz68_3
              try clear hfz70_0
              try clear hfz70_1
              try clear hfz70_2
              try clear hfz70_3
              try clear hfz71_0
              try clear hfz71_1
              try clear hfz71_2
              try clear hfz71_3
              try clear hfz73_0
              try clear hfz73_1
              try clear hfz73_2
              try clear hfz73_3
              try clear hfz74_0
              try clear hfz74_1
              try clear hfz74_2
              try clear hfz74_3
              try clear hfz76_0
              try clear hfz76_1
              try clear hfz76_2
              try clear hfz76_3
              try clear hfz77_0
              try clear hfz77_1
              try clear hfz77_2
              try clear hfz77_3
              try clear hfz85_0
              try clear hfz85_1
              try clear hfz85_2
              try clear hfz85_3
              try clear hfz87_0
              try clear hfz87_1
              try clear hfz87_2
              try clear hfz87_3
              try clear hfz89_0
              try clear hfz89_1
              try clear hfz89_2
              try clear hfz89_3
              try clear hfz92_0
              try clear hfz92_1
              try clear hfz92_2
              try clear hfz92_3
              try clear hx154_0
              try clear hx154_1
              try clear hx154_2
              try clear hx154_3
              try clear hx162_0
              try clear hx162_1
              try clear hx162_2
              try clear hx162_3
              try clear hx163_0
              try clear hx163_1
              try clear hx163_2
              try clear hx163_3
              try clear hx164_0
              try clear hx164_1
              try clear hx164_2
              try clear hx164_3
              try clear p1
              try clear p15
              try clear p154
              try clear p16
              try clear p162
              try clear p163
              try clear p164
              try clear p2
              try clear p6
              try clear p64
              try clear q1
              try clear q15
              try clear q154
              try clear q16
              try clear q162
              try clear q163
              try clear q164
              obtain ⟨x19_5, x20_5, x21_5, rfl, rfl, rfl, HA, HK5, HO_10, HO_16, HB⟩ := hrel
              cases gk with
              | zero => exact absurd HA.out (by simp [quirelaw15_BandClear.l3])
              | succ k5 =>
               have H := HA.out
               clear HA
               simp only [quirelaw15_BandClear.l3] at H
               by_cases c103 : x21_5 < (x10_2.length : Int)
               ·rw [if_pos c103] at H
                have c103b0 : decide (x21_5 < (x10_2.length : Int)) = true := decide_eq_true c103
                clear c103
                by_cases c104 : 0 ≤ x21_5
                ·rw [if_pos c104] at H
                 have c104b0 : decide (0 ≤ x21_5) = true := decide_eq_true c104
                 clear c104
                 replace H := Option.bind_eq_some_iff.mp H
                 obtain ⟨t179, A1050, H⟩ := H
                 replace H : (if t179 = true then (if ((rd_T24 x10_2 x21_5).f0) = 0 then (quirelaw15_BandClear.l3 k5 a0 a2 a3 t153 x10_2 t169 x18_4 (mx x19_5 ((rd_T24 x10_2 x21_5).f3)) x20_5 (wrap64 (x21_5 + 1))) else (quirelaw15_BandClear.l3 k5 a0 a2 a3 t153 x10_2 t169 x18_4 x19_5 (mx x20_5 ((rd_T24 x10_2 x21_5).f3)) (wrap64 (x21_5 + 1)))) else (quirelaw15_BandClear.l3 k5 a0 a2 a3 t153 x10_2 t169 x18_4 x19_5 x20_5 (wrap64 (x21_5 + 1)))) = some r := H
                 have A105 := Aside0.mk A1050
                 clear A1050
                 by_cases c106 : t179 = true
                 ·subst c106
                  have H1 : (if ((rd_T24 x10_2 x21_5).f0) = 0 then (quirelaw15_BandClear.l3 k5 a0 a2 a3 t153 x10_2 t169 x18_4 (mx x19_5 ((rd_T24 x10_2 x21_5).f3)) x20_5 (wrap64 (x21_5 + 1))) else (quirelaw15_BandClear.l3 k5 a0 a2 a3 t153 x10_2 t169 x18_4 x19_5 (mx x20_5 ((rd_T24 x10_2 x21_5).f3)) (wrap64 (x21_5 + 1)))) = some r := by rw [if_pos rfl] at H; exact H
                  clear H
                  have H := H1
                  clear H1
                  by_cases c107 : ((rd_T24 x10_2 x21_5).f0) = 0
                  ·rw [if_pos c107] at H
                   have c107b0 : (((rd_T24 x10_2 x21_5).f0) == 0) = true := beq_iff_eq.mpr c107
                   have c107b1 : (((rd_T24 x10_2 x21_5).f0) != 0) = false := bne_eq_false_iff_eq.mpr c107
                   clear c107
                   obtain ⟨ji108, hji108⟩ : ∃ j_ : Int, (mx x19_5 ((rd_T24 x10_2 x21_5).f3)) = j_ := ⟨_, rfl⟩
                   replace H : (quirelaw15_BandClear.l3 k5 a0 a2 a3 t153 x10_2 t169 x18_4 ji108 x20_5 (wrap64 (x21_5 + 1))) = some r := by first | (rw [hji108] at H; exact H) | (simp only [hji108] at H ⊢; exact H)
                   (try rw [hji108] at A105)
                   have hji108_ : (if x19_5 < ((rd_T24 x10_2 x21_5).f3) then ((rd_T24 x10_2 x21_5).f3) else x19_5) = ji108 := hji108
                   have H' := Aside0.mk H
                   clear H
                   have p177 : 0 ≤ (x21_5 : Int) := of_decide_eq_true (by first | (with_reducible assumption) | assumption)
                   have q177 : x21_5 < (x10_2.length : Int) := of_decide_eq_true (by first | (with_reducible assumption) | assumption)
                   obtain ⟨ad177, e177, hx177_0, hx177_1, hx177_2, hx177_3⟩ := at_T24 (Kd.R_reads' HO_10.out).2.2 x21_5 p177 q177
                   cases e177
                   replace p177 := eq_true p177
                   replace q177 := eq_true q177
                   have p178 : 0 ≤ (x21_5 : Int) := of_decide_eq_true (by first | (with_reducible assumption) | assumption)
                   have q178 : x21_5 < (x10_2.length : Int) := of_decide_eq_true (by first | (with_reducible assumption) | assumption)
                   obtain ⟨ad178, e178, hx178_0, hx178_1, hx178_2, hx178_3⟩ := at_T24 (Kd.R_reads' HO_10.out).2.2 x21_5 p178 q178
                   obtain rfl : ad177 = ad178 := (by injection e178)
                   replace p178 := eq_true p178
                   replace q178 := eq_true q178
                   go_wp2_with (first | (go_at_call 18; (with_reducible refine (quirelaw15_overlap.calls (wrap64 (a2 + (wrap64 (x18_4 * a3)))) a3 ((rd_T24 x10_2 x21_5).f1) ((rd_T24 x10_2 x21_5).f2) true _ A105.out).mono ?_); rintro e w' ⟨rfl, ⟨nd, rfl⟩⟩; (try first | exact ⟨rfl, _, World.drewN_drewN _ _ _⟩ | exact ⟨rfl, _, Eq.trans (World.drewN_drewN _ _ _) (congrArg (World.drewN _) (Nat.add_assoc _ _ _))⟩)))
                   repeat (go_quiet (first | (go_at_call 18; (with_reducible refine (quirelaw15_overlap.calls (wrap64 (a2 + (wrap64 (x18_4 * a3)))) a3 ((rd_T24 x10_2 x21_5).f1) ((rd_T24 x10_2 x21_5).f2) true _ A105.out).mono ?_); rintro e w' ⟨rfl, ⟨nd, rfl⟩⟩; (try first | exact ⟨rfl, _, World.drewN_drewN _ _ _⟩ | exact ⟨rfl, _, Eq.trans (World.drewN_drewN _ _ _) (congrArg (World.drewN _) (Nat.add_assoc _ _ _))⟩))); try go_wp2_with (first | (go_at_call 18; (with_reducible refine (quirelaw15_overlap.calls (wrap64 (a2 + (wrap64 (x18_4 * a3)))) a3 ((rd_T24 x10_2 x21_5).f1) ((rd_T24 x10_2 x21_5).f2) true _ A105.out).mono ?_); rintro e w' ⟨rfl, ⟨nd, rfl⟩⟩; (try first | exact ⟨rfl, _, World.drewN_drewN _ _ _⟩ | exact ⟨rfl, _, Eq.trans (World.drewN_drewN _ _ _) (congrArg (World.drewN _) (Nat.add_assoc _ _ _))⟩))))
                   go_roundg k5
                   case measure => have := HJ5.out; have := HK2.out; have := HJ94.out; have := HK4.out; have := HK5.out; omega
                   case rel => exact ⟨(ji108), (x20_5), (wrap64 (x21_5 + 1)), (by first | rfl | (simp; done) | (simp only [← hji108] <;> (first | rfl | simp)) | (simp [*]; done)), (by first | rfl | (simp; done) | (simp [*]; done)), (by first | rfl | (simp; done) | (simp [*]; done)), H', ⟨by have := HJ5.out; have := HK2.out; have := HJ94.out; have := HK4.out; have := HK5.out; omega⟩, ⟨by (with_reducible repeat (first | apply Kd.R_alloc | apply Kd.R_drewN | apply Kd.R_drew)); exact HO_10.out⟩, ⟨by (with_reducible repeat (first | apply Kd.R_alloc | apply Kd.R_drewN | apply Kd.R_drew)); exact HO_16.out⟩, ⟨by repeat (first | (with_reducible first | exact HB.out | apply below_alloc | apply pw_below_drewN | apply below_drew1) | exact HB.out)⟩⟩
                  ·rw [if_neg c107] at H
                   have c107b0 : (((rd_T24 x10_2 x21_5).f0) == 0) = false := beq_eq_false_iff_ne.mpr c107
                   have c107b1 : (((rd_T24 x10_2 x21_5).f0) != 0) = true := bne_iff_ne.mpr c107
                   obtain ⟨ji109, hji109⟩ : ∃ j_ : Int, (mx x20_5 ((rd_T24 x10_2 x21_5).f3)) = j_ := ⟨_, rfl⟩
                   replace H : (quirelaw15_BandClear.l3 k5 a0 a2 a3 t153 x10_2 t169 x18_4 x19_5 ji109 (wrap64 (x21_5 + 1))) = some r := by first | (rw [hji109] at H; exact H) | (simp only [hji109] at H ⊢; exact H)
                   (try rw [hji109] at A105)
                   have hji109_ : (if x20_5 < ((rd_T24 x10_2 x21_5).f3) then ((rd_T24 x10_2 x21_5).f3) else x20_5) = ji109 := hji109
                   have H' := Aside0.mk H
                   clear H
                   have p177 : 0 ≤ (x21_5 : Int) := of_decide_eq_true (by first | (with_reducible assumption) | assumption)
                   have q177 : x21_5 < (x10_2.length : Int) := of_decide_eq_true (by first | (with_reducible assumption) | assumption)
                   obtain ⟨ad177, e177, hx177_0, hx177_1, hx177_2, hx177_3⟩ := at_T24 (Kd.R_reads' HO_10.out).2.2 x21_5 p177 q177
                   cases e177
                   replace p177 := eq_true p177
                   replace q177 := eq_true q177
                   have p178 : 0 ≤ (x21_5 : Int) := of_decide_eq_true (by first | (with_reducible assumption) | assumption)
                   have q178 : x21_5 < (x10_2.length : Int) := of_decide_eq_true (by first | (with_reducible assumption) | assumption)
                   obtain ⟨ad178, e178, hx178_0, hx178_1, hx178_2, hx178_3⟩ := at_T24 (Kd.R_reads' HO_10.out).2.2 x21_5 p178 q178
                   obtain rfl : ad177 = ad178 := (by injection e178)
                   replace p178 := eq_true p178
                   replace q178 := eq_true q178
                   go_wp2_with (first | (go_at_call 18; (with_reducible refine (quirelaw15_overlap.calls (wrap64 (a2 + (wrap64 (x18_4 * a3)))) a3 ((rd_T24 x10_2 x21_5).f1) ((rd_T24 x10_2 x21_5).f2) true _ A105.out).mono ?_); rintro e w' ⟨rfl, ⟨nd, rfl⟩⟩; (try first | exact ⟨rfl, _, World.drewN_drewN _ _ _⟩ | exact ⟨rfl, _, Eq.trans (World.drewN_drewN _ _ _) (congrArg (World.drewN _) (Nat.add_assoc _ _ _))⟩)))
                   repeat (go_quiet (first | (go_at_call 18; (with_reducible refine (quirelaw15_overlap.calls (wrap64 (a2 + (wrap64 (x18_4 * a3)))) a3 ((rd_T24 x10_2 x21_5).f1) ((rd_T24 x10_2 x21_5).f2) true _ A105.out).mono ?_); rintro e w' ⟨rfl, ⟨nd, rfl⟩⟩; (try first | exact ⟨rfl, _, World.drewN_drewN _ _ _⟩ | exact ⟨rfl, _, Eq.trans (World.drewN_drewN _ _ _) (congrArg (World.drewN _) (Nat.add_assoc _ _ _))⟩))); try go_wp2_with (first | (go_at_call 18; (with_reducible refine (quirelaw15_overlap.calls (wrap64 (a2 + (wrap64 (x18_4 * a3)))) a3 ((rd_T24 x10_2 x21_5).f1) ((rd_T24 x10_2 x21_5).f2) true _ A105.out).mono ?_); rintro e w' ⟨rfl, ⟨nd, rfl⟩⟩; (try first | exact ⟨rfl, _, World.drewN_drewN _ _ _⟩ | exact ⟨rfl, _, Eq.trans (World.drewN_drewN _ _ _) (congrArg (World.drewN _) (Nat.add_assoc _ _ _))⟩))))
                   go_roundg k5
                   case measure => have := HJ5.out; have := HK2.out; have := HJ94.out; have := HK4.out; have := HK5.out; omega
                   case rel => exact ⟨(x19_5), (ji109), (wrap64 (x21_5 + 1)), (by first | rfl | (simp; done) | (simp [*]; done)), (by first | rfl | (simp; done) | (simp only [← hji109] <;> (first | rfl | simp)) | (simp [*]; done)), (by first | rfl | (simp; done) | (simp [*]; done)), H', ⟨by have := HJ5.out; have := HK2.out; have := HJ94.out; have := HK4.out; have := HK5.out; omega⟩, ⟨by (with_reducible repeat (first | apply Kd.R_alloc | apply Kd.R_drewN | apply Kd.R_drew)); exact HO_10.out⟩, ⟨by (with_reducible repeat (first | apply Kd.R_alloc | apply Kd.R_drewN | apply Kd.R_drew)); exact HO_16.out⟩, ⟨by repeat (first | (with_reducible first | exact HB.out | apply below_alloc | apply pw_below_drewN | apply below_drew1) | exact HB.out)⟩⟩
                 ·replace c106 := Bool.eq_false_iff.mpr c106
                  subst c106
                  have H1 : (quirelaw15_BandClear.l3 k5 a0 a2 a3 t153 x10_2 t169 x18_4 x19_5 x20_5 (wrap64 (x21_5 + 1))) = some r := by rw [if_neg (show ¬ (false = true) by decide)] at H; exact H
                  clear H
                  have H := H1
                  clear H1
                  have H' := Aside0.mk H
                  clear H
                  have p177 : 0 ≤ (x21_5 : Int) := of_decide_eq_true (by first | (with_reducible assumption) | assumption)
                  have q177 : x21_5 < (x10_2.length : Int) := of_decide_eq_true (by first | (with_reducible assumption) | assumption)
                  obtain ⟨ad177, e177, hx177_0, hx177_1, hx177_2, hx177_3⟩ := at_T24 (Kd.R_reads' HO_10.out).2.2 x21_5 p177 q177
                  cases e177
                  replace p177 := eq_true p177
                  replace q177 := eq_true q177
                  have p178 : 0 ≤ (x21_5 : Int) := of_decide_eq_true (by first | (with_reducible assumption) | assumption)
                  have q178 : x21_5 < (x10_2.length : Int) := of_decide_eq_true (by first | (with_reducible assumption) | assumption)
                  obtain ⟨ad178, e178, hx178_0, hx178_1, hx178_2, hx178_3⟩ := at_T24 (Kd.R_reads' HO_10.out).2.2 x21_5 p178 q178
                  obtain rfl : ad177 = ad178 := (by injection e178)
                  replace p178 := eq_true p178
                  replace q178 := eq_true q178
                  go_wp2_with (first | (go_at_call 18; (with_reducible refine (quirelaw15_overlap.calls (wrap64 (a2 + (wrap64 (x18_4 * a3)))) a3 ((rd_T24 x10_2 x21_5).f1) ((rd_T24 x10_2 x21_5).f2) false _ A105.out).mono ?_); rintro e w' ⟨rfl, ⟨nd, rfl⟩⟩; (try first | exact ⟨rfl, _, World.drewN_drewN _ _ _⟩ | exact ⟨rfl, _, Eq.trans (World.drewN_drewN _ _ _) (congrArg (World.drewN _) (Nat.add_assoc _ _ _))⟩)))
                  repeat (go_quiet (first | (go_at_call 18; (with_reducible refine (quirelaw15_overlap.calls (wrap64 (a2 + (wrap64 (x18_4 * a3)))) a3 ((rd_T24 x10_2 x21_5).f1) ((rd_T24 x10_2 x21_5).f2) false _ A105.out).mono ?_); rintro e w' ⟨rfl, ⟨nd, rfl⟩⟩; (try first | exact ⟨rfl, _, World.drewN_drewN _ _ _⟩ | exact ⟨rfl, _, Eq.trans (World.drewN_drewN _ _ _) (congrArg (World.drewN _) (Nat.add_assoc _ _ _))⟩))); try go_wp2_with (first | (go_at_call 18; (with_reducible refine (quirelaw15_overlap.calls (wrap64 (a2 + (wrap64 (x18_4 * a3)))) a3 ((rd_T24 x10_2 x21_5).f1) ((rd_T24 x10_2 x21_5).f2) false _ A105.out).mono ?_); rintro e w' ⟨rfl, ⟨nd, rfl⟩⟩; (try first | exact ⟨rfl, _, World.drewN_drewN _ _ _⟩ | exact ⟨rfl, _, Eq.trans (World.drewN_drewN _ _ _) (congrArg (World.drewN _) (Nat.add_assoc _ _ _))⟩))))
                  go_roundg k5
                  case measure => have := HJ5.out; have := HK2.out; have := HJ94.out; have := HK4.out; have := HK5.out; omega
                  case rel => exact ⟨(x19_5), (x20_5), (wrap64 (x21_5 + 1)), (by first | rfl | (simp; done) | (simp [*]; done)), (by first | rfl | (simp; done) | (simp [*]; done)), (by first | rfl | (simp; done) | (simp [*]; done)), H', ⟨by have := HJ5.out; have := HK2.out; have := HJ94.out; have := HK4.out; have := HK5.out; omega⟩, ⟨by (with_reducible repeat (first | apply Kd.R_alloc | apply Kd.R_drewN | apply Kd.R_drew)); exact HO_10.out⟩, ⟨by (with_reducible repeat (first | apply Kd.R_alloc | apply Kd.R_drewN | apply Kd.R_drew)); exact HO_16.out⟩, ⟨by repeat (first | (with_reducible first | exact HB.out | apply below_alloc | apply pw_below_drewN | apply below_drew1) | exact HB.out)⟩⟩
                ·rw [if_neg c104] at H
                 exact absurd H (by simp)
               ·rw [if_neg c103] at H
                have c103b0 : decide (x21_5 < (x10_2.length : Int)) = false := decide_eq_false c103
                clear c103
                by_cases c110 : 0 ≤ x18_4
                ·rw [if_pos c110] at H
                 have c110b0 : decide (0 ≤ x18_4) = true := decide_eq_true c110
                 clear c110
                 by_cases c111 : x18_4 < (t169.length : Int)
                 ·rw [if_pos c111] at H
                  have c111b0 : decide (x18_4 < (t169.length : Int)) = true := decide_eq_true c111
                  clear c111
                  by_cases c112 : ((rd_T43 t169 x18_4).f1) < 10
                  ·rw [if_pos c112] at H
                   have c112b0 : decide (((rd_T43 t169 x18_4).f1) < 10) = true := decide_eq_true c112
                   clear c112
                   obtain rfl := Option.some.inj H
                   have p173 : 0 ≤ (x18_4 : Int) := of_decide_eq_true (by first | (with_reducible assumption) | assumption)
                   have q173 : x18_4 < (t169.length : Int) := of_decide_eq_true (by first | (with_reducible assumption) | assumption)
                   obtain ⟨ad173, e173, hx173_0, hx173_1⟩ := at_T43 (Kd.R_reads' HO_16.out).2.2 x18_4 p173 q173
                   cases e173
                   replace p173 := eq_true p173
                   replace q173 := eq_true q173
                   go_wp2
                   repeat (go_quiet (fail); try go_wp2)
                   go_ret
                   exact ⟨by first | rfl | (simp [errW_none, errW_some] <;> rfl) | (simp [*, errW_none, errW_some] <;> rfl), by repeat (first | (with_reducible first | exact HB.out | apply below_alloc | apply pw_below_drewN | apply below_drew1) | exact HB.out)⟩
                  ·rw [if_neg c112] at H
                   have c112b0 : decide (((rd_T43 t169 x18_4).f1) < 10) = false := decide_eq_false c112
                   clear c112
                   by_cases c113 : ((rd_T43 t169 x18_4).f0) = x19_5
                   ·rw [if_pos c113] at H
                    have c113b0 : (((rd_T43 t169 x18_4).f0) == x19_5) = true := beq_iff_eq.mpr c113
                    have c113b1 : (((rd_T43 t169 x18_4).f0) != x19_5) = false := bne_eq_false_iff_eq.mpr c113
                    clear c113
                    by_cases c114 : (wrap64 (((rd_T43 t169 x18_4).f0) + ((rd_T43 t169 x18_4).f1))) = (wrap64 (a0 - x20_5))
                    ·rw [if_pos c114] at H
                     have c114b0 : ((wrap64 (((rd_T43 t169 x18_4).f0) + ((rd_T43 t169 x18_4).f1))) == (wrap64 (a0 - x20_5))) = true := beq_iff_eq.mpr c114
                     have c114b1 : ((wrap64 (((rd_T43 t169 x18_4).f0) + ((rd_T43 t169 x18_4).f1))) != (wrap64 (a0 - x20_5))) = false := bne_eq_false_iff_eq.mpr c114
                     clear c114
                     have H' := Aside0.mk H
                     clear H
                     have p173 : 0 ≤ (x18_4 : Int) := of_decide_eq_true (by first | (with_reducible assumption) | assumption)
                     have q173 : x18_4 < (t169.length : Int) := of_decide_eq_true (by first | (with_reducible assumption) | assumption)
                     obtain ⟨ad173, e173, hx173_0, hx173_1⟩ := at_T43 (Kd.R_reads' HO_16.out).2.2 x18_4 p173 q173
                     cases e173
                     replace p173 := eq_true p173
                     replace q173 := eq_true q173
                     have p174 : 0 ≤ (x18_4 : Int) := of_decide_eq_true (by first | (with_reducible assumption) | assumption)
                     have q174 : x18_4 < (t169.length : Int) := of_decide_eq_true (by first | (with_reducible assumption) | assumption)
                     obtain ⟨ad174, e174, hx174_0, hx174_1⟩ := at_T43 (Kd.R_reads' HO_16.out).2.2 x18_4 p174 q174
                     obtain rfl : ad173 = ad174 := (by injection e174)
                     replace p174 := eq_true p174
                     replace q174 := eq_true q174
                     have p175 : 0 ≤ (x18_4 : Int) := of_decide_eq_true (by first | (with_reducible assumption) | assumption)
                     have q175 : x18_4 < (t169.length : Int) := of_decide_eq_true (by first | (with_reducible assumption) | assumption)
                     obtain ⟨ad175, e175, hx175_0, hx175_1⟩ := at_T43 (Kd.R_reads' HO_16.out).2.2 x18_4 p175 q175
                     obtain rfl : ad173 = ad175 := (by injection e175)
                     replace p175 := eq_true p175
                     replace q175 := eq_true q175
                     have p176 : 0 ≤ (x18_4 : Int) := of_decide_eq_true (by first | (with_reducible assumption) | assumption)
                     have q176 : x18_4 < (t169.length : Int) := of_decide_eq_true (by first | (with_reducible assumption) | assumption)
                     obtain ⟨ad176, e176, hx176_0, hx176_1⟩ := at_T43 (Kd.R_reads' HO_16.out).2.2 x18_4 p176 q176
                     obtain rfl : ad173 = ad176 := (by injection e176)
                     replace p176 := eq_true p176
                     replace q176 := eq_true q176
                     go_wp2
                     repeat (go_quiet (fail); try go_wp2)
                     go_roundg k5
                     case measure => have := HJ5.out; have := HK2.out; have := HJ94.out; have := HK4.out; have := HK5.out; omega
                     case rel => exact ⟨(wrap64 (x18_4 + 1)), (by first | rfl | (simp; done) | (simp [*]; done)), H', ⟨by have := HJ5.out; have := HK2.out; have := HJ94.out; have := HK4.out; have := HK5.out; omega⟩, ⟨by (with_reducible repeat (first | apply Kd.R_alloc | apply Kd.R_drewN | apply Kd.R_drew)); exact HO_10.out⟩, ⟨by (with_reducible repeat (first | apply Kd.R_alloc | apply Kd.R_drewN | apply Kd.R_drew)); exact HO_16.out⟩, ⟨by repeat (first | (with_reducible first | exact HB.out | apply below_alloc | apply pw_below_drewN | apply below_drew1) | exact HB.out)⟩⟩
                    ·rw [if_neg c114] at H
                     have c114b0 : ((wrap64 (((rd_T43 t169 x18_4).f0) + ((rd_T43 t169 x18_4).f1))) == (wrap64 (a0 - x20_5))) = false := beq_eq_false_iff_ne.mpr c114
                     have c114b1 : ((wrap64 (((rd_T43 t169 x18_4).f0) + ((rd_T43 t169 x18_4).f1))) != (wrap64 (a0 - x20_5))) = true := bne_iff_ne.mpr c114
                     obtain rfl := Option.some.inj H
                     have p173 : 0 ≤ (x18_4 : Int) := of_decide_eq_true (by first | (with_reducible assumption) | assumption)
                     have q173 : x18_4 < (t169.length : Int) := of_decide_eq_true (by first | (with_reducible assumption) | assumption)
                     obtain ⟨ad173, e173, hx173_0, hx173_1⟩ := at_T43 (Kd.R_reads' HO_16.out).2.2 x18_4 p173 q173
                     cases e173
                     replace p173 := eq_true p173
                     replace q173 := eq_true q173
                     have p174 : 0 ≤ (x18_4 : Int) := of_decide_eq_true (by first | (with_reducible assumption) | assumption)
                     have q174 : x18_4 < (t169.length : Int) := of_decide_eq_true (by first | (with_reducible assumption) | assumption)
                     obtain ⟨ad174, e174, hx174_0, hx174_1⟩ := at_T43 (Kd.R_reads' HO_16.out).2.2 x18_4 p174 q174
                     obtain rfl : ad173 = ad174 := (by injection e174)
                     replace p174 := eq_true p174
                     replace q174 := eq_true q174
                     have p175 : 0 ≤ (x18_4 : Int) := of_decide_eq_true (by first | (with_reducible assumption) | assumption)
                     have q175 : x18_4 < (t169.length : Int) := of_decide_eq_true (by first | (with_reducible assumption) | assumption)
                     obtain ⟨ad175, e175, hx175_0, hx175_1⟩ := at_T43 (Kd.R_reads' HO_16.out).2.2 x18_4 p175 q175
                     obtain rfl : ad173 = ad175 := (by injection e175)
                     replace p175 := eq_true p175
                     replace q175 := eq_true q175
                     have p176 : 0 ≤ (x18_4 : Int) := of_decide_eq_true (by first | (with_reducible assumption) | assumption)
                     have q176 : x18_4 < (t169.length : Int) := of_decide_eq_true (by first | (with_reducible assumption) | assumption)
                     obtain ⟨ad176, e176, hx176_0, hx176_1⟩ := at_T43 (Kd.R_reads' HO_16.out).2.2 x18_4 p176 q176
                     obtain rfl : ad173 = ad176 := (by injection e176)
                     replace p176 := eq_true p176
                     replace q176 := eq_true q176
                     go_wp2
                     repeat (go_quiet (fail); try go_wp2)
                     go_ret
                     exact ⟨by first | rfl | (simp [errW_none, errW_some] <;> rfl) | (simp [*, errW_none, errW_some] <;> rfl), by repeat (first | (with_reducible first | exact HB.out | apply below_alloc | apply pw_below_drewN | apply below_drew1) | exact HB.out)⟩
                   ·rw [if_neg c113] at H
                    have c113b0 : (((rd_T43 t169 x18_4).f0) == x19_5) = false := beq_eq_false_iff_ne.mpr c113
                    have c113b1 : (((rd_T43 t169 x18_4).f0) != x19_5) = true := bne_iff_ne.mpr c113
                    obtain rfl := Option.some.inj H
                    have p173 : 0 ≤ (x18_4 : Int) := of_decide_eq_true (by first | (with_reducible assumption) | assumption)
                    have q173 : x18_4 < (t169.length : Int) := of_decide_eq_true (by first | (with_reducible assumption) | assumption)
                    obtain ⟨ad173, e173, hx173_0, hx173_1⟩ := at_T43 (Kd.R_reads' HO_16.out).2.2 x18_4 p173 q173
                    cases e173
                    replace p173 := eq_true p173
                    replace q173 := eq_true q173
                    have p174 : 0 ≤ (x18_4 : Int) := of_decide_eq_true (by first | (with_reducible assumption) | assumption)
                    have q174 : x18_4 < (t169.length : Int) := of_decide_eq_true (by first | (with_reducible assumption) | assumption)
                    obtain ⟨ad174, e174, hx174_0, hx174_1⟩ := at_T43 (Kd.R_reads' HO_16.out).2.2 x18_4 p174 q174
                    obtain rfl : ad173 = ad174 := (by injection e174)
                    replace p174 := eq_true p174
                    replace q174 := eq_true q174
                    go_wp2
                    repeat (go_quiet (fail); try go_wp2)
                    go_ret
                    exact ⟨by first | rfl | (simp [errW_none, errW_some] <;> rfl) | (simp [*, errW_none, errW_some] <;> rfl), by repeat (first | (with_reducible first | exact HB.out | apply below_alloc | apply pw_below_drewN | apply below_drew1) | exact HB.out)⟩
                 ·rw [if_neg c111] at H
                  exact absurd H (by simp)
                ·rw [if_neg c110] at H
                 exact absurd H (by simp)
            ·rw [if_neg c101] at H
             have c101b0 : decide (x18_4 < (t169.length : Int)) = false := decide_eq_false c101
             clear c101
             replace H := Option.bind_eq_some_iff.mp H
             obtain ⟨⟨t183, t184⟩, A1150, H⟩ := H
             replace H : (quirelaw15_BandClear.l4 k4 a2 t153 x10_2 t183 t184 0) = some r := H
             have A115 := Aside0.mk A1150
             clear A1150
             have H' := Aside0.mk H
             clear H
             obtain ⟨Ao116, co116, eo116⟩ := Kd.R_slice HO_16.out
             subst eo116
             go_wp2_with (first | (go_at_call 12; (with_reducible refine (band_Clear.calls k4 _ _ x10_2 a2 t183 t184 _ ?side1 ?side2 A115.out).mono ?_); (case side1 => repeat (first | exact (Kd.R_reads' HO_10.out).2.2 | (with_reducible refine Kd.C_alloc ?_ _) | (with_reducible refine Kd.C_drewN ?_ _) | (with_reducible refine Kd.C_drew ?_))); (case side2 => exact (Kd.R_reads' HO_10.out).2.1); rintro e w117 ⟨rfl, hb⟩; have n0_ := Aside0.mk (Kd.R_below (by (with_reducible repeat (first | apply Kd.R_alloc | apply Kd.R_drewN | apply Kd.R_drew)); exact HO_10.out) hb); have n1_ := Aside0.mk (Kd.R_below (by (with_reducible repeat (first | apply Kd.R_alloc | apply Kd.R_drewN | apply Kd.R_drew)); exact HO_16.out) hb); have n2_ := Aside0.mk (below_step (by repeat (first | (with_reducible first | exact HB.out | apply below_alloc | apply pw_below_drewN | apply below_drew1) | exact HB.out)) hb); clear HO_10; clear HO_16; clear HB; have HO_10 := n0_; have HO_16 := n1_; have HB := n2_; clear n0_ n1_ n2_; (try clear hb); (try clear hb2); (try clear hk); (try clear hi)))
             repeat (go_quiet (first | (go_at_call 12; (with_reducible refine (band_Clear.calls k4 _ _ x10_2 a2 t183 t184 _ ?side1 ?side2 A115.out).mono ?_); (case side1 => repeat (first | exact (Kd.R_reads' HO_10.out).2.2 | (with_reducible refine Kd.C_alloc ?_ _) | (with_reducible refine Kd.C_drewN ?_ _) | (with_reducible refine Kd.C_drew ?_))); (case side2 => exact (Kd.R_reads' HO_10.out).2.1); rintro e w117 ⟨rfl, hb⟩; have n0_ := Aside0.mk (Kd.R_below (by (with_reducible repeat (first | apply Kd.R_alloc | apply Kd.R_drewN | apply Kd.R_drew)); exact HO_10.out) hb); have n1_ := Aside0.mk (Kd.R_below (by (with_reducible repeat (first | apply Kd.R_alloc | apply Kd.R_drewN | apply Kd.R_drew)); exact HO_16.out) hb); have n2_ := Aside0.mk (below_step (by repeat (first | (with_reducible first | exact HB.out | apply below_alloc | apply pw_below_drewN | apply below_drew1) | exact HB.out)) hb); clear HO_10; clear HO_16; clear HB; have HO_10 := n0_; have HO_16 := n1_; have HB := n2_; clear n0_ n1_ n2_; (try clear hb); (try clear hb2); (try clear hk); (try clear hi))); try go_wp2_with (first | (go_at_call 12; (with_reducible refine (band_Clear.calls k4 _ _ x10_2 a2 t183 t184 _ ?side1 ?side2 A115.out).mono ?_); (case side1 => repeat (first | exact (Kd.R_reads' HO_10.out).2.2 | (with_reducible refine Kd.C_alloc ?_ _) | (with_reducible refine Kd.C_drewN ?_ _) | (with_reducible refine Kd.C_drew ?_))); (case side2 => exact (Kd.R_reads' HO_10.out).2.1); rintro e w117 ⟨rfl, hb⟩; have n0_ := Aside0.mk (Kd.R_below (by (with_reducible repeat (first | apply Kd.R_alloc | apply Kd.R_drewN | apply Kd.R_drew)); exact HO_10.out) hb); have n1_ := Aside0.mk (Kd.R_below (by (with_reducible repeat (first | apply Kd.R_alloc | apply Kd.R_drewN | apply Kd.R_drew)); exact HO_16.out) hb); have n2_ := Aside0.mk (below_step (by repeat (first | (with_reducible first | exact HB.out | apply below_alloc | apply pw_below_drewN | apply below_drew1) | exact HB.out)) hb); clear HO_10; clear HO_16; clear HB; have HO_10 := n0_; have HO_16 := n1_; have HB := n2_; clear n0_ n1_ n2_; (try clear hb); (try clear hb2); (try clear hk); (try clear hi))))
             go_loopg [24] k4 (fun kq v24 w' => ∃ (x24_5 : Int), v24 = .int .i64 x24_5 ∧ Aside0 (quirelaw15_BandClear.l4 kq a2 t153 x10_2 t183 t184 x24_5 = some r) ∧ Aside0 (kq ≤ k4) ∧ Aside0 (Kd.R k24 24 w' w.heap.size (fun _ => True) (.slice Ao96 x10_2.length co96) x10_2) ∧ Aside0 (Below w.heap.size w w'))
             case atStart => exact ⟨(0), (by first | rfl | (simp; done) | (simp [*]; done)), H', ⟨Nat.le_refl _⟩, ⟨by (with_reducible repeat (first | apply Kd.R_alloc | apply Kd.R_drewN | apply Kd.R_drew)); exact HO_10.out⟩, ⟨by repeat (first | (with_reducible first | exact HB.out | apply below_alloc | apply pw_below_drewN | apply below_drew1) | exact HB.out)⟩⟩
             case round => as_aux_lemma =>
              clear H'
              try clear c1
              try clear p1
              try clear q1
              try clear hx1
              try clear c2
              try clear p2
              try clear c3
              try clear c4
              try clear c5
              try clear c6
              try clear p6
              try clear c7
              try clear c8
              try clear c9
              try clear c10
              try clear c11
              try clear p15
              try clear q15
              try clear hx15
              try clear p16
              try clear q16
              try clear hx16
              try clear p17
              try clear q17
              try clear hx17
              try clear p18
              try clear q18
              try clear hx18
              try clear c27
              try clear c27b0
              try clear c29
              try clear c29b0
              try clear c32
              try clear c32b0
              try clear c32b1
              try clear c33
              try clear c33b0
              try clear c35
              try clear c35b0
              try clear c37
              try clear c37b0
              try clear c39
              try clear c39b0
              try clear c41
              try clear c41b0
              try clear c45
              try clear c52
              try clear c54
              try clear c54b0
              try clear c54b1
              try clear c55
              try clear c55b0
              try clear c55b1
              try clear c56
              try clear c56b0
              try clear c56b1
              try clear c57
              try clear c57b0
              try clear c58
              try clear c61
              try clear c61b0
              try clear c62
              try clear p64
              try clear c65
              try clear c65b0
              try clear c66
              try clear c69
              try clear c72
              try clear c75
              try clear c78
              try clear c79
              try clear c79b0
              try clear c80
              try clear c80b0
              try clear c81
              try clear c81b0
              try clear c81b1
              try clear c83
              try clear c84
              try clear c86
              try clear c88
              try clear c90
              try clear c91
              try clear c98
              try clear c98b0
              try clear c98b1
              try clear c100
              try clear c101
              try clear c101b0
              try clear c103
              try clear c103b0
              try clear c104
              try clear c104b0
              try clear c106
              try clear c107
              try clear c107b0
              try clear c107b1
              try clear c110
              try clear c110b0
              try clear c111
              try clear c111b0
              try clear c112
              try clear c112b0
              try clear c113
              try clear c113b0
              try clear c113b1
              try clear c114
              try clear c114b0
              try clear c114b1
              try clear hcz19_0
              try clear hcz19_1
              try clear hcz19_2
              try clear hcz19_3
              try clear hcz22_0
              try clear hcz22_1
              try clear hcz22_2
              try clear hcz22_3
              try clear hcz24_0
              try clear hcz24_1
              try clear hcz24_2
              try clear hcz24_3
              try clear hcz26_0
              try clear hcz26_1
              try clear hcz26_2
              try clear hcz26_3
              try clear hcz28_0
              try clear hcz28_1
              try clear hcz28_2
              try clear hcz28_3
              try clear hcz30_0
              try clear hcz30_1
              try clear hcz30_2
              try clear hcz30_3
              try clear hcz31_0
              try clear hcz31_1
              try clear hcz31_2
              try clear hcz31_3
              try clear hcz34_0
              try clear hcz34_1
              try clear hcz34_2
              try clear hcz34_3
              try clear hcz36_0
              try clear hcz36_1
              try clear hcz36_2
              try clear hcz36_3
              try clear hcz38_0
              try clear hcz38_1
              try clear hcz38_2
              try clear hcz38_3
              try clear hcz40_0
              try clear hcz40_1
              try clear hcz40_2
              try clear hcz40_3
              try clear hcz42_0
              try clear hcz42_1
              try clear hcz42_2
              try clear hcz42_3
              try clear hcz43_0
              try clear hcz43_1
              try clear hcz43_2
              try clear hcz43_3
              try clear hcz44_0
              try clear hcz44_1
              try clear hcz44_2
              try clear hcz44_3
              try clear hcz48_0
              try clear hcz48_1
              try clear hcz48_2
              try clear hcz48_3
              try clear hcz53_0
              try clear hcz53_1
              try clear hcz53_2
              try clear hcz53_3
              try clear hcz59_0
              try clear hcz59_1
              try clear hcz59_2
              try clear hcz59_3
              try clear hcz60_0
              try clear hcz60_1
              try clear hcz60_2
              try clear hcz60_3
              try clear hcz63_0
              try clear hcz63_1
              try clear hcz63_2
              try clear hcz63_3
              try clear hcz64_0
              try clear hcz64_1
              try clear hcz64_2
              try clear hcz64_3
              try clear hcz67_0
              try clear hcz67_1
              try clear hcz67_2
              try clear hcz67_3
              try clear hcz68_0
              try clear hcz68_1
              try clear hcz68_2
              try clear hcz68_3
              try clear hcz70_0
              try clear hcz70_1
              try clear hcz70_2
              try clear hcz70_3
              try clear hcz71_0
              try clear hcz71_1
              try clear hcz71_2
              try clear hcz71_3
              try clear hcz73_0
              try clear hcz73_1
              try clear hcz73_2
              try clear hcz73_3
              try clear hcz74_0
              try clear hcz74_1
              try clear hcz74_2
              try clear hcz74_3
              try clear hcz76_0
              try clear hcz76_1
              try clear hcz76_2
              try clear hcz76_3
              try clear hcz77_0
              try clear hcz77_1
              try clear hcz77_2
              try clear hcz77_3
              try clear hcz85_0
              try clear hcz85_1
              try clear hcz85_2
              try clear hcz85_3
              try clear hcz87_0
              try clear hcz87_1
              try clear hcz87_2
              try clear hcz87_3
              try clear hcz89_0
              try clear hcz89_1
              try clear hcz89_2
              try clear hcz89_3
              try clear hcz92_0
              try clear hcz92_1
              try clear hcz92_2
              try clear hcz92_3
              try clear hfz19_0
              try clear hfz19_1
              try clear hfz19_2
              try clear hfz19_3
              try clear hfz22_0
              try clear hfz22_1
              try clear hfz22_2
              try clear hfz22_3
              try clear hfz24_0
              try clear hfz24_1
              try clear hfz24_2
              try clear hfz24_3
              try clear hfz26_0
              try clear hfz26_1
              try clear hfz26_2
              try clear hfz26_3
              try clear hfz28_0
              try clear hfz28_1
              try clear hfz28_2
              try clear hfz28_3
              try clear hfz30_0
              try clear hfz30_1
              try clear hfz30_2
              try clear hfz30_3
              try clear hfz31_0
              try clear hfz31_1
              try clear hfz31_2
              try clear hfz31_3
              try clear hfz34_0
              try clear hfz34_1
              try clear hfz34_2
              try clear hfz34_3
              try clear hfz36_0
              try clear hfz36_1
              try clear hfz36_2
              try clear hfz36_3
              try clear hfz38_0
              try clear hfz38_1
              try clear hfz38_2
              try clear hfz38_3
              try clear hfz40_0
              try clear hfz40_1
              try clear hfz40_2
              try clear hfz40_3
              try clear hfz42_0
              try clear hfz42_1
              try clear hfz42_2
              try clear hfz42_3
              try clear hfz43_0
              try clear hfz43_1
              try clear hfz43_2
              try clear hfz43_3
              try clear hfz44_0
              try clear hfz44_1
              try clear hfz44_2
              try clear hfz44_3
              try clear hfz48_0
              try clear hfz48_1
              try clear hfz48_2
              try clear hfz48_3
              try clear hfz53_0
              try clear hfz53_1
              try clear hfz53_2
              try clear hfz53_3
              try clear hfz59_0
              try clear hfz59_1
              try clear hfz59_2
              try clear hfz59_3
              try clear hfz60_0
              try clear hfz60_1
              try clear hfz60_2
              try clear hfz60_3
              try clear hfz63_0
              try clear hfz63_1
              try clear hfz63_2
              try clear hfz63_3
              try clear hfz64_0
              try clear hfz64_1
              try clear hfz64_2
              try clear hfz64_3
              try clear hfz67_0
              try clear hfz67_1
              try clear hfz67_2
              try clear hfz67_3
              try clear hfz68_0
              try clear hfz68_1
              try clear hfz68_2
              try clear hfz68_3
              try clear hfz70_0
              try clear hfz70_1
              try clear hfz70_2
              try clear hfz70_3
              try clear hfz71_0
              try clear hfz71_1
              try clear hfz71_2
              try clear hfz71_3
              try clear hfz73_0
              try clear hfz73_1
              try clear hfz73_2
              try clear hfz73_3
              try clear hfz74_0
              try clear hfz74_1
              try clear hfz74_2
              try clear hfz74_3
              try clear hfz76_0
              try clear hfz76_1
              try clear hfz76_2
              try clear hfz76_3
              try clear hfz77_0
              try clear hfz77_1
              try clear hfz77_2
              try clear hfz77_3
              try clear hfz85_0
              try clear hfz85_1
              try clear hfz85_2
              try clear hfz85_3
              try clear hfz87_0
              try clear hfz87_1
              try clear hfz87_2
              try clear hfz87_3
              try clear hfz89_0
              try clear hfz89_1
              try clear hfz89_2
              try clear hfz89_3
              try clear hfz92_0
              try clear hfz92_1
              try clear hfz92_2
              try clear hfz92_3
              try clear hx154_0
              try clear hx154_1
              try clear hx154_2
              try clear hx154_3
              try clear hx162_0
              try clear hx162_1
              try clear hx162_2
              try clear hx162_3
              try clear hx163_0
              try clear hx163_1
              try clear hx163_2
              try clear hx163_3
              try clear hx164_0
              try clear hx164_1
              try clear hx164_2
              try clear hx164_3
              try clear hx173_0
              try clear hx173_1
              try clear hx174_0
              try clear hx174_1
              try clear hx175_0
              try clear hx175_1
              try clear hx176_0
              try clear hx176_1
              try clear hx177_0
              try clear hx177_1
              try clear hx177_2
              try clear hx177_3
              try clear hx178_0
              try clear hx178_1
              try clear hx178_2
              try clear hx178_3
              try clear hx180_0
              try clear hx180_1
              try clear hx180_2
              try clear hx180_3
              try clear hx181_0
              try clear hx181_1
              try clear hx181_2
              try clear hx181_3
              try clear hx182_0
              try clear hx182_1
              try clear hx182_2
              try clear hx182_3
              try clear p1
              try clear p15
              try clear p154
              try clear p16
              try clear p162
              try clear p163
              try clear p164
              try clear p173
              try clear p174
              try clear p175
              try clear p176
              try clear p177
              try clear p178
              try clear p180
              try clear p181
              try clear p182
              try clear p2
              try clear p6
              try clear p64
              try clear q1
              try clear q15
              try clear q154
              try clear q16
              try clear q162
              try clear q163
              try clear q164
              try clear q173
              try clear q174
              try clear q175
              try clear q176
              try clear q177
              try clear q178
              try clear q180
              try clear q181
              try clear q182
              obtain ⟨x24_5, rfl, HA, HK5, HO_10, HB⟩ := hrel
              cases gk with
              | zero => exact absurd HA.out (by simp [quirelaw15_BandClear.l4])
              | succ k5 =>
               have H := HA.out
               clear HA
               simp only [quirelaw15_BandClear.l4] at H
               by_cases c118 : x24_5 < (x10_2.length : Int)
               ·rw [if_pos c118] at H
                have c118b0 : decide (x24_5 < (x10_2.length : Int)) = true := decide_eq_true c118
                clear c118
                by_cases c119 : 0 ≤ x24_5
                ·rw [if_pos c119] at H
                 have c119b0 : decide (0 ≤ x24_5) = true := decide_eq_true c119
                 clear c119
                 by_cases c120 : (wrap64 (((rd_T24 x10_2 x24_5).f1) + ((rd_T24 x10_2 x24_5).f2))) > t183
                 ·rw [if_pos c120] at H
                  have c120b0 : decide (t183 < (wrap64 (((rd_T24 x10_2 x24_5).f1) + ((rd_T24 x10_2 x24_5).f2)))) = true := decide_eq_true c120
                  clear c120
                  obtain rfl := Option.some.inj H
                  have p185 : 0 ≤ (x24_5 : Int) := of_decide_eq_true (by first | (with_reducible assumption) | assumption)
                  have q185 : x24_5 < (x10_2.length : Int) := of_decide_eq_true (by first | (with_reducible assumption) | assumption)
                  obtain ⟨ad185, e185, hx185_0, hx185_1, hx185_2, hx185_3⟩ := at_T24 (Kd.R_reads' HO_10.out).2.2 x24_5 p185 q185
                  cases e185
                  replace p185 := eq_true p185
                  replace q185 := eq_true q185
                  have p186 : 0 ≤ (x24_5 : Int) := of_decide_eq_true (by first | (with_reducible assumption) | assumption)
                  have q186 : x24_5 < (x10_2.length : Int) := of_decide_eq_true (by first | (with_reducible assumption) | assumption)
                  obtain ⟨ad186, e186, hx186_0, hx186_1, hx186_2, hx186_3⟩ := at_T24 (Kd.R_reads' HO_10.out).2.2 x24_5 p186 q186
                  obtain rfl : ad185 = ad186 := (by injection e186)
                  replace p186 := eq_true p186
                  replace q186 := eq_true q186
                  go_wp2
                  repeat (go_quiet (fail); try go_wp2)
                  go_ret
                  exact ⟨by first | rfl | (simp [errW_none, errW_some] <;> rfl) | (simp [*, errW_none, errW_some] <;> rfl), by repeat (first | (with_reducible first | exact HB.out | apply below_alloc | apply pw_below_drewN | apply below_drew1) | exact HB.out)⟩
                 ·rw [if_neg c120] at H
                  have c120b0 : decide (t183 < (wrap64 (((rd_T24 x10_2 x24_5).f1) + ((rd_T24 x10_2 x24_5).f2)))) = false := decide_eq_false c120
                  clear c120
                  have H' := Aside0.mk H
                  clear H
                  have p185 : 0 ≤ (x24_5 : Int) := of_decide_eq_true (by first | (with_reducible assumption) | assumption)
                  have q185 : x24_5 < (x10_2.length : Int) := of_decide_eq_true (by first | (with_reducible assumption) | assumption)
                  obtain ⟨ad185, e185, hx185_0, hx185_1, hx185_2, hx185_3⟩ := at_T24 (Kd.R_reads' HO_10.out).2.2 x24_5 p185 q185
                  cases e185
                  replace p185 := eq_true p185
                  replace q185 := eq_true q185
                  have p186 : 0 ≤ (x24_5 : Int) := of_decide_eq_true (by first | (with_reducible assumption) | assumption)
                  have q186 : x24_5 < (x10_2.length : Int) := of_decide_eq_true (by first | (with_reducible assumption) | assumption)
                  obtain ⟨ad186, e186, hx186_0, hx186_1, hx186_2, hx186_3⟩ := at_T24 (Kd.R_reads' HO_10.out).2.2 x24_5 p186 q186
                  obtain rfl : ad185 = ad186 := (by injection e186)
                  replace p186 := eq_true p186
                  replace q186 := eq_true q186
                  go_wp2
                  repeat (go_quiet (fail); try go_wp2)
                  go_roundg k5
                  case measure => have := HJ5.out; have := HK2.out; have := HJ94.out; have := HK4.out; have := HK5.out; omega
                  case rel => exact ⟨(wrap64 (x24_5 + 1)), (by first | rfl | (simp; done) | (simp [*]; done)), H', ⟨by have := HJ5.out; have := HK2.out; have := HJ94.out; have := HK4.out; have := HK5.out; omega⟩, ⟨by (with_reducible repeat (first | apply Kd.R_alloc | apply Kd.R_drewN | apply Kd.R_drew)); exact HO_10.out⟩, ⟨by repeat (first | (with_reducible first | exact HB.out | apply below_alloc | apply pw_below_drewN | apply below_drew1) | exact HB.out)⟩⟩
                ·rw [if_neg c119] at H
                 exact absurd H (by simp)
               ·rw [if_neg c118] at H
                have c118b0 : decide (x24_5 < (x10_2.length : Int)) = false := decide_eq_false c118
                clear c118
                by_cases c121 : t153 = true
                ·subst c121
                 have H1 : (if t184 = 0 then (some (decide (t183 ≥ a2))) else (some false)) = some r := by rw [if_pos rfl] at H; exact H
                 clear H
                 have H := H1
                 clear H1
                 by_cases c122 : t184 = 0
                 ·rw [if_pos c122] at H
                  have c122b0 : (t184 == 0) = true := beq_iff_eq.mpr c122
                  have c122b1 : (t184 != 0) = false := bne_eq_false_iff_eq.mpr c122
                  clear c122
                  obtain rfl := Option.some.inj H
                  go_wp2
                  repeat (go_quiet (fail); try go_wp2)
                  go_ret
                  exact ⟨by first | rfl | (simp [errW_none, errW_some] <;> rfl) | (simp [*, errW_none, errW_some] <;> rfl), by repeat (first | (with_reducible first | exact HB.out | apply below_alloc | apply pw_below_drewN | apply below_drew1) | exact HB.out)⟩
                 ·rw [if_neg c122] at H
                  have c122b0 : (t184 == 0) = false := beq_eq_false_iff_ne.mpr c122
                  have c122b1 : (t184 != 0) = true := bne_iff_ne.mpr c122
                  obtain rfl := Option.some.inj H
                  go_wp2
                  repeat (go_quiet (fail); try go_wp2)
                  go_ret
                  exact ⟨by first | rfl | (simp [errW_none, errW_some] <;> rfl) | (simp [*, errW_none, errW_some] <;> rfl), by repeat (first | (with_reducible first | exact HB.out | apply below_alloc | apply pw_below_drewN | apply below_drew1) | exact HB.out)⟩
                ·replace c121 := Bool.eq_false_iff.mpr c121
                 subst c121
                 have H1 : (some false) = some r := by rw [if_neg (show ¬ (false = true) by decide)] at H; exact H
                 clear H
                 have H := H1
                 clear H1
                 obtain rfl := Option.some.inj H
                 go_wp2
                 repeat (go_quiet (fail); try go_wp2)
                 go_ret
                 exact ⟨by first | rfl | (simp [errW_none, errW_some] <;> rfl) | (simp [*, errW_none, errW_some] <;> rfl), by repeat (first | (with_reducible first | exact HB.out | apply below_alloc | apply pw_below_drewN | apply below_drew1) | exact HB.out)⟩

end Go.Proofs.Ythpipjkiplpfnaa.PBandClear
