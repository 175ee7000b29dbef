/- What the functions of package cluster answer, as plain functions of a text's bytes. -/
import Derived.Test.YtgohmckmekijiaaA0
namespace Go.Proofs.Ytgohmckmekijiaa.PAll
open Go.RowKit Go.Proofs.YtgohmckmekijiaaW.PrintWords Go.Proofs.YtgohmckmekijiaaW.PrintLast Go.Proofs.YtgohmckmekijiaaW.PrintMore
set_option linter.unusedVariables false

def letterB (c : Int) : Bool := decide ((97 ≤ c ∧ c ≤ 122) ∨ (65 ≤ c ∧ c ≤ 90))
def accentB (c : Int) : Bool := decide (c = 94 ∨ c = 96 ∨ c = 126)
def kindOf (c : Int) : Int :=
  if letterB c = true then 1 else if c = 32 then 3 else if c = 9 then 4 else if c = 31 then 5 else if c = 1 then 6 else if c = 2 then 7 else if c = 3 then 8 else if 32 < c ∧ c ≤ 126 then 2 else 0
/-- d bytes from i on -/
def badFrom (s : ByteArray) : Nat → Nat → Int
  | 0, _ => 0
  | d + 1, i => if kindOf (bt s (i : Int)) = 0 then 4 else badFrom s d (i + 1)
def wrongOf (s : ByteArray) : Int := if 4096 < s.size then 3 else badFrom s s.size 0
/-- how far the cluster at a of kind q goes, from t on, in at most d steps -/
def ext (s : ByteArray) (a : Nat) (q : Int) : Nat → Nat → Nat
  | 0, t => t
  | d + 1, t => if q = 1 ∧ t < s.size ∧ t < a + 3 ∧ accentB (bt s (t : Int)) = true then ext s a q d (t + 1) else t
def endOf (s : ByteArray) (a : Nat) : Nat := ext s a (kindOf (bt s (a : Int))) 3 (a + 1)
def clOf (s : ByteArray) (a : Nat) : S28 := ⟨(a : Int), (endOf s a : Int), kindOf (bt s (a : Int))⟩
def clusFrom (s : ByteArray) : Nat → Nat → List S28
  | 0, _ => []
  | d + 1, a => if a < s.size then clOf s a :: clusFrom s d (endOf s a) else []
def clus (s : ByteArray) : List S28 := clusFrom s s.size 0

theorem ext_ge (s : ByteArray) (a : Nat) (q : Int) (d : Nat) : ∀ t, t ≤ ext s a q d t := by
  induction d with
  | zero => intro t; exact Nat.le_refl _
  | succ d ih =>
    intro t
    simp only [ext]
    split
    · exact Nat.le_trans (Nat.le_succ t) (ih (t + 1))
    · exact Nat.le_refl _
theorem ext_le (s : ByteArray) (a : Nat) (q : Int) (d : Nat) : ∀ t, t ≤ s.size → ext s a q d t ≤ s.size := by
  induction d with
  | zero => intro t h; exact h
  | succ d ih =>
    intro t h
    simp only [ext]
    split
    · rename_i c; exact ih (t + 1) (by omega)
    · exact h
theorem endOf_gt (s : ByteArray) (a : Nat) : a < endOf s a := ext_ge s a _ 3 (a + 1)
theorem endOf_le (s : ByteArray) (a : Nat) (h : a < s.size) : endOf s a ≤ s.size := ext_le s a _ 3 (a + 1) (by omega)

/-- more rounds than bytes tell the same -/
theorem clusFrom_more (s : ByteArray) (d : Nat) : ∀ a e, s.size ≤ a + d → s.size ≤ a + e → clusFrom s d a = clusFrom s e a := by
  induction d with
  | zero =>
    intro a e h1 h2
    cases e with
    | zero => rfl
    | succ e => simp only [clusFrom]; rw [if_neg (by omega)]
  | succ d ih =>
    intro a e h1 h2
    cases e with
    | zero => simp only [clusFrom]; rw [if_neg (by omega)]
    | succ e =>
      simp only [clusFrom]
      split
      · have := endOf_gt s a
        rw [ih (endOf s a) e (by omega) (by omega)]
      · rfl
/-- the clusters from a on -/
def rest (s : ByteArray) (a : Nat) : List S28 := clusFrom s s.size a
theorem rest_cons (s : ByteArray) (a : Nat) (h : a < s.size) : rest s a = clOf s a :: rest s (endOf s a) := by
  unfold rest
  have g := endOf_gt s a
  rw [clusFrom_more s s.size a (s.size + 1) (by omega) (by omega)]
  simp only [clusFrom]
  rw [if_pos h]
theorem rest_nil (s : ByteArray) (a : Nat) (h : s.size ≤ a) : rest s a = [] := by
  unfold rest
  rw [clusFrom_more s s.size a 0 (by omega) (by omega)]
  rfl

def splitOf (s : ByteArray) : List S28 × Int := if wrongOf s = 0 then (clus s, 0) else ([], wrongOf s)
/-- where the first cluster of l that goes beyond a begins -/
def startIn (a : Int) : List S28 → Int
  | [] => 0
  | c :: l => if a < c.f1 then c.f0 else startIn a l
def startOf (s : ByteArray) (a : Int) : Int × Int := if wrongOf s ≠ 0 then (0, wrongOf s) else if a < 0 ∨ (s.size : Int) ≤ a then (0, 5) else (startIn a (clus s), 0)
def placeOf (s : ByteArray) (a : Int) : Int := if wrongOf s = 0 then (if a < 0 ∨ (s.size : Int) < a then 5 else 0) else wrongOf s
def nextIn (n : Int) (a : Int) : List S28 → Int
  | [] => n
  | c :: l => if c.f1 > a then c.f1 else nextIn n a l
def nextOf (s : ByteArray) (a : Int) : Int × Int := if placeOf s a ≠ 0 then (0, placeOf s a) else (nextIn s.size a (clus s), 0)
def prevIn (a : Int) (best : Int) : List S28 → Int
  | [] => best
  | c :: l => prevIn a (if c.f0 < a then c.f0 else best) l
def prevOf (s : ByteArray) (a : Int) : Int × Int := if placeOf s a ≠ 0 then (0, placeOf s a) else (prevIn a 0 (clus s), 0)
def boundIn (a : Int) : List S28 → Bool
  | [] => false
  | c :: l => if c.f0 = a then true else boundIn a l
def boundOf (s : ByteArray) (a : Int) : Bool := if wrongOf s ≠ 0 ∨ a < 0 ∨ (s.size : Int) < a then false else boundIn a (clus s) || decide (a = (s.size : Int))

def cluster_Split.f (_ : Nat) (a0 : ByteArray) : Option (List S28 × Int) := some (splitOf a0)
def cluster_Start.f (_ : Nat) (a0 : ByteArray) (a1 : Int) : Option (Int × Int) := some (startOf a0 a1)
def cluster_Next.f (_ : Nat) (a0 : ByteArray) (a1 : Int) : Option (Int × Int) := some (nextOf a0 a1)
def cluster_Prev.f (_ : Nat) (a0 : ByteArray) (a1 : Int) : Option (Int × Int) := some (prevOf a0 a1)
def cluster_Bound.f (_ : Nat) (a0 : ByteArray) (a1 : Int) : Option Bool := some (boundOf a0 a1)
theorem cluster_Split.mono : ∀ a0 k, LeO (cluster_Split.f k a0) (cluster_Split.f (k + 1) a0) := fun _ _ => LeO.refl _
theorem cluster_Start.mono : ∀ a0 a1 k, LeO (cluster_Start.f k a0 a1) (cluster_Start.f (k + 1) a0 a1) := fun _ _ _ => LeO.refl _
theorem cluster_Next.mono : ∀ a0 a1 k, LeO (cluster_Next.f k a0 a1) (cluster_Next.f (k + 1) a0 a1) := fun _ _ _ => LeO.refl _
theorem cluster_Prev.mono : ∀ a0 a1 k, LeO (cluster_Prev.f k a0 a1) (cluster_Prev.f (k + 1) a0 a1) := fun _ _ _ => LeO.refl _
theorem cluster_Bound.mono : ∀ a0 a1 k, LeO (cluster_Bound.f k a0 a1) (cluster_Bound.f (k + 1) a0 a1) := fun _ _ _ => LeO.refl _
end Go.Proofs.Ytgohmckmekijiaa.PAll
