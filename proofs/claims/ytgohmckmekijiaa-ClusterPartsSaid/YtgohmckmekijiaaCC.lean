/- The chapter's examples, and what boundaries do: plain laws of the spec. -/
import Derived.Test.YtgohmckmekijiaaCB
namespace Go.Proofs.Ytgohmckmekijiaa.PAll
open Go.RowKit Go.Proofs.YtgohmckmekijiaaW.PrintWords Go.Proofs.YtgohmckmekijiaaW.PrintLast Go.Proofs.YtgohmckmekijiaaW.PrintMore
set_option linter.unusedVariables false
set_option linter.unusedSimpArgs false
set_option linter.unusedSectionVars false

theorem long_loop (n : Nat) (hn : n ≤ 5000) (d : Nat) : ∀ (i : Nat) (xs : List Int), xs.length = n → n = i + d → ∃ ys : List Int, ys.length = n ∧ Ev (fun k => quirelaw06_long.l0 k (n : Int) xs (i : Int)) (strOfNums ys) := by
  induction d with
  | zero =>
    intro i xs hx hi
    refine ⟨xs, hx, up ?_⟩
    have h1 : ¬ ((i : Int) < (n : Int)) := by omega
    simp only [quirelaw06_long.l0, if_neg h1]
    exact Ev.now _
  | succ d ih =>
    intro i xs hx hi
    obtain ⟨ys, hy, hE⟩ := ih (i + 1) (xs.set (i : Int).toNat 97) (by simpa using hx) (by omega)
    have h1 : (i : Int) < (n : Int) := by omega
    have h0 : (0 : Int) ≤ (i : Int) := by omega
    have h2 : (i : Int) < (xs.length : Int) := by omega
    have hw : wrap64 ((i : Int) + 1) = ((i + 1 : Nat) : Int) := by rw [w64 (by omega) (by omega)]; omega
    refine ⟨ys, hy, up ?_⟩
    simp only [quirelaw06_long.l0, if_pos h1, if_pos h0, if_pos h2, hw]
    exact hE
theorem long_tells : ∃ b : ByteArray, b.size = 4097 ∧ Ev (fun k => quirelaw06_long.f k 4097) b := by
  obtain ⟨ys, hy, hE⟩ := long_loop 4097 (by omega) 4097 0 (List.replicate 4097 0) List.length_replicate (by omega)
  refine ⟨strOfNums ys, ?_, ?_⟩
  · show ((ys.map fun n => UInt8.ofNat n.toNat).toArray).size = 4097
    simp [hy]
  · unfold quirelaw06_long.f
    have c1 : (0 : Int) ≤ 4097 := by omega
    have c2 : (4097 : Int).toNat ≤ 281474976710656 := by decide
    simp only [if_pos c1, if_pos c2]
    exact hE

theorem known_tells : Ev (fun k => quirelaw06_ClusterKnown.f k) true := by
  obtain ⟨b, hb, hlong⟩ := long_tells
  have hwb : splitOf b = ([], 3) := by
    have : wrongOf b = 3 := by unfold wrongOf; rw [if_pos (by omega)]
    unfold splitOf; rw [this, if_neg (by decide)]
  unfold quirelaw06_ClusterKnown.f
  have e1 : splitOf (⟨#[10]⟩ : ByteArray) = ([], 4) := by kernel_rfl
  have s1 : startOf (⟨#[97, 94, 98]⟩ : ByteArray) 1 = (0, 0) := by kernel_rfl
  have s2 : startOf (⟨#[97, 94, 98]⟩ : ByteArray) 3 = (0, 5) := by kernel_rfl
  have n1 : nextOf (⟨#[97, 94, 98]⟩ : ByteArray) 0 = (2, 0) := by kernel_rfl
  have n2 : nextOf (⟨#[97, 94, 98]⟩ : ByteArray) 1 = (2, 0) := by kernel_rfl
  have n3 : nextOf (⟨#[97, 94, 98]⟩ : ByteArray) 3 = (3, 0) := by kernel_rfl
  have p1 : prevOf (⟨#[97, 94, 98]⟩ : ByteArray) 3 = (2, 0) := by kernel_rfl
  have p2 : prevOf (⟨#[97, 94, 98]⟩ : ByteArray) 1 = (0, 0) := by kernel_rfl
  have b1 : boundOf (⟨#[97, 94, 98]⟩ : ByteArray) 1 = false := by kernel_rfl
  have b2 : boundOf (⟨#[97, 94, 98]⟩ : ByteArray) 3 = true := by kernel_rfl
  simp only [cluster_Split.f, cluster_Start.f, cluster_Next.f, cluster_Prev.f, cluster_Bound.f, Option.bind_some, e1, s1, s2, n1, n2, n3, p1, p2, b1, b2]
  refine hlong.bind ?_
  refine awake_tells.bind ?_
  simp only [hwb, quirelaw06_is.f, if_true, Option.bind_some, beq_self_eq_true, Bool.false_eq_true, if_false]
  exact Ev.now _
theorem known_holds : quirelaw06_ClusterKnown.Pure := known_tells.rounds

/-! a boundary a: what lies ahead of it, and the rest -/
theorem rest_ge (s : ByteArray) (d : Nat) : ∀ a : Nat, s.size ≤ a + d → a ≤ s.size → ∀ c, c ∈ rest s a → (a : Int) ≤ c.f0 := by
  induction d with
  | zero => intro a h1 h2 c hc; rw [rest_nil s a (by omega)] at hc; cases hc
  | succ d ih =>
    intro a h1 h2 c hc
    by_cases ha : a < s.size
    · have g := endOf_gt s a
      rw [rest_cons s a ha] at hc
      rcases List.mem_cons.1 hc with rfl | hc
      · exact Int.le_refl _
      · have := ih (endOf s a) (by omega) (endOf_le s a ha) c hc; omega
    · rw [rest_nil s a (by omega)] at hc; cases hc
/-- pre: the clusters ahead of a -/
structure Cut (s : ByteArray) (a : Nat) (pre : List S28) : Prop where
  le : a ≤ s.size
  all : clus s = pre ++ rest s a
  ends : ∀ c, c ∈ pre → c.f1 ≤ (a : Int)
  begins : ∀ c, c ∈ pre → c.f0 < (a : Int)
theorem Cut.zero (s : ByteArray) : Cut s 0 [] := ⟨by omega, rfl, (fun _ h => by cases h), (fun _ h => by cases h)⟩
theorem Cut.step {s : ByteArray} {a : Nat} {pre : List S28} (h : Cut s a pre) (ha : a < s.size) : Cut s (endOf s a) (pre ++ [clOf s a]) := by
  have g := endOf_gt s a
  refine ⟨endOf_le s a ha, ?_, fun c hc => ?_, fun c hc => ?_⟩
  · rw [h.all, rest_cons s a ha, List.append_assoc]; rfl
  · rcases List.mem_append.1 hc with hc | hc
    · have := h.ends c hc; omega
    · rw [List.mem_singleton.1 hc]; exact Int.le_refl _
  · rcases List.mem_append.1 hc with hc | hc
    · have := h.begins c hc; omega
    · rw [List.mem_singleton.1 hc]; show (a : Int) < _; omega

theorem startIn_app (x : Int) : ∀ (l k : List S28), (∀ c, c ∈ l → c.f1 ≤ x) → startIn x (l ++ k) = startIn x k
  | [], k, _ => rfl
  | c :: l, k, h => by
    have hc := h c (by simp)
    simp only [List.cons_append, startIn]
    rw [if_neg (by omega)]
    exact startIn_app x l k (fun d hd => h d (by simp [hd]))
theorem nextIn_app (n x : Int) : ∀ (l k : List S28), (∀ c, c ∈ l → c.f1 ≤ x) → nextIn n x (l ++ k) = nextIn n x k
  | [], k, _ => rfl
  | c :: l, k, h => by
    have hc := h c (by simp)
    simp only [List.cons_append, nextIn]
    rw [if_neg (by omega)]
    exact nextIn_app n x l k (fun d hd => h d (by simp [hd]))
theorem prevIn_app (x : Int) : ∀ (l k : List S28) (b : Int), prevIn x b (l ++ k) = prevIn x (prevIn x b l) k
  | [], k, b => rfl
  | c :: l, k, b => by simp only [List.cons_append, prevIn]; exact prevIn_app x l k _
theorem prevIn_ge (x : Int) : ∀ (l : List S28) (b : Int), (∀ c, c ∈ l → x ≤ c.f0) → prevIn x b l = b
  | [], b, _ => rfl
  | c :: l, b, h => by
    have hc := h c (by simp)
    simp only [prevIn]
    rw [if_neg (by omega)]
    exact prevIn_ge x l b (fun d hd => h d (by simp [hd]))
theorem boundIn_app (x : Int) : ∀ (l k : List S28), (∀ c, c ∈ l → c.f0 ≠ x) → boundIn x (l ++ k) = boundIn x k
  | [], k, _ => rfl
  | c :: l, k, h => by
    have hc := h c (by simp)
    simp only [List.cons_append, boundIn]
    rw [if_neg hc]
    exact boundIn_app x l k (fun d hd => h d (by simp [hd]))

section
variable {s : ByteArray} {a : Nat} {pre : List S28} (hw : wrongOf s = 0) (hc : Cut s a pre)
include hw hc
theorem Cut.place (x : Int) (h0 : 0 ≤ x) (h1 : x ≤ s.size) : placeOf s x = 0 := by unfold placeOf; rw [if_pos hw, if_neg (by omega)]
theorem Cut.next (ha : a < s.size) : nextOf s (a : Int) = (((endOf s a : Nat) : Int), 0) := by
  have g := endOf_gt s a
  unfold nextOf
  rw [if_neg (fun q => q (Cut.place hw hc _ (by omega) (by omega))), hc.all, nextIn_app _ _ _ _ hc.ends, rest_cons s a ha]
  simp only [nextIn]
  rw [if_pos (show (clOf s a).f1 > (a : Int) from by show ((endOf s a : Nat) : Int) > _; omega)]
  rfl
theorem Cut.prev (ha : a < s.size) : prevOf s ((endOf s a : Nat) : Int) = ((a : Int), 0) := by
  have g := endOf_gt s a
  have ge := endOf_le s a ha
  unfold prevOf
  rw [if_neg (fun q => q (Cut.place hw hc _ (by omega) (by omega))), hc.all, prevIn_app, rest_cons s a ha]
  simp only [prevIn]
  rw [if_pos (show (clOf s a).f0 < ((endOf s a : Nat) : Int) from by show (a : Int) < _; omega), prevIn_ge _ _ _ (rest_ge s s.size (endOf s a) (by omega) ge)]
  rfl
theorem Cut.bound : boundOf s (a : Int) = true := by
  have hle := hc.le
  unfold boundOf
  rw [if_neg (by omega)]
  by_cases ha : a < s.size
  · rw [hc.all, boundIn_app _ _ _ (fun c h => by have := hc.begins c h; omega), rest_cons s a ha]
    simp only [boundIn]
    rw [if_pos (show (clOf s a).f0 = (a : Int) from rfl)]
    rfl
  · simp; omega
theorem Cut.start (ha : a < s.size) (x : Nat) (h1 : a ≤ x) (h2 : x < endOf s a) : startOf s (x : Int) = ((a : Int), 0) := by
  have ge := endOf_le s a ha
  unfold startOf
  rw [if_neg (fun q => q hw), if_neg (by omega), hc.all, startIn_app _ _ _ (fun c h => by have := hc.ends c h; omega), rest_cons s a ha]
  simp only [startIn]
  rw [if_pos (show (x : Int) < (clOf s a).f1 from by show _ < ((endOf s a : Nat) : Int); omega)]
  rfl
theorem Cut.none (ha : a < s.size) (x : Nat) (h1 : a < x) (h2 : x < endOf s a) : boundOf s (x : Int) = false := by
  have ge := endOf_le s a ha
  unfold boundOf
  rw [if_neg (by omega), hc.all, boundIn_app _ _ _ (fun c h => by have := hc.begins c h; omega), rest_cons s a ha]
  simp only [boundIn]
  rw [if_neg (show ¬ ((clOf s a).f0 = (x : Int)) from by show ¬ ((a : Int) = _); omega), boundIn_out s x s.size (endOf s a) (by omega) ge (by omega)]
  simp; omega
end
end Go.Proofs.Ytgohmckmekijiaa.PAll
