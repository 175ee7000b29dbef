/- Sections: the functions that reckon alone, and 'small'. -/
import Derived.Test.YthpmchbbfbbakaaH0
import Derived.Handy
namespace Go.Proofs.Ythpmchbbfbbakaa.Sec
open Go.RowKit Go.Proofs.YthpmchbbfbbakaaW.PrintWords Go.Proofs.YthpmchbbfbbakaaW.PrintLast Go.Proofs.YthpmchbbfbbakaaW.PrintMore
set_option linter.unusedVariables false
set_option linter.unusedSimpArgs false

structure Sec where
  w : Int
  h : Int
  top : Int
  bottom : Int
  inner : Int
  outer : Int
  cols : Int
  gap : Int
  start : Int
  balance : Int
  mirror : Int
  h0 : ByteArray
  h1 : ByteArray
  h2 : ByteArray
  f0 : ByteArray
  f1 : ByteArray
  f2 : ByteArray

/-- the value's parts -/
abbrev Sec.cs (s : Sec) : Array Value := #[.int .i64 s.w, .int .i64 s.h, .int .i64 s.top, .int .i64 s.bottom, .int .i64 s.inner, .int .i64 s.outer, .int .i64 s.cols, .int .i64 s.gap, .int .i64 s.start, .int .i64 s.balance, .int .i64 s.mirror, .string s.h0, .string s.h1, .string s.h2, .string s.f0, .string s.f1, .string s.f2]
abbrev Sec.v (s : Sec) : Value := .agg s.cs

def highOf (s : Sec) : Int := wrap64 (wrap64 (s.h - s.top) - s.bottom)
def wideOf (s : Sec) : Int := wrap64 (Int.tdiv (wrap64 (wrap64 (wrap64 (s.w - s.inner) - s.outer) - wrap64 (s.gap * wrap64 (s.cols - 1)))) s.cols)
def rwideOf (s : Sec) : Int := wrap64 (Int.tdiv (wrap64 (wrap64 (wrap64 (s.w - s.inner) - s.outer) - wrap64 (wrap64 (s.cols - 1) * s.gap))) s.cols)
def leftOf (s : Sec) (n : Int) : Int := if s.mirror = 1 ∧ Int.tmod n 2 = 0 then s.outer else s.inner

theorem high_calls (s : Sec) (W : World) : Calls Try.prog 30 #[s.v] W fun e W' => e = .returned (.int .i64 (highOf s)) ∧ Below W.heap.size W W' := by
  unfold highOf
  dsimp only [Sec.v, Sec.cs]
  go_enter Try.func30, Try.ntmps30
  go_wp2
  go_ret
  exact ⟨rfl, (Below.refl _ W).alloc (Nat.le_refl _) _⟩
theorem rhigh_calls (s : Sec) (W : World) : Calls Try.prog 33 #[s.v] W fun e W' => e = .returned (.int .i64 (highOf s)) ∧ Below W.heap.size W W' := by
  unfold highOf
  dsimp only [Sec.v, Sec.cs]
  go_enter Try.func33, Try.ntmps33
  go_wp2
  go_ret
  exact ⟨rfl, (Below.refl _ W).alloc (Nat.le_refl _) _⟩
theorem wide_calls (s : Sec) (hc : s.cols ≠ 0) (W : World) : Calls Try.prog 29 #[s.v] W fun e W' => e = .returned (.int .i64 (wideOf s)) ∧ Below W.heap.size W W' := by
  unfold wideOf
  dsimp only [Sec.v, Sec.cs]
  go_enter Try.func29, Try.ntmps29
  go_wp2
  go_ret
  exact ⟨rfl, (Below.refl _ W).alloc (Nat.le_refl _) _⟩
theorem rwide_calls (s : Sec) (hc : s.cols ≠ 0) (W : World) : Calls Try.prog 36 #[s.v] W fun e W' => e = .returned (.int .i64 (rwideOf s)) ∧ Below W.heap.size W W' := by
  unfold rwideOf
  dsimp only [Sec.v, Sec.cs]
  go_enter Try.func36, Try.ntmps36
  go_wp2
  go_ret
  exact ⟨rfl, (Below.refl _ W).alloc (Nat.le_refl _) _⟩
theorem left_calls (s : Sec) (n : Int) (W : World) : Calls Try.prog 28 #[s.v, .int .i64 n] W fun e W' => e = .returned (.int .i64 (leftOf s n)) ∧ Below W.heap.size W W' := by
  dsimp only [Sec.v, Sec.cs]
  go_enter Try.func28, Try.ntmps28
  go_wp2
  all_goals go_ret
  all_goals refine ⟨?_, (Below.refl _ W).alloc (Nat.le_refl _) _⟩
  all_goals (unfold leftOf; simp_all)
def smallOf (s : Sec) : Bool := decide (s.h0.size ≤ 300 ∧ s.f0.size ≤ 300 ∧ s.h1.size ≤ 300 ∧ s.f1.size ≤ 300 ∧ s.h2.size ≤ 300 ∧ s.f2.size ≤ 300)
set_option maxHeartbeats 1000000 in
theorem small_calls (s : Sec) (W : World) : Calls Try.prog 8 #[s.v] W fun e W' => e = .returned (.bool (smallOf s)) ∧ Below W.heap.size W W' := by
  dsimp only [Sec.v, Sec.cs]
  have dg : ∀ b : ByteArray, 300 < b.size → decide (300 < (b.size : Int)) = true := fun b h => decide_eq_true (by omega)
  have dl : ∀ b : ByteArray, ¬ 300 < b.size → decide (300 < (b.size : Int)) = false := fun b h => decide_eq_false (by omega)
  by_cases p0 : 300 < s.h0.size
  · have hr : smallOf s = false := decide_eq_false (by omega)
    rw [hr]; have b0 := dg _ p0; clear dg dl hr p0
    go_enter Try.func8, Try.ntmps8
    go_wp2
    go_rounds 4
    go_ret
    exact ⟨rfl, (Below.refl _ W).alloc (Nat.le_refl _) _⟩
  by_cases p1 : 300 < s.f0.size
  · have hr : smallOf s = false := decide_eq_false (by omega)
    rw [hr]; have b0 := dl _ p0; have b1 := dg _ p1; clear dg dl hr p0 p1
    go_enter Try.func8, Try.ntmps8
    go_wp2
    go_rounds 4
    go_ret
    exact ⟨rfl, (Below.refl _ W).alloc (Nat.le_refl _) _⟩
  by_cases p2 : 300 < s.h1.size
  · have hr : smallOf s = false := decide_eq_false (by omega)
    rw [hr]; have b0 := dl _ p0; have b1 := dl _ p1; have b2 := dg _ p2; clear dg dl hr p0 p1 p2
    go_enter Try.func8, Try.ntmps8
    go_wp2
    go_rounds 4
    go_ret
    exact ⟨rfl, (Below.refl _ W).alloc (Nat.le_refl _) _⟩
  by_cases p3 : 300 < s.f1.size
  · have hr : smallOf s = false := decide_eq_false (by omega)
    rw [hr]; have b0 := dl _ p0; have b1 := dl _ p1; have b2 := dl _ p2; have b3 := dg _ p3; clear dg dl hr p0 p1 p2 p3
    go_enter Try.func8, Try.ntmps8
    go_wp2
    go_rounds 4
    go_ret
    exact ⟨rfl, (Below.refl _ W).alloc (Nat.le_refl _) _⟩
  by_cases p4 : 300 < s.h2.size
  · have hr : smallOf s = false := decide_eq_false (by omega)
    rw [hr]; have b0 := dl _ p0; have b1 := dl _ p1; have b2 := dl _ p2; have b3 := dl _ p3; have b4 := dg _ p4; clear dg dl hr p0 p1 p2 p3 p4
    go_enter Try.func8, Try.ntmps8
    go_wp2
    go_rounds 4
    go_ret
    exact ⟨rfl, (Below.refl _ W).alloc (Nat.le_refl _) _⟩
  by_cases p5 : 300 < s.f2.size
  · have hr : smallOf s = false := decide_eq_false (by omega)
    rw [hr]; have b0 := dl _ p0; have b1 := dl _ p1; have b2 := dl _ p2; have b3 := dl _ p3; have b4 := dl _ p4; have b5 := dg _ p5; clear dg dl hr p0 p1 p2 p3 p4 p5
    go_enter Try.func8, Try.ntmps8
    go_wp2
    go_rounds 4
    go_ret
    exact ⟨rfl, (Below.refl _ W).alloc (Nat.le_refl _) _⟩
  have hr : smallOf s = true := decide_eq_true (by omega)
  rw [hr]; have b0 := dl _ p0; have b1 := dl _ p1; have b2 := dl _ p2; have b3 := dl _ p3; have b4 := dl _ p4; have b5 := dl _ p5; clear dg dl hr p0 p1 p2 p3 p4 p5
  go_enter Try.func8, Try.ntmps8
  go_wp2
  go_rounds 4
  go_ret
  exact ⟨rfl, (Below.refl _ W).alloc (Nat.le_refl _) _⟩

theorem rleft_calls (s : Sec) (n : Int) (W : World) : Calls Try.prog 35 #[s.v, .int .i64 n] W fun e W' => e = .returned (.int .i64 (leftOf s n)) ∧ Below W.heap.size W W' := by
  dsimp only [Sec.v, Sec.cs]
  go_enter Try.func35, Try.ntmps35
  go_wp2
  all_goals go_ret
  all_goals refine ⟨?_, (Below.refl _ W).alloc (Nat.le_refl _) _⟩
  all_goals (unfold leftOf; simp_all)
def beginOf (s : Sec) (n : Int) : Int := if (s.start = 1 ∧ Int.tmod (wrap64 (n + 1)) 2 = 0) ∨ (s.start = 2 ∧ Int.tmod (wrap64 (n + 1)) 2 = 1) then wrap64 (wrap64 (n + 1) + 1) else wrap64 (n + 1)
theorem rbegin_calls (s : Sec) (n : Int) (W : World) : Calls Try.prog 12 #[s.v, .int .i64 n] W fun e W' => e = .returned (.int .i64 (beginOf s n)) ∧ Below W.heap.size W W' := by
  dsimp only [Sec.v, Sec.cs]
  go_enter Try.func12, Try.ntmps12
  go_wp2
  all_goals go_ret
  all_goals refine ⟨?_, (Below.refl _ W).alloc (Nat.le_refl _) _⟩
  all_goals (unfold beginOf; simp_all)
end Go.Proofs.Ythpmchbbfbbakaa.Sec
