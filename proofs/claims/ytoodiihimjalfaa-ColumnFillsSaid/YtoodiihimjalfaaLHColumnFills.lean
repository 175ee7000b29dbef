/- How high slabs are, as column.high answers: for every list of slabs that may be. -/
import Derived.Test.YtoodiihimjalfaaLAColumnFills
namespace Go.Proofs.Ytoodiihimjalfaa.LColumnFills
open Go.RowKit Go.Proofs.Ytoodiihimjalfaa.PColumnFills Go.Proofs.YtoodiihimjalfaaW.PrintWords Go.Proofs.YtoodiihimjalfaaW.PrintLast
set_option linter.unusedVariables false
set_option linter.unusedSimpArgs false

theorem high_loop (l : List S37) (hl : l.length ≤ 4096) (hf : fine l) (d : Nat) : ∀ i : Nat, l.length = i + d → Ev (fun k => column_high.l0 k (hgt l 0 i) l (l.length : Int) (i : Int)) (hgt l 0 l.length) := by
  induction d with
  | zero =>
    intro i hi
    refine up ?_
    have h1 : ¬ ((i : Int) < (l.length : Int)) := by omega
    simp only [column_high.l0, if_neg h1]
    obtain rfl : i = l.length := by omega
    exact Ev.now _
  | succ d ih =>
    intro i hi
    have hrec := ih (i + 1) (by omega)
    have h1 : (i : Int) < (l.length : Int) := by omega
    have h0 : (0 : Int) ≤ (i : Int) := by omega
    have hw : wrap64 ((i : Int) + 1) = ((i + 1 : Nat) : Int) := by rw [w64 (by omega) (by omega)]; omega
    have hb := hgt_bound hf 0 i
    have f := fine_at hf i
    refine up ?_
    simp only [column_high.l0, if_pos h1, if_pos h0, rd_at, hw]
    have e : hgt l 0 (i + 1) = hgt l 0 i + ((at' l i).f0 + if i = 0 then 0 else (at' l i).f1) := by simp [hgt]
    by_cases hz : i = 0
    · have hz' : ¬ ((i : Int) > 0) := by omega
      simp only [if_neg hz']
      rw [w64 (by omega) (by omega)]
      rw [e, if_pos hz] at hrec
      rw [Int.add_zero] at hrec
      exact hrec
    · have hz' : (i : Int) > 0 := by omega
      simp only [if_pos hz']
      rw [w64 (x := hgt l 0 i + (at' l i).f0) (by omega) (by omega), w64 (by omega) (by omega)]
      rw [e, if_neg hz, ← Int.add_assoc] at hrec
      exact hrec

theorem high_tells (l : List S37) (hl : l.length ≤ 4096) (hf : fine l) : Ev (fun k => column_high.f k l) (hgt l 0 l.length) := high_loop l hl hf l.length 0 (by omega)

theorem high_part (l : List S37) (hl : l.length ≤ 4096) (hf : fine l) (a b : Nat) (hab : a ≤ b) (hb : b ≤ l.length) : Ev (fun k => column_high.f k ((l.take b).drop a)) (hgt l a (b - a)) := by
  have hlen : ((l.take b).drop a).length = b - a := by rw [List.length_drop, List.length_take]; omega
  have h := high_tells ((l.take b).drop a) (by omega) (fine_sub hf a b)
  rw [hlen, hgt_sub l a b hb (b - a) (by omega)] at h
  exact h

end Go.Proofs.Ytoodiihimjalfaa.LColumnFills
