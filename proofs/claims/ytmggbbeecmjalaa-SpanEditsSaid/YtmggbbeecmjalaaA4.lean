/- Calls' records in a list; no further condition. -/
import Derived.Test.YtmggbbeecmjalaaA3
namespace Go.Proofs.Ytmggbbeecmjalaa.P
open Go.RowKit Go.Proofs.YtmggbbeecmjalaaW.PrintWords Go.Proofs.YtmggbbeecmjalaaW.PrintLast Go.Proofs.YtmggbbeecmjalaaW.PrintMore
attribute [local go_sem] max2_int min2_int max_two min_two
set_option linter.unusedVariables false
set_option linter.unusedSimpArgs false

theorem size40e (n : Nat) (h : n = 6) : (Try.prog.info? 40).map (·.size) = some n := by subst h; kernel_rfl
def rdA40 (xs : List S40) (i : Int) : S40 := xs.getD i.toNat z40
theorem atA40 {w : World} {A : Option Addr} {n : Nat} {xs : List S40} (h : Kd.C k40 w A n xs) (i : Int) (h0 : 0 ≤ i) (h1 : i < n) : ∃ ad , A = some ad ∧ w.cell? (ad.add (i.toNat * 6)) = some (.int .i64 (rdA40 xs i).f0) ∧ w.cell? ⟨(ad.add (i.toNat * 6)).block, (ad.add (i.toNat * 6)).off + 1, none⟩ = some (.int .i64 (rdA40 xs i).f1) ∧ w.cell? ⟨(ad.add (i.toNat * 6)).block, (ad.add (i.toNat * 6)).off + 2, none⟩ = some (.int .i64 (rdA40 xs i).f2) ∧ w.cell? ⟨(ad.add (i.toNat * 6)).block, (ad.add (i.toNat * 6)).off + 3, none⟩ = some (.int .i64 (rdA40 xs i).f3.f0) ∧ w.cell? ⟨(ad.add (i.toNat * 6)).block, (ad.add (i.toNat * 6)).off + 4, none⟩ = some (.int .i64 (rdA40 xs i).f3.f1) ∧ w.cell? ⟨(ad.add (i.toNat * 6)).block, (ad.add (i.toNat * 6)).off + 5, none⟩ = some (.int .i64 (rdA40 xs i).f3.f2) := by
  obtain ⟨ad, c, e, _, hK, hc0⟩ := Kd.C_get h z40 i h0 h1
  have hc : ∀ j u, c[j]? = some u → w.cell? (ad.add (i.toNat * 6 + j)) = some u := hc0
  obtain rfl := k40_open hK
  exact ⟨ad, e, hc 0 _ rfl, by rw [← add_field _ _ 1 (by omega)]; exact hc 1 _ rfl, by rw [← add_field _ _ 2 (by omega)]; exact hc 2 _ rfl, by rw [← add_field _ _ 3 (by omega)]; exact hc 3 _ rfl, by rw [← add_field _ _ 4 (by omega)]; exact hc 4 _ rfl, by rw [← add_field _ _ 5 (by omega)]; exact hc 5 _ rfl⟩
theorem C_anyE {w W : World} {A : Option Addr} {n : Nat} {xs : List S40} (h : Kd.C k40 w A n xs) (hb : Below w.heap.size w W) : Kd.C k40 W A n xs := Kd.C_below h hb
theorem St45.off40e {w w1 : World} {g g0 : Nat} {R : List S60} {c : S28} (h : St45 w g R c) (o : ∀ k, k ≠ g0 → w1.heap[k]? = w.heap[k]?) (hne : g ≠ g0) {cs : Array Value} (hb : w.heap[g0]? = some (.cells cs 40 (0, 0))) : St45 w1 g R c := by
  obtain ⟨v, h1, h2⟩ := h
  exact ⟨v, (o g hne).trans h1, R60_any (Kd.R_step (Kd.R_types h2 hb (t := 40) (by decide)) (fun k ho _ => o k ho.2))⟩
theorem St65.off40e {w w1 : World} {g g0 : Nat} {L : List S28} {c : S28} (h : St65 w g L c) (o : ∀ k, k ≠ g0 → w1.heap[k]? = w.heap[k]?) (hne : g ≠ g0) {cs : Array Value} (hb : w.heap[g0]? = some (.cells cs 40 (0, 0))) : St65 w1 g L c := by
  obtain ⟨v, h1, h2⟩ := h
  exact ⟨v, (o g hne).trans h1, Kd.R_mono (Kd.R_step (Kd.R_types h2 hb (t := 40) (by decide)) (fun k ho _ => o k ho.2)) (fun _ _ => trivial)⟩
end Go.Proofs.Ytmggbbeecmjalaa.P
