/- How an argument that is a slice of structs of whole numbers reads as a list of records: for every slice that can be read; no further condition. -/
import Derived.Test.YtmggbbeecmjalaaWMore
import Derived.Deep.Slices
import Derived.WalkKit
import Derived.ProofKit
import Derived.SizedLaws
namespace Go.Proofs.Ytmggbbeecmjalaa.Opened
open Go.ChangeShapes Go.WideShapes Go.Deep Go.RowKit Go.Proofs.YtmggbbeecmjalaaW.PrintWords

section
variable {H : Type} {enc : TypeId × Value → H} {P : Program} {w : World} {α : Type} [Inhabited α] {d : Kd α} {Good : α → Prop}

/-- A slice argument, read: a list of what its elements' cells say; its length times the element's bytes is within the reach. -/
theorem open_row {t e : TypeId} {a : Option Addr} {len cap : Nat} {x : DataW H} {ps : List MemPlace} {ts : List TypeId} {ds : List (DataW H)} {j : Nat}
    (hsz : (DataW.weightsEach P ts ds).all (· ≤ reachBytes) = true) (hj : ts[j]? = some t) (hd : ds[j]? = some x)
    (ht : P.underlying t = some (.slice e)) (hc : P.cellsOf e = d.sz) {B : Nat} (hB : P.bytesOf e = B)
    (hel : ∀ n cs y, DataW.trod enc P w 0 (fun _ => true) true n e cs = some y → ∃ x : α, d.K w x cs ∧ Good x)
    (h : DataW.Trod enc P w 0 (fun _ => true) true t (.slice a len cap) x ps) :
    ∃ xs : List α, len = xs.length ∧ xs.length ≤ cap ∧ xs.length ≤ maxLen ∧ d.C w a xs.length xs ∧ (∀ x ∈ xs, Good x) ∧ xs.length * B ≤ 140737488351232 := by
  obtain ⟨fuel, hf⟩ := h
  rcases open_slice ht hf with ⟨hcs, _⟩ | ⟨ad, l, c, m, n, D, Pl, hcs, _, hl, hm, hmm, hx, hi⟩
  · simp [Value.cells] at hcs
    obtain ⟨rfl, rfl, rfl⟩ := hcs
    exact ⟨[], rfl, Nat.le_refl _, by unfold maxLen; simp, ⟨rfl, by simp, fun h => absurd h (by simp)⟩, fun _ h => by simp at h, by simp⟩
  · simp [Value.cells] at hcs
    obtain ⟨rfl, rfl, rfl⟩ := hcs
    have hml : len ≤ m := by rw [hmm]; split <;> omega
    have each : ∀ i, i < len → ∃ x : α × List Value, w.cells? 0 (ad.add (i * P.cellsOf e)) (P.cellsOf e) = some x.2 ∧ d.K w x.1 x.2 ∧ Good x.1 := by
      intro i hlt
      obtain ⟨cs', h1, h2⟩ := hi i (by omega)
      obtain ⟨y, hk, hg⟩ := hel _ _ _ h2
      exact ⟨(y, cs'), h1, hk, hg⟩
    obtain ⟨f, hfi⟩ := choose_lt each
    have hlen : ((List.range len).map fun i => (f i).1).length = len := by simp
    refine ⟨(List.range len).map fun i => (f i).1, hlen.symm, by rw [hlen]; exact hl, by rw [hlen]; omega, ?_, ?_, ?_⟩
    · refine ⟨rfl, ?_, fun _ => ⟨ad, rfl, fun i p hp => ?_⟩⟩
      · rw [hlen]; unfold maxLen at hm; omega
      · have hlt : i < len := by have := (List.getElem?_eq_some_iff.1 hp).1; simpa using this
        obtain ⟨h1, h2, _⟩ := hfi i hlt
        have : p = (f i).1 := by simpa [hlt] using hp.symm
        subst this
        obtain ⟨_, hln, hcell⟩ := World.cells?_some h1
        refine ⟨(f i).2, d.K_len h2, h2, fun q u hu => ?_⟩
        have hq : q < P.cellsOf e := by rw [← hln]; exact (List.getElem?_eq_some_iff.1 hu).1
        have := hcell q hq
        rw [Deep.add_add] at this
        rw [← hc, this]
        exact hu
    · intro y hy
      obtain ⟨i, hi1, rfl⟩ := List.mem_map.1 hy
      exact (hfi i (List.mem_range.1 hi1)).2.2
    · rw [hlen]
      have hx1 : x = .slice ((List.range len).map D) ((List.range (m - len)).map fun j => D (len + j)) := (Prod.mk.inj hx).1
      rw [hx1] at hd
      have z := sized_slice hsz hj hd ht
      rw [hB] at z
      refine Nat.le_trans (Nat.mul_le_mul_right _ ?_) z
      simp
end

end Go.Proofs.Ytmggbbeecmjalaa.Opened
