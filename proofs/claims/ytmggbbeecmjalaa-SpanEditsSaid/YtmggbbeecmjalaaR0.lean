/- Cuts of the reference's bytes; no further condition. -/
import Derived.Test.YtmggbbeecmjalaaS13
namespace Go.Proofs.Ytmggbbeecmjalaa.P
open Go.RowKit Go.Proofs.YtmggbbeecmjalaaW.PrintWords Go.Proofs.YtmggbbeecmjalaaW.PrintLast Go.Proofs.YtmggbbeecmjalaaW.PrintMore
set_option linter.unusedVariables false
set_option linter.unusedSimpArgs false

theorem info28 : (Try.prog.info? 28).map (fun i => (i.zero, i.size, i.bytes)) = some (some (.agg #[(.int .i64 0), (.int .i64 0), (.int .i64 0)]), 3, 24) := by kernel_rfl
theorem i28 : ∃ i, Try.prog.info? 28 = some i ∧ i.size = 3 := by
  obtain ⟨i, hi, hz⟩ := Option.map_eq_some_iff.1 info28
  simp only [Prod.mk.injEq] at hz
  exact ⟨i, hi, hz.2.1⟩
/-- s[:x] -/
theorem cutTo {W0 : World} {A : Option Addr} {L : List S28} {k : Nat} (hC : Kd.C k28 W0 A L.length L) (hk : L.length ≤ k) (x : Int) (h0 : 0 ≤ x) (h1 : x ≤ (L.length : Int)) :
    (∀ W : World, (Instr.slice 57 (.slice A L.length k) none (some (.int .i64 x)) none).run Try.prog W = .ok (.slice A (L.take x.toNat).length k) W) ∧ Kd.C k28 W0 A (L.take x.toNat).length (L.take x.toNat) := by
  obtain ⟨i, hi, _⟩ := i28
  refine ⟨fun W => ?_, Kd.C_take hC (by omega)⟩
  rw [cut_to 57 28 .i64 Try.underlying57 hi A L.length k x h0 h1 hk W]
  congr 2
  simp; omega
/-- s[x:] -/
theorem cutFrom {W0 : World} {A : Option Addr} {L : List S28} {k : Nat} (hC : Kd.C k28 W0 A L.length L) (hk : L.length ≤ k) (x : Int) (h0 : 0 ≤ x) (h1 : x ≤ (L.length : Int)) :
    ∃ (A2 : Option Addr) (k2 : Nat), (∀ W : World, (Instr.slice 57 (.slice A L.length k) (some (.int .i64 x)) none none).run Try.prog W = .ok (.slice A2 (L.drop x.toNat).length k2) W) ∧ Kd.C k28 W0 A2 (L.drop x.toNat).length (L.drop x.toNat) ∧ (L.drop x.toNat).length ≤ k2 := by
  obtain ⟨i, hi, hz⟩ := i28
  refine ⟨_, k - x.toNat, fun W => ?_, Kd.C_drop hC (by omega) hk, by simp; omega⟩
  rw [cut_from 57 28 .i64 Try.underlying57 hi 3 hz A L.length k x h0 h1 W]
  congr 2
  simp
/-- s[x:y] -/
theorem cutMid {W0 : World} {A : Option Addr} {L : List S28} {k : Nat} (hC : Kd.C k28 W0 A L.length L) (hk : L.length ≤ k) (x y : Int) (h0 : 0 ≤ x) (h1 : x ≤ y) (h2 : y ≤ (L.length : Int)) :
    ∃ (A2 : Option Addr) (k2 : Nat), (∀ W : World, (Instr.slice 57 (.slice A L.length k) (some (.int .i64 x)) (some (.int .i64 y)) none).run Try.prog W = .ok (.slice A2 (clip L x.toNat y.toNat).length k2) W) ∧ Kd.C k28 W0 A2 (clip L x.toNat y.toNat).length (clip L x.toNat y.toNat) ∧ (clip L x.toNat y.toNat).length ≤ k2 := by
  obtain ⟨i, hi, hz⟩ := i28
  have hl := clip_len L x.toNat y.toNat (by omega)
  refine ⟨_, k - x.toNat, fun W => ?_, Kd.C_mid hC (by omega) (by omega) hk, by omega⟩
  rw [cut_mid 57 28 .i64 .i64 Try.underlying57 hi 3 hz A L.length k x y h0 h1 h2 hk W]
  congr 2
  rw [hl]
theorem St65.put0 {W : World} {g : Nat} {L : List S28} {c : S28} {u v : Value} (h : W.heap[g]? = some (.cells #[u, .int .i64 c.f0, .int .i64 c.f1, .int .i64 c.f2] 65 (0, 0))) (hv : Kd.R k28 28 W 0 (fun _ => True) v L) : St65 (W.setCell ⟨g, 0, none⟩ v) g L c :=
  ⟨v, blk_set h 0 v, Kd.R_set hv h nt28_65 0 v⟩
theorem St65.store {W : World} {g : Nat} {L L' : List S28} {c : S28} {v : Value} (h : St65 W g L c) (hv : Kd.R k28 28 W 0 (fun _ => True) v L') : St65 (W.setCell ⟨g, 0, none⟩ v) g L' c := by
  obtain ⟨u, h1, h2⟩ := h
  exact ⟨v, blk_set h1 0 v, Kd.R_set hv h1 nt28_65 0 v⟩
theorem St65.new {w : World} {L : List S28} {v : Value} (c : S28) (h : Kd.R k28 28 w 0 (fun _ => True) v L) : St65 (w.alloc (.cells #[v, .int .i64 c.f0, .int .i64 c.f1, .int .i64 c.f2] 65)) w.heap.size L c :=
  ⟨v, blk_new _ _, Kd.R_alloc h _⟩
theorem St65.put3 {W : World} {g : Nat} {L : List S28} {c : S28} (h : St65 W g L c) (d : S28) :
    St65 (((W.setCell ⟨g, 1, none⟩ (.int .i64 d.f0)).setCell ⟨g, 2, none⟩ (.int .i64 d.f1)).setCell ⟨g, 3, none⟩ (.int .i64 d.f2)) g L d := by
  obtain ⟨v, h1, h2⟩ := h
  have a1 := blk_set h1 1 (.int .i64 d.f0)
  have a2 := blk_set a1 2 (.int .i64 d.f1)
  have a3 := blk_set a2 3 (.int .i64 d.f2)
  exact ⟨v, a3, Kd.R_set (Kd.R_set (Kd.R_set h2 h1 nt28_65 1 _) a1 nt28_65 2 _) a2 nt28_65 3 _⟩
end Go.Proofs.Ytmggbbeecmjalaa.P
