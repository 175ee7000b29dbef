/- Looks, as the given program keeps them and as the reference does: what stands of them in a world; no further condition. -/
import Derived.Test.YtmggbbeecmjalaaB3
import Derived.Test.YtmggbbeecmjalaaB4
import Derived.Test.YtmggbbeecmjalaaB5
namespace Go.Proofs.Ytmggbbeecmjalaa.P
open Go.RowKit Go.Proofs.YtmggbbeecmjalaaW.PrintWords Go.Proofs.YtmggbbeecmjalaaW.PrintLast Go.Proofs.YtmggbbeecmjalaaW.PrintMore
attribute [local go_sem] max2_int min2_int max_two min_two
set_option linter.unusedVariables false
set_option linter.unusedSimpArgs false

/-- the program's looks at block g: runs R, kept c -/
def St45 (w : World) (g : Nat) (R : List S60) (c : S28) : Prop :=
  ∃ v, w.heap[g]? = some (.cells #[.bool true, v, .int .i64 c.f0, .int .i64 c.f1, .int .i64 c.f2] 45 (0, 0)) ∧ Kd.R k60 60 w 0 (fun _ => True) v R
/-- the reference's looks at block g: bytes L, in mind c -/
def St65 (w : World) (g : Nat) (L : List S28) (c : S28) : Prop :=
  ∃ v, w.heap[g]? = some (.cells #[v, .int .i64 c.f0, .int .i64 c.f1, .int .i64 c.f2] 65 (0, 0)) ∧ Kd.R k28 28 w 0 (fun _ => True) v L

theorem R_off {α : Type} {d : Kd α} {e g : Nat} {w w' : World} {v : Value} {xs : List α} (h : Kd.R d e w 0 (fun _ => True) v xs) {cs : Array Value} {t : Nat} (hb : w.heap[g]? = some (.cells cs t (0, 0))) (ht : ∀ q, q ∈ e :: d.E → q ≠ t) (hg : w.grownBy w' (some g)) : Kd.R d e w' 0 (fun _ => True) v xs :=
  Kd.R_mono (Kd.R_grown (Kd.R_types h hb ht) hg (fun k hk => by intro e; injection e with e; exact hk.2 e)) (fun _ _ => trivial)

theorem nt60_45 : ∀ q, q ∈ (60 : Nat) :: k60.E → q ≠ (45 : Nat) := by decide
theorem nt60_65 : ∀ q, q ∈ (60 : Nat) :: k60.E → q ≠ (65 : Nat) := by decide
theorem nt28_45 : ∀ q, q ∈ (28 : Nat) :: k28.E → q ≠ (45 : Nat) := by decide
theorem nt28_65 : ∀ q, q ∈ (28 : Nat) :: k28.E → q ≠ (65 : Nat) := by decide

theorem St45.below {w w' : World} {g : Nat} {R : List S60} {c : S28} (h : St45 w g R c) (hb : Below w.heap.size w w') : St45 w' g R c := by
  obtain ⟨v, h1, h2⟩ := h
  exact ⟨v, blk_below h1 hb, Kd.R_below h2 hb⟩
theorem St65.below {w w' : World} {g : Nat} {L : List S28} {c : S28} (h : St65 w g L c) (hb : Below w.heap.size w w') : St65 w' g L c := by
  obtain ⟨v, h1, h2⟩ := h
  exact ⟨v, blk_below h1 hb, Kd.R_below h2 hb⟩
theorem St45.lt {w : World} {g : Nat} {R : List S60} {c : S28} (h : St45 w g R c) : g < w.heap.size := by
  obtain ⟨v, h1, h2⟩ := h
  exact blk_lt h1
theorem St65.lt {w : World} {g : Nat} {L : List S28} {c : S28} (h : St65 w g L c) : g < w.heap.size := by
  obtain ⟨v, h1, h2⟩ := h
  exact blk_lt h1
/-- another looks' turn -/
theorem St45.off45 {w w' : World} {g g' : Nat} {R R' : List S60} {c c' : S28} (h : St45 w g R c) (k : St45 w g' R' c') (hne : g ≠ g') (hg : w.grownBy w' (some g')) : St45 w' g R c := by
  obtain ⟨v, h1, h2⟩ := h
  obtain ⟨v', k1, k2⟩ := k
  exact ⟨v, blk_grown h1 hg (by simpa using hne), R_off h2 k1 nt60_45 hg⟩
theorem St45.off65 {w w' : World} {g g' : Nat} {R : List S60} {L : List S28} {c c' : S28} (h : St45 w g R c) (k : St65 w g' L c') (hg : w.grownBy w' (some g')) : St45 w' g R c := by
  obtain ⟨v, h1, h2⟩ := h
  obtain ⟨v', k1, k2⟩ := k
  exact ⟨v, blk_grown h1 hg (by have := blk_ne h1 k1 (by decide); simpa using this), R_off h2 k1 nt60_65 hg⟩
theorem St65.off45 {w w' : World} {g g' : Nat} {L : List S28} {R : List S60} {c c' : S28} (h : St65 w g L c) (k : St45 w g' R c') (hg : w.grownBy w' (some g')) : St65 w' g L c := by
  obtain ⟨v, h1, h2⟩ := h
  obtain ⟨v', k1, k2⟩ := k
  exact ⟨v, blk_grown h1 hg (by have := blk_ne h1 k1 (by decide); simpa using this), R_off h2 k1 nt28_45 hg⟩
theorem St65.off65 {w w' : World} {g g' : Nat} {L L' : List S28} {c c' : S28} (h : St65 w g L c) (k : St65 w g' L' c') (hne : g ≠ g') (hg : w.grownBy w' (some g')) : St65 w' g L c := by
  obtain ⟨v, h1, h2⟩ := h
  obtain ⟨v', k1, k2⟩ := k
  exact ⟨v, blk_grown h1 hg (by simpa using hne), R_off h2 k1 nt28_65 hg⟩
theorem gb_refl (w : World) (r : Option Nat) : w.grownBy w r := ⟨rfl, rfl, rfl, Nat.le_refl _, fun _ _ _ => rfl⟩
theorem gb_trans {w w1 w2 : World} {r : Option Nat} (h : w.grownBy w1 r) (k : w1.grownBy w2 r) : w.grownBy w2 r :=
  ⟨k.os.trans h.os, k.tape.trans h.tape, k.output.trans h.output, Nat.le_trans h.size k.size, fun i hi hr => (k.block i (Nat.lt_of_lt_of_le hi h.size) hr).trans (h.block i hi hr)⟩
theorem gb_set {w w1 : World} {g : Nat} (h : w.grownBy w1 (some g)) (j : Nat) (u : Value) : w.grownBy (w1.setCell ⟨g, j, none⟩ u) (some g) :=
  gb_trans h ⟨rfl, rfl, rfl, by simp [World.setCell], fun i hi hr => Below.heap_setCell _ _ _ _ (fun e => hr (by rw [e]))⟩
theorem gb_below {w w1 : World} {r : Option Nat} (h : Below w.heap.size w w1) : w.grownBy w1 r := grown_of_below h r

theorem St45.cells {w : World} {g : Nat} {R : List S60} {c : S28} (h : St45 w g R c) : ∃ A k, R.length ≤ k ∧ Kd.C k60 w A R.length R ∧ Kd.R k60 60 w 0 (fun _ => True) (.slice A R.length k) R ∧
    w.heap[g]? = some (.cells #[.bool true, .slice A R.length k, .int .i64 c.f0, .int .i64 c.f1, .int .i64 c.f2] 45 (0, 0)) := by
  obtain ⟨v, h1, h2⟩ := h
  obtain ⟨A, k, rfl, hk, hC⟩ := Kd.R_reads h2
  exact ⟨A, k, hk, hC, h2, h1⟩
theorem St65.cells {w : World} {g : Nat} {L : List S28} {c : S28} (h : St65 w g L c) : ∃ A k, L.length ≤ k ∧ Kd.C k28 w A L.length L ∧ Kd.R k28 28 w 0 (fun _ => True) (.slice A L.length k) L ∧
    w.heap[g]? = some (.cells #[.slice A L.length k, .int .i64 c.f0, .int .i64 c.f1, .int .i64 c.f2] 65 (0, 0)) := by
  obtain ⟨v, h1, h2⟩ := h
  obtain ⟨A, k, rfl, hk, hC⟩ := Kd.R_reads h2
  exact ⟨A, k, hk, hC, h2, h1⟩

/-! ### none -/
set_option maxHeartbeats 8000000 in
set_option maxRecDepth 100000 in
theorem none_calls {w : World} {g : Nat} {R : List S60} {c : S28} (h : St45 w g R c) :
    Calls Try.prog 31 #[.pointer (some ⟨g, 0, none⟩)] w fun e w' => e = .returned (.bool false) ∧ w' = w := by
  obtain ⟨A, k, hk, hC, hR, hg⟩ := h.cells
  have c0 : w.cell? ⟨g, 0, none⟩ = some (.bool true) := (blk_cell hg 0).trans rfl
  clear hg hC hR
  go_enter Try.func31, Try.ntmps31
  go_wp2
  go_ret
  exact ⟨rfl, rfl⟩
set_option maxHeartbeats 8000000 in
set_option maxRecDepth 100000 in
theorem none_nil (w : World) :
    Calls Try.prog 31 #[.pointer none] w fun e w' => e = .returned (.bool true) ∧ w' = w := by
  go_enter Try.func31, Try.ntmps31
  go_wp2
  go_ret
  exact ⟨rfl, rfl⟩
set_option maxHeartbeats 8000000 in
set_option maxRecDepth 100000 in
theorem none_unmade {w : World} {g : Nat} (c0 : w.cell? ⟨g, 0, none⟩ = some (.bool false)) :
    Calls Try.prog 31 #[.pointer (some ⟨g, 0, none⟩)] w fun e w' => e = .returned (.bool true) ∧ w' = w := by
  go_enter Try.func31, Try.ntmps31
  go_wp2
  go_ret
  exact ⟨rfl, rfl⟩
end Go.Proofs.Ytmggbbeecmjalaa.P
