/- SectionKnown's walk: every number is known; no further condition. -/
import Derived.Test.YthpmchbbfbbakaaHandP
import Derived.Test.YthpmchbbfbbakaaB2
import Derived.Test.YthpmchbbfbbakaaB3
import Derived.Test.YthpmchbbfbbakaaB6
import Derived.Test.YthpmchbbfbbakaaB7
import Derived.Test.YthpmchbbfbbakaaPAwake
import Derived.Test.YthpmchbbfbbakaaBoxC
import Derived.Laws.CopyOwn
namespace Go.Proofs.Ythpmchbbfbbakaa.PAll
open Go.RowKit Go.Proofs.YthpmchbbfbbakaaW.PrintWords Go.Proofs.YthpmchbbfbbakaaW.PrintLast Go.Proofs.YthpmchbbfbbakaaW.PrintMore
set_option linter.unusedVariables false
set_option linter.unusedSimpArgs false
attribute [local go_sem high] eqA38

theorem settle {P : Program} {c : Code} {Q : Exit → Act → World → Prop} {a : Act} {W : World} (Φ : World → Prop) (h0 : Φ W) (h : ∀ W', Φ W' → c.wp P Q a W') : c.wp P Q a W := h W h0
/-- a store of a whole box -/
theorem store_event {P : Program} {ops : Array Oper} {rest : List Oper} {o : Oper} {a : Act} {w : World} {Q : Exit → Act → World → Prop} (hgd : o.guard = none) (ty : TypeId) (x y : Operand) (ho : o.op = .store ty x y)
    (g : Nat) (cells : Array Value) (hx : a.eval x = .pointer (some ⟨g, 0, none⟩)) (hy : a.eval y = .agg cells)
    (t : TypeId) (old : Array Value) (hg : w.heap[g]? = some (.cells old t (0, 0))) (hi : (P.info? ty).map (·.size) = some cells.size)
    (hold : old.size = cells.size) (h1 : cells.all (·.oneCell') = true)
    (h : ∀ w1, w1.heap[g]? = some (.cells cells t (0, 0)) → (∀ k, k ≠ g → w1.heap[k]? = w.heap[k]?) → (∀ B w0, Below B w0 w → B ≤ g → Below B w0 w1) → wpList P ops Q rest (a.put o.dst undef) w1) : wpList P ops Q (o :: rest) a w :=
  wpList_store_row hgd ty x y ho g cells hx hy t old hg hi hold h1 (h _ (setRow_heap w g old cells t (0, 0) hg) (fun k hk => setRow_other w g k cells hk) (fun B w0 hb hB => below_setRow hb hB cells))
theorem drawn_below {w w' : World} (h : Drawn0 w w') : Below w.heap.size w w' := by
  obtain ⟨n, rfl⟩ := h
  exact pw_below_drewN (Below.refl _ _) n
theorem lit2_run (ev : Operand → Value) (W : World) (o : Oper) (p q : Operand) (a0 a1 a2 a3 b0 b1 b2 b3 : Int) (ho : o.op = .buildSlice 34 2 #[(0, p), (1, q)])
    (h0 : ev p = .agg #[.int .i64 a0, .int .i64 a1, .int .i64 a2, .int .i64 a3]) (h1 : ev q = .agg #[.int .i64 b0, .int .i64 b1, .int .i64 b2, .int .i64 b3]) :
    (execOp ev o).run Try.prog W = .ok (.value (.slice (some ⟨W.heap.size, 0, none⟩) 2 2)) (W.alloc (.cells #[.int .i64 a0, .int .i64 a1, .int .i64 a2, .int .i64 a3, .int .i64 b0, .int .i64 b1, .int .i64 b2, .int .i64 b3] 38)) := by
  have hu38 := Try.underlying38
  simp only [execOp, ho]
  go_simp
theorem size24 (c : Array Value) (h : c.size = 17) : (Try.prog.info? 24).map (·.size) = some c.size := by rw [h]; kernel_rfl
theorem size38 (c : Array Value) (h : c.size = 4) : (Try.prog.info? 38).map (·.size) = some c.size := by rw [h]; kernel_rfl
theorem cells4 {W : World} {g : Nat} {t : TypeId} {v0 v1 v2 v3 : Value} (h : W.heap[g]? = some (.cells #[v0, v1, v2, v3] t (0, 0))) : W.cell? ⟨g, 0, none⟩ = some v0 ∧ W.cell? ⟨g, 1, none⟩ = some v1 ∧ W.cell? ⟨g, 2, none⟩ = some v2 ∧ W.cell? ⟨g, 3, none⟩ = some v3 := by
  have k := fun i => blk_cell h i
  exact ⟨k 0, k 1, k 2, k 3⟩

theorem plain_k (w : World) : Calls Try.prog 19 #[] w fun e w' => e = .returned (.agg #[.int .i64 300, .int .i64 400, .int .i64 40, .int .i64 40, .int .i64 30, .int .i64 30, .int .i64 1, .int .i64 10, .int .i64 0, .int .i64 0, .int .i64 0, .string (⟨#[]⟩ : ByteArray), .string (⟨#[]⟩ : ByteArray), .string (⟨#[]⟩ : ByteArray), .string (⟨#[]⟩ : ByteArray), .string (⟨#[]⟩ : ByteArray), .string (⟨#[]⟩ : ByteArray)]) ∧ Below w.heap.size w w' := section_Plain.calls 300 400 40 40 30 30 1 10 0 0 0 (⟨#[]⟩ : ByteArray) (⟨#[]⟩ : ByteArray) (⟨#[]⟩ : ByteArray) (⟨#[]⟩ : ByteArray) (⟨#[]⟩ : ByteArray) (⟨#[]⟩ : ByteArray) w rfl
theorem cols1_k (w : World) : Calls Try.prog 14 #[.agg #[.int .i64 300, .int .i64 400, .int .i64 40, .int .i64 40, .int .i64 20, .int .i64 30, .int .i64 2, .int .i64 10, .int .i64 0, .int .i64 0, .int .i64 1, .string (⟨#[]⟩ : ByteArray), .string (⟨#[]⟩ : ByteArray), .string (⟨#[]⟩ : ByteArray), .string (⟨#[]⟩ : ByteArray), .string (⟨#[]⟩ : ByteArray), .string (⟨#[]⟩ : ByteArray)], .int .i64 1] w fun e w' => ∃ v0_ : Value, e = .returned (.tuple #[v0_, .int .i64 0]) ∧ Kd.R k38 38 w' w.heap.size (fun _ => True) v0_ [(⟨20, 40, 120, 320⟩ : S38), (⟨150, 40, 120, 320⟩ : S38)] ∧ Below w.heap.size w w' := section_Columns.calls 40 300 400 40 40 20 30 2 10 0 0 1 (⟨#[]⟩ : ByteArray) (⟨#[]⟩ : ByteArray) (⟨#[]⟩ : ByteArray) (⟨#[]⟩ : ByteArray) (⟨#[]⟩ : ByteArray) (⟨#[]⟩ : ByteArray) 1 [(⟨20, 40, 120, 320⟩ : S38), (⟨150, 40, 120, 320⟩ : S38)] 0 w (by kernel_rfl)
theorem cols2_k (w : World) : Calls Try.prog 14 #[.agg #[.int .i64 300, .int .i64 400, .int .i64 40, .int .i64 40, .int .i64 20, .int .i64 30, .int .i64 2, .int .i64 10, .int .i64 0, .int .i64 0, .int .i64 1, .string (⟨#[]⟩ : ByteArray), .string (⟨#[]⟩ : ByteArray), .string (⟨#[]⟩ : ByteArray), .string (⟨#[]⟩ : ByteArray), .string (⟨#[]⟩ : ByteArray), .string (⟨#[]⟩ : ByteArray)], .int .i64 2] w fun e w' => ∃ v0_ : Value, e = .returned (.tuple #[v0_, .int .i64 0]) ∧ Kd.R k38 38 w' w.heap.size (fun _ => True) v0_ [(⟨30, 40, 120, 320⟩ : S38), (⟨160, 40, 120, 320⟩ : S38)] ∧ Below w.heap.size w w' := section_Columns.calls 40 300 400 40 40 20 30 2 10 0 0 1 (⟨#[]⟩ : ByteArray) (⟨#[]⟩ : ByteArray) (⟨#[]⟩ : ByteArray) (⟨#[]⟩ : ByteArray) (⟨#[]⟩ : ByteArray) (⟨#[]⟩ : ByteArray) 2 [(⟨30, 40, 120, 320⟩ : S38), (⟨160, 40, 120, 320⟩ : S38)] 0 w (by kernel_rfl)
theorem cols3_k (w : World) : Calls Try.prog 14 #[.agg #[.int .i64 300, .int .i64 400, .int .i64 40, .int .i64 40, .int .i64 30, .int .i64 30, .int .i64 1, .int .i64 10, .int .i64 0, .int .i64 0, .int .i64 0, .string (⟨#[]⟩ : ByteArray), .string (⟨#[]⟩ : ByteArray), .string (⟨#[]⟩ : ByteArray), .string (⟨#[]⟩ : ByteArray), .string (⟨#[]⟩ : ByteArray), .string (⟨#[]⟩ : ByteArray)], .int .i64 0] w fun e w' => ∃ v0_ : Value, e = .returned (.tuple #[v0_, .int .i64 5]) ∧ Kd.R k38 38 w' w.heap.size (fun _ => True) v0_ ([] : List S38) ∧ Below w.heap.size w w' := section_Columns.calls 40 300 400 40 40 30 30 1 10 0 0 0 (⟨#[]⟩ : ByteArray) (⟨#[]⟩ : ByteArray) (⟨#[]⟩ : ByteArray) (⟨#[]⟩ : ByteArray) (⟨#[]⟩ : ByteArray) (⟨#[]⟩ : ByteArray) 0 ([] : List S38) 5 w (by kernel_rfl)
theorem head_k (w : World) : Calls Try.prog 15 #[.agg #[.int .i64 300, .int .i64 400, .int .i64 40, .int .i64 40, .int .i64 30, .int .i64 30, .int .i64 1, .int .i64 10, .int .i64 0, .int .i64 0, .int .i64 0, .string (⟨#[]⟩ : ByteArray), .string (⟨#[]⟩ : ByteArray), .string (⟨#[]⟩ : ByteArray), .string (⟨#[]⟩ : ByteArray), .string (⟨#[]⟩ : ByteArray), .string (⟨#[]⟩ : ByteArray)], .int .i64 1] w fun e w' => e = .returned (.tuple #[.agg #[.int .i64 30, .int .i64 20, .int .i64 240, .int .i64 20], .int .i64 0]) ∧ Below w.heap.size w w' := section_Head.calls 300 400 40 40 30 30 1 10 0 0 0 (⟨#[]⟩ : ByteArray) (⟨#[]⟩ : ByteArray) (⟨#[]⟩ : ByteArray) (⟨#[]⟩ : ByteArray) (⟨#[]⟩ : ByteArray) (⟨#[]⟩ : ByteArray) 1 30 20 240 20 0 w (by kernel_rfl)
theorem foot_k (w : World) : Calls Try.prog 16 #[.agg #[.int .i64 300, .int .i64 400, .int .i64 40, .int .i64 40, .int .i64 30, .int .i64 30, .int .i64 1, .int .i64 10, .int .i64 0, .int .i64 0, .int .i64 0, .string (⟨#[]⟩ : ByteArray), .string (⟨#[]⟩ : ByteArray), .string (⟨#[]⟩ : ByteArray), .string (⟨#[]⟩ : ByteArray), .string (⟨#[]⟩ : ByteArray), .string (⟨#[]⟩ : ByteArray)], .int .i64 1] w fun e w' => e = .returned (.tuple #[.agg #[.int .i64 30, .int .i64 360, .int .i64 240, .int .i64 20], .int .i64 0]) ∧ Below w.heap.size w w' := section_Foot.calls 300 400 40 40 30 30 1 10 0 0 0 (⟨#[]⟩ : ByteArray) (⟨#[]⟩ : ByteArray) (⟨#[]⟩ : ByteArray) (⟨#[]⟩ : ByteArray) (⟨#[]⟩ : ByteArray) (⟨#[]⟩ : ByteArray) 1 30 360 240 20 0 w (by kernel_rfl)
theorem begin1_k (w : World) : Calls Try.prog 9 #[.agg #[.int .i64 300, .int .i64 400, .int .i64 40, .int .i64 40, .int .i64 30, .int .i64 30, .int .i64 1, .int .i64 10, .int .i64 0, .int .i64 0, .int .i64 0, .string (⟨#[]⟩ : ByteArray), .string (⟨#[]⟩ : ByteArray), .string (⟨#[]⟩ : ByteArray), .string (⟨#[]⟩ : ByteArray), .string (⟨#[]⟩ : ByteArray), .string (⟨#[]⟩ : ByteArray)], .int .i64 3] w fun e w' => e = .returned (.tuple #[.int .i64 4, .int .i64 0]) ∧ Below w.heap.size w w' := section_Begin.calls 300 400 40 40 30 30 1 10 0 0 0 (⟨#[]⟩ : ByteArray) (⟨#[]⟩ : ByteArray) (⟨#[]⟩ : ByteArray) (⟨#[]⟩ : ByteArray) (⟨#[]⟩ : ByteArray) (⟨#[]⟩ : ByteArray) 3 4 0 w (by kernel_rfl)
theorem begin2_k (w : World) : Calls Try.prog 9 #[.agg #[.int .i64 300, .int .i64 400, .int .i64 40, .int .i64 40, .int .i64 30, .int .i64 30, .int .i64 1, .int .i64 10, .int .i64 1, .int .i64 0, .int .i64 0, .string (⟨#[]⟩ : ByteArray), .string (⟨#[]⟩ : ByteArray), .string (⟨#[]⟩ : ByteArray), .string (⟨#[]⟩ : ByteArray), .string (⟨#[]⟩ : ByteArray), .string (⟨#[]⟩ : ByteArray)], .int .i64 3] w fun e w' => e = .returned (.tuple #[.int .i64 5, .int .i64 0]) ∧ Below w.heap.size w w' := section_Begin.calls 300 400 40 40 30 30 1 10 1 0 0 (⟨#[]⟩ : ByteArray) (⟨#[]⟩ : ByteArray) (⟨#[]⟩ : ByteArray) (⟨#[]⟩ : ByteArray) (⟨#[]⟩ : ByteArray) (⟨#[]⟩ : ByteArray) 3 5 0 w (by kernel_rfl)
theorem begin3_k (w : World) : Calls Try.prog 9 #[.agg #[.int .i64 300, .int .i64 400, .int .i64 40, .int .i64 40, .int .i64 30, .int .i64 30, .int .i64 1, .int .i64 10, .int .i64 1, .int .i64 0, .int .i64 0, .string (⟨#[]⟩ : ByteArray), .string (⟨#[]⟩ : ByteArray), .string (⟨#[]⟩ : ByteArray), .string (⟨#[]⟩ : ByteArray), .string (⟨#[]⟩ : ByteArray), .string (⟨#[]⟩ : ByteArray)], .int .i64 4] w fun e w' => e = .returned (.tuple #[.int .i64 5, .int .i64 0]) ∧ Below w.heap.size w w' := section_Begin.calls 300 400 40 40 30 30 1 10 1 0 0 (⟨#[]⟩ : ByteArray) (⟨#[]⟩ : ByteArray) (⟨#[]⟩ : ByteArray) (⟨#[]⟩ : ByteArray) (⟨#[]⟩ : ByteArray) (⟨#[]⟩ : ByteArray) 4 5 0 w (by kernel_rfl)
theorem var1_k (w : World) : Calls Try.prog 10 #[.agg #[.int .i64 300, .int .i64 400, .int .i64 40, .int .i64 40, .int .i64 30, .int .i64 30, .int .i64 1, .int .i64 10, .int .i64 0, .int .i64 0, .int .i64 0, .string (⟨#[]⟩ : ByteArray), .string (⟨#[]⟩ : ByteArray), .string (⟨#[]⟩ : ByteArray), .string (⟨#[]⟩ : ByteArray), .string (⟨#[]⟩ : ByteArray), .string (⟨#[]⟩ : ByteArray)], .int .i64 1, .bool true] w fun e w' => e = .returned (.tuple #[.int .i64 1, .int .i64 0]) ∧ Below w.heap.size w w' := section_Variant.calls 1 300 400 40 40 30 30 1 10 0 0 0 (⟨#[]⟩ : ByteArray) (⟨#[]⟩ : ByteArray) (⟨#[]⟩ : ByteArray) (⟨#[]⟩ : ByteArray) (⟨#[]⟩ : ByteArray) (⟨#[]⟩ : ByteArray) 1 true 1 0 w (by kernel_rfl)
theorem var2_k (w : World) : Calls Try.prog 10 #[.agg #[.int .i64 300, .int .i64 400, .int .i64 40, .int .i64 40, .int .i64 30, .int .i64 30, .int .i64 1, .int .i64 10, .int .i64 0, .int .i64 0, .int .i64 0, .string (⟨#[120]⟩ : ByteArray), .string (⟨#[]⟩ : ByteArray), .string (⟨#[]⟩ : ByteArray), .string (⟨#[]⟩ : ByteArray), .string (⟨#[]⟩ : ByteArray), .string (⟨#[]⟩ : ByteArray)], .int .i64 1, .bool true] w fun e w' => e = .returned (.tuple #[.int .i64 0, .int .i64 0]) ∧ Below w.heap.size w w' := section_Variant.calls 1 300 400 40 40 30 30 1 10 0 0 0 (⟨#[120]⟩ : ByteArray) (⟨#[]⟩ : ByteArray) (⟨#[]⟩ : ByteArray) (⟨#[]⟩ : ByteArray) (⟨#[]⟩ : ByteArray) (⟨#[]⟩ : ByteArray) 1 true 0 0 w (by kernel_rfl)
theorem var3_k (w : World) : Calls Try.prog 10 #[.agg #[.int .i64 300, .int .i64 400, .int .i64 40, .int .i64 40, .int .i64 30, .int .i64 30, .int .i64 1, .int .i64 10, .int .i64 0, .int .i64 0, .int .i64 0, .string (⟨#[120]⟩ : ByteArray), .string (⟨#[]⟩ : ByteArray), .string (⟨#[]⟩ : ByteArray), .string (⟨#[]⟩ : ByteArray), .string (⟨#[]⟩ : ByteArray), .string (⟨#[]⟩ : ByteArray)], .int .i64 2, .bool false] w fun e w' => e = .returned (.tuple #[.int .i64 2, .int .i64 0]) ∧ Below w.heap.size w w' := section_Variant.calls 1 300 400 40 40 30 30 1 10 0 0 0 (⟨#[120]⟩ : ByteArray) (⟨#[]⟩ : ByteArray) (⟨#[]⟩ : ByteArray) (⟨#[]⟩ : ByteArray) (⟨#[]⟩ : ByteArray) (⟨#[]⟩ : ByteArray) 2 false 2 0 w (by kernel_rfl)
theorem chk1_k (w : World) : Calls Try.prog 17 #[.agg #[.int .i64 300, .int .i64 400, .int .i64 40, .int .i64 40, .int .i64 30, .int .i64 30, .int .i64 9, .int .i64 10, .int .i64 0, .int .i64 0, .int .i64 0, .string (⟨#[]⟩ : ByteArray), .string (⟨#[]⟩ : ByteArray), .string (⟨#[]⟩ : ByteArray), .string (⟨#[]⟩ : ByteArray), .string (⟨#[]⟩ : ByteArray), .string (⟨#[]⟩ : ByteArray)]] w fun e w' => e = .returned (.int .i64 2) ∧ Below w.heap.size w w' := section_Check.calls 300 400 40 40 30 30 9 10 0 0 0 (⟨#[]⟩ : ByteArray) (⟨#[]⟩ : ByteArray) (⟨#[]⟩ : ByteArray) (⟨#[]⟩ : ByteArray) (⟨#[]⟩ : ByteArray) (⟨#[]⟩ : ByteArray) 2 w (by kernel_rfl)
theorem chk2_k (w : World) : Calls Try.prog 17 #[.agg #[.int .i64 60, .int .i64 400, .int .i64 40, .int .i64 40, .int .i64 30, .int .i64 30, .int .i64 1, .int .i64 10, .int .i64 0, .int .i64 0, .int .i64 0, .string (⟨#[]⟩ : ByteArray), .string (⟨#[]⟩ : ByteArray), .string (⟨#[]⟩ : ByteArray), .string (⟨#[]⟩ : ByteArray), .string (⟨#[]⟩ : ByteArray), .string (⟨#[]⟩ : ByteArray)]] w fun e w' => e = .returned (.int .i64 5) ∧ Below w.heap.size w w' := section_Check.calls 60 400 40 40 30 30 1 10 0 0 0 (⟨#[]⟩ : ByteArray) (⟨#[]⟩ : ByteArray) (⟨#[]⟩ : ByteArray) (⟨#[]⟩ : ByteArray) (⟨#[]⟩ : ByteArray) (⟨#[]⟩ : ByteArray) 5 w (by kernel_rfl)
theorem awake_k (w : World) : Calls Try.prog 25 #[] w fun e w' => e = .returned (.bool true) ∧ Below w.heap.size w w' := quirelaw05_awake.calls 20 true w awake_true
theorem rects1 {a b : List S38} (ha : [(⟨20, 40, 120, 320⟩ : S38), (⟨150, 40, 120, 320⟩ : S38)] = a) (hb : [(⟨20, 40, 120, 320⟩ : S38), (⟨150, 40, 120, 320⟩ : S38)] = b) : quirelaw05_rects.f 40 a b = some true := by subst ha; subst hb; kernel_rfl
theorem rects2 {a b : List S38} (ha : [(⟨30, 40, 120, 320⟩ : S38), (⟨160, 40, 120, 320⟩ : S38)] = a) (hb : [(⟨30, 40, 120, 320⟩ : S38), (⟨160, 40, 120, 320⟩ : S38)] = b) : quirelaw05_rects.f 40 a b = some true := by subst ha; subst hb; kernel_rfl

set_option maxRecDepth 100000 in
set_option maxHeartbeats 16000000 in
theorem known_calls (w : World) : Calls Try.prog 7 #[] w fun e w' => e = .returned (.bool true) ∧ Below w.heap.size w w' := by
  have hu24 := Try.underlying24
  have hu38 := Try.underlying38
  have B0 := Below.refl w.heap.size w
  go_enter Try.func7, Try.ntmps7
  go_upto_region 3 with (first | (go_at_call 19; refine (plain_k _).mono ?_; rintro e w1 ⟨rfl, bw1⟩) | ((with_reducible refine gate_dst (N := 1) rfl ?_); refine box_event ?hg (N := 1) ?hd (cs := #[.int .i64 0, .int .i64 0, .int .i64 0, .int .i64 0, .int .i64 0, .int .i64 0, .int .i64 0, .int .i64 0, .int .i64 0, .int .i64 0, .int .i64 0, .string (⟨#[]⟩ : ByteArray), .string (⟨#[]⟩ : ByteArray), .string (⟨#[]⟩ : ByteArray), .string (⟨#[]⟩ : ByteArray), .string (⟨#[]⟩ : ByteArray), .string (⟨#[]⟩ : ByteArray)]) (t := 24) ?hr ?_; (case hd => rfl); (case hg => rfl); (case hr => first | (go_simp; done) | (go_simp; rfl)); intro g1 hg1 w2 xw2 bw2; have Hg1 := Aside0.mk hg1; clear hg1) | ((with_reducible refine gate_store (t := 24) (p := 1) rfl ?_); refine store_event rfl 24 _ _ rfl g1 #[.int .i64 300, .int .i64 400, .int .i64 40, .int .i64 40, .int .i64 30, .int .i64 30, .int .i64 1, .int .i64 10, .int .i64 0, .int .i64 0, .int .i64 0, .string (⟨#[]⟩ : ByteArray), .string (⟨#[]⟩ : ByteArray), .string (⟨#[]⟩ : ByteArray), .string (⟨#[]⟩ : ByteArray), .string (⟨#[]⟩ : ByteArray), .string (⟨#[]⟩ : ByteArray)] rfl rfl 24 #[.int .i64 0, .int .i64 0, .int .i64 0, .int .i64 0, .int .i64 0, .int .i64 0, .int .i64 0, .int .i64 0, .int .i64 0, .int .i64 0, .int .i64 0, .string (⟨#[]⟩ : ByteArray), .string (⟨#[]⟩ : ByteArray), .string (⟨#[]⟩ : ByteArray), .string (⟨#[]⟩ : ByteArray), .string (⟨#[]⟩ : ByteArray), .string (⟨#[]⟩ : ByteArray)] xw2 (size24 _ rfl) rfl (by kernel_rfl) ?_; intro w3 xw3 ow3 sw3; obtain ⟨c0, c1, c2, c3, c4, c5, c6, c7, c8, c9, c10, c11, c12, c13, c14, c15, c16⟩ := cells24 xw3; obtain ⟨f0, f1, f2, f3, f4, f5, f6, f7, f8, f9, f10, f11, f12, f13, f14, f15, f16⟩ := frozen24 xw3))
  have le1 : w.heap.size ≤ g1 := by have := bw1.size; have := Hg1.out; omega
  have B3 := sw3 _ _ (below_step (below_step B0 bw1) bw2) le1
  refine settle (fun W' => W'.heap[g1]? = some (.cells #[.int .i64 300, .int .i64 400, .int .i64 40, .int .i64 40, .int .i64 20, .int .i64 30, .int .i64 2, .int .i64 10, .int .i64 0, .int .i64 0, .int .i64 1, .string (⟨#[]⟩ : ByteArray), .string (⟨#[]⟩ : ByteArray), .string (⟨#[]⟩ : ByteArray), .string (⟨#[]⟩ : ByteArray), .string (⟨#[]⟩ : ByteArray), .string (⟨#[]⟩ : ByteArray)] 24 (0, 0)) ∧ Below w.heap.size w W') ⟨(blk_put (cs' := #[.int .i64 300, .int .i64 400, .int .i64 40, .int .i64 40, .int .i64 20, .int .i64 30, .int .i64 2, .int .i64 10, .int .i64 0, .int .i64 0, .int .i64 1, .string (⟨#[]⟩ : ByteArray), .string (⟨#[]⟩ : ByteArray), .string (⟨#[]⟩ : ByteArray), .string (⟨#[]⟩ : ByteArray), .string (⟨#[]⟩ : ByteArray), .string (⟨#[]⟩ : ByteArray)]) (blk_put (cs' := #[.int .i64 300, .int .i64 400, .int .i64 40, .int .i64 40, .int .i64 20, .int .i64 30, .int .i64 2, .int .i64 10, .int .i64 0, .int .i64 0, .int .i64 0, .string (⟨#[]⟩ : ByteArray), .string (⟨#[]⟩ : ByteArray), .string (⟨#[]⟩ : ByteArray), .string (⟨#[]⟩ : ByteArray), .string (⟨#[]⟩ : ByteArray), .string (⟨#[]⟩ : ByteArray)]) (blk_put (cs' := #[.int .i64 300, .int .i64 400, .int .i64 40, .int .i64 40, .int .i64 30, .int .i64 30, .int .i64 2, .int .i64 10, .int .i64 0, .int .i64 0, .int .i64 0, .string (⟨#[]⟩ : ByteArray), .string (⟨#[]⟩ : ByteArray), .string (⟨#[]⟩ : ByteArray), .string (⟨#[]⟩ : ByteArray), .string (⟨#[]⟩ : ByteArray), .string (⟨#[]⟩ : ByteArray)]) xw3 6 _ rfl) 4 _ rfl) 10 _ rfl), (below_set (below_set (below_set B3 le1) le1) le1)⟩ ?_
  clear c0 c1 c2 c3 c4 c5 c6 c7 c8 c9 c10 c11 c12 c13 c14 c15 c16 f0 f1 f2 f3 f4 f5 f6 f7 f8 f9 f10 f11 f12 f13 f14 f15 f16 xw2 xw3 bw1 bw2 ow3 sw3 B3 Hg1 le1
  rintro w4 ⟨K4, B4⟩
  replace K4 := Aside0.mk K4
  replace B4 := Aside0.mk B4
  as_aux_lemma =>
  obtain ⟨c0, c1, c2, c3, c4, c5, c6, c7, c8, c9, c10, c11, c12, c13, c14, c15, c16⟩ := cells24 K4.out
  go_upto_region 4 with (first | ((with_reducible refine gate_dst (N := 34) rfl ?_); (try (refine gate_guard (by rfl) ?_; dsimp only)); refine wpList_load_row rfl 24 _ rfl g1 rfl 24 #[.int .i64 300, .int .i64 400, .int .i64 40, .int .i64 40, .int .i64 20, .int .i64 30, .int .i64 2, .int .i64 10, .int .i64 0, .int .i64 0, .int .i64 1, .string (⟨#[]⟩ : ByteArray), .string (⟨#[]⟩ : ByteArray), .string (⟨#[]⟩ : ByteArray), .string (⟨#[]⟩ : ByteArray), .string (⟨#[]⟩ : ByteArray), .string (⟨#[]⟩ : ByteArray)] (0, 0) _ K4.out hu24 rfl (size24 _ rfl) ?_) | (go_at_call 14; refine (cols1_k _).mono ?_; rintro e w5 ⟨va, rfl, QA, bw5⟩; replace QA := Aside0.mk QA))
  refine settle (fun W' => W'.heap[g1]? = some (.cells #[.int .i64 300, .int .i64 400, .int .i64 40, .int .i64 40, .int .i64 20, .int .i64 30, .int .i64 2, .int .i64 10, .int .i64 0, .int .i64 0, .int .i64 1, .string (⟨#[]⟩ : ByteArray), .string (⟨#[]⟩ : ByteArray), .string (⟨#[]⟩ : ByteArray), .string (⟨#[]⟩ : ByteArray), .string (⟨#[]⟩ : ByteArray), .string (⟨#[]⟩ : ByteArray)] 24 (0, 0)) ∧ Kd.R k38 38 W' w.heap.size (fun _ => True) va [(⟨20, 40, 120, 320⟩ : S38), (⟨150, 40, 120, 320⟩ : S38)] ∧ Below w.heap.size w W') ⟨blk_below K4.out bw5, Kd.R_lower QA.out B4.out.size, below_step B4.out bw5⟩ ?_
  clear c0 c1 c2 c3 c4 c5 c6 c7 c8 c9 c10 c11 c12 c13 c14 c15 c16 K4 QA bw5 B4
  rintro w6 ⟨K6, RA, B6⟩
  replace K6 := Aside0.mk K6
  replace RA := Aside0.mk RA
  replace B6 := Aside0.mk B6
  as_aux_lemma =>
  obtain ⟨c0, c1, c2, c3, c4, c5, c6, c7, c8, c9, c10, c11, c12, c13, c14, c15, c16⟩ := cells24 K6.out
  go_upto_region 5 with (first | ((with_reducible refine gate_dst (N := 39) rfl ?_); (try (refine gate_guard (by rfl) ?_; dsimp only)); refine wpList_load_row rfl 24 _ rfl g1 rfl 24 #[.int .i64 300, .int .i64 400, .int .i64 40, .int .i64 40, .int .i64 20, .int .i64 30, .int .i64 2, .int .i64 10, .int .i64 0, .int .i64 0, .int .i64 1, .string (⟨#[]⟩ : ByteArray), .string (⟨#[]⟩ : ByteArray), .string (⟨#[]⟩ : ByteArray), .string (⟨#[]⟩ : ByteArray), .string (⟨#[]⟩ : ByteArray), .string (⟨#[]⟩ : ByteArray)] (0, 0) _ K6.out hu24 rfl (size24 _ rfl) ?_) | (go_at_call 14; refine (cols2_k _).mono ?_; rintro e w7 ⟨vb, rfl, QB, bw7⟩; replace QB := Aside0.mk QB))
  refine settle (fun W' => Kd.R k38 38 W' w.heap.size (fun _ => True) va [(⟨20, 40, 120, 320⟩ : S38), (⟨150, 40, 120, 320⟩ : S38)] ∧ Kd.R k38 38 W' w.heap.size (fun _ => True) vb [(⟨30, 40, 120, 320⟩ : S38), (⟨160, 40, 120, 320⟩ : S38)] ∧ Below w.heap.size w W') ⟨Kd.R_below RA.out bw7, Kd.R_lower QB.out B6.out.size, below_step B6.out bw7⟩ ?_
  clear c0 c1 c2 c3 c4 c5 c6 c7 c8 c9 c10 c11 c12 c13 c14 c15 c16 K6 RA QB bw7 B6
  rintro w8 ⟨RA, RB, B8⟩
  replace RA := Aside0.mk RA
  replace RB := Aside0.mk RB
  replace B8 := Aside0.mk B8
  as_aux_lemma =>
  go_upto_region 6 with (first | (go_at_call 19; refine (plain_k _).mono ?_; rintro e w9 ⟨rfl, bw9⟩) | (go_at_call 15; refine (head_k _).mono ?_; rintro e w10 ⟨rfl, bw10⟩) | ((with_reducible refine gate_dst (N := 6) rfl ?_); refine box_event ?hg (N := 6) ?hd (cs := #[.int .i64 0, .int .i64 0, .int .i64 0, .int .i64 0]) (t := 38) ?hr ?_; (case hd => rfl); (case hg => rfl); (case hr => first | (go_simp; done) | (go_simp; rfl)); intro g6 hg6 w11 xw11 bw11; have Hg6 := Aside0.mk hg6; clear hg6) | ((with_reducible refine gate_store (t := 38) (p := 6) rfl ?_); refine store_event rfl 38 _ _ rfl g6 #[.int .i64 30, .int .i64 20, .int .i64 240, .int .i64 20] rfl rfl 38 #[.int .i64 0, .int .i64 0, .int .i64 0, .int .i64 0] xw11 (size38 _ rfl) rfl (by kernel_rfl) ?_; intro w12 xw12 ow12 sw12))
  have N := sw12 _ _ (below_step (below_step bw9 bw10) bw11) (by have := bw9.size; have := bw10.size; have := Hg6.out; omega)
  refine settle (fun W' => Kd.R k38 38 W' w.heap.size (fun _ => True) va [(⟨20, 40, 120, 320⟩ : S38), (⟨150, 40, 120, 320⟩ : S38)] ∧ Kd.R k38 38 W' w.heap.size (fun _ => True) vb [(⟨30, 40, 120, 320⟩ : S38), (⟨160, 40, 120, 320⟩ : S38)] ∧ W'.heap[g6]? = some (.cells #[.int .i64 30, .int .i64 20, .int .i64 240, .int .i64 20] 38 (0, 0)) ∧ Below w.heap.size w W') ⟨Kd.R_below RA.out N, Kd.R_below RB.out N, xw12, below_step B8.out N⟩ ?_
  clear RA RB N B8 bw9 bw10 bw11 xw11 xw12 ow12 sw12 Hg6
  rintro w13 ⟨RA, RB, K6, B13⟩
  replace RA := Aside0.mk RA
  replace RB := Aside0.mk RB
  replace K6 := Aside0.mk K6
  replace B13 := Aside0.mk B13
  as_aux_lemma =>
  go_upto_region 7 with (first | (go_at_call 19; refine (plain_k _).mono ?_; rintro e w14 ⟨rfl, bw14⟩) | (go_at_call 16; refine (foot_k _).mono ?_; rintro e w15 ⟨rfl, bw15⟩) | ((with_reducible refine gate_dst (N := 8) rfl ?_); refine box_event ?hg (N := 8) ?hd (cs := #[.int .i64 0, .int .i64 0, .int .i64 0, .int .i64 0]) (t := 38) ?hr ?_; (case hd => rfl); (case hg => rfl); (case hr => first | (go_simp; done) | (go_simp; rfl)); intro g8 hg8 w16 xw16 bw16; have Hg8 := Aside0.mk hg8; clear hg8) | ((with_reducible refine gate_store (t := 38) (p := 8) rfl ?_); refine store_event rfl 38 _ _ rfl g8 #[.int .i64 30, .int .i64 360, .int .i64 240, .int .i64 20] rfl rfl 38 #[.int .i64 0, .int .i64 0, .int .i64 0, .int .i64 0] xw16 (size38 _ rfl) rfl (by kernel_rfl) ?_; intro w17 xw17 ow17 sw17))
  have N := sw17 _ _ (below_step (below_step bw14 bw15) bw16) (by have := bw14.size; have := bw15.size; have := Hg8.out; omega)
  refine settle (fun W' => Kd.R k38 38 W' w.heap.size (fun _ => True) va [(⟨20, 40, 120, 320⟩ : S38), (⟨150, 40, 120, 320⟩ : S38)] ∧ Kd.R k38 38 W' w.heap.size (fun _ => True) vb [(⟨30, 40, 120, 320⟩ : S38), (⟨160, 40, 120, 320⟩ : S38)] ∧ W'.heap[g6]? = some (.cells #[.int .i64 30, .int .i64 20, .int .i64 240, .int .i64 20] 38 (0, 0)) ∧ W'.heap[g8]? = some (.cells #[.int .i64 30, .int .i64 360, .int .i64 240, .int .i64 20] 38 (0, 0)) ∧ Below w.heap.size w W') ⟨Kd.R_below RA.out N, Kd.R_below RB.out N, blk_below K6.out N, xw17, below_step B13.out N⟩ ?_
  clear RA RB K6 N B13 bw14 bw15 bw16 xw16 xw17 ow17 sw17 Hg8
  rintro w18 ⟨RA, RB, K6, K8, B18⟩
  replace RA := Aside0.mk RA
  replace RB := Aside0.mk RB
  replace K6 := Aside0.mk K6
  replace K8 := Aside0.mk K8
  replace B18 := Aside0.mk B18
  as_aux_lemma =>
  obtain ⟨la, hla⟩ : ∃ l : List S38, [(⟨20, 40, 120, 320⟩ : S38), (⟨150, 40, 120, 320⟩ : S38)] = l := ⟨_, rfl⟩
  obtain ⟨lb, hlb⟩ : ∃ l : List S38, [(⟨30, 40, 120, 320⟩ : S38), (⟨160, 40, 120, 320⟩ : S38)] = l := ⟨_, rfl⟩
  obtain ⟨ya, hya⟩ : ∃ l : List S38, [(⟨20, 40, 120, 320⟩ : S38), (⟨150, 40, 120, 320⟩ : S38)] = l := ⟨_, rfl⟩
  obtain ⟨yb, hyb⟩ : ∃ l : List S38, [(⟨30, 40, 120, 320⟩ : S38), (⟨160, 40, 120, 320⟩ : S38)] = l := ⟨_, rfl⟩
  replace RA := Aside0.mk (show Kd.R k38 38 w18 w.heap.size (fun _ => True) va la by rw [← hla]; exact RA.out)
  replace RB := Aside0.mk (show Kd.R k38 38 w18 w.heap.size (fun _ => True) vb lb by rw [← hlb]; exact RB.out)
  have r1 := rects1 hla hya
  have r2 := rects2 hlb hyb
  replace hla := Aside0.mk hla
  replace hlb := Aside0.mk hlb
  replace hya := Aside0.mk hya
  replace hyb := Aside0.mk hyb
  replace r1 := Aside0.mk r1
  replace r2 := Aside0.mk r2
  obtain ⟨A1, c1, e1⟩ := Kd.R_slice RA.out
  subst e1
  obtain ⟨A2, c2, e2⟩ := Kd.R_slice RB.out
  subst e2
  go_upto_region 8 with (first | ((with_reducible refine gate_dst (N := 56) rfl ?_); (try (refine gate_guard (by rfl) ?_; dsimp only)); refine Kd.R_lit k38 _ 38 ?hg (N := 56) ?hd (xs := ([(⟨20, 40, 120, 320⟩ : S38), (⟨150, 40, 120, 320⟩ : S38)] : List (S38))) (inner := [.int .i64 20, .int .i64 40, .int .i64 120, .int .i64 320, .int .i64 150, .int .i64 40, .int .i64 120, .int .i64 320]) (ok := fun _ => True) (okp := fun _ => True) ?hr ?hp (fun _ hk => hk) trivial (Below.refl _ _) (Nat.le_refl _) (by simp) ?_; (case hd => rfl); (case hg => rfl); (case hr => exact lit2_run _ _ _ _ _ _ _ _ _ _ _ _ _ rfl rfl rfl); (case hp => exact (Reps.c4 (show Kd.M k38 _ _ _ (⟨20, 40, 120, 320⟩ : S38) [.int .i64 20, .int .i64 40, .int .i64 120, .int .i64 320] from (k38_mkM _ _ _ (⟨20, 40, 120, 320⟩ : S38))) (Reps.c4 (show Kd.M k38 _ _ _ (⟨150, 40, 120, 320⟩ : S38) [.int .i64 150, .int .i64 40, .int .i64 120, .int .i64 320] from (k38_mkM _ _ _ (⟨150, 40, 120, 320⟩ : S38))) (Reps.none _ _)))); intro vl1 w19 hw19 bw19 hg_ hnew_; clear hg_ hnew_; rw [hya.out] at hw19; obtain ⟨Aw19, cw19, ew19⟩ := Kd.R_slice hw19; subst ew19; replace hw19 := Aside0.mk hw19))
  refine (quirelaw05_rects.calls 40 _ _ la _ _ ya true _ ?s1 ?s2 ?s3 ?s4 r1.out).mono ?_; (case s1 => exact (Kd.R_reads' (Kd.R_below RA.out bw19)).2.2); (case s2 => exact (Kd.R_reads' (Kd.R_below RA.out bw19)).2.1); (case s3 => exact (Kd.R_reads' hw19.out).2.2); (case s4 => exact (Kd.R_reads' hw19.out).2.1); rintro e w20 ⟨rfl, dw20⟩
  go_upto_region 8 with (first | ((with_reducible refine gate_dst (N := 62) rfl ?_); (try (refine gate_guard (by rfl) ?_; dsimp only)); refine Kd.R_lit k38 _ 38 ?hg (N := 62) ?hd (xs := ([(⟨30, 40, 120, 320⟩ : S38), (⟨160, 40, 120, 320⟩ : S38)] : List (S38))) (inner := [.int .i64 30, .int .i64 40, .int .i64 120, .int .i64 320, .int .i64 160, .int .i64 40, .int .i64 120, .int .i64 320]) (ok := fun _ => True) (okp := fun _ => True) ?hr ?hp (fun _ hk => hk) trivial (Below.refl _ _) (Nat.le_refl _) (by simp) ?_; (case hd => rfl); (case hg => rfl); (case hr => exact lit2_run _ _ _ _ _ _ _ _ _ _ _ _ _ rfl rfl rfl); (case hp => exact (Reps.c4 (show Kd.M k38 _ _ _ (⟨30, 40, 120, 320⟩ : S38) [.int .i64 30, .int .i64 40, .int .i64 120, .int .i64 320] from (k38_mkM _ _ _ (⟨30, 40, 120, 320⟩ : S38))) (Reps.c4 (show Kd.M k38 _ _ _ (⟨160, 40, 120, 320⟩ : S38) [.int .i64 160, .int .i64 40, .int .i64 120, .int .i64 320] from (k38_mkM _ _ _ (⟨160, 40, 120, 320⟩ : S38))) (Reps.none _ _)))); intro vl2 w21 hw21 bw21 hg_ hnew_; clear hg_ hnew_; rw [hyb.out] at hw21; obtain ⟨Aw21, cw21, ew21⟩ := Kd.R_slice hw21; subst ew21; replace hw21 := Aside0.mk hw21))
  refine (quirelaw05_rects.calls 40 _ _ lb _ _ yb true _ ?s1 ?s2 ?s3 ?s4 r2.out).mono ?_; (case s1 => exact (Kd.R_reads' (Kd.R_below (Kd.R_below (Kd.R_below RB.out bw19) (drawn_below dw20)) bw21)).2.2); (case s2 => exact (Kd.R_reads' (Kd.R_below (Kd.R_below (Kd.R_below RB.out bw19) (drawn_below dw20)) bw21)).2.1); (case s3 => exact (Kd.R_reads' hw21.out).2.2); (case s4 => exact (Kd.R_reads' hw21.out).2.1); rintro e w22 ⟨rfl, dw22⟩
  go_upto_region 8 with fail
  have N := below_step (below_step (below_step bw19 (drawn_below dw20)) bw21) (drawn_below dw22)
  refine settle (fun W' => W'.heap[g6]? = some (.cells #[.int .i64 30, .int .i64 20, .int .i64 240, .int .i64 20] 38 (0, 0)) ∧ W'.heap[g8]? = some (.cells #[.int .i64 30, .int .i64 360, .int .i64 240, .int .i64 20] 38 (0, 0)) ∧ Below w.heap.size w W') ⟨blk_below K6.out N, blk_below K8.out N, below_step B18.out N⟩ ?_
  clear RA RB K6 K8 N B18 bw19 bw21 dw20 dw22 hw19 hw21 r1 r2 hla hlb hya hyb
  rintro w23 ⟨K6, K8, B23⟩
  replace K6 := Aside0.mk K6
  replace K8 := Aside0.mk K8
  replace B23 := Aside0.mk B23
  as_aux_lemma =>
  go_upto_region 10 with (first | (go_at_call 19; refine (plain_k _).mono ?_; rintro e w24 ⟨rfl, bw24⟩) | ((with_reducible refine gate_dst (N := 11) rfl ?_); refine box_event ?hg (N := 11) ?hd (cs := #[.int .i64 0, .int .i64 0, .int .i64 0, .int .i64 0, .int .i64 0, .int .i64 0, .int .i64 0, .int .i64 0, .int .i64 0, .int .i64 0, .int .i64 0, .string (⟨#[]⟩ : ByteArray), .string (⟨#[]⟩ : ByteArray), .string (⟨#[]⟩ : ByteArray), .string (⟨#[]⟩ : ByteArray), .string (⟨#[]⟩ : ByteArray), .string (⟨#[]⟩ : ByteArray)]) (t := 24) ?hr ?_; (case hd => rfl); (case hg => rfl); (case hr => first | (go_simp; done) | (go_simp; rfl)); intro g11 hg11 w25 xw25 bw25; have Hg11 := Aside0.mk hg11; clear hg11) | ((with_reducible refine gate_store (t := 24) (p := 11) rfl ?_); refine store_event rfl 24 _ _ rfl g11 #[.int .i64 300, .int .i64 400, .int .i64 40, .int .i64 40, .int .i64 30, .int .i64 30, .int .i64 1, .int .i64 10, .int .i64 0, .int .i64 0, .int .i64 0, .string (⟨#[]⟩ : ByteArray), .string (⟨#[]⟩ : ByteArray), .string (⟨#[]⟩ : ByteArray), .string (⟨#[]⟩ : ByteArray), .string (⟨#[]⟩ : ByteArray), .string (⟨#[]⟩ : ByteArray)] rfl rfl 24 #[.int .i64 0, .int .i64 0, .int .i64 0, .int .i64 0, .int .i64 0, .int .i64 0, .int .i64 0, .int .i64 0, .int .i64 0, .int .i64 0, .int .i64 0, .string (⟨#[]⟩ : ByteArray), .string (⟨#[]⟩ : ByteArray), .string (⟨#[]⟩ : ByteArray), .string (⟨#[]⟩ : ByteArray), .string (⟨#[]⟩ : ByteArray), .string (⟨#[]⟩ : ByteArray)] xw25 (size24 _ rfl) rfl (by kernel_rfl) ?_; intro w26 xw26 ow26 sw26; obtain ⟨c0, c1, c2, c3, c4, c5, c6, c7, c8, c9, c10, c11, c12, c13, c14, c15, c16⟩ := cells24 xw26; obtain ⟨f0, f1, f2, f3, f4, f5, f6, f7, f8, f9, f10, f11, f12, f13, f14, f15, f16⟩ := frozen24 xw26))
  have lg : w23.heap.size ≤ g11 := by have := bw24.size; have := Hg11.out; omega
  have N := sw26 _ _ (below_step bw24 bw25) lg
  have N2 := (below_set (j := 8) (v := .int .i64 1) N lg)
  refine settle (fun W' => W'.heap[g6]? = some (.cells #[.int .i64 30, .int .i64 20, .int .i64 240, .int .i64 20] 38 (0, 0)) ∧ W'.heap[g8]? = some (.cells #[.int .i64 30, .int .i64 360, .int .i64 240, .int .i64 20] 38 (0, 0)) ∧ W'.heap[g11]? = some (.cells #[.int .i64 300, .int .i64 400, .int .i64 40, .int .i64 40, .int .i64 30, .int .i64 30, .int .i64 1, .int .i64 10, .int .i64 1, .int .i64 0, .int .i64 0, .string (⟨#[]⟩ : ByteArray), .string (⟨#[]⟩ : ByteArray), .string (⟨#[]⟩ : ByteArray), .string (⟨#[]⟩ : ByteArray), .string (⟨#[]⟩ : ByteArray), .string (⟨#[]⟩ : ByteArray)] 24 (0, 0)) ∧ Below w.heap.size w W') ⟨blk_below K6.out N2, blk_below K8.out N2, (blk_put (cs' := #[.int .i64 300, .int .i64 400, .int .i64 40, .int .i64 40, .int .i64 30, .int .i64 30, .int .i64 1, .int .i64 10, .int .i64 1, .int .i64 0, .int .i64 0, .string (⟨#[]⟩ : ByteArray), .string (⟨#[]⟩ : ByteArray), .string (⟨#[]⟩ : ByteArray), .string (⟨#[]⟩ : ByteArray), .string (⟨#[]⟩ : ByteArray), .string (⟨#[]⟩ : ByteArray)]) xw26 8 _ rfl), below_step B23.out N2⟩ ?_
  clear c0 c1 c2 c3 c4 c5 c6 c7 c8 c9 c10 c11 c12 c13 c14 c15 c16 f0 f1 f2 f3 f4 f5 f6 f7 f8 f9 f10 f11 f12 f13 f14 f15 f16 xw25 xw26 bw24 bw25 ow26 sw26 N N2 Hg11 lg K6 K8 B23
  rintro w27 ⟨K6, K8, KO, B27⟩
  replace K6 := Aside0.mk K6
  replace K8 := Aside0.mk K8
  replace KO := Aside0.mk KO
  replace B27 := Aside0.mk B27
  as_aux_lemma =>
  obtain ⟨c0, c1, c2, c3, c4, c5, c6, c7, c8, c9, c10, c11, c12, c13, c14, c15, c16⟩ := cells24 KO.out
  go_upto_region 11 with (first | (go_at_call 19; refine (plain_k _).mono ?_; rintro e w28 ⟨rfl, bw28⟩) | (go_at_call 9; refine (begin1_k _).mono ?_; rintro e w29 ⟨rfl, bw29⟩))
  have N := below_step bw28 bw29
  refine settle (fun W' => W'.heap[g6]? = some (.cells #[.int .i64 30, .int .i64 20, .int .i64 240, .int .i64 20] 38 (0, 0)) ∧ W'.heap[g8]? = some (.cells #[.int .i64 30, .int .i64 360, .int .i64 240, .int .i64 20] 38 (0, 0)) ∧ W'.heap[g11]? = some (.cells #[.int .i64 300, .int .i64 400, .int .i64 40, .int .i64 40, .int .i64 30, .int .i64 30, .int .i64 1, .int .i64 10, .int .i64 1, .int .i64 0, .int .i64 0, .string (⟨#[]⟩ : ByteArray), .string (⟨#[]⟩ : ByteArray), .string (⟨#[]⟩ : ByteArray), .string (⟨#[]⟩ : ByteArray), .string (⟨#[]⟩ : ByteArray), .string (⟨#[]⟩ : ByteArray)] 24 (0, 0)) ∧ Below w.heap.size w W') ⟨blk_below K6.out N, blk_below K8.out N, blk_below KO.out N, below_step B27.out N⟩ ?_
  clear c0 c1 c2 c3 c4 c5 c6 c7 c8 c9 c10 c11 c12 c13 c14 c15 c16 K6 K8 KO N B27 bw28 bw29
  rintro w30 ⟨K6, K8, KO, B30⟩
  replace K6 := Aside0.mk K6
  replace K8 := Aside0.mk K8
  replace KO := Aside0.mk KO
  replace B30 := Aside0.mk B30
  as_aux_lemma =>
  obtain ⟨c0, c1, c2, c3, c4, c5, c6, c7, c8, c9, c10, c11, c12, c13, c14, c15, c16⟩ := cells24 KO.out
  go_upto_region 12 with (first | ((with_reducible refine gate_dst (N := 73) rfl ?_); (try (refine gate_guard (by rfl) ?_; dsimp only)); refine wpList_load_row rfl 24 _ rfl g11 rfl 24 #[.int .i64 300, .int .i64 400, .int .i64 40, .int .i64 40, .int .i64 30, .int .i64 30, .int .i64 1, .int .i64 10, .int .i64 1, .int .i64 0, .int .i64 0, .string (⟨#[]⟩ : ByteArray), .string (⟨#[]⟩ : ByteArray), .string (⟨#[]⟩ : ByteArray), .string (⟨#[]⟩ : ByteArray), .string (⟨#[]⟩ : ByteArray), .string (⟨#[]⟩ : ByteArray)] (0, 0) _ KO.out hu24 rfl (size24 _ rfl) ?_) | (go_at_call 9; refine (begin2_k _).mono ?_; rintro e w31 ⟨rfl, bw31⟩))
  refine settle (fun W' => W'.heap[g6]? = some (.cells #[.int .i64 30, .int .i64 20, .int .i64 240, .int .i64 20] 38 (0, 0)) ∧ W'.heap[g8]? = some (.cells #[.int .i64 30, .int .i64 360, .int .i64 240, .int .i64 20] 38 (0, 0)) ∧ W'.heap[g11]? = some (.cells #[.int .i64 300, .int .i64 400, .int .i64 40, .int .i64 40, .int .i64 30, .int .i64 30, .int .i64 1, .int .i64 10, .int .i64 1, .int .i64 0, .int .i64 0, .string (⟨#[]⟩ : ByteArray), .string (⟨#[]⟩ : ByteArray), .string (⟨#[]⟩ : ByteArray), .string (⟨#[]⟩ : ByteArray), .string (⟨#[]⟩ : ByteArray), .string (⟨#[]⟩ : ByteArray)] 24 (0, 0)) ∧ Below w.heap.size w W') ⟨blk_below K6.out bw31, blk_below K8.out bw31, blk_below KO.out bw31, below_step B30.out bw31⟩ ?_
  clear c0 c1 c2 c3 c4 c5 c6 c7 c8 c9 c10 c11 c12 c13 c14 c15 c16 K6 K8 KO B30 bw31
  rintro w32 ⟨K6, K8, KO, B32⟩
  replace K6 := Aside0.mk K6
  replace K8 := Aside0.mk K8
  replace KO := Aside0.mk KO
  replace B32 := Aside0.mk B32
  as_aux_lemma =>
  obtain ⟨c0, c1, c2, c3, c4, c5, c6, c7, c8, c9, c10, c11, c12, c13, c14, c15, c16⟩ := cells24 KO.out
  go_upto_region 13 with (first | ((with_reducible refine gate_dst (N := 78) rfl ?_); (try (refine gate_guard (by rfl) ?_; dsimp only)); refine wpList_load_row rfl 24 _ rfl g11 rfl 24 #[.int .i64 300, .int .i64 400, .int .i64 40, .int .i64 40, .int .i64 30, .int .i64 30, .int .i64 1, .int .i64 10, .int .i64 1, .int .i64 0, .int .i64 0, .string (⟨#[]⟩ : ByteArray), .string (⟨#[]⟩ : ByteArray), .string (⟨#[]⟩ : ByteArray), .string (⟨#[]⟩ : ByteArray), .string (⟨#[]⟩ : ByteArray), .string (⟨#[]⟩ : ByteArray)] (0, 0) _ KO.out hu24 rfl (size24 _ rfl) ?_) | (go_at_call 9; refine (begin3_k _).mono ?_; rintro e w33 ⟨rfl, bw33⟩))
  refine settle (fun W' => W'.heap[g6]? = some (.cells #[.int .i64 30, .int .i64 20, .int .i64 240, .int .i64 20] 38 (0, 0)) ∧ W'.heap[g8]? = some (.cells #[.int .i64 30, .int .i64 360, .int .i64 240, .int .i64 20] 38 (0, 0)) ∧ Below w.heap.size w W') ⟨blk_below K6.out bw33, blk_below K8.out bw33, below_step B32.out bw33⟩ ?_
  clear c0 c1 c2 c3 c4 c5 c6 c7 c8 c9 c10 c11 c12 c13 c14 c15 c16 K6 K8 KO B32 bw33
  rintro w34 ⟨K6, K8, B34⟩
  replace K6 := Aside0.mk K6
  replace K8 := Aside0.mk K8
  replace B34 := Aside0.mk B34
  as_aux_lemma =>
  go_upto_region 15 with (first | (go_at_call 19; refine (plain_k _).mono ?_; rintro e w35 ⟨rfl, bw35⟩) | ((with_reducible refine gate_dst (N := 18) rfl ?_); refine box_event ?hg (N := 18) ?hd (cs := #[.int .i64 0, .int .i64 0, .int .i64 0, .int .i64 0, .int .i64 0, .int .i64 0, .int .i64 0, .int .i64 0, .int .i64 0, .int .i64 0, .int .i64 0, .string (⟨#[]⟩ : ByteArray), .string (⟨#[]⟩ : ByteArray), .string (⟨#[]⟩ : ByteArray), .string (⟨#[]⟩ : ByteArray), .string (⟨#[]⟩ : ByteArray), .string (⟨#[]⟩ : ByteArray)]) (t := 24) ?hr ?_; (case hd => rfl); (case hg => rfl); (case hr => first | (go_simp; done) | (go_simp; rfl)); intro g18 hg18 w36 xw36 bw36; have Hg18 := Aside0.mk hg18; clear hg18) | ((with_reducible refine gate_store (t := 24) (p := 18) rfl ?_); refine store_event rfl 24 _ _ rfl g18 #[.int .i64 300, .int .i64 400, .int .i64 40, .int .i64 40, .int .i64 30, .int .i64 30, .int .i64 1, .int .i64 10, .int .i64 0, .int .i64 0, .int .i64 0, .string (⟨#[]⟩ : ByteArray), .string (⟨#[]⟩ : ByteArray), .string (⟨#[]⟩ : ByteArray), .string (⟨#[]⟩ : ByteArray), .string (⟨#[]⟩ : ByteArray), .string (⟨#[]⟩ : ByteArray)] rfl rfl 24 #[.int .i64 0, .int .i64 0, .int .i64 0, .int .i64 0, .int .i64 0, .int .i64 0, .int .i64 0, .int .i64 0, .int .i64 0, .int .i64 0, .int .i64 0, .string (⟨#[]⟩ : ByteArray), .string (⟨#[]⟩ : ByteArray), .string (⟨#[]⟩ : ByteArray), .string (⟨#[]⟩ : ByteArray), .string (⟨#[]⟩ : ByteArray), .string (⟨#[]⟩ : ByteArray)] xw36 (size24 _ rfl) rfl (by kernel_rfl) ?_; intro w37 xw37 ow37 sw37; obtain ⟨c0, c1, c2, c3, c4, c5, c6, c7, c8, c9, c10, c11, c12, c13, c14, c15, c16⟩ := cells24 xw37; obtain ⟨f0, f1, f2, f3, f4, f5, f6, f7, f8, f9, f10, f11, f12, f13, f14, f15, f16⟩ := frozen24 xw37))
  have lg : w34.heap.size ≤ g18 := by have := bw35.size; have := Hg18.out; omega
  have N := sw37 _ _ (below_step bw35 bw36) lg
  have N2 := (below_set (j := 11) (v := .string (⟨#[120]⟩ : ByteArray)) N lg)
  refine settle (fun W' => W'.heap[g6]? = some (.cells #[.int .i64 30, .int .i64 20, .int .i64 240, .int .i64 20] 38 (0, 0)) ∧ W'.heap[g8]? = some (.cells #[.int .i64 30, .int .i64 360, .int .i64 240, .int .i64 20] 38 (0, 0)) ∧ W'.heap[g18]? = some (.cells #[.int .i64 300, .int .i64 400, .int .i64 40, .int .i64 40, .int .i64 30, .int .i64 30, .int .i64 1, .int .i64 10, .int .i64 0, .int .i64 0, .int .i64 0, .string (⟨#[120]⟩ : ByteArray), .string (⟨#[]⟩ : ByteArray), .string (⟨#[]⟩ : ByteArray), .string (⟨#[]⟩ : ByteArray), .string (⟨#[]⟩ : ByteArray), .string (⟨#[]⟩ : ByteArray)] 24 (0, 0)) ∧ Below w.heap.size w W') ⟨blk_below K6.out N2, blk_below K8.out N2, (blk_put (cs' := #[.int .i64 300, .int .i64 400, .int .i64 40, .int .i64 40, .int .i64 30, .int .i64 30, .int .i64 1, .int .i64 10, .int .i64 0, .int .i64 0, .int .i64 0, .string (⟨#[120]⟩ : ByteArray), .string (⟨#[]⟩ : ByteArray), .string (⟨#[]⟩ : ByteArray), .string (⟨#[]⟩ : ByteArray), .string (⟨#[]⟩ : ByteArray), .string (⟨#[]⟩ : ByteArray)]) xw37 11 _ rfl), below_step B34.out N2⟩ ?_
  clear c0 c1 c2 c3 c4 c5 c6 c7 c8 c9 c10 c11 c12 c13 c14 c15 c16 f0 f1 f2 f3 f4 f5 f6 f7 f8 f9 f10 f11 f12 f13 f14 f15 f16 xw36 xw37 bw35 bw36 ow37 sw37 N N2 Hg18 lg K6 K8 B34
  rintro w38 ⟨K6, K8, KW, B38⟩
  replace K6 := Aside0.mk K6
  replace K8 := Aside0.mk K8
  replace KW := Aside0.mk KW
  replace B38 := Aside0.mk B38
  as_aux_lemma =>
  go_upto_region 16 with (first | (go_at_call 19; refine (plain_k _).mono ?_; rintro e w39 ⟨rfl, bw39⟩) | (go_at_call 10; refine (var1_k _).mono ?_; rintro e w40 ⟨rfl, bw40⟩))
  have N := below_step bw39 bw40
  refine settle (fun W' => W'.heap[g6]? = some (.cells #[.int .i64 30, .int .i64 20, .int .i64 240, .int .i64 20] 38 (0, 0)) ∧ W'.heap[g8]? = some (.cells #[.int .i64 30, .int .i64 360, .int .i64 240, .int .i64 20] 38 (0, 0)) ∧ W'.heap[g18]? = some (.cells #[.int .i64 300, .int .i64 400, .int .i64 40, .int .i64 40, .int .i64 30, .int .i64 30, .int .i64 1, .int .i64 10, .int .i64 0, .int .i64 0, .int .i64 0, .string (⟨#[120]⟩ : ByteArray), .string (⟨#[]⟩ : ByteArray), .string (⟨#[]⟩ : ByteArray), .string (⟨#[]⟩ : ByteArray), .string (⟨#[]⟩ : ByteArray), .string (⟨#[]⟩ : ByteArray)] 24 (0, 0)) ∧ Below w.heap.size w W') ⟨blk_below K6.out N, blk_below K8.out N, blk_below KW.out N, below_step B38.out N⟩ ?_
  clear K6 K8 KW N B38 bw39 bw40
  rintro w41 ⟨K6, K8, KW, B41⟩
  replace K6 := Aside0.mk K6
  replace K8 := Aside0.mk K8
  replace KW := Aside0.mk KW
  replace B41 := Aside0.mk B41
  as_aux_lemma =>
  obtain ⟨c0, c1, c2, c3, c4, c5, c6, c7, c8, c9, c10, c11, c12, c13, c14, c15, c16⟩ := cells24 KW.out
  go_upto_region 17 with (first | ((with_reducible refine gate_dst (N := 91) rfl ?_); (try (refine gate_guard (by rfl) ?_; dsimp only)); refine wpList_load_row rfl 24 _ rfl g18 rfl 24 #[.int .i64 300, .int .i64 400, .int .i64 40, .int .i64 40, .int .i64 30, .int .i64 30, .int .i64 1, .int .i64 10, .int .i64 0, .int .i64 0, .int .i64 0, .string (⟨#[120]⟩ : ByteArray), .string (⟨#[]⟩ : ByteArray), .string (⟨#[]⟩ : ByteArray), .string (⟨#[]⟩ : ByteArray), .string (⟨#[]⟩ : ByteArray), .string (⟨#[]⟩ : ByteArray)] (0, 0) _ KW.out hu24 rfl (size24 _ rfl) ?_) | (go_at_call 10; refine (var2_k _).mono ?_; rintro e w42 ⟨rfl, bw42⟩))
  refine settle (fun W' => W'.heap[g6]? = some (.cells #[.int .i64 30, .int .i64 20, .int .i64 240, .int .i64 20] 38 (0, 0)) ∧ W'.heap[g8]? = some (.cells #[.int .i64 30, .int .i64 360, .int .i64 240, .int .i64 20] 38 (0, 0)) ∧ W'.heap[g18]? = some (.cells #[.int .i64 300, .int .i64 400, .int .i64 40, .int .i64 40, .int .i64 30, .int .i64 30, .int .i64 1, .int .i64 10, .int .i64 0, .int .i64 0, .int .i64 0, .string (⟨#[120]⟩ : ByteArray), .string (⟨#[]⟩ : ByteArray), .string (⟨#[]⟩ : ByteArray), .string (⟨#[]⟩ : ByteArray), .string (⟨#[]⟩ : ByteArray), .string (⟨#[]⟩ : ByteArray)] 24 (0, 0)) ∧ Below w.heap.size w W') ⟨blk_below K6.out bw42, blk_below K8.out bw42, blk_below KW.out bw42, below_step B41.out bw42⟩ ?_
  clear c0 c1 c2 c3 c4 c5 c6 c7 c8 c9 c10 c11 c12 c13 c14 c15 c16 K6 K8 KW B41 bw42
  rintro w43 ⟨K6, K8, KW, B43⟩
  replace K6 := Aside0.mk K6
  replace K8 := Aside0.mk K8
  replace KW := Aside0.mk KW
  replace B43 := Aside0.mk B43
  as_aux_lemma =>
  obtain ⟨c0, c1, c2, c3, c4, c5, c6, c7, c8, c9, c10, c11, c12, c13, c14, c15, c16⟩ := cells24 KW.out
  go_upto_region 18 with (first | ((with_reducible refine gate_dst (N := 96) rfl ?_); (try (refine gate_guard (by rfl) ?_; dsimp only)); refine wpList_load_row rfl 24 _ rfl g18 rfl 24 #[.int .i64 300, .int .i64 400, .int .i64 40, .int .i64 40, .int .i64 30, .int .i64 30, .int .i64 1, .int .i64 10, .int .i64 0, .int .i64 0, .int .i64 0, .string (⟨#[120]⟩ : ByteArray), .string (⟨#[]⟩ : ByteArray), .string (⟨#[]⟩ : ByteArray), .string (⟨#[]⟩ : ByteArray), .string (⟨#[]⟩ : ByteArray), .string (⟨#[]⟩ : ByteArray)] (0, 0) _ KW.out hu24 rfl (size24 _ rfl) ?_) | (go_at_call 10; refine (var3_k _).mono ?_; rintro e w44 ⟨rfl, bw44⟩))
  refine settle (fun W' => W'.heap[g6]? = some (.cells #[.int .i64 30, .int .i64 20, .int .i64 240, .int .i64 20] 38 (0, 0)) ∧ W'.heap[g8]? = some (.cells #[.int .i64 30, .int .i64 360, .int .i64 240, .int .i64 20] 38 (0, 0)) ∧ Below w.heap.size w W') ⟨blk_below K6.out bw44, blk_below K8.out bw44, below_step B43.out bw44⟩ ?_
  clear c0 c1 c2 c3 c4 c5 c6 c7 c8 c9 c10 c11 c12 c13 c14 c15 c16 K6 K8 KW B43 bw44
  rintro w45 ⟨K6, K8, B45⟩
  replace K6 := Aside0.mk K6
  replace K8 := Aside0.mk K8
  replace B45 := Aside0.mk B45
  as_aux_lemma =>
  go_upto_region 19 with (first | (go_at_call 19; refine (plain_k _).mono ?_; rintro e w46 ⟨rfl, bw46⟩) | (go_at_call 14; refine (cols3_k _).mono ?_; rintro e w47 ⟨vc, rfl, QC, bw47⟩; clear QC))
  have N := below_step bw46 bw47
  refine settle (fun W' => W'.heap[g6]? = some (.cells #[.int .i64 30, .int .i64 20, .int .i64 240, .int .i64 20] 38 (0, 0)) ∧ W'.heap[g8]? = some (.cells #[.int .i64 30, .int .i64 360, .int .i64 240, .int .i64 20] 38 (0, 0)) ∧ Below w.heap.size w W') ⟨blk_below K6.out N, blk_below K8.out N, below_step B45.out N⟩ ?_
  clear K6 K8 N B45 bw46 bw47
  rintro w48 ⟨K6, K8, B48⟩
  replace K6 := Aside0.mk K6
  replace K8 := Aside0.mk K8
  replace B48 := Aside0.mk B48
  as_aux_lemma =>
  have BC := Below.refl w48.heap.size w48
  go_upto_region 20 with (first | (go_at_call 19; refine (plain_k _).mono ?_; rintro e w49 ⟨rfl, bw49⟩; replace BC := below_step BC bw49; clear bw49) | ((with_reducible refine gate_dst (N := 27) rfl ?_); refine box_event ?hg (N := 27) ?hd (cs := #[.int .i64 0, .int .i64 0, .int .i64 0, .int .i64 0, .int .i64 0, .int .i64 0, .int .i64 0, .int .i64 0, .int .i64 0, .int .i64 0, .int .i64 0, .string (⟨#[]⟩ : ByteArray), .string (⟨#[]⟩ : ByteArray), .string (⟨#[]⟩ : ByteArray), .string (⟨#[]⟩ : ByteArray), .string (⟨#[]⟩ : ByteArray), .string (⟨#[]⟩ : ByteArray)]) (t := 24) ?hr ?_; (case hd => rfl); (case hg => rfl); (case hr => first | (go_simp; done) | (go_simp; rfl)); intro g27 hg27 w50 xw50 bw50; have Hg27 := Aside0.mk hg27; clear hg27) | ((with_reducible refine gate_dst (N := 28) rfl ?_); refine box_event ?hg (N := 28) ?hd (cs := #[.int .i64 0, .int .i64 0, .int .i64 0, .int .i64 0, .int .i64 0, .int .i64 0, .int .i64 0, .int .i64 0, .int .i64 0, .int .i64 0, .int .i64 0, .string (⟨#[]⟩ : ByteArray), .string (⟨#[]⟩ : ByteArray), .string (⟨#[]⟩ : ByteArray), .string (⟨#[]⟩ : ByteArray), .string (⟨#[]⟩ : ByteArray), .string (⟨#[]⟩ : ByteArray)]) (t := 24) ?hr ?_; (case hd => rfl); (case hg => rfl); (case hr => first | (go_simp; done) | (go_simp; rfl)); intro g28 hg28 w51 xw51 bw51; have Hg28 := Aside0.mk hg28; clear hg28; have ne : g28 ≠ g27 := by have := blk_lt xw50; have := Hg28.out; omega) | ((with_reducible refine gate_store (t := 24) (p := 27) rfl ?_); refine store_event rfl 24 _ _ rfl g27 #[.int .i64 300, .int .i64 400, .int .i64 40, .int .i64 40, .int .i64 30, .int .i64 30, .int .i64 1, .int .i64 10, .int .i64 0, .int .i64 0, .int .i64 0, .string (⟨#[]⟩ : ByteArray), .string (⟨#[]⟩ : ByteArray), .string (⟨#[]⟩ : ByteArray), .string (⟨#[]⟩ : ByteArray), .string (⟨#[]⟩ : ByteArray), .string (⟨#[]⟩ : ByteArray)] rfl rfl 24 #[.int .i64 0, .int .i64 0, .int .i64 0, .int .i64 0, .int .i64 0, .int .i64 0, .int .i64 0, .int .i64 0, .int .i64 0, .int .i64 0, .int .i64 0, .string (⟨#[]⟩ : ByteArray), .string (⟨#[]⟩ : ByteArray), .string (⟨#[]⟩ : ByteArray), .string (⟨#[]⟩ : ByteArray), .string (⟨#[]⟩ : ByteArray), .string (⟨#[]⟩ : ByteArray)] (blk_below xw50 bw51) (size24 _ rfl) rfl (by kernel_rfl) ?_; intro w52 xw52 ow52 sw52) | ((with_reducible refine gate_store (t := 24) (p := 28) rfl ?_); refine store_event rfl 24 _ _ rfl g28 #[.int .i64 300, .int .i64 400, .int .i64 40, .int .i64 40, .int .i64 30, .int .i64 30, .int .i64 1, .int .i64 10, .int .i64 0, .int .i64 0, .int .i64 0, .string (⟨#[]⟩ : ByteArray), .string (⟨#[]⟩ : ByteArray), .string (⟨#[]⟩ : ByteArray), .string (⟨#[]⟩ : ByteArray), .string (⟨#[]⟩ : ByteArray), .string (⟨#[]⟩ : ByteArray)] rfl rfl 24 #[.int .i64 0, .int .i64 0, .int .i64 0, .int .i64 0, .int .i64 0, .int .i64 0, .int .i64 0, .int .i64 0, .int .i64 0, .int .i64 0, .int .i64 0, .string (⟨#[]⟩ : ByteArray), .string (⟨#[]⟩ : ByteArray), .string (⟨#[]⟩ : ByteArray), .string (⟨#[]⟩ : ByteArray), .string (⟨#[]⟩ : ByteArray), .string (⟨#[]⟩ : ByteArray)] ((ow52 g28 ne).trans xw51) (size24 _ rfl) rfl (by kernel_rfl) ?_; intro w53 xw53 ow53 sw53))
  have l27 : w48.heap.size ≤ g27 := by have := BC.size; have := Hg27.out; omega
  have l28 : w48.heap.size ≤ g28 := by have := BC.size; have := bw50.size; have := Hg28.out; omega
  have N := sw53 _ _ (sw52 _ _ (below_step (below_step BC bw50) bw51) l27) l28
  have n6_27 : g6 ≠ g27 := by have := blk_lt K6.out; omega
  have n6_28 : g6 ≠ g28 := by have := blk_lt K6.out; omega
  have n8_27 : g8 ≠ g27 := by have := blk_lt K8.out; omega
  have n8_28 : g8 ≠ g28 := by have := blk_lt K8.out; omega
  have e27 : w.heap.size ≤ g27 := by have := B48.out.size; omega
  have e28 : w.heap.size ≤ g28 := by have := B48.out.size; omega
  refine settle (fun W' => W'.heap[g6]? = some (.cells #[.int .i64 30, .int .i64 20, .int .i64 240, .int .i64 20] 38 (0, 0)) ∧ W'.heap[g8]? = some (.cells #[.int .i64 30, .int .i64 360, .int .i64 240, .int .i64 20] 38 (0, 0)) ∧ W'.heap[g27]? = some (.cells #[.int .i64 300, .int .i64 400, .int .i64 40, .int .i64 40, .int .i64 30, .int .i64 30, .int .i64 1, .int .i64 10, .int .i64 0, .int .i64 0, .int .i64 0, .string (⟨#[]⟩ : ByteArray), .string (⟨#[]⟩ : ByteArray), .string (⟨#[]⟩ : ByteArray), .string (⟨#[]⟩ : ByteArray), .string (⟨#[]⟩ : ByteArray), .string (⟨#[]⟩ : ByteArray)] 24 (0, 0)) ∧ W'.heap[g28]? = some (.cells #[.int .i64 300, .int .i64 400, .int .i64 40, .int .i64 40, .int .i64 30, .int .i64 30, .int .i64 1, .int .i64 10, .int .i64 0, .int .i64 0, .int .i64 0, .string (⟨#[]⟩ : ByteArray), .string (⟨#[]⟩ : ByteArray), .string (⟨#[]⟩ : ByteArray), .string (⟨#[]⟩ : ByteArray), .string (⟨#[]⟩ : ByteArray), .string (⟨#[]⟩ : ByteArray)] 24 (0, 0)) ∧ Below w.heap.size w W') ⟨blk_below K6.out N, blk_below K8.out N, (ow53 g27 (Ne.symm ne)).trans xw52, xw53, below_step B48.out N⟩ ?_
  clear BC bw50 bw51 xw50 xw51 xw52 xw53 ow52 sw52 ow53 sw53 l27 l28 N Hg27 Hg28 K6 K8 B48
  rintro w54 ⟨K6, K8, K27, K28, B54⟩
  replace K6 := Aside0.mk K6
  replace K8 := Aside0.mk K8
  replace K27 := Aside0.mk K27
  replace K28 := Aside0.mk K28
  replace B54 := Aside0.mk B54
  as_aux_lemma =>
  obtain ⟨c0, c1, c2, c3, c4, c5, c6, c7, c8, c9, c10, c11, c12, c13, c14, c15, c16⟩ := cells24 K27.out
  obtain ⟨f0, f1, f2, f3, f4, f5, f6, f7, f8, f9, f10, f11, f12, f13, f14, f15, f16⟩ := frozen24 K27.out
  obtain ⟨d0, d1, d2, d3, d4, d5, d6, d7, d8, d9, d10, d11, d12, d13, d14, d15, d16⟩ := cells24 K28.out
  obtain ⟨h0, h1, h2, h3, h4, h5, h6, h7, h8, h9, h10, h11, h12, h13, h14, h15, h16⟩ := frozen24 K28.out
  go_upto_region 21 with fail
  refine settle (fun W' => W'.heap[g6]? = some (.cells #[.int .i64 30, .int .i64 20, .int .i64 240, .int .i64 20] 38 (0, 0)) ∧ W'.heap[g8]? = some (.cells #[.int .i64 30, .int .i64 360, .int .i64 240, .int .i64 20] 38 (0, 0)) ∧ W'.heap[g27]? = some (.cells #[.int .i64 300, .int .i64 400, .int .i64 40, .int .i64 40, .int .i64 30, .int .i64 30, .int .i64 9, .int .i64 10, .int .i64 0, .int .i64 0, .int .i64 0, .string (⟨#[]⟩ : ByteArray), .string (⟨#[]⟩ : ByteArray), .string (⟨#[]⟩ : ByteArray), .string (⟨#[]⟩ : ByteArray), .string (⟨#[]⟩ : ByteArray), .string (⟨#[]⟩ : ByteArray)] 24 (0, 0)) ∧ W'.heap[g28]? = some (.cells #[.int .i64 60, .int .i64 400, .int .i64 40, .int .i64 40, .int .i64 30, .int .i64 30, .int .i64 1, .int .i64 10, .int .i64 0, .int .i64 0, .int .i64 0, .string (⟨#[]⟩ : ByteArray), .string (⟨#[]⟩ : ByteArray), .string (⟨#[]⟩ : ByteArray), .string (⟨#[]⟩ : ByteArray), .string (⟨#[]⟩ : ByteArray), .string (⟨#[]⟩ : ByteArray)] 24 (0, 0)) ∧ Below w.heap.size w W') ⟨(blk_far (blk_far K6.out n6_27 _) n6_28 _), (blk_far (blk_far K8.out n8_27 _) n8_28 _), blk_far (blk_put (cs' := #[.int .i64 300, .int .i64 400, .int .i64 40, .int .i64 40, .int .i64 30, .int .i64 30, .int .i64 9, .int .i64 10, .int .i64 0, .int .i64 0, .int .i64 0, .string (⟨#[]⟩ : ByteArray), .string (⟨#[]⟩ : ByteArray), .string (⟨#[]⟩ : ByteArray), .string (⟨#[]⟩ : ByteArray), .string (⟨#[]⟩ : ByteArray), .string (⟨#[]⟩ : ByteArray)]) K27.out 6 _ rfl) (Ne.symm ne) _, blk_put (cs' := #[.int .i64 60, .int .i64 400, .int .i64 40, .int .i64 40, .int .i64 30, .int .i64 30, .int .i64 1, .int .i64 10, .int .i64 0, .int .i64 0, .int .i64 0, .string (⟨#[]⟩ : ByteArray), .string (⟨#[]⟩ : ByteArray), .string (⟨#[]⟩ : ByteArray), .string (⟨#[]⟩ : ByteArray), .string (⟨#[]⟩ : ByteArray), .string (⟨#[]⟩ : ByteArray)]) (blk_far K28.out ne _) 0 _ rfl, below_set (below_set B54.out e27) e28⟩ ?_
  clear c0 c1 c2 c3 c4 c5 c6 c7 c8 c9 c10 c11 c12 c13 c14 c15 c16 f0 f1 f2 f3 f4 f5 f6 f7 f8 f9 f10 f11 f12 f13 f14 f15 f16 d0 d1 d2 d3 d4 d5 d6 d7 d8 d9 d10 d11 d12 d13 d14 d15 d16 h0 h1 h2 h3 h4 h5 h6 h7 h8 h9 h10 h11 h12 h13 h14 h15 h16 K6 K8 K27 K28 B54
  rintro w55 ⟨K6, K8, K27, K28, B55⟩
  replace K6 := Aside0.mk K6
  replace K8 := Aside0.mk K8
  replace K27 := Aside0.mk K27
  replace K28 := Aside0.mk K28
  replace B55 := Aside0.mk B55
  as_aux_lemma =>
  go_wp2_with (go_at_call 25; refine (awake_k _).mono ?_; rintro e w56 ⟨rfl, bw56⟩; replace K6 := Aside0.mk (blk_below K6.out bw56); replace K8 := Aside0.mk (blk_below K8.out bw56); replace K27 := Aside0.mk (blk_below K27.out bw56); replace K28 := Aside0.mk (blk_below K28.out bw56); obtain ⟨a0, a1, a2, a3⟩ := cells4 K6.out; obtain ⟨b0, b1, b2, b3⟩ := cells4 K8.out; obtain ⟨c0, c1, c2, c3, c4, c5, c6, c7, c8, c9, c10, c11, c12, c13, c14, c15, c16⟩ := cells24 K27.out)
  clear a0 a1 a2 a3 b0 b1 b2 b3 c0 c1 c2 c3 c4 c5 c6 c7 c8 c9 c10 c11 c12 c13 c14 c15 c16
  as_aux_lemma =>
  refine (chk1_k _).mono ?_
  rintro e w57 ⟨rfl, bw57⟩
  replace K28 := Aside0.mk (blk_below K28.out bw57)
  obtain ⟨c0, c1, c2, c3, c4, c5, c6, c7, c8, c9, c10, c11, c12, c13, c14, c15, c16⟩ := cells24 K28.out
  go_wp2_with fail
  clear c0 c1 c2 c3 c4 c5 c6 c7 c8 c9 c10 c11 c12 c13 c14 c15 c16
  as_aux_lemma =>
  refine (chk2_k _).mono ?_
  rintro e w58 ⟨rfl, bw58⟩
  go_wp2_with fail
  go_ret
  exact ⟨by first | rfl | (simp; done), below_step (below_step (below_step B55.out bw56) bw57) bw58⟩
end Go.Proofs.Ythpmchbbfbbakaa.PAll
