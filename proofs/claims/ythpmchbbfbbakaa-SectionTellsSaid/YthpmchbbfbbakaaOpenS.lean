/- A section as an argument: opened to its cells. -/
import Derived.Test.YthpmchbbfbbakaaS1
import Derived.WalkKit
import Derived.ProofKit
import Derived.OpenShut
import Derived.ShutString
import Derived.ChangeOld
import Derived.KernelRfl
namespace Go.Proofs.Ythpmchbbfbbakaa.Sec
open Go.ChangeShapes Go.WideShapes Go.ChangeAt Go.RowKit
set_option linter.unusedVariables false
def good (s : Sec) : Prop := (Lit.int .i64 s.w).wf = true ∧ (Lit.int .i64 s.h).wf = true ∧ (Lit.int .i64 s.top).wf = true ∧ (Lit.int .i64 s.bottom).wf = true ∧ (Lit.int .i64 s.inner).wf = true ∧ (Lit.int .i64 s.outer).wf = true ∧ (Lit.int .i64 s.cols).wf = true ∧ (Lit.int .i64 s.gap).wf = true ∧ (Lit.int .i64 s.start).wf = true ∧ (Lit.int .i64 s.balance).wf = true ∧ (Lit.int .i64 s.mirror).wf = true
theorem cellsOf24 : Try.prog.cellsOf 24 = 17 := by kernel_rfl
theorem cellsOf22 : Try.prog.cellsOf 22 = 3 := by kernel_rfl
theorem cellsOf9 : Try.prog.cellsOf 9 = 1 := by kernel_rfl
theorem cellsOf3 : Try.prog.cellsOf 3 = 1 := by kernel_rfl
theorem open_arr {H : Type} {enc : TypeId × Value → H} {W : World} {a b c : Value} {n : Nat} {y : DataW H × List MemPlace} (h : DataW.trod enc Try.prog W 0 (fun _ => true) true n 22 [a, b, c] = some y) : ∃ x0 x1 x2 : ByteArray, a = .string x0 ∧ b = .string x1 ∧ c = .string x2 := by
  obtain ⟨xs, m, _, _, _, hl, hf⟩ := DataW.trod_array Try.underlying22 h
  match xs, hl with
  | [y0, y1, y2], _ =>
    have g0 : DataW.trod enc Try.prog W 0 (fun _ => true) true m 9 (List.take (Try.prog.cellsOf 9) (List.drop (0 * Try.prog.cellsOf 9) [a, b, c])) = some y0 := hf 0 (by omega)
    rw [cellsOf9] at g0
    obtain ⟨x0, e0, _, _⟩ := DataW.trod_string Try.underlying9 g0
    simp at e0
    have g1 : DataW.trod enc Try.prog W 0 (fun _ => true) true m 9 (List.take (Try.prog.cellsOf 9) (List.drop (1 * Try.prog.cellsOf 9) [a, b, c])) = some y1 := hf 1 (by omega)
    rw [cellsOf9] at g1
    obtain ⟨x1, e1, _, _⟩ := DataW.trod_string Try.underlying9 g1
    simp at e1
    have g2 : DataW.trod enc Try.prog W 0 (fun _ => true) true m 9 (List.take (Try.prog.cellsOf 9) (List.drop (2 * Try.prog.cellsOf 9) [a, b, c])) = some y2 := hf 2 (by omega)
    rw [cellsOf9] at g2
    obtain ⟨x2, e2, _, _⟩ := DataW.trod_string Try.underlying9 g2
    simp at e2
    exact ⟨x0, x1, x2, e0, e1, e2⟩
theorem open_sec {H : Type} {enc : TypeId × Value → H} {W : World} {base : Nat} {v : Value} {d : DataW H} {ps : List MemPlace} (hval : Value.okWide Try.prog W .any base 24 v) (hd : DataW.Trod enc Try.prog W 0 (fun _ => true) true 24 v d ps) : ∃ s : Sec, v = .agg s.cs ∧ good s := by
  obtain ⟨cs, rfl, hcs⟩ := okWide_struct Try.underlying24 hval
  obtain ⟨fuel, h⟩ := hd
  obtain ⟨xs, m, _, _, hl, hlen, hf⟩ := DataW.trod_struct Try.underlying24 h
  obtain ⟨cl⟩ := cs
  simp only [Value.cells] at hl hf
  rw [cellsOf24] at hl
  match cl, hl, xs, hlen with
  | [c0, c1, c2, c3, c4, c5, c6, c7, c8, c9, c10, c11, c12, c13, c14, c15, c16], _, [y0, y1, y2, y3, y4, y5, y6, y7, y8, y9, y10, y11, y12], _ =>
    have g0 : DataW.trod enc Try.prog W 0 (fun _ => true) true m 3 (List.take (Try.prog.cellsOf 3) (List.drop 0 [c0, c1, c2, c3, c4, c5, c6, c7, c8, c9, c10, c11, c12, c13, c14, c15, c16])) = some y0 := hf 0 _ rfl
    have g1 : DataW.trod enc Try.prog W 0 (fun _ => true) true m 3 (List.take (Try.prog.cellsOf 3) (List.drop 1 [c0, c1, c2, c3, c4, c5, c6, c7, c8, c9, c10, c11, c12, c13, c14, c15, c16])) = some y1 := hf 1 _ rfl
    have g2 : DataW.trod enc Try.prog W 0 (fun _ => true) true m 3 (List.take (Try.prog.cellsOf 3) (List.drop 2 [c0, c1, c2, c3, c4, c5, c6, c7, c8, c9, c10, c11, c12, c13, c14, c15, c16])) = some y2 := hf 2 _ rfl
    have g3 : DataW.trod enc Try.prog W 0 (fun _ => true) true m 3 (List.take (Try.prog.cellsOf 3) (List.drop 3 [c0, c1, c2, c3, c4, c5, c6, c7, c8, c9, c10, c11, c12, c13, c14, c15, c16])) = some y3 := hf 3 _ rfl
    have g4 : DataW.trod enc Try.prog W 0 (fun _ => true) true m 3 (List.take (Try.prog.cellsOf 3) (List.drop 4 [c0, c1, c2, c3, c4, c5, c6, c7, c8, c9, c10, c11, c12, c13, c14, c15, c16])) = some y4 := hf 4 _ rfl
    have g5 : DataW.trod enc Try.prog W 0 (fun _ => true) true m 3 (List.take (Try.prog.cellsOf 3) (List.drop 5 [c0, c1, c2, c3, c4, c5, c6, c7, c8, c9, c10, c11, c12, c13, c14, c15, c16])) = some y5 := hf 5 _ rfl
    have g6 : DataW.trod enc Try.prog W 0 (fun _ => true) true m 3 (List.take (Try.prog.cellsOf 3) (List.drop 6 [c0, c1, c2, c3, c4, c5, c6, c7, c8, c9, c10, c11, c12, c13, c14, c15, c16])) = some y6 := hf 6 _ rfl
    have g7 : DataW.trod enc Try.prog W 0 (fun _ => true) true m 3 (List.take (Try.prog.cellsOf 3) (List.drop 7 [c0, c1, c2, c3, c4, c5, c6, c7, c8, c9, c10, c11, c12, c13, c14, c15, c16])) = some y7 := hf 7 _ rfl
    have g8 : DataW.trod enc Try.prog W 0 (fun _ => true) true m 3 (List.take (Try.prog.cellsOf 3) (List.drop 8 [c0, c1, c2, c3, c4, c5, c6, c7, c8, c9, c10, c11, c12, c13, c14, c15, c16])) = some y8 := hf 8 _ rfl
    have g9 : DataW.trod enc Try.prog W 0 (fun _ => true) true m 3 (List.take (Try.prog.cellsOf 3) (List.drop 9 [c0, c1, c2, c3, c4, c5, c6, c7, c8, c9, c10, c11, c12, c13, c14, c15, c16])) = some y9 := hf 9 _ rfl
    have g10 : DataW.trod enc Try.prog W 0 (fun _ => true) true m 3 (List.take (Try.prog.cellsOf 3) (List.drop 10 [c0, c1, c2, c3, c4, c5, c6, c7, c8, c9, c10, c11, c12, c13, c14, c15, c16])) = some y10 := hf 10 _ rfl
    have g11 : DataW.trod enc Try.prog W 0 (fun _ => true) true m 22 (List.take (Try.prog.cellsOf 22) (List.drop 11 [c0, c1, c2, c3, c4, c5, c6, c7, c8, c9, c10, c11, c12, c13, c14, c15, c16])) = some y11 := hf 11 _ rfl
    have g12 : DataW.trod enc Try.prog W 0 (fun _ => true) true m 22 (List.take (Try.prog.cellsOf 22) (List.drop 14 [c0, c1, c2, c3, c4, c5, c6, c7, c8, c9, c10, c11, c12, c13, c14, c15, c16])) = some y12 := hf 12 _ rfl
    rw [cellsOf3] at g0
    obtain ⟨x0, e0, _, w0⟩ := DataW.trod_int Try.underlying3 g0
    simp at e0
    subst e0
    rw [cellsOf3] at g1
    obtain ⟨x1, e1, _, w1⟩ := DataW.trod_int Try.underlying3 g1
    simp at e1
    subst e1
    rw [cellsOf3] at g2
    obtain ⟨x2, e2, _, w2⟩ := DataW.trod_int Try.underlying3 g2
    simp at e2
    subst e2
    rw [cellsOf3] at g3
    obtain ⟨x3, e3, _, w3⟩ := DataW.trod_int Try.underlying3 g3
    simp at e3
    subst e3
    rw [cellsOf3] at g4
    obtain ⟨x4, e4, _, w4⟩ := DataW.trod_int Try.underlying3 g4
    simp at e4
    subst e4
    rw [cellsOf3] at g5
    obtain ⟨x5, e5, _, w5⟩ := DataW.trod_int Try.underlying3 g5
    simp at e5
    subst e5
    rw [cellsOf3] at g6
    obtain ⟨x6, e6, _, w6⟩ := DataW.trod_int Try.underlying3 g6
    simp at e6
    subst e6
    rw [cellsOf3] at g7
    obtain ⟨x7, e7, _, w7⟩ := DataW.trod_int Try.underlying3 g7
    simp at e7
    subst e7
    rw [cellsOf3] at g8
    obtain ⟨x8, e8, _, w8⟩ := DataW.trod_int Try.underlying3 g8
    simp at e8
    subst e8
    rw [cellsOf3] at g9
    obtain ⟨x9, e9, _, w9⟩ := DataW.trod_int Try.underlying3 g9
    simp at e9
    subst e9
    rw [cellsOf3] at g10
    obtain ⟨x10, e10, _, w10⟩ := DataW.trod_int Try.underlying3 g10
    simp at e10
    subst e10
    rw [cellsOf22] at g11
    obtain ⟨x11, x12, x13, rfl, rfl, rfl⟩ := open_arr g11
    rw [cellsOf22] at g12
    obtain ⟨x14, x15, x16, rfl, rfl, rfl⟩ := open_arr g12
    exact ⟨⟨x0, x1, x2, x3, x4, x5, x6, x7, x8, x9, x10, x11, x12, x13, x14, x15, x16⟩, rfl, w0, w1, w2, w3, w4, w5, w6, w7, w8, w9, w10⟩
end Go.Proofs.Ythpmchbbfbbakaa.Sec
