/- A store of a whole box is one step. -/
import Derived.Test.YtmggbbeecmjalaaS8
import Derived.Laws.CopyOwn
import Derived.Laws.Tables
namespace Go.Proofs.Ytmggbbeecmjalaa.P
open Go.RowKit Go.Proofs.YtmggbbeecmjalaaW.PrintWords Go.Proofs.YtmggbbeecmjalaaW.PrintLast Go.Proofs.YtmggbbeecmjalaaW.PrintMore
set_option linter.unusedVariables false

theorem store_event {P : Program} {ops : Array Oper} {rest : List Oper} {o : Oper} {a : Act} {w : World} {Q : Exit → Act → World → Prop} (hgd : o.guard = none) (ty : TypeId) (x y : Operand) (ho : o.op = .store ty x y)
    (g : Nat) (cells : Array Value) (hx : a.eval x = .pointer (some ⟨g, 0, none⟩)) (hy : a.eval y = .agg cells)
    (t : TypeId) (old : Array Value) (hg : w.heap[g]? = some (.cells old t (0, 0))) (hi : (P.info? ty).map (·.size) = some cells.size)
    (hold : old.size = cells.size) (h1 : cells.all (·.oneCell') = true)
    (h : ∀ w1, w1.heap[g]? = some (.cells cells t (0, 0)) → (∀ k, k ≠ g → w1.heap[k]? = w.heap[k]?) → (∀ B w0, Below B w0 w → B ≤ g → Below B w0 w1) → wpList P ops Q rest (a.put o.dst undef) w1) : wpList P ops Q (o :: rest) a w :=
  wpList_store_row hgd ty x y ho g cells hx hy t old hg hi hold h1 (h _ (setRow_heap w g old cells t (0, 0) hg) (fun k hk => setRow_other w g k cells hk) (fun B w0 hb hB => below_setRow hb hB cells))
theorem size28 (n : Nat) (h : n = 3) : (Try.prog.info? 28).map (·.size) = some n := by subst h; kernel_rfl
theorem size45 (n : Nat) (h : n = 5) : (Try.prog.info? 45).map (·.size) = some n := by subst h; kernel_rfl
theorem size65 (n : Nat) (h : n = 4) : (Try.prog.info? 65).map (·.size) = some n := by subst h; kernel_rfl
end Go.Proofs.Ytmggbbeecmjalaa.P
