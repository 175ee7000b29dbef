/- Calls' records; no further condition. -/
import Derived.Test.YtmggbbeecmjalaaS13
namespace Go.Proofs.Ytmggbbeecmjalaa.P
open Go.RowKit Go.Proofs.YtmggbbeecmjalaaW.PrintWords Go.Proofs.YtmggbbeecmjalaaW.PrintLast Go.Proofs.YtmggbbeecmjalaaW.PrintMore
attribute [local go_sem] max2_int min2_int max_two min_two
set_option linter.unusedVariables false
set_option linter.unusedSimpArgs false

structure S40 where
  f0 : Int
  f1 : Int
  f2 : Int
  f3 : S28
def z40 : S40 := ⟨0, 0, 0, z28⟩
def k40 : Kd S40 := Kd.iso (Kd.pair (Kd.int .i64) (Kd.pair (Kd.int .i64) (Kd.pair (Kd.int .i64) k28))) (fun x : S40 => (x.f0, x.f1, x.f2, x.f3))
theorem k40_open {w : World} {x : S40} {cs : List Value} (h : k40.K w x cs) : cs = [.int .i64 x.f0, .int .i64 x.f1, .int .i64 x.f2, .int .i64 x.f3.f0, .int .i64 x.f3.f1, .int .i64 x.f3.f2] := by
  obtain ⟨_, _, rfl, rfl, ⟨_, _, rfl, rfl, ⟨_, _, rfl, rfl, s1⟩⟩⟩ := h
  obtain rfl := k28_open s1
  rfl
theorem k40_mk (w : World) (x : S40) : k40.K w x [.int .i64 x.f0, .int .i64 x.f1, .int .i64 x.f2, .int .i64 x.f3.f0, .int .i64 x.f3.f1, .int .i64 x.f3.f2] :=
  ⟨[.int .i64 x.f0], [.int .i64 x.f1, .int .i64 x.f2, .int .i64 x.f3.f0, .int .i64 x.f3.f1, .int .i64 x.f3.f2], rfl, rfl, ⟨[.int .i64 x.f1], [.int .i64 x.f2, .int .i64 x.f3.f0, .int .i64 x.f3.f1, .int .i64 x.f3.f2], rfl, rfl, ⟨[.int .i64 x.f2], [.int .i64 x.f3.f0, .int .i64 x.f3.f1, .int .i64 x.f3.f2], rfl, rfl, k28_mk w x.f3⟩⟩⟩
/-- what a call leaves -/
def actL (L : List S28) (K : S28) (a : S40) : List S28 := if a.f0 = 0 then insL L K a.f1 a.f2 else if a.f0 = 1 then delL L a.f1 a.f2 else if a.f0 = 2 then setL L a.f1 a.f2 a.f3 else L
def actK (L : List S28) (K : S28) (a : S40) : S28 := if a.f0 = 1 then delK L K a.f1 a.f2 else K
end Go.Proofs.Ytmggbbeecmjalaa.P
