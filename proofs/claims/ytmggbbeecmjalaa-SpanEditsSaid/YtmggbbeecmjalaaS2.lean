/- The walk of run: the library's Search with the closure; no further condition. -/
import Derived.Test.YtmggbbeecmjalaaS1
namespace Go.Proofs.Ytmggbbeecmjalaa.P
open Go.RowKit Go.Proofs.YtmggbbeecmjalaaW.PrintWords Go.Proofs.YtmggbbeecmjalaaW.PrintLast Go.Proofs.YtmggbbeecmjalaaW.PrintMore
attribute [local go_sem] max2_int min2_int max_two min_two
set_option linter.unusedVariables false
set_option linter.unusedSimpArgs false

set_option maxHeartbeats 8000000 in
set_option maxRecDepth 100000 in
theorem lit_calls {w : World} {bs ba n k : Nat} {ad : Addr} {x t : Int} (i : Nat) (hi : i < n)
    (hs : w.cell? ⟨bs, 0, none⟩ = some (.slice (some ad) n k)) (ha : w.cell? ⟨ba, 0, none⟩ = some (.int .i64 t)) (hx : w.cell? (ad.add i) = some (.int .i64 x)) :
    Calls Try.prog 44 #[.int .i64 (i : Int), .pointer (some ⟨bs, 0, none⟩), .pointer (some ⟨ba, 0, none⟩)] w fun e w' => e = .returned (.bool (decide (t < x))) ∧ Below w.heap.size w w' := by
  have h0 : (0 : Int) ≤ (i : Int) := by omega
  have h1 : (i : Int) < (n : Int) := by omega
  go_enter Try.func44, Try.ntmps44
  go_wp2
  go_quiet (fail)
  go_wp2
  go_ret
  exact ⟨rfl, pw_below_drewN (Below.refl _ _) _⟩
theorem u64_in (n : Int) (h : 0 ≤ n ∧ n ≤ 9223372036854775807) : IntKind.u64.wrap n = n := by
  simp only [IntKind.wrap, IntKind.bits, IntKind.signed]
  simp
  omega
set_option maxHeartbeats 8000000 in
set_option maxRecDepth 100000 in
theorem search_calls {w : World} {bs ba n k : Nat} {A : Option Addr} {xs : List Int} {t : Int} (hn : n ≤ 100000) (hlen : xs.length = n)
    (hs : w.cell? ⟨bs, 0, none⟩ = some (.slice A n k)) (ha : w.cell? ⟨ba, 0, none⟩ = some (.int .i64 t)) (hC : Kd.C (Kd.int .i64) w A n xs)
    (hlast : t < rd xs ((n : Int) - 1)) (hpos : 0 < n) :
    Calls Try.prog 43 #[.int .i64 (n : Int), .func (.func 44) #[] #[.pointer (some ⟨bs, 0, none⟩), .pointer (some ⟨ba, 0, none⟩)]] w fun e w' =>
      ∃ i : Nat, e = .returned (.int .i64 (i : Int)) ∧ i < n ∧ (i = 0 ∨ rd xs ((i : Int) - 1) ≤ t) ∧ t < rd xs (i : Int) ∧ Below w.heap.size w w' := by
  have HS := Aside0.mk hs
  have HA := Aside0.mk ha
  have HC := Aside0.mk hC
  have HL := Aside0.mk hlast
  clear hs ha hC hlast
  go_enter Try.func43, Try.ntmps43
  go_wp2
  go_loopw [5, 6] (fun v5 v6 wr => ∃ (x y : Int) (i j : Nat), v5 = .int .i64 x ∧ v6 = .int .i64 y ∧ Aside0 (x = (i : Int)) ∧ Aside0 (y = (j : Int)) ∧ Aside0 (i ≤ j ∧ j ≤ n) ∧ Aside0 (i = 0 ∨ rd xs ((i : Int) - 1) ≤ t) ∧ Aside0 (j = n ∨ t < rd xs (j : Int)) ∧ Aside0 (Below w.heap.size w wr)) (fun v5 v6 _ => (intOf v6).toNat - (intOf v5).toNat)
  case atStart => exact ⟨_, _, 0, n, rfl, rfl, ⟨rfl⟩, ⟨rfl⟩, ⟨by omega⟩, ⟨.inl rfl⟩, ⟨.inl rfl⟩, ⟨by first | exact Below.refl _ _ | exact pw_below_drewN (Below.refl _ _) _ | exact below_drew1 (Below.refl _ _)⟩⟩
  case round =>
    obtain ⟨x, y, i, j, rfl, rfl, hx, hy, hij, hI, hJ, HB⟩ := hrel
    have hij' := hij.out
    by_cases hlt : i < j
    · have d1 : decide (x < y) = true := decide_eq_true (by rw [hx.out, hy.out]; omega)
      obtain ⟨m, hm0⟩ : ∃ m : Nat, m = (i + j) / 2 := ⟨_, rfl⟩
      obtain ⟨z, hz0⟩ : ∃ z : Int, z = (m : Int) := ⟨_, rfl⟩
      have hm : wrap64 (IntKind.u64.wrap (wrap64 (x + y)) / 2) = z := by
        rw [hx.out, hy.out, hz0, w64 ((i : Int) + j) (by omega), u64_in _ (by omega), w64 _ (by omega)]
        omega
      have HM := Aside0.mk hm0
      have HZ := Aside0.mk hz0
      obtain ⟨ad, e, hcell⟩ := int_at (Kd.C_below HC.out HB.out) (m : Int) (by omega) (by omega)
      cases e
      rw [Int.toNat_natCast] at hcell
      have HCE := Aside0.mk hcell
      have hij2 : i ≤ m ∧ m < j := by omega
      have HIJ := Aside0.mk hij2
      clear hm0 hz0 hcell hij2 hij'
      by_cases ht : t < rd xs (m : Int)
      · have d2 : decide (t < rd xs (m : Int)) = true := decide_eq_true ht
        clear ht
        go_wp2_with (first | (go_at_call 44; rw [HZ.out]; refine (lit_calls (n := n) m (by have := HIJ.out; have := hij.out; omega) (pw_cell_below HB.out HS.out) (pw_cell_below HB.out HA.out) HCE.out).mono ?_; rintro e w3 ⟨rfl, hb⟩; rw [d2]))
        go_roundw
        case rel =>
          exact ⟨x, z, i, m, rfl, rfl, hx, HZ, ⟨by have := HIJ.out; have := hij.out; omega⟩, hI, ⟨.inr (of_decide_eq_true d2)⟩, ⟨HB.out.trans (hb.mono HB.out.size)⟩⟩
        case measure => have h1 := HIJ.out; have h2 := hx.out; have h3 := hy.out; have h4 := HZ.out; simp [intOf]; omega
      · have d2 : decide (t < rd xs (m : Int)) = false := decide_eq_false ht
        have HT := Aside0.mk ht
        clear ht
        go_wp2_with (first | (go_at_call 44; rw [HZ.out]; refine (lit_calls (n := n) m (by have := HIJ.out; have := hij.out; omega) (pw_cell_below HB.out HS.out) (pw_cell_below HB.out HA.out) HCE.out).mono ?_; rintro e w3 ⟨rfl, hb⟩; rw [d2]))
        go_roundw
        case rel =>
          refine ⟨_, y, m + 1, j, rfl, rfl, ⟨?_⟩, hy, ⟨by have := HIJ.out; have := hij.out; omega⟩, ⟨.inr ?_⟩, hJ, ⟨HB.out.trans (hb.mono HB.out.size)⟩⟩
          · have h1 := HIJ.out; have h2 := hij.out
            first | (rw [w64 _ (by omega)]; omega) | (rw [HZ.out, w64 _ (by omega)]; omega) | omega
          · have h1 := HT.out
            rw [show (((m + 1 : Nat) : Int) - 1) = (m : Int) by omega]; omega
        case measure =>
          have h1 := HIJ.out; have h2 := hx.out; have h3 := hy.out; have h4 := HZ.out; have h5 := hij.out
          simp [intOf]
          first | omega | (rw [w64 _ (by omega)]; omega)
    · have d1 : decide (x < y) = false := decide_eq_false (by rw [hx.out, hy.out]; omega)
      go_wp2
      go_ret
      have he : i = j := by omega
      have hin : i < n := by
        rcases Nat.lt_or_ge i n with q | q
        · exact q
        · have : i = n := by omega
          have h1 := hI.out
          have h2 := HL.out
          rw [this] at h1
          omega
      refine ⟨i, by show Ending.returned (.int .i64 x) = _; rw [hx.out], hin, hI.out, ?_, HB.out⟩
      rcases hJ.out with q | q
      · omega
      · rw [he]; exact q
end Go.Proofs.Ytmggbbeecmjalaa.P
