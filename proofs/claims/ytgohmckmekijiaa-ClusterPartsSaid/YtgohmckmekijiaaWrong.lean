/- What cluster.wrong, cluster.place and cluster.each answer: for every text. -/
import Derived.Test.YtgohmckmekijiaaEach
namespace Go.Proofs.Ytgohmckmekijiaa.PAll
open Go.RowKit Go.Shelf Go.Proofs.YtgohmckmekijiaaW.PrintWords Go.Proofs.YtgohmckmekijiaaW.PrintLast Go.Proofs.YtgohmckmekijiaaW.PrintMore
set_option linter.unusedVariables false
set_option linter.unusedSimpArgs false

set_option maxHeartbeats 1000000 in
theorem wrong_calls (s : ByteArray) (w : World) : Calls Try.prog 22 #[.string s] w fun e w' => e = .returned (.int .i64 (wrongOf s)) ∧ Below w.heap.size w w' := by
  by_cases h : 4096 < s.size
  · have hf : wrongOf s = 3 := by unfold wrongOf; rw [if_pos h]
    have HF := Aside0.mk hf
    clear hf
    have b : decide (4096 < (s.size : Int)) = true := decide_eq_true (by omega)
    go_enter Try.func22, Try.ntmps22
    go_wp2
    go_ret
    exact ⟨by show Ending.returned (.int .i64 3) = _; rw [HF.out], Below.refl _ _⟩
  · have HF := Aside0.mk (show wrongOf s = badFrom s s.size 0 by unfold wrongOf; rw [if_neg h])
    have b : decide (4096 < (s.size : Int)) = false := decide_eq_false (by omega)
    have hz : s.size ≤ 4096 := by omega
    clear h
    have kb := fun W => print_bytes (P := Try.prog) 9 46 5 Try.underlying9 Try.underlying46 Try.underlying5 s W
    go_enter Try.func22, Try.ntmps22
    go_wp2
    go_loopw [11] (fun v11 wr => ∃ (x : Int) (i : Nat), v11 = .int .i64 x ∧ Aside0 (x = (i : Int)) ∧ Aside0 (i ≤ s.size) ∧ Aside0 (wrongOf s = badFrom s (s.size - i) i) ∧ Aside0 (ReadsInt wr .u8 (some ⟨w.heap.size, 0, none⟩) s.size (bytesOf s)) ∧ Aside0 (Below w.heap.size w wr))
      (fun v11 _ => s.size - (intOf v11).toNat)
    case atStart => exact ⟨0, 0, rfl, ⟨rfl⟩, ⟨Nat.zero_le _⟩, HF, ⟨bytes_reads w 5 s (by omega)⟩, ⟨bytes_below (Below.refl _ _) (Nat.le_refl _) 5 s⟩⟩
    case round =>
      obtain ⟨x, i, rfl, hx, hi, hbad, hrd, hB⟩ := hrel
      clear kb
      have x0 : 0 ≤ x := by rw [hx.out]; omega
      by_cases hlt : i < s.size
      · have b1 : decide (x < (s.size : Int)) = true := decide_eq_true (by rw [hx.out]; omega)
        have x1 : x ≤ 4095 := by rw [hx.out]; omega
        have q1 : x < (s.size : Int) := by rw [hx.out]; omega
        obtain ⟨ad, e, hcell⟩ := hrd.out.at_ x x0 q1
        cases e
        rw [rd_bytesOf] at hcell
        have hcz : wr.cell? ⟨w.heap.size, x.toNat, none⟩ = some (.int .u8 (bt s x)) := by rw [← hcell, add_plain]
        clear hcell
        have hstep : badFrom s (s.size - i) i = if kindOf (bt s x) = 0 then 4 else badFrom s (s.size - (i + 1)) (i + 1) := by
          rw [show s.size - i = (s.size - (i + 1)) + 1 from by omega]
          simp only [badFrom]
          rw [hx.out]
        have HS := Aside0.mk hstep
        clear hstep
        by_cases e1 : kindOf (bt s x) = 0
        · have b2 : (kindOf (bt s x) == 0) = true := beq_iff_eq.mpr e1
          have E1 := Aside0.mk e1
          clear e1
          go_wp2_with (go_at_call 29; (with_reducible refine (PBase.cluster_kind.calls (bt s x) (kindOf (bt s x)) _ (kind_eq _)).mono ?_); rintro e w2 ⟨rfl, ⟨nd, rfl⟩⟩)
          go_ret
          refine ⟨?_, pw_below_drewN hB.out _⟩
          show Ending.returned (.int .i64 4) = _
          rw [hbad.out, HS.out, if_pos E1.out]
        · have b2 : (kindOf (bt s x) == 0) = false := beq_eq_false_iff_ne.mpr e1
          go_wp2_with (go_at_call 29; (with_reducible refine (PBase.cluster_kind.calls (bt s x) (kindOf (bt s x)) _ (kind_eq _)).mono ?_); rintro e w2 ⟨rfl, ⟨nd, rfl⟩⟩)
          go_roundw
          case rel =>
            refine ⟨x + 1, i + 1, rfl, ⟨by rw [hx.out]; omega⟩, ⟨by omega⟩, ⟨?_⟩, ⟨?_⟩, ⟨pw_below_drewN hB.out _⟩⟩
            · rw [hbad.out, HS.out, if_neg e1]
            · exact ⟨hrd.out.1, hrd.out.2.1, hrd.out.2.2⟩
          case measure => have := hx.out; simp [intOf]; omega
      · have b1 : decide (x < (s.size : Int)) = false := decide_eq_false (by rw [hx.out]; omega)
        go_wp2
        go_ret
        refine ⟨?_, hB.out⟩
        show Ending.returned (.int .i64 0) = _
        rw [hbad.out, show s.size - i = 0 from by omega]
        rfl

set_option maxHeartbeats 1000000 in
theorem place_calls (s : ByteArray) (a : Int) (w : World) : Calls Try.prog 27 #[.string s, .int .i64 a] w fun e w' => e = .returned (.int .i64 (placeOf s a)) ∧ Below w.heap.size w w' := by
  by_cases h : wrongOf s = 0
  · have b : (wrongOf s == 0) = true := beq_iff_eq.mpr h
    by_cases h1 : a < 0
    · have HF := Aside0.mk (show placeOf s a = 5 by unfold placeOf; rw [if_pos h, if_pos (.inl h1)])
      have b1 : decide (a < 0) = true := decide_eq_true h1
      clear h h1
      go_enter Try.func27, Try.ntmps27
      go_wp2_with (go_at_call 22; refine (wrong_calls s _).mono ?_; rintro e w1 ⟨rfl, hb⟩)
      go_ret
      exact ⟨by show Ending.returned (.int .i64 5) = _; rw [HF.out], hb⟩
    · have b1 : decide (a < 0) = false := decide_eq_false h1
      by_cases h2 : (s.size : Int) < a
      · have HF := Aside0.mk (show placeOf s a = 5 by unfold placeOf; rw [if_pos h, if_pos (.inr h2)])
        have b2 : decide ((s.size : Int) < a) = true := decide_eq_true h2
        clear h h1 h2
        go_enter Try.func27, Try.ntmps27
        go_wp2_with (go_at_call 22; refine (wrong_calls s _).mono ?_; rintro e w1 ⟨rfl, hb⟩)
        go_ret
        exact ⟨by show Ending.returned (.int .i64 5) = _; rw [HF.out], hb⟩
      · have HF := Aside0.mk (show placeOf s a = 0 by unfold placeOf; rw [if_pos h, if_neg (fun q => q.elim h1 h2)])
        have b2 : decide ((s.size : Int) < a) = false := decide_eq_false h2
        have H0 := Aside0.mk h
        clear h h1 h2
        go_enter Try.func27, Try.ntmps27
        go_wp2_with (go_at_call 22; refine (wrong_calls s _).mono ?_; rintro e w1 ⟨rfl, hb⟩)
        go_ret
        exact ⟨by show Ending.returned (.int .i64 (wrongOf s)) = _; rw [HF.out, H0.out], hb⟩
  · have HF := Aside0.mk (show placeOf s a = wrongOf s by unfold placeOf; rw [if_neg h])
    have b : (wrongOf s == 0) = false := beq_eq_false_iff_ne.mpr h
    clear h
    go_enter Try.func27, Try.ntmps27
    go_wp2_with (go_at_call 22; refine (wrong_calls s _).mono ?_; rintro e w1 ⟨rfl, hb⟩)
    go_ret
    exact ⟨by show Ending.returned (.int .i64 (wrongOf s)) = _; rw [HF.out], hb⟩

/-- each(text): the text is boxed; the function value captures the box. -/
theorem each_calls (s : ByteArray) (w : World) : Calls Try.prog 23 #[.string s] w fun e w' => e = .returned (.func (.func 30) #[] #[.pointer (some ⟨w.heap.size, 0, none⟩)]) ∧ w' = w.alloc (.cells #[.string s] 9) := by
  go_enter Try.func23, Try.ntmps23
  go_wp2
  go_ret
  exact ⟨rfl, rfl⟩

/-- The value that each(text) hands back, as an iterator's contract. -/
theorem each_stops (s : ByteArray) (hs : s.size ≤ 4096) (n : Nat) (hn : 1 ≤ n) (Bn : Nat) (w : World) (hBn : Bn < w.heap.size) (ρ : World → Option Nat) (hρ : ∀ A B : World, (∀ i, i < w.heap.size → B.heap[i]? = A.heap[i]?) → ρ B = ρ A)
    (hr : ∀ r, ρ w = some r → r < w.heap.size) (hc : w.cell? ⟨Bn, 0, none⟩ = some (.string s)) :
    SeqStopsK Fence.wide n Try.prog 30 #[.pointer (some ⟨Bn, 0, none⟩)] (fun x : S28 => #[Value.agg #[.int .i64 x.f0, .int .i64 x.f1, .int .i64 x.f2]]) (Kc ρ w.heap.size Bn) (fun ys => ys = clus s) (fun pre => pre <+: clus s) (clus s).length w := by
  intro l J Jx W hW hJ _ hY h0
  refine each1 s hs n hn l Bn w.heap.size hBn ρ hρ J Jx (fun pre A B h g => hJ pre A B none h g (fun r e => by cases e)) hY W hW.size ((hW.cell (p := ⟨Bn, 0, none⟩) hBn).trans hc) ?_ h0
  intro r e
  have : ρ W = ρ w := hρ w W (fun i hi => hW.block i hi)
  rw [this] at e
  exact Nat.lt_of_lt_of_le (hr r e) hW.size

theorem Kc.refl {ρ : World → Option Nat} {n₁ Bn : Nat} {W : World} (_ : ∀ r, ρ W = some r → r < W.heap.size) : Kc ρ n₁ Bn W W := fun hr => ⟨Nat.le_refl _, rfl, fun _ _ _ h _ _ => h, fun r h => ⟨.inl h, hr r h⟩⟩

/-- with no row: nothing but non-cells, and cells ahead of n₁, may turn -/
def rho0 : World → Option Nat := fun _ => none
theorem Kc.none {n₁ Bn : Nat} {A B : World} {row : Option Nat} (h : A.grownBy B row) (hB : Bn < A.heap.size) (hne : row ≠ some Bn) (hrow : ∀ r, row = some r → r < n₁) : Kc rho0 n₁ Bn A B :=
  fun _ => ⟨h.size, h.block Bn hB (fun e => hne e.symm), fun i o hn hi _ _ => (h.block i (Array.getElem?_eq_some_iff.1 hi).1 (fun e => by have := hrow i e.symm; omega)).trans hi, fun r e => by cases e⟩
theorem Kc.putObj {ρ : World → Option Nat} {n₁ Bn : Nat} (W : World) (l : Nat) (o o' : Obj) (hl : n₁ ≤ l) (hBn : Bn < n₁) (h : W.heap[l]? = some o) (hc : o.isCells = false) (hρ : ρ (W.putObj l o') = ρ W) (_ : ∀ r, ρ W = some r → r < W.heap.size) : Kc ρ n₁ Bn W (W.putObj l o') := by
  intro hr
  have hg := grownBy_putObj' W l o'
  refine ⟨hg.size, hg.block Bn (by have := (Array.getElem?_eq_some_iff.1 h).1; omega) (fun e => by cases e; omega), fun i q hn hi hq _ => (hg.block i (Array.getElem?_eq_some_iff.1 hi).1 (fun e => ?_)).trans hi, fun r e => ?_⟩
  · cases e
    rw [h] at hi
    cases hi
    rw [hc] at hq
    cases hq
  · rw [hρ] at e
    exact ⟨.inl e, Nat.lt_of_lt_of_le (hr r e) hg.size⟩

end Go.Proofs.Ytgohmckmekijiaa.PAll
