/- The walk of holds, At and Slice over looks; no further condition. -/
import Derived.Test.YtmggbbeecmjalaaS5
namespace Go.Proofs.Ytmggbbeecmjalaa.P
open Go.RowKit Go.Proofs.YtmggbbeecmjalaaW.PrintWords Go.Proofs.YtmggbbeecmjalaaW.PrintLast Go.Proofs.YtmggbbeecmjalaaW.PrintMore
attribute [local go_sem] max2_int min2_int max_two min_two
set_option linter.unusedVariables false
set_option linter.unusedSimpArgs false

/-- what Slice answers, by its bytes L; what is new lies from block B on -/
def SliceAns (L : List S28) (x y : Int) (B : Nat) (e : Ending) (w' : World) : Prop :=
  if 0 ≤ x ∧ x ≤ y ∧ y ≤ (L.length : Int) then ∃ v : Value, e = .returned (.tuple #[v, .int .i64 0]) ∧ Kd.R k60 60 w' B (fun _ => True) v (rl (clip L x.toNat y.toNat))
  else e = .returned (.tuple #[.slice none 0 0, .int .i64 5])
/-- what At answers -/
def AtAns (L : List S28) (x : Int) (e : Ending) : Prop :=
  if 0 ≤ x ∧ x < (L.length : Int) then e = .returned (.tuple #[.agg #[.int .i64 (rd_T28 L x).f0, .int .i64 (rd_T28 L x).f1, .int .i64 (rd_T28 L x).f2], .int .i64 0])
  else e = .returned (.tuple #[.agg #[.int .i64 0, .int .i64 0, .int .i64 0], .int .i64 5])
/-- are there n bytes from x on -/
def hold (x n : Int) (N : Nat) : Bool := decide (0 ≤ x ∧ 0 ≤ n ∧ x ≤ (N : Int) ∧ n ≤ (N : Int) - x)
set_option maxHeartbeats 8000000 in
set_option maxRecDepth 100000 in
theorem holds_calls {w : World} {g : Nat} {L : List S28} {c : S28} (h : St45 w g (rl L) c) (hl : L.length ≤ 100000) (x n : Int) :
    Calls Try.prog 40 #[.pointer (some ⟨g, 0, none⟩), .int .i64 x, .int .i64 n] w fun e w' => e = .returned (.bool (hold x n L.length)) ∧ Below w.heap.size w w' := by
  have HS0 := Aside0.mk h
  have HB0 := Aside0.mk (Below.refl w.heap.size w)
  clear h
  by_cases h1 : 0 ≤ x
  · have d1 : decide (0 ≤ x) = true := decide_eq_true h1
    by_cases h2 : 0 ≤ n
    · have d2 : decide (0 ≤ n) = true := decide_eq_true h2
      by_cases h3 : x ≤ (L.length : Int)
      · have d3 : decide (x ≤ (L.length : Int)) = true := decide_eq_true h3
        have hw : wrap64 ((L.length : Int) - x) = (L.length : Int) - x := w64 _ (by omega)
        have hv : hold x n L.length = decide (n ≤ (L.length : Int) - x) := by
          unfold hold; simp [h1, h2, h3]
        have HV := Aside0.mk hv
        clear h1 h2 h3 hv
        as_aux_lemma =>
          go_enter Try.func40, Try.ntmps40
          go_wp2_with (first | (go_at_call 24; go_loud (refine (len_calls HS0.out hl).mono ?_; rintro e w1 ⟨rfl, hb1⟩; have HS0 := Aside0.mk (HS0.out.below hb1); have HB0 := Aside0.mk (HB0.out.trans (hb1.mono HB0.out.size)); clear hb1)))
          go_ret
          exact ⟨by show Ending.returned (.bool (decide (n ≤ (L.length : Int) - x))) = _; rw [HV.out], HB0.out⟩
      · have d3 : decide (x ≤ (L.length : Int)) = false := decide_eq_false h3
        have hv : hold x n L.length = false := decide_eq_false (fun q => h3 q.2.2.1)
        have HV := Aside0.mk hv
        clear h1 h2 h3 hv
        as_aux_lemma =>
          go_enter Try.func40, Try.ntmps40
          go_wp2_with (first | (go_at_call 24; go_loud (refine (len_calls HS0.out hl).mono ?_; rintro e w1 ⟨rfl, hb1⟩; have HS0 := Aside0.mk (HS0.out.below hb1); have HB0 := Aside0.mk (HB0.out.trans (hb1.mono HB0.out.size)); clear hb1)))
          go_ret
          exact ⟨by show Ending.returned (.bool false) = _; rw [HV.out], HB0.out⟩
    · have d2 : decide (0 ≤ n) = false := decide_eq_false h2
      have hv : hold x n L.length = false := decide_eq_false (fun q => h2 q.2.1)
      have HV := Aside0.mk hv
      clear h1 h2 hv
      as_aux_lemma =>
        go_enter Try.func40, Try.ntmps40
        go_wp2
        go_ret
        exact ⟨by show Ending.returned (.bool false) = _; rw [HV.out], HB0.out⟩
  · have d1 : decide (0 ≤ x) = false := decide_eq_false h1
    have hv : hold x n L.length = false := decide_eq_false (fun q => h1 q.1)
    have HV := Aside0.mk hv
    clear h1 hv
    as_aux_lemma =>
      go_enter Try.func40, Try.ntmps40
      go_wp2
      go_ret
      exact ⟨by show Ending.returned (.bool false) = _; rw [HV.out], HB0.out⟩
set_option maxHeartbeats 8000000 in
set_option maxRecDepth 100000 in
theorem slice_calls {w : World} {g : Nat} {L : List S28} {c : S28} (h : St45 w g (rl L) c) (hl : L.length ≤ 100000) (x y : Int) :
    Calls Try.prog 20 #[.pointer (some ⟨g, 0, none⟩), .int .i64 x, .int .i64 y] w fun e w' => Below w.heap.size w w' ∧ SliceAns L x y w.heap.size e w' := by
  have HS0 := Aside0.mk h
  have HB0 := Aside0.mk (Below.refl w.heap.size w)
  clear h
  by_cases h1 : x < 0
  · have d1 : decide (x < 0) = true := decide_eq_true h1
    have HV := Aside0.mk (show ¬ (0 ≤ x ∧ x ≤ y ∧ y ≤ (L.length : Int)) by omega)
    clear h1
    as_aux_lemma =>
      go_enter Try.func20, Try.ntmps20
      go_wp2_with (first | (go_at_call 31; go_loud (refine (none_calls HS0.out).mono ?_; rintro e w1 ⟨rfl, rfl⟩; skip)))
      go_ret2
      exact ⟨HB0.out, by unfold SliceAns; rw [if_neg HV.out]; rfl⟩
  · have d1 : decide (x < 0) = false := decide_eq_false h1
    by_cases h2 : y < x
    · have d2 : decide (y < x) = true := decide_eq_true h2
      have HV := Aside0.mk (show ¬ (0 ≤ x ∧ x ≤ y ∧ y ≤ (L.length : Int)) by omega)
      clear h1 h2
      as_aux_lemma =>
        go_enter Try.func20, Try.ntmps20
        go_wp2_with (first | (go_at_call 31; go_loud (refine (none_calls HS0.out).mono ?_; rintro e w1 ⟨rfl, rfl⟩; skip)))
        go_ret2
        exact ⟨HB0.out, by unfold SliceAns; rw [if_neg HV.out]; rfl⟩
    · have d2 : decide (y < x) = false := decide_eq_false h2
      by_cases h3 : (L.length : Int) < y
      · have d3 : decide ((L.length : Int) < y) = true := decide_eq_true h3
        have HV := Aside0.mk (show ¬ (0 ≤ x ∧ x ≤ y ∧ y ≤ (L.length : Int)) by omega)
        clear h1 h2 h3
        as_aux_lemma =>
          go_enter Try.func20, Try.ntmps20
          go_wp2_with (first | (go_at_call 31; go_loud (refine (none_calls HS0.out).mono ?_; rintro e w1 ⟨rfl, rfl⟩; skip)) | (go_at_call 24; go_loud (refine (len_calls HS0.out hl).mono ?_; rintro e w1 ⟨rfl, hb1⟩; have HS0 := Aside0.mk (HS0.out.below hb1); have HB0 := Aside0.mk (HB0.out.trans (hb1.mono HB0.out.size)); clear hb1)))
          go_ret2
          exact ⟨HB0.out, by unfold SliceAns; rw [if_neg HV.out]; rfl⟩
      · have d3 : decide ((L.length : Int) < y) = false := decide_eq_false h3
        have HV := Aside0.mk (show (0 ≤ x ∧ x ≤ y ∧ y ≤ (L.length : Int)) by omega)
        clear h1 h2 h3
        as_aux_lemma =>
          go_enter Try.func20, Try.ntmps20
          go_wp2_with (first | (go_at_call 31; go_loud (refine (none_calls HS0.out).mono ?_; rintro e w1 ⟨rfl, rfl⟩; skip)) | (go_at_call 24; go_loud (refine (len_calls HS0.out hl).mono ?_; rintro e w1 ⟨rfl, hb1⟩; have HS0 := Aside0.mk (HS0.out.below hb1); have HB0 := Aside0.mk (HB0.out.trans (hb1.mono HB0.out.size)); clear hb1)) | (go_at_call 39; go_loud (refine (part_c HS0.out hl x.toNat y.toNat (by have := HV.out; omega) (by have := HV.out; omega) x y (by have := HV.out; omega) (by have := HV.out; omega)).mono ?_; rintro e w2 ⟨v, rfl, hv, hb2⟩; have HR := Aside0.mk (Kd.R_lower hv HB0.out.size); have HB0 := Aside0.mk (HB0.out.trans (hb2.mono HB0.out.size)); clear hv hb2)))
          go_ret2
          exact ⟨HB0.out, by unfold SliceAns; rw [if_pos HV.out]; exact ⟨_, rfl, HR.out⟩⟩
end Go.Proofs.Ytmggbbeecmjalaa.P
