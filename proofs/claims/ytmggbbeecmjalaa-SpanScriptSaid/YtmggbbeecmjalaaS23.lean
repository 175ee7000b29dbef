/- The walk of act: a call of looks and the reference's; no further condition. -/
import Derived.Test.YtmggbbeecmjalaaS22
import Derived.Test.YtmggbbeecmjalaaS18
import Derived.Test.YtmggbbeecmjalaaS12
namespace Go.Proofs.Ytmggbbeecmjalaa.P
open Go.RowKit Go.Proofs.YtmggbbeecmjalaaW.PrintWords Go.Proofs.YtmggbbeecmjalaaW.PrintLast Go.Proofs.YtmggbbeecmjalaaW.PrintMore
attribute [local go_sem] max2_int min2_int max_two min_two
set_option linter.unusedVariables false
set_option linter.unusedSimpArgs false


structure S40 where
  f0 : Int
  f1 : Int
  f2 : Int
  f3 : S28
def z40 : S40 := ⟨0, 0, 0, z28⟩
def k40 : Kd S40 := Kd.iso (Kd.pair (Kd.int .i64) (Kd.pair (Kd.int .i64) (Kd.pair (Kd.int .i64) k28))) (fun x : S40 => (x.f0, x.f1, x.f2, x.f3))
theorem k40_open {w : World} {x : S40} {cs : List Value} (h : k40.K w x cs) : cs = [.int .i64 x.f0, .int .i64 x.f1, .int .i64 x.f2, .int .i64 x.f3.f0, .int .i64 x.f3.f1, .int .i64 x.f3.f2] := by
  obtain ⟨_, _, rfl, rfl, ⟨_, _, rfl, rfl, ⟨_, _, rfl, rfl, s1⟩⟩⟩ := h
  obtain rfl := k28_open s1
  rfl
theorem k40_mk (w : World) (x : S40) : k40.K w x [.int .i64 x.f0, .int .i64 x.f1, .int .i64 x.f2, .int .i64 x.f3.f0, .int .i64 x.f3.f1, .int .i64 x.f3.f2] :=
  ⟨[.int .i64 x.f0], [.int .i64 x.f1, .int .i64 x.f2, .int .i64 x.f3.f0, .int .i64 x.f3.f1, .int .i64 x.f3.f2], rfl, rfl, ⟨[.int .i64 x.f1], [.int .i64 x.f2, .int .i64 x.f3.f0, .int .i64 x.f3.f1, .int .i64 x.f3.f2], rfl, rfl, ⟨[.int .i64 x.f2], [.int .i64 x.f3.f0, .int .i64 x.f3.f1, .int .i64 x.f3.f2], rfl, rfl, k28_mk w x.f3⟩⟩⟩
/-- what a call leaves -/
def actL (L : List S28) (K : S28) (a : S40) : List S28 := if a.f0 = 0 then insL L K a.f1 a.f2 else if a.f0 = 1 then delL L a.f1 a.f2 else if a.f0 = 2 then setL L a.f1 a.f2 a.f3 else L
def actK (L : List S28) (K : S28) (a : S40) : S28 := if a.f0 = 1 then delK L K a.f1 a.f2 else K
/-- all but two blocks stay -/
structure Two (w w' : World) (a b : Nat) : Prop where
  os : w'.os = w.os
  tape : w'.tape = w.tape
  output : w'.output = w.output
  size : w.heap.size ≤ w'.heap.size
  block : ∀ k, k < w.heap.size → k ≠ a → k ≠ b → w'.heap[k]? = w.heap[k]?
theorem Two.of_below {w W : World} (h : Below w.heap.size w W) (a b : Nat) : Two w W a b := ⟨h.os, h.tape, h.output, h.size, fun k hk _ _ => h.block k hk⟩
theorem Two.a {w W W' : World} {a b : Nat} (h : Two w W a b) (k : W.grownBy W' (some a)) : Two w W' a b :=
  ⟨k.os.trans h.os, k.tape.trans h.tape, k.output.trans h.output, Nat.le_trans h.size k.size, fun i hi ha hb => (k.block i (Nat.lt_of_lt_of_le hi h.size) (by intro q; injection q with q; exact ha q)).trans (h.block i hi ha hb)⟩
theorem Two.b {w W W' : World} {a b : Nat} (h : Two w W a b) (k : W.grownBy W' (some b)) : Two w W' a b :=
  ⟨k.os.trans h.os, k.tape.trans h.tape, k.output.trans h.output, Nat.le_trans h.size k.size, fun i hi ha hb => (k.block i (Nat.lt_of_lt_of_le hi h.size) (by intro q; injection q with q; exact hb q)).trans (h.block i hi ha hb)⟩
theorem Two.drew {w W : World} {a b : Nat} (h : Two w W a b) : Two w W.drew a b := ⟨h.os, h.tape, h.output, h.size, h.block⟩
theorem Two.below {w W W' : World} {a b : Nat} (h : Two w W a b) (k : Below W.heap.size W W') : Two w W' a b :=
  ⟨k.os.trans h.os, k.tape.trans h.tape, k.output.trans h.output, Nat.le_trans h.size k.size, fun i hi ha hb => (k.block i (Nat.lt_of_lt_of_le hi h.size)).trans (h.block i hi ha hb)⟩
theorem R_two {α : Type} {d : Kd α} {e a b : Nat} {w w' : World} {v : Value} {xs : List α} (h : Kd.R d e w 0 (fun _ => True) v xs) (ht : Two w w' a b) {ca cb : Array Value}
    (ha : w.heap[a]? = some (.cells ca 45 (0, 0))) (hb : w.heap[b]? = some (.cells cb 65 (0, 0))) (h45 : ∀ q, q ∈ e :: d.E → q ≠ (45 : Nat)) (h65 : ∀ q, q ∈ e :: d.E → q ≠ (65 : Nat)) : Kd.R d e w' 0 (fun _ => True) v xs :=
  Kd.R_mono (Kd.R_step (Kd.R_types (Kd.R_types h ha h45) hb h65) (fun k ho hk => ht.block k hk ho.1.2 ho.2)) (fun _ _ => trivial)
theorem St45.two {w w' : World} {g a b : Nat} {R Ra : List S60} {Lb : List S28} {c ca cb : S28} (h : St45 w g R c) (ha : St45 w a Ra ca) (hb : St65 w b Lb cb) (ht : Two w w' a b) (hne : g ≠ a) : St45 w' g R c := by
  obtain ⟨v, h1, h2⟩ := h
  obtain ⟨va, a1, a2⟩ := ha
  obtain ⟨vb, b1, b2⟩ := hb
  exact ⟨v, (ht.block g (blk_lt h1) hne (blk_ne h1 b1 (by decide))).trans h1, R_two h2 ht a1 b1 nt60_45 nt60_65⟩
theorem St65.two {w w' : World} {g a b : Nat} {L : List S28} {Ra : List S60} {Lb : List S28} {c ca cb : S28} (h : St65 w g L c) (ha : St45 w a Ra ca) (hb : St65 w b Lb cb) (ht : Two w w' a b) (hne : g ≠ b) : St65 w' g L c := by
  obtain ⟨v, h1, h2⟩ := h
  obtain ⟨va, a1, a2⟩ := ha
  obtain ⟨vb, b1, b2⟩ := hb
  exact ⟨v, (ht.block g (blk_lt h1) (blk_ne h1 a1 (by decide)) hne).trans h1, R_two h2 ht a1 b1 nt28_45 nt28_65⟩
set_option maxHeartbeats 8000000 in
set_option maxRecDepth 100000 in
theorem act_calls {w : World} {gl gw : Nat} {L : List S28} {K : S28} (h : St45 w gl (rl L) K) (h' : St65 w gw L K) (hl : L.length ≤ 50000) (a : S40) :
    Calls Try.prog 17 #[.pointer (some ⟨gl, 0, none⟩), .pointer (some ⟨gw, 0, none⟩), .agg #[.int .i64 a.f0, .int .i64 a.f1, .int .i64 a.f2, .int .i64 a.f3.f0, .int .i64 a.f3.f1, .int .i64 a.f3.f2]] w fun e w' => e = .returned (.bool true) ∧ St45 w' gl (rl (actL L K a)) (actK L K a) ∧ St65 w' gw (actL L K a) (actK L K a) ∧ Two w w' gl gw := by
  have HA := Aside0.mk h
  have HB := Aside0.mk h'
  clear h h'
  by_cases k0 : a.f0 = 0
  · have d0 : (a.f0 == 0) = true := beq_iff_eq.mpr k0
    have HL := Aside0.mk (show actL L K a = insL L K a.f1 a.f2 by unfold actL; rw [if_pos k0])
    have HK := Aside0.mk (show actK L K a = K by unfold actK; rw [if_neg (by omega)])
    clear k0
    as_aux_lemma =>
      go_enter Try.func17, Try.ntmps17
      go_wp2_with (first | ((with_reducible refine gate_dst (N := 5) rfl ?_); go_loud (refine box_event ?hg (N := 5) ?hd (cs := #[.int .i64 a.f0, .int .i64 a.f1, .int .i64 a.f2, .int .i64 a.f3.f0, .int .i64 a.f3.f1, .int .i64 a.f3.f2]) (t := 40) ?hr ?_; (case hd => rfl); (case hg => rfl); (case hr => first | (go_simp; done) | (go_simp; rfl)); intro gb0 hg0 w0 hx0 hb0; have HA := Aside0.mk (HA.out.below hb0); have HB := Aside0.mk (HB.out.below hb0); have HX := Aside0.mk hx0; have HT := Aside0.mk (Two.of_below hb0 gl gw); have HN := Aside0.mk (show gb0 ≠ gl ∧ gb0 ≠ gw from by obtain ⟨_, a1, _⟩ := HA.out; obtain ⟨_, b1, _⟩ := HB.out; exact ⟨blk_ne hx0 a1 (by decide), blk_ne hx0 b1 (by decide)⟩); have z0 := (blk_cell HX.out 0).trans rfl; have z1 := (blk_cell HX.out 1).trans rfl; have z2 := (blk_cell HX.out 2).trans rfl; have z3 := (blk_cell HX.out 3).trans rfl; have z4 := (blk_cell HX.out 4).trans rfl; have z5 := (blk_cell HX.out 5).trans rfl; clear hx0 hb0 hg0)))
      go_region_held3 (fun w' => w'.cell? ⟨gb0, 1, none⟩ = some (.int .i64 a.f1) ∧ w'.cell? ⟨gb0, 2, none⟩ = some (.int .i64 a.f2)) (refine ⟨?_, ?_⟩ <;> first | assumption | exact z1 | exact z2) (first | (go_at_call 21; go_loud (refine (insert_calls (by exact HA.out) hl a.f1 a.f2).mono ?_; rintro e w2 ⟨rfl, hst, hg2⟩; have HB := Aside0.mk (St65.off45 (by exact HB.out) (by exact HA.out) hg2); have HX := Aside0.mk (blk_grown (by exact HX.out) hg2 (by simpa using HN.out.1)); have HT := Aside0.mk (Two.a (by first | exact HT.out | exact HT.out.drew) hg2); have HA := Aside0.mk hst; have z0 := (blk_cell HX.out 0).trans rfl; have z1 := (blk_cell HX.out 1).trans rfl; have z2 := (blk_cell HX.out 2).trans rfl; have z3 := (blk_cell HX.out 3).trans rfl; have z4 := (blk_cell HX.out 4).trans rfl; have z5 := (blk_cell HX.out 5).trans rfl; clear hst hg2)) | (go_at_call 32; go_loud (refine (rinsert_calls (by exact HB.out) hl a.f1 a.f2).mono ?_; rintro e w3 ⟨rfl, hst, hg2⟩; have HA := Aside0.mk (St45.off65 (by exact HA.out) (by exact HB.out) hg2); have HX := Aside0.mk (blk_grown (by exact HX.out) hg2 (by simpa using HN.out.2)); have HT := Aside0.mk (Two.b (by first | exact HT.out | exact HT.out.drew) hg2); have HB := Aside0.mk hst; have z0 := (blk_cell HX.out 0).trans rfl; have z1 := (blk_cell HX.out 1).trans rfl; have z2 := (blk_cell HX.out 2).trans rfl; have z3 := (blk_cell HX.out 3).trans rfl; have z4 := (blk_cell HX.out 4).trans rfl; have z5 := (blk_cell HX.out 5).trans rfl; clear hst hg2)))
      all_goals (go_wp2_with (fail); go_ret; exact ⟨by first | rfl | (show Ending.returned (.bool _) = _; simp), by rw [HL.out, HK.out]; exact HA.out, by rw [HL.out, HK.out]; exact HB.out, by first | exact HT.out | exact HT.out.drew⟩)
  · have d0 : (a.f0 == 0) = false := beq_eq_false_iff_ne.mpr k0
    by_cases k1 : a.f0 = 1
    · have d1 : (a.f0 == 1) = true := beq_iff_eq.mpr k1
      have HL := Aside0.mk (show actL L K a = delL L a.f1 a.f2 by unfold actL; rw [if_neg k0, if_pos k1])
      have HK := Aside0.mk (show actK L K a = delK L K a.f1 a.f2 by unfold actK; rw [if_pos k1])
      clear k0 k1
      go_enter Try.func17, Try.ntmps17
      go_wp2_with (first | ((with_reducible refine gate_dst (N := 5) rfl ?_); go_loud (refine box_event ?hg (N := 5) ?hd (cs := #[.int .i64 a.f0, .int .i64 a.f1, .int .i64 a.f2, .int .i64 a.f3.f0, .int .i64 a.f3.f1, .int .i64 a.f3.f2]) (t := 40) ?hr ?_; (case hd => rfl); (case hg => rfl); (case hr => first | (go_simp; done) | (go_simp; rfl)); intro gb0 hg0 w0 hx0 hb0; have HA := Aside0.mk (HA.out.below hb0); have HB := Aside0.mk (HB.out.below hb0); have HX := Aside0.mk hx0; have HT := Aside0.mk (Two.of_below hb0 gl gw); have HN := Aside0.mk (show gb0 ≠ gl ∧ gb0 ≠ gw from by obtain ⟨_, a1, _⟩ := HA.out; obtain ⟨_, b1, _⟩ := HB.out; exact ⟨blk_ne hx0 a1 (by decide), blk_ne hx0 b1 (by decide)⟩); have z0 := (blk_cell HX.out 0).trans rfl; have z1 := (blk_cell HX.out 1).trans rfl; have z2 := (blk_cell HX.out 2).trans rfl; have z3 := (blk_cell HX.out 3).trans rfl; have z4 := (blk_cell HX.out 4).trans rfl; have z5 := (blk_cell HX.out 5).trans rfl; clear hx0 hb0 hg0)))
      go_region_held3 (fun w' => w'.cell? ⟨gb0, 1, none⟩ = some (.int .i64 a.f1) ∧ w'.cell? ⟨gb0, 2, none⟩ = some (.int .i64 a.f2)) (refine ⟨?_, ?_⟩ <;> first | assumption | exact z1 | exact z2) (first | (go_at_call 22; go_loud (refine (delete_calls (by exact HA.out) hl a.f1 a.f2).mono ?_; rintro e w2 ⟨rfl, hst, hg2⟩; have HB := Aside0.mk (St65.off45 (by exact HB.out) (by exact HA.out) hg2); have HX := Aside0.mk (blk_grown (by exact HX.out) hg2 (by simpa using HN.out.1)); have HT := Aside0.mk (Two.a (by first | exact HT.out | exact HT.out.drew) hg2); have HA := Aside0.mk hst; have z0 := (blk_cell HX.out 0).trans rfl; have z1 := (blk_cell HX.out 1).trans rfl; have z2 := (blk_cell HX.out 2).trans rfl; have z3 := (blk_cell HX.out 3).trans rfl; have z4 := (blk_cell HX.out 4).trans rfl; have z5 := (blk_cell HX.out 5).trans rfl; clear hst hg2)) | (go_at_call 33; go_loud (refine (rdelete_calls (by exact HB.out) hl a.f1 a.f2).mono ?_; rintro e w3 ⟨rfl, hst, hg2⟩; have HA := Aside0.mk (St45.off65 (by exact HA.out) (by exact HB.out) hg2); have HX := Aside0.mk (blk_grown (by exact HX.out) hg2 (by simpa using HN.out.2)); have HT := Aside0.mk (Two.b (by first | exact HT.out | exact HT.out.drew) hg2); have HB := Aside0.mk hst; have z0 := (blk_cell HX.out 0).trans rfl; have z1 := (blk_cell HX.out 1).trans rfl; have z2 := (blk_cell HX.out 2).trans rfl; have z3 := (blk_cell HX.out 3).trans rfl; have z4 := (blk_cell HX.out 4).trans rfl; have z5 := (blk_cell HX.out 5).trans rfl; clear hst hg2)))
      all_goals (go_wp2_with (fail); go_ret; exact ⟨by first | rfl | (show Ending.returned (.bool _) = _; simp), by rw [HL.out, HK.out]; exact HA.out, by rw [HL.out, HK.out]; exact HB.out, by first | exact HT.out | exact HT.out.drew⟩)
    · have d1 : (a.f0 == 1) = false := beq_eq_false_iff_ne.mpr k1
      by_cases k2 : a.f0 = 2
      · have d2 : (a.f0 == 2) = true := beq_iff_eq.mpr k2
        have HL := Aside0.mk (show actL L K a = setL L a.f1 a.f2 a.f3 by unfold actL; rw [if_neg k0, if_neg k1, if_pos k2])
        have HK := Aside0.mk (show actK L K a = K by unfold actK; rw [if_neg k1])
        clear k0 k1 k2
        go_enter Try.func17, Try.ntmps17
        go_wp2_with (first | ((with_reducible refine gate_dst (N := 5) rfl ?_); go_loud (refine box_event ?hg (N := 5) ?hd (cs := #[.int .i64 a.f0, .int .i64 a.f1, .int .i64 a.f2, .int .i64 a.f3.f0, .int .i64 a.f3.f1, .int .i64 a.f3.f2]) (t := 40) ?hr ?_; (case hd => rfl); (case hg => rfl); (case hr => first | (go_simp; done) | (go_simp; rfl)); intro gb0 hg0 w0 hx0 hb0; have HA := Aside0.mk (HA.out.below hb0); have HB := Aside0.mk (HB.out.below hb0); have HX := Aside0.mk hx0; have HT := Aside0.mk (Two.of_below hb0 gl gw); have HN := Aside0.mk (show gb0 ≠ gl ∧ gb0 ≠ gw from by obtain ⟨_, a1, _⟩ := HA.out; obtain ⟨_, b1, _⟩ := HB.out; exact ⟨blk_ne hx0 a1 (by decide), blk_ne hx0 b1 (by decide)⟩); have z0 := (blk_cell HX.out 0).trans rfl; have z1 := (blk_cell HX.out 1).trans rfl; have z2 := (blk_cell HX.out 2).trans rfl; have z3 := (blk_cell HX.out 3).trans rfl; have z4 := (blk_cell HX.out 4).trans rfl; have z5 := (blk_cell HX.out 5).trans rfl; clear hx0 hb0 hg0)))
        go_region_held3 (fun w' => w'.cell? ⟨gb0, 1, none⟩ = some (.int .i64 a.f1) ∧ w'.cell? ⟨gb0, 2, none⟩ = some (.int .i64 a.f2) ∧ w'.cell? ⟨gb0, 3, none⟩ = some (.int .i64 a.f3.f0) ∧ w'.cell? ⟨gb0, 4, none⟩ = some (.int .i64 a.f3.f1) ∧ w'.cell? ⟨gb0, 5, none⟩ = some (.int .i64 a.f3.f2)) (refine ⟨?_, ?_, ?_, ?_, ?_⟩ <;> first | assumption | exact z1 | exact z2 | exact z3 | exact z4 | exact z5) (first | (go_at_call 23; go_loud (refine (set_calls (by exact HA.out) hl a.f1 a.f2 a.f3).mono ?_; rintro e w2 ⟨rfl, hst, hg2⟩; have HB := Aside0.mk (St65.off45 (by exact HB.out) (by exact HA.out) hg2); have HX := Aside0.mk (blk_grown (by exact HX.out) hg2 (by simpa using HN.out.1)); have HT := Aside0.mk (Two.a (by first | exact HT.out | exact HT.out.drew) hg2); have HA := Aside0.mk hst; have z0 := (blk_cell HX.out 0).trans rfl; have z1 := (blk_cell HX.out 1).trans rfl; have z2 := (blk_cell HX.out 2).trans rfl; have z3 := (blk_cell HX.out 3).trans rfl; have z4 := (blk_cell HX.out 4).trans rfl; have z5 := (blk_cell HX.out 5).trans rfl; clear hst hg2)) | (go_at_call 34; go_loud (refine (rset_calls (by exact HB.out) hl a.f1 a.f2 a.f3).mono ?_; rintro e w3 ⟨rfl, hst, hg2⟩; have HA := Aside0.mk (St45.off65 (by exact HA.out) (by exact HB.out) hg2); have HX := Aside0.mk (blk_grown (by exact HX.out) hg2 (by simpa using HN.out.2)); have HT := Aside0.mk (Two.b (by first | exact HT.out | exact HT.out.drew) hg2); have HB := Aside0.mk hst; have z0 := (blk_cell HX.out 0).trans rfl; have z1 := (blk_cell HX.out 1).trans rfl; have z2 := (blk_cell HX.out 2).trans rfl; have z3 := (blk_cell HX.out 3).trans rfl; have z4 := (blk_cell HX.out 4).trans rfl; have z5 := (blk_cell HX.out 5).trans rfl; clear hst hg2)))
        all_goals (go_wp2_with (fail); go_ret; exact ⟨by first | rfl | (show Ending.returned (.bool _) = _; simp), by rw [HL.out, HK.out]; exact HA.out, by rw [HL.out, HK.out]; exact HB.out, by first | exact HT.out | exact HT.out.drew⟩)
      · have d2 : (a.f0 == 2) = false := beq_eq_false_iff_ne.mpr k2
        have HL := Aside0.mk (show actL L K a = L by unfold actL; rw [if_neg k0, if_neg k1, if_neg k2])
        have HK := Aside0.mk (show actK L K a = K by unfold actK; rw [if_neg k1])
        clear k0 k1 k2
        go_enter Try.func17, Try.ntmps17
        go_wp2_with (first | ((with_reducible refine gate_dst (N := 5) rfl ?_); go_loud (refine box_event ?hg (N := 5) ?hd (cs := #[.int .i64 a.f0, .int .i64 a.f1, .int .i64 a.f2, .int .i64 a.f3.f0, .int .i64 a.f3.f1, .int .i64 a.f3.f2]) (t := 40) ?hr ?_; (case hd => rfl); (case hg => rfl); (case hr => first | (go_simp; done) | (go_simp; rfl)); intro gb0 hg0 w0 hx0 hb0; have HA := Aside0.mk (HA.out.below hb0); have HB := Aside0.mk (HB.out.below hb0); have HX := Aside0.mk hx0; have HT := Aside0.mk (Two.of_below hb0 gl gw); have HN := Aside0.mk (show gb0 ≠ gl ∧ gb0 ≠ gw from by obtain ⟨_, a1, _⟩ := HA.out; obtain ⟨_, b1, _⟩ := HB.out; exact ⟨blk_ne hx0 a1 (by decide), blk_ne hx0 b1 (by decide)⟩); have z0 := (blk_cell HX.out 0).trans rfl; have z1 := (blk_cell HX.out 1).trans rfl; have z2 := (blk_cell HX.out 2).trans rfl; have z3 := (blk_cell HX.out 3).trans rfl; have z4 := (blk_cell HX.out 4).trans rfl; have z5 := (blk_cell HX.out 5).trans rfl; clear hx0 hb0 hg0)))
        go_ret
        exact ⟨rfl, by rw [HL.out, HK.out]; exact HA.out, by rw [HL.out, HK.out]; exact HB.out, HT.out⟩
end Go.Proofs.Ytmggbbeecmjalaa.P
