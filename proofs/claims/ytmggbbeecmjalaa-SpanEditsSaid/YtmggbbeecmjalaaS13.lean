/- The walk of awake; no further condition. -/
import Derived.Test.YtmggbbeecmjalaaS9
import Derived.Test.YtmggbbeecmjalaaS10
import Derived.Test.YtmggbbeecmjalaaS11
import Derived.Test.YtmggbbeecmjalaaS12
namespace Go.Proofs.Ytmggbbeecmjalaa.P
open Go.RowKit Go.Proofs.YtmggbbeecmjalaaW.PrintWords Go.Proofs.YtmggbbeecmjalaaW.PrintLast Go.Proofs.YtmggbbeecmjalaaW.PrintMore
attribute [local go_sem] max2_int min2_int max_two min_two
set_option linter.unusedVariables false
set_option linter.unusedSimpArgs false


abbrev o1 : S28 := ⟨10, 0, 0⟩
abbrev t1 : S28 := ⟨12, 0, 0⟩
theorem one_c (w : World) : Calls Try.prog 26 #[] w fun e w' => e = .returned (.agg #[.int .i64 10, .int .i64 0, .int .i64 0]) ∧ Below w.heap.size w w' := quirelaw02_one.calls 10 0 0 w rfl
theorem two_c (w : World) : Calls Try.prog 29 #[] w fun e w' => e = .returned (.agg #[.int .i64 12, .int .i64 0, .int .i64 0]) ∧ Below w.heap.size w w' := quirelaw02_two.calls 12 0 0 w rfl
theorem spans_c {w : World} {A0 A1 : Option Addr} {m0 m1 c0 c1 : Nat} {l0 l1 : List S60} {ok0 ok1 : Nat → Prop} {b0 b1 : Nat} (h0 : Kd.R k60 60 w b0 ok0 (.slice A0 m0 c0) l0) (h1 : Kd.R k60 60 w b1 ok1 (.slice A1 m1 c1) l1) (hl : l0.length ≤ 100000) :
    Calls Try.prog 10 #[.slice A0 m0 c0, .slice A1 m1 c1] w fun e w' => e = .returned (.bool (decide (l0 = l1))) ∧ Below w.heap.size w w' := by
  obtain ⟨rfl, hc0, hC0⟩ := Kd.R_reads' h0
  obtain ⟨rfl, hc1, hC1⟩ := Kd.R_reads' h1
  exact (quirelaw02_spans.calls _ A0 c0 l0 A1 c1 l1 _ w hC0 hc0 hC1 hc1 (spans_f l0 l1 hl)).mono (fun e w' h => ⟨h.1, h.2.below⟩)
theorem below_none {w w' : World} (h : w.grownBy w' none) : Below w.heap.size w w' := ⟨h.os, h.tape, h.output, h.size, fun k hk => h.block k hk (by simp)⟩
theorem below_gb {w W W' : World} {g : Nat} (h : Below w.heap.size w W) (hge : w.heap.size ≤ g) (hg : W.grownBy W' (some g)) : Below w.heap.size w W' := h.grown hg h.size (fun k hk => by injection hk with hk; omega)
set_option maxHeartbeats 8000000 in
set_option maxRecDepth 100000 in
theorem awake_calls (w : World) : Calls Try.prog 25 #[] w fun e w' => e = .returned (.bool true) ∧ Below w.heap.size w w' := by
  have HB := Aside0.mk (Below.refl w.heap.size w)
  have HB0 := HB
  go_enter Try.func25, Try.ntmps25
  go_wp2_with (first | (go_at_call 26; go_loud (refine (one_c _).mono ?_; rintro e w9 ⟨rfl, hb9⟩; have HB := Aside0.mk (HB.out.trans (hb9.mono HB.out.size)); (try have HS := Aside0.mk (HS.out.below hb9)); (try have HV := Aside0.mk (Kd.R_below HV.out hb9)); (try have HX := Aside0.mk (blk_below HX.out hb9); have x0 := (blk_cell HX.out 0).trans rfl; have x1 := (blk_cell HX.out 1).trans rfl; have x2 := (blk_cell HX.out 2).trans rfl); clear hb9)))
  refine (new_calls 4 o1 _).mono ?_; rintro e w9 ⟨hb9, hA9⟩; unfold NewAns at hA9; rw [if_pos (by decide)] at hA9; obtain ⟨g, rfl, hge, hst⟩ := hA9; have HS := Aside0.mk (show St45 w9 g (rl [o1, o1, o1, o1]) o1 from hst); have HGE := Aside0.mk (Nat.le_trans HB.out.size hge); have HB := Aside0.mk (HB.out.trans (hb9.mono HB.out.size)); clear hge hst hb9
  go_wp2_with (first | (go_at_call 29; go_loud (refine (two_c _).mono ?_; rintro e w9 ⟨rfl, hb9⟩; have HB := Aside0.mk (HB.out.trans (hb9.mono HB.out.size)); (try have HS := Aside0.mk (HS.out.below hb9)); (try have HV := Aside0.mk (Kd.R_below HV.out hb9)); (try have HX := Aside0.mk (blk_below HX.out hb9); have x0 := (blk_cell HX.out 0).trans rfl; have x1 := (blk_cell HX.out 1).trans rfl; have x2 := (blk_cell HX.out 2).trans rfl); clear hb9)))
  refine (set_calls HS.out (by decide) 1 2 t1).mono ?_; rintro e w9 ⟨rfl, hst, hg9⟩; rw [show setE [o1, o1, o1, o1] 1 2 t1 = 0 by decide]; have HS := Aside0.mk (show St45 w9 g (rl [o1, t1, t1, o1]) o1 by have e9 : setL [o1, o1, o1, o1] 1 2 t1 = [o1, t1, t1, o1] := (by decide); rwa [e9] at hst); have HB := Aside0.mk (below_gb HB.out HGE.out hg9); (try have HV := Aside0.mk (R_gb HV.out HS0.out hg9)); clear hst hg9
  go_wp2_with (fail)
  refine (slice_calls HS.out (by decide) 0 4).mono ?_; rintro e w9 ⟨hb9, hA9⟩; unfold SliceAns at hA9; rw [if_pos (by decide)] at hA9; obtain ⟨v9, rfl, hv9⟩ := hA9; have e9 : rl (clip [o1, t1, t1, o1] (0 : Int).toNat (4 : Int).toNat) = [⟨1, o1⟩, ⟨2, t1⟩, ⟨1, o1⟩] := (by decide); rw [e9] at hv9; clear e9; obtain ⟨AV, kV, rfl⟩ := Kd.R_slice hv9; have HV := Aside0.mk (Kd.R_lower hv9 (Nat.zero_le _)); have HS := Aside0.mk (HS.out.below hb9); have HB := Aside0.mk (HB.out.trans (hb9.mono HB.out.size)); clear hv9 hb9
  go_wp2_with (first | (go_at_call 26; go_loud (refine (one_c _).mono ?_; rintro e w9 ⟨rfl, hb9⟩; have HB := Aside0.mk (HB.out.trans (hb9.mono HB.out.size)); (try have HS := Aside0.mk (HS.out.below hb9)); (try have HV := Aside0.mk (Kd.R_below HV.out hb9)); (try have HX := Aside0.mk (blk_below HX.out hb9); have x0 := (blk_cell HX.out 0).trans rfl; have x1 := (blk_cell HX.out 1).trans rfl; have x2 := (blk_cell HX.out 2).trans rfl); clear hb9)) | (go_at_call 29; go_loud (refine (two_c _).mono ?_; rintro e w9 ⟨rfl, hb9⟩; have HB := Aside0.mk (HB.out.trans (hb9.mono HB.out.size)); (try have HS := Aside0.mk (HS.out.below hb9)); (try have HV := Aside0.mk (Kd.R_below HV.out hb9)); (try have HX := Aside0.mk (blk_below HX.out hb9); have x0 := (blk_cell HX.out 0).trans rfl; have x1 := (blk_cell HX.out 1).trans rfl; have x2 := (blk_cell HX.out 2).trans rfl); clear hb9)) | ((with_reducible refine gate_dst (N := 37) rfl ?_); (try (refine gate_guard (by rfl) ?_; dsimp only)); go_loud (refine Kd.R_lit k60 (w0 := w) w.heap.size 60 ?hg (N := 37) ?hd (xs := ([⟨1, o1⟩, ⟨2, t1⟩, ⟨1, o1⟩] : List S60)) (inner := [.int .i64 1, .int .i64 10, .int .i64 0, .int .i64 0, .int .i64 2, .int .i64 12, .int .i64 0, .int .i64 0, .int .i64 1, .int .i64 10, .int .i64 0, .int .i64 0]) (ok := fun _ => True) (okp := fun _ => True) ?hr ?hp (fun _ hk => hk) trivial HB.out HB.out.size (by simp) ?_; (case hd => rfl); (case hg => rfl); (case hr => first | (go_simp; done) | (go_simp; rfl)); (case hp => exact (Reps.snoc (Reps.snoc (Reps.snoc (Reps.none _ _) (k60_mkM _ _ _ (⟨1, o1⟩ : S60)) rfl) (k60_mkM _ _ _ (⟨2, t1⟩ : S60)) rfl) (k60_mkM _ _ _ (⟨1, o1⟩ : S60)) rfl)); intro v8 w8 hv8 hb8 hg8 hn8; have hbl8 := below_none hg8; (try have HS := Aside0.mk (HS.out.below hbl8)); (try have HV := Aside0.mk (Kd.R_below HV.out hbl8)); (try have HX := Aside0.mk (blk_below HX.out hbl8); have x0 := (blk_cell HX.out 0).trans rfl; have x1 := (blk_cell HX.out 1).trans rfl; have x2 := (blk_cell HX.out 2).trans rfl); obtain ⟨AL, kL, rfl⟩ := Kd.R_slice hv8; have HLIT := Aside0.mk hv8; have HB := Aside0.mk hb8; clear hv8 hb8 hg8 hn8 hbl8)))
  refine (spans_c HV.out HLIT.out (by decide)).mono ?_; rintro e w9 ⟨rfl, hb9⟩; rw [show decide (([⟨1, o1⟩, ⟨2, t1⟩, ⟨1, o1⟩] : List S60) = [⟨1, o1⟩, ⟨2, t1⟩, ⟨1, o1⟩]) = true by decide]; have HB := Aside0.mk (HB.out.trans (hb9.mono HB.out.size)); (try have HS := Aside0.mk (HS.out.below hb9)); (try have HV := Aside0.mk (Kd.R_below HV.out hb9)); (try have HX := Aside0.mk (blk_below HX.out hb9); have x0 := (blk_cell HX.out 0).trans rfl; have x1 := (blk_cell HX.out 1).trans rfl; have x2 := (blk_cell HX.out 2).trans rfl); clear hb9
  go_wp2_with (fail)
  go_ret
  exact ⟨rfl, HB.out⟩
end Go.Proofs.Ytmggbbeecmjalaa.P
