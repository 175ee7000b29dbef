/- The walk of part over looks; no further condition. -/
import Derived.Test.YtmggbbeecmjalaaS3
namespace Go.Proofs.Ytmggbbeecmjalaa.P
open Go.RowKit Go.Proofs.YtmggbbeecmjalaaW.PrintWords Go.Proofs.YtmggbbeecmjalaaW.PrintLast Go.Proofs.YtmggbbeecmjalaaW.PrintMore
attribute [local go_sem] max2_int min2_int max_two min_two max_three min_three max_four min_four
set_option linter.unusedVariables false
set_option linter.unusedSimpArgs false

def IsL45 (w0 W : World) (g : Nat) (f0 : Bool) (f1 : List (S60)) (f2 : Int) (f3 : Int) (f4 : Int) : Prop := ∃ A1 c1, W.heap[g]? = some (.cells #[.bool f0, .slice A1 f1.length c1, .int .i64 f2, .int .i64 f3, .int .i64 f4] 45 (0, 0)) ∧ True ∧ Kd.C k60 w0 A1 f1.length f1
theorem IsL45.grown {w0 W : World} {g : Nat} {f0 : Bool} {f1 : List (S60)} {f2 : Int} {f3 : Int} {f4 : Int} {W1 : World} {row : Option Nat} (h : IsL45 w0 W g f0 f1 f2 f3 f4) (hw : W.grownBy W1 row) (hne : some g ≠ row) : IsL45 w0 W1 g f0 f1 f2 f3 f4 := by
  obtain ⟨A1, c1, hb, hg, hr1⟩ := h
  exact ⟨A1, c1, blk_grown hb hw hne, hg, hr1⟩
theorem IsL45.own_neN {w0 W : World} {g : Nat} {f0 : Bool} {f1 : List (S60)} {f2 : Int} {f3 : Int} {f4 : Int} {α : Type} {d : Kd α} {e : Nat} {base : Nat} {ok : Nat → Prop} {v : Value} {xs : List α} (h : IsL45 w0 W g f0 f1 f2 f3 f4) (ho : Kd.N d e W base ok v xs) (ht : e ≠ 45) : some g ≠ v.ownBlock := by
  obtain ⟨A1, c1, hb, hg, hr1⟩ := h
  exact Kd.N_ne ho hb ht
theorem IsL45.fresh {w0 W : World} {g : Nat} {f0 : Bool} {f1 : List (S60)} {f2 : Int} {f3 : Int} {f4 : Int} (h : IsL45 w0 W g f0 f1 f2 f3 f4) : ∀ k, W.heap.size ≤ k → k ≠ g := by
  obtain ⟨A1, c1, hb, hg, hr1⟩ := h
  exact Kd.freshB hb
theorem IsL45.kept {w0 W : World} {g : Nat} {f0 : Bool} {f1 : List (S60)} {f2 : Int} {f3 : Int} {f4 : Int} {W1 : World} {S : Nat → Prop} (h : IsL45 w0 W g f0 f1 f2 f3 f4) (hk : Kept W W1 S) (hne : ¬ S g) : IsL45 w0 W1 g f0 f1 f2 f3 f4 := by
  obtain ⟨A1, c1, hb, hg, hr1⟩ := h
  exact ⟨A1, c1, blk_kept hb hk hne, hg, hr1⟩
theorem IsL45.below {w0 W : World} {g : Nat} {f0 : Bool} {f1 : List (S60)} {f2 : Int} {f3 : Int} {f4 : Int} {W1 : World} (h : IsL45 w0 W g f0 f1 f2 f3 f4) (hw : Below W.heap.size W W1) : IsL45 w0 W1 g f0 f1 f2 f3 f4 := h.grown (grown_of_below hw none) (by simp)
theorem IsL45.alloc {w0 W : World} {g : Nat} {f0 : Bool} {f1 : List (S60)} {f2 : Int} {f3 : Int} {f4 : Int} (h : IsL45 w0 W g f0 f1 f2 f3 f4) (o : Obj) : IsL45 w0 (W.alloc o) g f0 f1 f2 f3 f4 := h.below (below_alloc (Below.refl _ _) o)
theorem IsL45.drewN {w0 W : World} {g : Nat} {f0 : Bool} {f1 : List (S60)} {f2 : Int} {f3 : Int} {f4 : Int} (h : IsL45 w0 W g f0 f1 f2 f3 f4) (m : Nat) : IsL45 w0 (W.drewN m) g f0 f1 f2 f3 f4 := h
theorem IsL45.drew {w0 W : World} {g : Nat} {f0 : Bool} {f1 : List (S60)} {f2 : Int} {f3 : Int} {f4 : Int} (h : IsL45 w0 W g f0 f1 f2 f3 f4) : IsL45 w0 W.drew g f0 f1 f2 f3 f4 := h
theorem IsL45.at_ {w0 W : World} {g : Nat} {f0 : Bool} {f1 : List (S60)} {f2 : Int} {f3 : Int} {f4 : Int} {w' : World} {m : Nat} (hq : W.drewN m = w') (h : IsL45 w0 W g f0 f1 f2 f3 f4) : IsL45 w0 w' g f0 f1 f2 f3 f4 := by subst hq; exact IsL45.drewN h m
theorem IsL45.apart {w0 W : World} {g : Nat} {f0 : Bool} {f1 : List (S60)} {f2 : Int} {f3 : Int} {f4 : Int} {α : Type} {d : Kd α} {e : Nat} {base : Nat} {ok : Nat → Prop} {v : Value} {xs : List α} (h : IsL45 w0 W g f0 f1 f2 f3 f4) (ho : d.R e W base ok v xs) (ht : ∀ q, q ∈ e :: d.E → q ≠ 45) : d.R e W base (fun k => ok k ∧ k ≠ g) v xs := by
  obtain ⟨A1, c1, hb, hg, hr1⟩ := h
  exact Kd.R_types ho hb ht
theorem IsL45.own_ne {w0 W : World} {g : Nat} {f0 : Bool} {f1 : List (S60)} {f2 : Int} {f3 : Int} {f4 : Int} {α : Type} {d : Kd α} {e : Nat} {base : Nat} {ok : Nat → Prop} {v : Value} {xs : List α} (h : IsL45 w0 W g f0 f1 f2 f3 f4) (ho : d.R e W base ok v xs) (ht : e ≠ 45) : some g ≠ v.ownBlock := by
  obtain ⟨A1, c1, hb, hg, hr1⟩ := h
  exact Kd.R_ne ho hb ht
theorem IsL45.apartQ {w0 W : World} {g : Nat} {f0 : Bool} {f1 : List (S60)} {f2 : Int} {f3 : Int} {f4 : Int} {α : Type} {d : Kd α} {e : Nat} {base : Nat} {ok : Nat → Prop} {v : Value} {xs : List α} (h : IsL45 w0 W g f0 f1 f2 f3 f4) (ho : d.Q e W base ok v xs) (ht : ∀ q, q ∈ e :: d.E → q ≠ 45) : d.Q e W base (fun k => ok k ∧ k ≠ g) v xs := by
  obtain ⟨A1, c1, hb, hg, hr1⟩ := h
  exact Kd.Q_types ho hb ht
theorem IsL45.own_neQ {w0 W : World} {g : Nat} {f0 : Bool} {f1 : List (S60)} {f2 : Int} {f3 : Int} {f4 : Int} {α : Type} {d : Kd α} {e : Nat} {base : Nat} {ok : Nat → Prop} {v : Value} {xs : List α} (h : IsL45 w0 W g f0 f1 f2 f3 f4) (ho : d.Q e W base ok v xs) (ht : e ≠ 45) : some g ≠ v.ownBlock := by
  obtain ⟨A1, c1, hb, hg, hr1⟩ := h
  exact Kd.Q_ne ho hb ht
theorem IsL45.apartS {w0 W : World} {g : Nat} {f0 : Bool} {f1 : List (S60)} {f2 : Int} {f3 : Int} {f4 : Int} {α : Type} {d : Kd α} {e : Nat} {base : Nat} {ok : Nat → Prop} {v : Value} {xs : List α} (h : IsL45 w0 W g f0 f1 f2 f3 f4) (ho : d.S e W base ok v xs) (ht : ∀ q, q ∈ e :: d.E → q ≠ 45) : d.S e W base (fun k => ok k ∧ k ≠ g) v xs := by
  obtain ⟨A1, c1, hb, hg, hr1⟩ := h
  exact Kd.S_types ho hb ht
theorem IsL45.own_neS {w0 W : World} {g : Nat} {f0 : Bool} {f1 : List (S60)} {f2 : Int} {f3 : Int} {f4 : Int} {α : Type} {d : Kd α} {e : Nat} {base : Nat} {ok : Nat → Prop} {v : Value} {xs : List α} (h : IsL45 w0 W g f0 f1 f2 f3 f4) (ho : d.S e W base ok v xs) (ht : e ≠ 45) : some g ≠ v.ownBlock := by
  obtain ⟨A1, c1, hb, hg, hr1⟩ := h
  exact Kd.S_ne ho hb ht
theorem IsL45.lt {w0 W : World} {g : Nat} {f0 : Bool} {f1 : List (S60)} {f2 : Int} {f3 : Int} {f4 : Int} (h : IsL45 w0 W g f0 f1 f2 f3 f4) : g < W.heap.size := by
  obtain ⟨A1, c1, hb, hg, hr1⟩ := h
  exact blk_lt hb
theorem IsL45.ne_blk {w0 W : World} {g : Nat} {f0 : Bool} {f1 : List (S60)} {f2 : Int} {f3 : Int} {f4 : Int} {a : Nat} {cs : Array Value} {t : TypeId} {fr : Nat × Nat} (h : IsL45 w0 W g f0 f1 f2 f3 f4) (hb2 : W.heap[a]? = some (.cells cs t fr)) (ht : t ≠ 45) : g ≠ a := by
  obtain ⟨A1, c1, hb, hg, hr1⟩ := h
  rintro rfl
  rw [hb] at hb2
  injection hb2 with hb2
  injection hb2 with _ ht2
  exact ht ht2.symm
theorem IsL45.far {w0 W : World} {g : Nat} {f0 : Bool} {f1 : List (S60)} {f2 : Int} {f3 : Int} {f4 : Int} {p : Addr} (h : IsL45 w0 W g f0 f1 f2 f3 f4) (hne : g ≠ p.block) (u : Value) : IsL45 w0 (W.setCell p u) g f0 f1 f2 f3 f4 := by
  obtain ⟨A1, c1, hb, hg, hr1⟩ := h
  exact ⟨A1, c1, blk_far hb hne u, hg, hr1⟩
theorem cellL45_0 {W : World} {g : Nat} {A1 : Option Addr} {c1 : Nat} {f0 : Bool} {f1 : List (S60)} {f2 : Int} {f3 : Int} {f4 : Int} (h : W.heap[g]? = some (.cells #[.bool f0, .slice A1 f1.length c1, .int .i64 f2, .int .i64 f3, .int .i64 f4] 45 (0, 0))) : W.cell? ⟨g, 0, none⟩ = some (.bool f0) := (blk_cell h 0).trans rfl
theorem IsL45.set_0 {w0 W : World} {g : Nat} {f0 : Bool} {f1 : List (S60)} {f2 : Int} {f3 : Int} {f4 : Int} (h : IsL45 w0 W g f0 f1 f2 f3 f4) (x : Bool) : IsL45 w0 (W.setCell ⟨g, 0, none⟩ (.bool x)) g x f1 f2 f3 f4 := by
  obtain ⟨A1, c1, hb, hg, hr1⟩ := h
  exact ⟨A1, c1, by simpa using blk_set hb 0 (.bool x), hg, hr1⟩
theorem cellL45_1 {W : World} {g : Nat} {A1 : Option Addr} {c1 : Nat} {f0 : Bool} {f1 : List (S60)} {f2 : Int} {f3 : Int} {f4 : Int} (h : W.heap[g]? = some (.cells #[.bool f0, .slice A1 f1.length c1, .int .i64 f2, .int .i64 f3, .int .i64 f4] 45 (0, 0))) : W.cell? ⟨g, 1, none⟩ = some (.slice A1 f1.length c1) := (blk_cell h 1).trans rfl
theorem cellL45_2 {W : World} {g : Nat} {A1 : Option Addr} {c1 : Nat} {f0 : Bool} {f1 : List (S60)} {f2 : Int} {f3 : Int} {f4 : Int} (h : W.heap[g]? = some (.cells #[.bool f0, .slice A1 f1.length c1, .int .i64 f2, .int .i64 f3, .int .i64 f4] 45 (0, 0))) : W.cell? ⟨g, 2, none⟩ = some (.int .i64 f2) := (blk_cell h 2).trans rfl
theorem IsL45.set_2 {w0 W : World} {g : Nat} {f0 : Bool} {f1 : List (S60)} {f2 : Int} {f3 : Int} {f4 : Int} (h : IsL45 w0 W g f0 f1 f2 f3 f4) (x : Int) : IsL45 w0 (W.setCell ⟨g, 2, none⟩ (.int .i64 x)) g f0 f1 x f3 f4 := by
  obtain ⟨A1, c1, hb, hg, hr1⟩ := h
  exact ⟨A1, c1, by simpa using blk_set hb 2 (.int .i64 x), hg, hr1⟩
theorem cellL45_3 {W : World} {g : Nat} {A1 : Option Addr} {c1 : Nat} {f0 : Bool} {f1 : List (S60)} {f2 : Int} {f3 : Int} {f4 : Int} (h : W.heap[g]? = some (.cells #[.bool f0, .slice A1 f1.length c1, .int .i64 f2, .int .i64 f3, .int .i64 f4] 45 (0, 0))) : W.cell? ⟨g, 3, none⟩ = some (.int .i64 f3) := (blk_cell h 3).trans rfl
theorem IsL45.set_3 {w0 W : World} {g : Nat} {f0 : Bool} {f1 : List (S60)} {f2 : Int} {f3 : Int} {f4 : Int} (h : IsL45 w0 W g f0 f1 f2 f3 f4) (x : Int) : IsL45 w0 (W.setCell ⟨g, 3, none⟩ (.int .i64 x)) g f0 f1 f2 x f4 := by
  obtain ⟨A1, c1, hb, hg, hr1⟩ := h
  exact ⟨A1, c1, by simpa using blk_set hb 3 (.int .i64 x), hg, hr1⟩
theorem cellL45_4 {W : World} {g : Nat} {A1 : Option Addr} {c1 : Nat} {f0 : Bool} {f1 : List (S60)} {f2 : Int} {f3 : Int} {f4 : Int} (h : W.heap[g]? = some (.cells #[.bool f0, .slice A1 f1.length c1, .int .i64 f2, .int .i64 f3, .int .i64 f4] 45 (0, 0))) : W.cell? ⟨g, 4, none⟩ = some (.int .i64 f4) := (blk_cell h 4).trans rfl
theorem IsL45.set_4 {w0 W : World} {g : Nat} {f0 : Bool} {f1 : List (S60)} {f2 : Int} {f3 : Int} {f4 : Int} (h : IsL45 w0 W g f0 f1 f2 f3 f4) (x : Int) : IsL45 w0 (W.setCell ⟨g, 4, none⟩ (.int .i64 x)) g f0 f1 f2 f3 x := by
  obtain ⟨A1, c1, hb, hg, hr1⟩ := h
  exact ⟨A1, c1, by simpa using blk_set hb 4 (.int .i64 x), hg, hr1⟩

/-! ### span_Looks_part: function 39 -/
def span_Looks_part.l0 : Nat → Int → Int → List (S60) → Int → List (S60) → Int → Int → Bool → List (S60) → Int → Int → Int → Option ((List (S60)) × Bool × Int × Int × Int)
  | 0, _, _, _, _, _, _, _, _, _, _, _, _ => none
  | k + 1, x1, x2, x7, x8, x15, x16, x17, x1000, x1001, x1002, x1003, x1004 => if x17 < x16 then (if 0 ≤ x17 then (if x17 < (x15.length : Int) then (if (wrap64 ((mn x2 (wrap64 (x8 + ((rd_T60 x15 x17).f0)))) - (mx x1 x8))) > 0 then ((span_join.f k x7 (([(⟨wrap64 ((mn x2 (wrap64 (x8 + ((rd_T60 x15 x17).f0)))) - (mx x1 x8)), (⟨(rd_T60 x15 x17).f1.f0, (rd_T60 x15 x17).f1.f1, (rd_T60 x15 x17).f1.f2⟩ : S28)⟩ : S60)] : List (S60)))).bind fun t133 => (span_Looks_part.l0 k x1 x2 t133 (wrap64 (x8 + ((rd_T60 x15 x17).f0))) x15 x16 (wrap64 (x17 + 1)) x1000 x1001 x1002 x1003 x1004)) else (span_Looks_part.l0 k x1 x2 x7 (wrap64 (x8 + ((rd_T60 x15 x17).f0))) x15 x16 (wrap64 (x17 + 1)) x1000 x1001 x1002 x1003 x1004)) else (none)) else (none)) else (some (x7, x1000, x1002, x1003, x1004))
def span_Looks_part.f (k : Nat) (s0_0 : Bool) (s0_1 : List (S60)) (s0_2 : Int) (s0_3 : Int) (s0_4 : Int) (a1 : Int) (a2 : Int) : Option ((List (S60)) × Bool × Int × Int × Int) := span_Looks_part.l0 k a1 a2 ([] : List (S60)) 0 s0_1 (s0_1.length : Int) 0 s0_0 s0_1 s0_2 s0_3 s0_4
theorem span_Looks_part.mono_l : ∀ k, (∀ y0 y1 y2 y3 y4 y5 y6 y7 y8 y9 y10 y11, LeO (span_Looks_part.l0 k y0 y1 y2 y3 y4 y5 y6 y7 y8 y9 y10 y11) (span_Looks_part.l0 (k + 1) y0 y1 y2 y3 y4 y5 y6 y7 y8 y9 y10 y11))
  | 0 => fun _ _ _ _ _ _ _ _ _ _ _ _ r h => by simp [span_Looks_part.l0] at h
  | k + 1 => by
    have ih0 := span_Looks_part.mono_l k
    · intro y0 y1 y2 y3 y4 y5 y6 y7 y8 y9 y10 y11
      unfold span_Looks_part.l0
      repeat' first
      | (with_reducible exact ih0 _ _ _ _ _ _ _ _ _ _ _ _)
      | (with_reducible exact span_join.mono _ _ _)
      | (with_reducible exact LeO.refl _)
      | (with_reducible exact LeO.none _)
      | (with_reducible refine LeO.ite ?_ ?_)
      | (with_reducible refine LeO.bind ?_ (fun _ => ?_))
      | exact ih0 _ _ _ _ _ _ _ _ _ _ _ _
      | exact span_join.mono _ _ _
      | exact LeO.none _
      | refine LeO.ite ?_ ?_
      | refine LeO.bind ?_ (fun _ => ?_)
theorem span_Looks_part.mono : ∀ a0 a1 a2 a3 a4 a5 a6 k, LeO (span_Looks_part.f k a0 a1 a2 a3 a4 a5 a6) (span_Looks_part.f (k + 1) a0 a1 a2 a3 a4 a5 a6) := by
  intro a0 a1 a2 a3 a4 a5 a6 k
  have ih0 := span_Looks_part.mono_l k
  unfold span_Looks_part.f
  repeat' first
      | (with_reducible exact ih0 _ _ _ _ _ _ _ _ _ _ _ _)
      | (with_reducible exact span_join.mono _ _ _)
      | (with_reducible exact LeO.refl _)
      | (with_reducible exact LeO.none _)
      | (with_reducible refine LeO.ite ?_ ?_)
      | (with_reducible refine LeO.bind ?_ (fun _ => ?_))
      | exact ih0 _ _ _ _ _ _ _ _ _ _ _ _
      | exact span_join.mono _ _ _
      | exact LeO.none _
      | refine LeO.ite ?_ ?_
      | refine LeO.bind ?_ (fun _ => ?_)
set_option maxHeartbeats 8000000 in
set_option maxRecDepth 100000 in
theorem span_Looks_part.calls (k : Nat) (g : Nat) (s0_0 : Bool) (s0_1 : List (S60)) (s0_2 : Int) (s0_3 : Int) (s0_4 : Int) (a1 : Int) (a2 : Int) (r1 : List (S60)) (r2 : Bool) (r3 : Int) (r4 : Int) (r5 : Int) (w0 w : World) (hI : IsL45 w0 w g s0_0 s0_1 s0_2 s0_3 s0_4) (hB : Below w0.heap.size w0 w) (h : span_Looks_part.f k s0_0 s0_1 s0_2 s0_3 s0_4 a1 a2 = some (r1, r2, r3, r4, r5)) :
    Calls Try.prog 39 #[.pointer (some ⟨g, 0, none⟩), .int .i64 a1, .int .i64 a2] w fun e w' => ∃ v0_ : Value, e = .returned (v0_) ∧ Kd.R k60 60 w' w.heap.size (fun _ => True) v0_ r1 ∧ IsL45 w0 w' g r2 s0_1 r3 r4 r5 ∧ Below w0.heap.size w0 w' ∧ KeepBut w w' g none := by
  have hu60 := Try.underlying60
  have hu28 := Try.underlying28
  have HI0 := Aside0.mk hI
  have HK := Aside0.mk (KeepBut.refl w g none)
  have HL := Aside0.mk hB.size
  clear hI
  have HW0 := Aside0.mk hB.size
  have HB := Aside0.mk hB
  clear hB
  have H : (span_Looks_part.l0 k a1 a2 ([] : List (S60)) 0 s0_1 (s0_1.length : Int) 0 s0_0 s0_1 s0_2 s0_3 s0_4) = some (r1, r2, r3, r4, r5) := h
  clear h
  have H' := Aside0.mk H
  clear H
  obtain ⟨ASz4_1, cSz4_1, HGz4, hgz4, HSz4_1⟩ := HI0.out
  have hcz4_0 := cellL45_0 HGz4
  have hcz4_1 := cellL45_1 HGz4
  have hcz4_2 := cellL45_2 HGz4
  have hcz4_3 := cellL45_3 HGz4
  have hcz4_4 := cellL45_4 HGz4
  have hfz4_0 := blk_frozen HGz4 0
  have hfz4_2 := blk_frozen HGz4 2
  have hfz4_3 := blk_frozen HGz4 3
  have hfz4_4 := blk_frozen HGz4 4
  clear HGz4 hgz4
  go_enter Try.func39, Try.ntmps39
  go_wp2
  go_loopg [7, 8, 17] k (fun kq v7 v8 v17 w' => ∃ (x7_1 : List (S60)) (x8_1 : Int) (x17_1 : Int), v8 = .int .i64 x8_1 ∧ v17 = .int .i64 x17_1 ∧ Aside0 (span_Looks_part.l0 kq a1 a2 x7_1 x8_1 s0_1 (s0_1.length : Int) x17_1 s0_0 s0_1 s0_2 s0_3 s0_4 = some (r1, r2, r3, r4, r5)) ∧ Aside0 (kq ≤ k) ∧ Aside0 (Kd.R k60 60 w' w.heap.size (fun _ => True) v7 x7_1) ∧ Aside0 (IsL45 w0 w' g s0_0 s0_1 s0_2 s0_3 s0_4) ∧ Aside0 (KeepBut w w' g none) ∧ Aside0 (Below w0.heap.size w0 w'))
  case atStart => exact ⟨(([] : List (S60))), (0), (0), (by first | rfl | (simp; done) | (simp [*]; done)), (by first | rfl | (simp; done) | (simp [*]; done)), H', ⟨Nat.le_refl _⟩, ⟨by first | exact Kd.R_nil _ _ _ _ _ | exact Kd.N_nil _ _ _ _ _ | exact Kd.V_nil _ _ _ _ _ | exact Kd.Q_nil _ _ _ _ _ | exact Kd.S_nil _ _ _ _ _⟩, ⟨by repeat (first | (with_reducible first | exact HI0.out | apply IsL45.alloc | apply IsL45.drewN | apply IsL45.drew | apply IsL45.set_0 | apply IsL45.set_2 | apply IsL45.set_3 | apply IsL45.set_4) | exact HI0.out)⟩, ⟨by repeat (first | (with_reducible first | exact HK.out | apply KeepBut.set_ | apply keep_drewN | apply keep_drew | apply keep_alloc) | exact HK.out)⟩, ⟨by repeat (first | (with_reducible first | exact HB.out | apply below_alloc | apply pw_below_drewN | apply below_drew1) | exact HB.out)⟩⟩
  case round =>
    clear H'
    try clear p2
    try clear c3
    try clear hcz4_0
    try clear hcz4_1
    try clear hcz4_2
    try clear hcz4_3
    try clear hcz4_4
    try clear hfz4_0
    try clear hfz4_2
    try clear hfz4_3
    try clear hfz4_4
    obtain ⟨x7_1, x8_1, x17_1, rfl, rfl, HA, HK1, HO_7, HI0, HK, HB⟩ := hrel
    cases gk with
    | zero => exact absurd HA.out (by simp [span_Looks_part.l0])
    | succ k1 =>
      have H := HA.out
      clear HA
      simp only [span_Looks_part.l0] at H
      by_cases c5 : x17_1 < (s0_1.length : Int)
      · rw [if_pos c5] at H
        have c5b0 : decide (x17_1 < (s0_1.length : Int)) = true := decide_eq_true c5
        clear c5
        by_cases c6 : 0 ≤ x17_1
        · rw [if_pos c6] at H
          have c6b0 : decide (0 ≤ x17_1) = true := decide_eq_true c6
          clear c6
          by_cases c7 : x17_1 < (s0_1.length : Int)
          · rw [if_pos c7] at H
            have c7b0 : decide (x17_1 < (s0_1.length : Int)) = true := decide_eq_true c7
            clear c7
            obtain ⟨ji8, hji8⟩ : ∃ j_ : Int, (mn a2 (wrap64 (x8_1 + ((rd_T60 s0_1 x17_1).f0)))) = j_ := ⟨_, rfl⟩
            replace H : (if (wrap64 ((ji8) - (mx a1 x8_1))) > 0 then ((span_join.f k1 x7_1 (([(⟨wrap64 ((ji8) - (mx a1 x8_1)), (⟨(rd_T60 s0_1 x17_1).f1.f0, (rd_T60 s0_1 x17_1).f1.f1, (rd_T60 s0_1 x17_1).f1.f2⟩ : S28)⟩ : S60)] : List (S60)))).bind fun t133 => (span_Looks_part.l0 k1 a1 a2 t133 (wrap64 (x8_1 + ((rd_T60 s0_1 x17_1).f0))) s0_1 (s0_1.length : Int) (wrap64 (x17_1 + 1)) s0_0 s0_1 s0_2 s0_3 s0_4)) else (span_Looks_part.l0 k1 a1 a2 x7_1 (wrap64 (x8_1 + ((rd_T60 s0_1 x17_1).f0))) s0_1 (s0_1.length : Int) (wrap64 (x17_1 + 1)) s0_0 s0_1 s0_2 s0_3 s0_4)) = some (r1, r2, r3, r4, r5) := by first | (rw [hji8] at H; exact H) | (simp only [hji8] at H ⊢; exact H)
            have hji8_ : (if (wrap64 (x8_1 + ((rd_T60 s0_1 x17_1).f0))) < a2 then (wrap64 (x8_1 + ((rd_T60 s0_1 x17_1).f0))) else a2) = ji8 := hji8
            obtain ⟨ji9, hji9⟩ : ∃ j_ : Int, (mx a1 x8_1) = j_ := ⟨_, rfl⟩
            replace H : (if (wrap64 ((ji8) - (ji9))) > 0 then ((span_join.f k1 x7_1 (([(⟨wrap64 ((ji8) - (ji9)), (⟨(rd_T60 s0_1 x17_1).f1.f0, (rd_T60 s0_1 x17_1).f1.f1, (rd_T60 s0_1 x17_1).f1.f2⟩ : S28)⟩ : S60)] : List (S60)))).bind fun t133 => (span_Looks_part.l0 k1 a1 a2 t133 (wrap64 (x8_1 + ((rd_T60 s0_1 x17_1).f0))) s0_1 (s0_1.length : Int) (wrap64 (x17_1 + 1)) s0_0 s0_1 s0_2 s0_3 s0_4)) else (span_Looks_part.l0 k1 a1 a2 x7_1 (wrap64 (x8_1 + ((rd_T60 s0_1 x17_1).f0))) s0_1 (s0_1.length : Int) (wrap64 (x17_1 + 1)) s0_0 s0_1 s0_2 s0_3 s0_4)) = some (r1, r2, r3, r4, r5) := by first | (rw [hji9] at H; exact H) | (simp only [hji9] at H ⊢; exact H)
            have hji9_ : (if a1 < x8_1 then x8_1 else a1) = ji9 := hji9
            by_cases c10 : (wrap64 ((ji8) - (ji9))) > 0
            · rw [if_pos c10] at H
              have c10b0 : decide (0 < (wrap64 ((ji8) - (ji9)))) = true := decide_eq_true c10
              clear c10
              obtain ⟨y130, hy130⟩ : ∃ y_ : List (S60), y_ = (([(⟨wrap64 ((ji8) - (ji9)), (⟨(rd_T60 s0_1 x17_1).f1.f0, (rd_T60 s0_1 x17_1).f1.f1, (rd_T60 s0_1 x17_1).f1.f2⟩ : S28)⟩ : S60)] : List (S60))) := ⟨_, rfl⟩
              replace H : ((span_join.f k1 x7_1 y130).bind fun t133 => (span_Looks_part.l0 k1 a1 a2 t133 (wrap64 (x8_1 + ((rd_T60 s0_1 x17_1).f0))) s0_1 (s0_1.length : Int) (wrap64 (x17_1 + 1)) s0_0 s0_1 s0_2 s0_3 s0_4)) = some (r1, r2, r3, r4, r5) := by first | (rw [hy130]; with_reducible exact H) | (have H2_ := (Option.bind_some _ _).symm.trans H; rw [hy130]; with_reducible exact H2_) | (have H2_ := (Option.bind_some _ _).symm.trans H; with_reducible exact H2_) | with_reducible exact H | (rw [hy130]; exact H) | exact H
              have Ny130 := Aside0.mk hy130
              clear hy130
              replace H := Option.bind_eq_some_iff.mp H
              obtain ⟨t133, A110, H⟩ := H
              replace H : (span_Looks_part.l0 k1 a1 a2 t133 (wrap64 (x8_1 + ((rd_T60 s0_1 x17_1).f0))) s0_1 (s0_1.length : Int) (wrap64 (x17_1 + 1)) s0_0 s0_1 s0_2 s0_3 s0_4) = some (r1, r2, r3, r4, r5) := H
              have A11 := Aside0.mk A110
              clear A110
              have H' := Aside0.mk H
              clear H
              obtain ⟨ASz12_1, cSz12_1, HGz12, hgz12, HSz12_1⟩ := HI0.out
              have hcz12_0 := cellL45_0 HGz12
              have hcz12_1 := cellL45_1 HGz12
              have hcz12_2 := cellL45_2 HGz12
              have hcz12_3 := cellL45_3 HGz12
              have hcz12_4 := cellL45_4 HGz12
              have hfz12_0 := blk_frozen HGz12 0
              have hfz12_2 := blk_frozen HGz12 2
              have hfz12_3 := blk_frozen HGz12 3
              have hfz12_4 := blk_frozen HGz12 4
              clear HGz12 hgz12
              have p128 : 0 ≤ (x17_1 : Int) := of_decide_eq_true (by first | (with_reducible assumption) | assumption)
              have q128 : x17_1 < (s0_1.length : Int) := of_decide_eq_true (by first | (with_reducible assumption) | assumption)
              obtain ⟨ad128, e128, hx128_0, hx128_1, hx128_2, hx128_3⟩ := at_T60 HSz4_1 x17_1 p128 q128
              cases e128
              replace hx128_0 := pw_cell_below HB.out hx128_0
              replace hx128_1 := pw_cell_below HB.out hx128_1
              replace hx128_2 := pw_cell_below HB.out hx128_2
              replace hx128_3 := pw_cell_below HB.out hx128_3
              replace p128 := eq_true p128
              replace q128 := eq_true q128
              go_wp2_with (first | ((with_reducible refine gate_dst (N := 10) rfl ?_); refine box_event ?hg (N := 10) ?hd (cs := #[.int .i64 0, .int .i64 0, .int .i64 0, .int .i64 0]) (t := 60) ?hr ?_; (case hd => rfl); (case hg => rfl); (case hr => first | (go_simp; done) | (go_simp; rfl)); intro gb129 hg w13 hbox hb; have n0_ := Aside0.mk (Kd.R_below (Kd.R_elderB (by (with_reducible repeat (first | apply Kd.R_alloc | apply Kd.R_drewN | apply Kd.R_drew)); exact HO_7.out) gb129 (Nat.le_of_eq hg.symm)) hb); have n1_ := Aside0.mk (IsL45.below (by repeat (first | (with_reducible first | exact HI0.out | apply IsL45.alloc | apply IsL45.drewN | apply IsL45.drew | apply IsL45.set_0 | apply IsL45.set_2 | apply IsL45.set_3 | apply IsL45.set_4) | exact HI0.out)) hb); have n2_ := Aside0.mk (KeepBut.trans (by repeat (first | (with_reducible first | exact HK.out | apply KeepBut.set_ | apply keep_drewN | apply keep_drew | apply keep_alloc) | exact HK.out)) (KeepBut.of_below hb g none) (.inl rfl)); have n3_ := Aside0.mk (below_step (by repeat (first | (with_reducible first | exact HB.out | apply below_alloc | apply pw_below_drewN | apply below_drew1) | exact HB.out)) hb); have n4_ := Aside0.mk (hbox); have n5_ := Aside0.mk ((by rw [hg]; exact (keep_size (w := w) (g := g) (row := none) (by repeat (first | (with_reducible first | exact HK.out | apply KeepBut.set_ | apply keep_drewN | apply keep_drew | apply keep_alloc) | exact HK.out))) : w.heap.size ≤ gb129)); have n6_ := Aside0.mk ((Nat.le_trans HW0.out (by rw [hg]; exact (keep_size (w := w) (g := g) (row := none) (by repeat (first | (with_reducible first | exact HK.out | apply KeepBut.set_ | apply keep_drewN | apply keep_drew | apply keep_alloc) | exact HK.out))) : w.heap.size ≤ gb129) : w0.heap.size ≤ gb129)); have n7_ := Aside0.mk ((by rw [hg]; exact Nat.ne_of_lt (IsL45.lt (show IsL45 w0 _ g s0_0 s0_1 s0_2 s0_3 s0_4 from by repeat (first | (with_reducible first | exact HI0.out | apply IsL45.alloc | apply IsL45.drewN | apply IsL45.drew | apply IsL45.set_0 | apply IsL45.set_2 | apply IsL45.set_3 | apply IsL45.set_4) | exact HI0.out))) : g ≠ gb129)); have n8_ := Aside0.mk ((by rw [hg]; exact Nat.ne_of_gt (IsL45.lt (show IsL45 w0 _ g s0_0 s0_1 s0_2 s0_3 s0_4 from by repeat (first | (with_reducible first | exact HI0.out | apply IsL45.alloc | apply IsL45.drewN | apply IsL45.drew | apply IsL45.set_0 | apply IsL45.set_2 | apply IsL45.set_3 | apply IsL45.set_4) | exact HI0.out))) : gb129 ≠ g)); clear HO_7; clear HI0; clear HK; clear HB; have HO_7 := n0_; have HI0 := n1_; have HK := n2_; have HB := n3_; have BK129 := n4_; have GW129 := n5_; have GE129 := n6_; have NB0_129 := n7_; have NB129_0 := n8_; clear n0_ n1_ n2_ n3_ n4_ n5_ n6_ n7_ n8_; clear hb hbox hg; have hnb14 := NB129_0.out; have hnc14 := NB0_129.out; have hcz15_0 : w13.cell? ⟨gb129, 0, none⟩ = some (.int .i64 0) := (blk_cell BK129.out 0).trans rfl; have hcz15_1 : w13.cell? ⟨gb129, 1, none⟩ = some (.int .i64 0) := (blk_cell BK129.out 1).trans rfl; have hcz15_2 : w13.cell? ⟨gb129, 2, none⟩ = some (.int .i64 0) := (blk_cell BK129.out 2).trans rfl; have hcz15_3 : w13.cell? ⟨gb129, 3, none⟩ = some (.int .i64 0) := (blk_cell BK129.out 3).trans rfl; have hfz15_0 := blk_frozen BK129.out 0; have hfz15_1 := blk_frozen BK129.out 1; have hfz15_2 := blk_frozen BK129.out 2; have hfz15_3 := blk_frozen BK129.out 3) | ((with_reducible refine gate_dst (N := 38) rfl ?_); refine Kd.R_lit k60 _ 60 ?hg (N := 38) ?hd (xs := ([(⟨wrap64 ((ji8) - (ji9)), (⟨(rd_T60 s0_1 x17_1).f1.f0, (rd_T60 s0_1 x17_1).f1.f1, (rd_T60 s0_1 x17_1).f1.f2⟩ : S28)⟩ : S60)] : List (S60))) (inner := [.int .i64 (wrap64 ((ji8) - (ji9))), .int .i64 ((rd_T60 s0_1 x17_1).f1.f0), .int .i64 ((rd_T60 s0_1 x17_1).f1.f1), .int .i64 ((rd_T60 s0_1 x17_1).f1.f2)]) (ok := fun _ => True) (okp := fun _ => True) ?hr ?hp (fun _ hk => hk) trivial (Below.refl _ _) (Nat.le_refl _) (by simp) ?_; (case hd => rfl); (case hg => rfl); (case hr => first | (go_simp; done) | (go_simp; rfl)); (case hp => exact (Reps.c4 (show Kd.M k60 _ _ _ (⟨wrap64 ((ji8) - (ji9)), (⟨(rd_T60 s0_1 x17_1).f1.f0, (rd_T60 s0_1 x17_1).f1.f1, (rd_T60 s0_1 x17_1).f1.f2⟩ : S28)⟩ : S60) [.int .i64 (wrap64 ((ji8) - (ji9))), .int .i64 ((rd_T60 s0_1 x17_1).f1.f0), .int .i64 ((rd_T60 s0_1 x17_1).f1.f1), .int .i64 ((rd_T60 s0_1 x17_1).f1.f2)] from (k60_mkM _ _ _ (⟨wrap64 ((ji8) - (ji9)), (⟨(rd_T60 s0_1 x17_1).f1.f0, (rd_T60 s0_1 x17_1).f1.f1, (rd_T60 s0_1 x17_1).f1.f2⟩ : S28)⟩ : S60) )) (Reps.none _ _))); intro v131 w16 ho17 hb hg_ hnew_; clear hg_ hnew_; (first | rw [← Ny130.out] at ho17 | (simp only [Int.reduceToNat] at ho17; rw [← Ny130.out] at ho17)); have n0_ := Aside0.mk (Kd.R_elder' (by (with_reducible repeat (first | apply Kd.R_alloc | apply Kd.R_drewN | apply Kd.R_drew)); exact (Kd.R_mono (Kd.R_far (p := ⟨gb129, 3, none⟩) (Kd.R_far (p := ⟨gb129, 2, none⟩) (Kd.R_far (p := ⟨gb129, 1, none⟩) (Kd.R_far (p := ⟨gb129, 0, none⟩) (Kd.R_mono HO_7.out (fun k_ hk => (⟨hk, hk.2⟩ : _ ∧ k_ ≠ gb129))) (fun _ hk => hk.2) (.int .i64 ((rd_T60 s0_1 x17_1).f0))) (fun _ hk => hk.2) (.int .i64 ((rd_T60 s0_1 x17_1).f1.f0))) (fun _ hk => hk.2) (.int .i64 ((rd_T60 s0_1 x17_1).f1.f1))) (fun _ hk => hk.2) (.int .i64 ((rd_T60 s0_1 x17_1).f1.f2))) (fun _ h_ => h_.1))) (Kd.R_base ho17) hb); have n1_ := Aside0.mk (Kd.R_lower (Kd.R_newB (Kd.R_new' ho17 (Kd.R_lt (by (with_reducible repeat (first | apply Kd.R_alloc | apply Kd.R_drewN | apply Kd.R_drew)); exact (Kd.R_mono (Kd.R_far (p := ⟨gb129, 3, none⟩) (Kd.R_far (p := ⟨gb129, 2, none⟩) (Kd.R_far (p := ⟨gb129, 1, none⟩) (Kd.R_far (p := ⟨gb129, 0, none⟩) (Kd.R_mono HO_7.out (fun k_ hk => (⟨hk, hk.2⟩ : _ ∧ k_ ≠ gb129))) (fun _ hk => hk.2) (.int .i64 ((rd_T60 s0_1 x17_1).f0))) (fun _ hk => hk.2) (.int .i64 ((rd_T60 s0_1 x17_1).f1.f0))) (fun _ hk => hk.2) (.int .i64 ((rd_T60 s0_1 x17_1).f1.f1))) (fun _ hk => hk.2) (.int .i64 ((rd_T60 s0_1 x17_1).f1.f2))) (fun _ h_ => h_.1))))) (g := gb129) (o := .cells #[.int .i64 ((rd_T60 s0_1 x17_1).f0), .int .i64 ((rd_T60 s0_1 x17_1).f1.f0), .int .i64 ((rd_T60 s0_1 x17_1).f1.f1), .int .i64 ((rd_T60 s0_1 x17_1).f1.f2)] 60 (0, 0)) (by (with_reducible repeat (first | refine blk_drewN ?_ _ | refine blk_drew ?_ | refine blk_alloc ?_ _)); refine blk_put (cs := #[.int .i64 ((rd_T60 s0_1 x17_1).f0), .int .i64 ((rd_T60 s0_1 x17_1).f1.f0), .int .i64 ((rd_T60 s0_1 x17_1).f1.f1), .int .i64 0]) ?_ 3 _ rfl; (with_reducible repeat (first | refine blk_drewN ?_ _ | refine blk_drew ?_ | refine blk_alloc ?_ _)); refine blk_put (cs := #[.int .i64 ((rd_T60 s0_1 x17_1).f0), .int .i64 ((rd_T60 s0_1 x17_1).f1.f0), .int .i64 0, .int .i64 0]) ?_ 2 _ rfl; (with_reducible repeat (first | refine blk_drewN ?_ _ | refine blk_drew ?_ | refine blk_alloc ?_ _)); refine blk_put (cs := #[.int .i64 ((rd_T60 s0_1 x17_1).f0), .int .i64 0, .int .i64 0, .int .i64 0]) ?_ 1 _ rfl; (with_reducible repeat (first | refine blk_drewN ?_ _ | refine blk_drew ?_ | refine blk_alloc ?_ _)); refine blk_put (cs := #[.int .i64 0, .int .i64 0, .int .i64 0, .int .i64 0]) ?_ 0 _ rfl; (with_reducible repeat (first | refine blk_drewN ?_ _ | refine blk_drew ?_ | refine blk_alloc ?_ _)); exact BK129.out)) (keep_size (w := w) (g := g) (row := none) (by repeat (first | (with_reducible first | exact HK.out | apply KeepBut.set_ | apply keep_drewN | apply keep_drew | apply keep_alloc | refine keep_far ?_ GW129.out _) | exact HK.out)))); have n2_ := Aside0.mk (IsL45.below (show IsL45 w0 ((((w13.setCell ⟨gb129, 0, none⟩ (.int .i64 ((rd_T60 s0_1 x17_1).f0))).setCell ⟨gb129, 1, none⟩ (.int .i64 ((rd_T60 s0_1 x17_1).f1.f0))).setCell ⟨gb129, 2, none⟩ (.int .i64 ((rd_T60 s0_1 x17_1).f1.f1))).setCell ⟨gb129, 3, none⟩ (.int .i64 ((rd_T60 s0_1 x17_1).f1.f2))) g s0_0 s0_1 s0_2 s0_3 s0_4 from by repeat (first | (with_reducible first | exact HI0.out | apply IsL45.alloc | apply IsL45.drewN | apply IsL45.drew | apply IsL45.set_0 | apply IsL45.set_2 | apply IsL45.set_3 | apply IsL45.set_4 | refine IsL45.far ?_ NB0_129.out _) | exact HI0.out)) hb); have n3_ := Aside0.mk (blk_below (g := gb129) (o := .cells #[.int .i64 ((rd_T60 s0_1 x17_1).f0), .int .i64 ((rd_T60 s0_1 x17_1).f1.f0), .int .i64 ((rd_T60 s0_1 x17_1).f1.f1), .int .i64 ((rd_T60 s0_1 x17_1).f1.f2)] 60 (0, 0)) (by (with_reducible repeat (first | refine blk_drewN ?_ _ | refine blk_drew ?_ | refine blk_alloc ?_ _)); refine blk_put (cs := #[.int .i64 ((rd_T60 s0_1 x17_1).f0), .int .i64 ((rd_T60 s0_1 x17_1).f1.f0), .int .i64 ((rd_T60 s0_1 x17_1).f1.f1), .int .i64 0]) ?_ 3 _ rfl; (with_reducible repeat (first | refine blk_drewN ?_ _ | refine blk_drew ?_ | refine blk_alloc ?_ _)); refine blk_put (cs := #[.int .i64 ((rd_T60 s0_1 x17_1).f0), .int .i64 ((rd_T60 s0_1 x17_1).f1.f0), .int .i64 0, .int .i64 0]) ?_ 2 _ rfl; (with_reducible repeat (first | refine blk_drewN ?_ _ | refine blk_drew ?_ | refine blk_alloc ?_ _)); refine blk_put (cs := #[.int .i64 ((rd_T60 s0_1 x17_1).f0), .int .i64 0, .int .i64 0, .int .i64 0]) ?_ 1 _ rfl; (with_reducible repeat (first | refine blk_drewN ?_ _ | refine blk_drew ?_ | refine blk_alloc ?_ _)); refine blk_put (cs := #[.int .i64 0, .int .i64 0, .int .i64 0, .int .i64 0]) ?_ 0 _ rfl; (with_reducible repeat (first | refine blk_drewN ?_ _ | refine blk_drew ?_ | refine blk_alloc ?_ _)); exact BK129.out) hb); have n4_ := Aside0.mk (KeepBut.trans (by repeat (first | (with_reducible first | exact HK.out | apply KeepBut.set_ | apply keep_drewN | apply keep_drew | apply keep_alloc | refine keep_far ?_ GW129.out _) | exact HK.out)) (KeepBut.of_below hb g none) (.inl rfl)); have n5_ := Aside0.mk (below_step (by repeat (first | (with_reducible first | exact HB.out | apply below_alloc | apply pw_below_drewN | apply below_drew1 | refine below_set ?_ GE129.out) | exact HB.out)) hb); clear HO_7; clear HI0; clear BK129; clear HK; clear HB; have HO_7 := n0_; have HO132 := n1_; have HI0 := n2_; have BK129 := n3_; have HK := n4_; have HB := n5_; clear n0_ n1_ n2_ n3_ n4_ n5_; clear hb ho17; obtain ⟨Ao18, co18, eo18⟩ := Kd.R_slice HO_7.out; subst eo18; obtain ⟨Ao19, co19, eo19⟩ := Kd.R_slice HO132.out; subst eo19) | ((with_reducible refine gate_callee (f := 30) rfl ?_); refine goesL_ (some 39) rfl rfl Try.func30 (by kernel_rfl) rfl #[.slice Ao18 x7_1.length co18, .slice Ao19 y130.length co19] rfl (by (try simp only [List.map_toArray, List.map_cons, List.map_nil]); first | done | rfl | (simp only [List.length_drop, List.length_take]; rfl)) ?_; (with_reducible refine (span_join.calls k1 (fun k_ => some k_ = (.slice Ao18 x7_1.length co18 : Value).ownBlock) (.slice Ao18 x7_1.length co18) x7_1 _ _ y130 t133 w0 _ ?side1 ?side2 ?side3 ?side4 A11.out).mono ?_); (case side1 => repeat (first | (with_reducible first | exact HB.out | apply below_alloc | apply pw_below_drewN | apply below_drew1 | refine below_set ?_ GE129.out) | exact HB.out)); (case side2 => exact Kd.R_lower (Kd.R_tight rfl HO_7.out) HL.out); (case side3 => exact Kd.C_kept_own (HO132.out) (fun k_ hk_ hs_ => (hk_.1.2) hs_)); (case side4 => exact (Kd.R_reads' HO132.out).2.1); rintro e w20 ⟨v134, rfl, ho0, hb, hkp⟩; refine ⟨_, rfl, ?_⟩; have n0_ := Aside0.mk (IsL45.kept (by repeat (first | (with_reducible first | exact HI0.out | apply IsL45.alloc | apply IsL45.drewN | apply IsL45.drew | apply IsL45.set_0 | apply IsL45.set_2 | apply IsL45.set_3 | apply IsL45.set_4 | refine IsL45.far ?_ NB0_129.out _) | exact HI0.out)) hkp (fun hs_ => (fun e_ => (IsL45.own_ne HI0.out HO_7.out (by decide)) e_) hs_)); have n1_ := Aside0.mk (blk_kept (by (with_reducible repeat (first | refine blk_drewN ?_ _ | refine blk_drew ?_ | refine blk_alloc ?_ _)); exact BK129.out) hkp (fun hs_ => (fun e_ => (Kd.R_away HO_7.out (fun _ hk => hk.1.2)) e_) hs_)); have n2_ := Aside0.mk (Kd.R_mono (ok' := fun k_ => k_ ≠ gb129 ∧ some k_ ≠ (v134 : Value).ownBlock) (Kd.R_keptB (HO132.out) hkp (fun k_ hk_ hs_ => (hk_.1.2) hs_)) (fun k_ hk_ => ⟨hk_.1.2, fun e_ => Or.elim (ho0.1 k_ e_.symm) (fun hs_ => hk_.2.1 hs_) (fun hn_ => Nat.not_le.2 hk_.2.2 hn_)⟩)); have n3_ := Aside0.mk (Kd.R_mono (ok' := fun k_ => some k_ ≠ (.slice Ao19 y130.length co19 : Value).ownBlock ∧ k_ ≠ gb129) (Kd.R_raise (d := k60) (b := w0.heap.size) (b' := w.heap.size) (fun _ _ _ _ h_ => h_) ho0 (fun k_ e_ => Or.elim (ho0.1 k_ e_) (fun hs_ => (fun e_ => Kd.R_base HO_7.out k_ e_.symm) hs_) (fun hn_ => Nat.le_trans (keep_size (w := w) (g := g) (row := none) (by repeat (first | (with_reducible first | exact HK.out | apply KeepBut.set_ | apply keep_drewN | apply keep_drew | apply keep_alloc | refine keep_far ?_ GW129.out _) | exact HK.out))) hn_))) (fun k_ hk_ => ⟨Or.elim hk_ (fun hs_ => fun e_ => (((HO132.out).1 k_ e_.symm).1.2) hs_) (fun hn_ => (Kd.fresh' (Kd.R_lt (by (with_reducible repeat (first | apply Kd.R_alloc | apply Kd.R_drewN | apply Kd.R_drew)); exact HO132.out)) k_ hn_)), Or.elim hk_ (fun hs_ => fun e_ => (Kd.R_away HO_7.out (fun _ hk => hk.1.2)) (by rw [← e_]; exact hs_)) (fun hn_ => (Kd.freshB (g := gb129) (o := .cells #[.int .i64 ((rd_T60 s0_1 x17_1).f0), .int .i64 ((rd_T60 s0_1 x17_1).f1.f0), .int .i64 ((rd_T60 s0_1 x17_1).f1.f1), .int .i64 ((rd_T60 s0_1 x17_1).f1.f2)] 60 (0, 0)) (by (with_reducible repeat (first | refine blk_drewN ?_ _ | refine blk_drew ?_ | refine blk_alloc ?_ _)); exact BK129.out) k_ hn_))⟩)); have n4_ := Aside0.mk (Kept.keepG (by repeat (first | (with_reducible first | exact HK.out | apply KeepBut.set_ | apply keep_drewN | apply keep_drew | apply keep_alloc | refine keep_far ?_ GW129.out _) | exact HK.out)) hkp (fun k_ hs_ => (fun e_ => .inr (Kd.R_base HO_7.out k_ e_.symm)) hs_)); have n5_ := Aside0.mk (hb); clear HI0; clear BK129; clear HO132; clear HK; clear HB; clear HO_7; have HI0 := n0_; have BK129 := n1_; have HO132 := n2_; have HO135 := n3_; have HK := n4_; have HB := n5_; clear n0_ n1_ n2_ n3_ n4_ n5_; (try clear hb); (try clear hkp); (try clear ho0); have hcz21_0 : w20.cell? ⟨gb129, 0, none⟩ = some (.int .i64 ((rd_T60 s0_1 x17_1).f0)) := (blk_cell BK129.out 0).trans rfl; have hcz21_1 : w20.cell? ⟨gb129, 1, none⟩ = some (.int .i64 ((rd_T60 s0_1 x17_1).f1.f0)) := (blk_cell BK129.out 1).trans rfl; have hcz21_2 : w20.cell? ⟨gb129, 2, none⟩ = some (.int .i64 ((rd_T60 s0_1 x17_1).f1.f1)) := (blk_cell BK129.out 2).trans rfl; have hcz21_3 : w20.cell? ⟨gb129, 3, none⟩ = some (.int .i64 ((rd_T60 s0_1 x17_1).f1.f2)) := (blk_cell BK129.out 3).trans rfl; have hfz21_0 := blk_frozen BK129.out 0; have hfz21_1 := blk_frozen BK129.out 1; have hfz21_2 := blk_frozen BK129.out 2; have hfz21_3 := blk_frozen BK129.out 3))
              go_roundg k1
              case measure => have := HK1.out; omega
              case rel => exact ⟨(t133), (wrap64 (x8_1 + ((rd_T60 s0_1 x17_1).f0))), (wrap64 (x17_1 + 1)), (by first | rfl | (simp; done) | (simp [*]; done)), (by first | rfl | (simp; done) | (simp [*]; done)), H', ⟨by have := HK1.out; omega⟩, ⟨by (with_reducible repeat (first | apply Kd.R_alloc | apply Kd.R_drewN | apply Kd.R_drew)); exact Kd.R_mono HO135.out (fun _ hk => trivial)⟩, ⟨by repeat (first | (with_reducible first | exact HI0.out | apply IsL45.alloc | apply IsL45.drewN | apply IsL45.drew | apply IsL45.set_0 | apply IsL45.set_2 | apply IsL45.set_3 | apply IsL45.set_4 | refine IsL45.far ?_ NB0_129.out _) | exact HI0.out)⟩, ⟨by repeat (first | (with_reducible first | exact HK.out | apply KeepBut.set_ | apply keep_drewN | apply keep_drew | apply keep_alloc | refine keep_far ?_ GW129.out _) | exact HK.out)⟩, ⟨by repeat (first | (with_reducible first | exact HB.out | apply below_alloc | apply pw_below_drewN | apply below_drew1 | refine below_set ?_ GE129.out) | exact HB.out)⟩⟩
            · rw [if_neg c10] at H
              have c10b0 : decide (0 < (wrap64 ((ji8) - (ji9)))) = false := decide_eq_false c10
              clear c10
              have H' := Aside0.mk H
              clear H
              obtain ⟨ASz22_1, cSz22_1, HGz22, hgz22, HSz22_1⟩ := HI0.out
              have hcz22_0 := cellL45_0 HGz22
              have hcz22_1 := cellL45_1 HGz22
              have hcz22_2 := cellL45_2 HGz22
              have hcz22_3 := cellL45_3 HGz22
              have hcz22_4 := cellL45_4 HGz22
              have hfz22_0 := blk_frozen HGz22 0
              have hfz22_2 := blk_frozen HGz22 2
              have hfz22_3 := blk_frozen HGz22 3
              have hfz22_4 := blk_frozen HGz22 4
              clear HGz22 hgz22
              have p128 : 0 ≤ (x17_1 : Int) := of_decide_eq_true (by first | (with_reducible assumption) | assumption)
              have q128 : x17_1 < (s0_1.length : Int) := of_decide_eq_true (by first | (with_reducible assumption) | assumption)
              obtain ⟨ad128, e128, hx128_0, hx128_1, hx128_2, hx128_3⟩ := at_T60 HSz4_1 x17_1 p128 q128
              cases e128
              replace hx128_0 := pw_cell_below HB.out hx128_0
              replace hx128_1 := pw_cell_below HB.out hx128_1
              replace hx128_2 := pw_cell_below HB.out hx128_2
              replace hx128_3 := pw_cell_below HB.out hx128_3
              replace p128 := eq_true p128
              replace q128 := eq_true q128
              go_wp2_with (first | ((with_reducible refine gate_dst (N := 10) rfl ?_); refine box_event ?hg (N := 10) ?hd (cs := #[.int .i64 0, .int .i64 0, .int .i64 0, .int .i64 0]) (t := 60) ?hr ?_; (case hd => rfl); (case hg => rfl); (case hr => first | (go_simp; done) | (go_simp; rfl)); intro gb129 hg w23 hbox hb; have n0_ := Aside0.mk (Kd.R_below (Kd.R_elderB (by (with_reducible repeat (first | apply Kd.R_alloc | apply Kd.R_drewN | apply Kd.R_drew)); exact HO_7.out) gb129 (Nat.le_of_eq hg.symm)) hb); have n1_ := Aside0.mk (IsL45.below (by repeat (first | (with_reducible first | exact HI0.out | apply IsL45.alloc | apply IsL45.drewN | apply IsL45.drew | apply IsL45.set_0 | apply IsL45.set_2 | apply IsL45.set_3 | apply IsL45.set_4) | exact HI0.out)) hb); have n2_ := Aside0.mk (KeepBut.trans (by repeat (first | (with_reducible first | exact HK.out | apply KeepBut.set_ | apply keep_drewN | apply keep_drew | apply keep_alloc) | exact HK.out)) (KeepBut.of_below hb g none) (.inl rfl)); have n3_ := Aside0.mk (below_step (by repeat (first | (with_reducible first | exact HB.out | apply below_alloc | apply pw_below_drewN | apply below_drew1) | exact HB.out)) hb); have n4_ := Aside0.mk (hbox); have n5_ := Aside0.mk ((by rw [hg]; exact (keep_size (w := w) (g := g) (row := none) (by repeat (first | (with_reducible first | exact HK.out | apply KeepBut.set_ | apply keep_drewN | apply keep_drew | apply keep_alloc) | exact HK.out))) : w.heap.size ≤ gb129)); have n6_ := Aside0.mk ((Nat.le_trans HW0.out (by rw [hg]; exact (keep_size (w := w) (g := g) (row := none) (by repeat (first | (with_reducible first | exact HK.out | apply KeepBut.set_ | apply keep_drewN | apply keep_drew | apply keep_alloc) | exact HK.out))) : w.heap.size ≤ gb129) : w0.heap.size ≤ gb129)); have n7_ := Aside0.mk ((by rw [hg]; exact Nat.ne_of_lt (IsL45.lt (show IsL45 w0 _ g s0_0 s0_1 s0_2 s0_3 s0_4 from by repeat (first | (with_reducible first | exact HI0.out | apply IsL45.alloc | apply IsL45.drewN | apply IsL45.drew | apply IsL45.set_0 | apply IsL45.set_2 | apply IsL45.set_3 | apply IsL45.set_4) | exact HI0.out))) : g ≠ gb129)); have n8_ := Aside0.mk ((by rw [hg]; exact Nat.ne_of_gt (IsL45.lt (show IsL45 w0 _ g s0_0 s0_1 s0_2 s0_3 s0_4 from by repeat (first | (with_reducible first | exact HI0.out | apply IsL45.alloc | apply IsL45.drewN | apply IsL45.drew | apply IsL45.set_0 | apply IsL45.set_2 | apply IsL45.set_3 | apply IsL45.set_4) | exact HI0.out))) : gb129 ≠ g)); clear HO_7; clear HI0; clear HK; clear HB; have HO_7 := n0_; have HI0 := n1_; have HK := n2_; have HB := n3_; have BK129 := n4_; have GW129 := n5_; have GE129 := n6_; have NB0_129 := n7_; have NB129_0 := n8_; clear n0_ n1_ n2_ n3_ n4_ n5_ n6_ n7_ n8_; clear hb hbox hg; have hnb24 := NB129_0.out; have hnc24 := NB0_129.out; have hcz25_0 : w23.cell? ⟨gb129, 0, none⟩ = some (.int .i64 0) := (blk_cell BK129.out 0).trans rfl; have hcz25_1 : w23.cell? ⟨gb129, 1, none⟩ = some (.int .i64 0) := (blk_cell BK129.out 1).trans rfl; have hcz25_2 : w23.cell? ⟨gb129, 2, none⟩ = some (.int .i64 0) := (blk_cell BK129.out 2).trans rfl; have hcz25_3 : w23.cell? ⟨gb129, 3, none⟩ = some (.int .i64 0) := (blk_cell BK129.out 3).trans rfl; have hfz25_0 := blk_frozen BK129.out 0; have hfz25_1 := blk_frozen BK129.out 1; have hfz25_2 := blk_frozen BK129.out 2; have hfz25_3 := blk_frozen BK129.out 3))
              go_roundg k1
              case measure => have := HK1.out; omega
              case rel => exact ⟨(x7_1), (wrap64 (x8_1 + ((rd_T60 s0_1 x17_1).f0))), (wrap64 (x17_1 + 1)), (by first | rfl | (simp; done) | (simp [*]; done)), (by first | rfl | (simp; done) | (simp [*]; done)), H', ⟨by have := HK1.out; omega⟩, ⟨by (with_reducible repeat (first | apply Kd.R_alloc | apply Kd.R_drewN | apply Kd.R_drew)); exact Kd.R_mono (Kd.R_far (p := ⟨gb129, 3, none⟩) (Kd.R_far (p := ⟨gb129, 2, none⟩) (Kd.R_far (p := ⟨gb129, 1, none⟩) (Kd.R_far (p := ⟨gb129, 0, none⟩) (Kd.R_mono HO_7.out (fun k_ hk => (⟨hk, hk.2⟩ : _ ∧ k_ ≠ gb129))) (fun _ hk => hk.2) (.int .i64 ((rd_T60 s0_1 x17_1).f0))) (fun _ hk => hk.2) (.int .i64 ((rd_T60 s0_1 x17_1).f1.f0))) (fun _ hk => hk.2) (.int .i64 ((rd_T60 s0_1 x17_1).f1.f1))) (fun _ hk => hk.2) (.int .i64 ((rd_T60 s0_1 x17_1).f1.f2))) (fun _ hk => trivial)⟩, ⟨by repeat (first | (with_reducible first | exact HI0.out | apply IsL45.alloc | apply IsL45.drewN | apply IsL45.drew | apply IsL45.set_0 | apply IsL45.set_2 | apply IsL45.set_3 | apply IsL45.set_4 | refine IsL45.far ?_ NB0_129.out _) | exact HI0.out)⟩, ⟨by repeat (first | (with_reducible first | exact HK.out | apply KeepBut.set_ | apply keep_drewN | apply keep_drew | apply keep_alloc | refine keep_far ?_ GW129.out _) | exact HK.out)⟩, ⟨by repeat (first | (with_reducible first | exact HB.out | apply below_alloc | apply pw_below_drewN | apply below_drew1 | refine below_set ?_ GE129.out) | exact HB.out)⟩⟩
          · rw [if_neg c7] at H
            exact absurd H (by simp)
        · rw [if_neg c6] at H
          exact absurd H (by simp)
      · rw [if_neg c5] at H
        have c5b0 : decide (x17_1 < (s0_1.length : Int)) = false := decide_eq_false c5
        clear c5
        simp only [Option.some.injEq, Prod.mk.injEq] at H
        obtain ⟨rfl, rfl, rfl, rfl, rfl⟩ := H
        go_wp2
        go_ret
        exact ⟨_, by first | rfl | (simp [errW_none, errW_some] <;> rfl) | (simp [*, errW_none, errW_some] <;> rfl), by (with_reducible repeat (first | apply Kd.R_alloc | apply Kd.R_drewN | apply Kd.R_drew)); exact HO_7.out, by repeat (first | (with_reducible first | exact HI0.out | apply IsL45.alloc | apply IsL45.drewN | apply IsL45.drew | apply IsL45.set_0 | apply IsL45.set_2 | apply IsL45.set_3 | apply IsL45.set_4) | exact HI0.out), by repeat (first | (with_reducible first | exact HB.out | apply below_alloc | apply pw_below_drewN | apply below_drew1) | exact HB.out), by repeat (first | (with_reducible first | exact HK.out | apply KeepBut.set_ | apply keep_drewN | apply keep_drew | apply keep_alloc) | exact HK.out)⟩

end Go.Proofs.Ytmggbbeecmjalaa.P
