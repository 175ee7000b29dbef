/- cluster.Split answers as the plain splitOf: for every text. -/
import Derived.RangeFuncBox
import Derived.Outline
import Derived.Maps.AppendAt
import Derived.Test.YtgohmckmekijiaaStart
namespace Go.Proofs.Ytgohmckmekijiaa.PAll
open Go.RowKit Go.Shelf Go.Proofs.YtgohmckmekijiaaW.PrintWords Go.Proofs.YtgohmckmekijiaaW.PrintLast Go.Proofs.YtgohmckmekijiaaW.PrintMore
attribute [local go_sem] Oper.semAt_some
set_option linter.unusedVariables false
set_option linter.unusedSimpArgs false

theorem wpListIn_append_at {F : Fence} {n : Nat} {P : Program} (w : World) {ops : Array Oper} {rest : List Oper} {o : Oper} {a : Act} {Q : Exit → Act → World → Prop}
    (hg : o.guard = none) (s x : Operand) (t : TypeId) (hop : o.op = Op.call { callee := Callee.builtin Builtin.append, args := #[s, x], argTypes := #[t, t] })
    (base : Nat) (e : TypeId) (i : TypeInfo) (z : Value) (size bytes : Nat) (h1 : P.underlying t = some (.slice e)) (h2 : P.info? e = some i) (h3 : i.zero = some z) (h4 : i.size = size) (h5 : i.bytes = bytes) (h6 : z.cells.size = size) (h7 : 0 < size)
    (v : Value) (k : Nat) (xs : List Value) (hs : a.eval s = v) (hown : w.ownsRow base e size v k xs) (ad : Addr) (m c : Nat) (news : List Value) (hx : a.eval x = .slice (some ad) m c) (hn : news.length = m * size)
    (hc : ∀ j u, news[j]? = some u → w.cell? (ad.add j) = some u) (h1c : ∀ u ∈ news, u.oneCell' = true) (b1 : k + m ≤ maxLen) (b2 : (k + m) * bytes ≤ 140737488355328) (b3 : base ≤ w.heap.size)
    (hK : ∀ v' w', w'.ownsRow base e size v' (k + m) (xs ++ news) → w.grownBy w' v.ownBlock → (v'.ownBlock = v.ownBlock ∨ v'.ownBlock = some w.heap.size) → wpListIn F n P ops Q rest (a.put o.dst v') w') :
    wpListIn F n P ops Q (o :: rest) a w := by
  refine wpListIn_plain hg fun K hK' => ?_
  obtain ⟨v', w', hrun, r1, r2, _, r3⟩ := run_append_own_at (P := P) (w := w) base t o.type e i z size bytes h1 h2 h3 h4 h5 h6 h7 v k xs hown ad m c news hn hc h1c b1 b2 b3
  unfold Oper.wpIn
  refine ⟨?_, ?_⟩
  · simp [Oper.about, hop, resolve, Target.leads, Sem.run_pure]
  · rw [Oper.semAt_plain F _ _ (by rw [hop]; intro c hc'; cases hc')]
    simp [execOp, hop, resolve, invoke, builtin, hs, hx, hrun, Result.andThen]
    exact hK' _ _ (hK v' w' r1 r2 r3)

/-- the row of the slice in the box Bo -/
def rhoB (Bo : Nat) : World → Option Nat := fun W => (W.cell? ⟨Bo, 0, none⟩).bind Value.ownBlock
theorem rhoB_eq {W : World} {Bo : Nat} {t : TypeId} {v : Value} (h : Boxed W Bo t v) : rhoB Bo W = v.ownBlock := by unfold rhoB; rw [h.cell]; rfl
theorem kcAppended {W w1 : World} {n₀ n₁ Bo Bn m k : Nat} {tmp : Obj} {v v' t : Value} {xs ys : List Value} (hv : Boxed W Bo 22 v) (hv2 : Boxed (w1.setCell ⟨Bo, 0, none⟩ v') Bo 22 v') (hT : Boxed W Bn 9 t) (hBo : Bo < n₁) (hne : Bn ≠ Bo)
    (hrow : W.ownsRow n₀ 28 3 v k xs) (hown' : w1.ownsRow n₀ 28 3 v' m ys) (hgrow : (W.alloc tmp).grownBy w1 v.ownBlock) (hat : v'.ownBlock = v.ownBlock ∨ v'.ownBlock = some (W.alloc tmp).heap.size) : Kc (rhoB Bo) n₁ Bn W (w1.setCell ⟨Bo, 0, none⟩ v') := by
  intro _
  have hs2 := (grownBy_setCell' w1 Bo v').size
  have hs1 := hgrow.size
  simp only [World.size_alloc] at hs1 hat
  refine ⟨by omega, ?_, fun i o hn hi hc hrho => ?_, fun r hr => ?_⟩
  · exact ((grownBy_setCell' w1 Bo v').block Bn (by have := hT.lt; omega) (fun e => hne (by cases e; rfl))).trans ((hgrow.block Bn (by have := hT.lt; simp; omega) (hT.not_row (by decide) hrow)).trans (Below.heap_alloc W tmp Bn hT.lt))
  · have hlt := (Array.getElem?_eq_some_iff.1 hi).1
    rw [rhoB_eq hv] at hrho
    exact ((grownBy_setCell' w1 Bo v').block i (by omega) (fun e => by cases e; omega)).trans ((hgrow.block i (by simp; omega) hrho).trans ((Below.heap_alloc W tmp i hlt).trans hi))
  · rw [rhoB_eq hv2] at hr
    rw [rhoB_eq hv]
    have hlt := own_lt hown' r hr
    refine ⟨?_, by omega⟩
    rcases hat with h | h
    · exact .inl (h ▸ hr)
    · rw [h] at hr
      cases hr
      exact .inr (by omega)

theorem cells3_new (W : World) (a b c : Value) : ∀ j u, [a, b, c][j]? = some u → (W.alloc (.cells #[a, b, c] 28)).cell? ((⟨W.heap.size, 0, none⟩ : Addr).add j) = some u := World.news_of_block (cs := #[a, b, c]) (t := 28) (fr := (0, 0)) (heap_alloc_new W _)
def cells28 (xs : List S28) : List Value := xs.flatMap (fun x => [.int .i64 x.f0, .int .i64 x.f1, .int .i64 x.f2])
theorem cells28_snoc (xs : List S28) (x : S28) : cells28 (xs ++ [x]) = cells28 xs ++ [.int .i64 x.f0, .int .i64 x.f1, .int .i64 x.f2] := by simp [cells28]
theorem cells28_reps (w : World) (base : Nat) (ok : Nat → Prop) (xs : List S28) : Reps (k28.M w base ok) 3 xs (cells28 xs) := by
  suffices h : ∀ ys : List S28, Reps (k28.M w base ok) 3 ys.reverse (cells28 ys.reverse) by simpa using h xs.reverse
  intro ys
  induction ys with
  | nil => exact Reps.none _ _
  | cons y ys ih =>
    rw [List.reverse_cons, cells28_snoc]
    exact ih.snoc (k28_mkM w base ok y) rfl
theorem clusFrom_len (s : ByteArray) : ∀ d a, (clusFrom s d a).length ≤ d
  | 0, a => by simp [clusFrom]
  | d + 1, a => by
    simp only [clusFrom]
    split
    · have := clusFrom_len s d (endOf s a); simp; omega
    · simp

set_option maxRecDepth 100000 in
set_option maxHeartbeats 2000000 in
theorem split_in (s : ByteArray) (hw : wrongOf s = 0) (w : World) : Calls Try.prog 8 #[.string s] w fun e w' => ∃ v0_ : Value, e = .returned (.tuple #[v0_, .int .i64 0]) ∧ Kd.R k28 28 w' w.heap.size (fun _ => True) v0_ (clus s) ∧ Below w.heap.size w w' := by
  have b0 : (wrongOf s != 0) = false := by rw [hw]; rfl
  have sz : s.size ≤ 4096 := wrong_size s hw
  have hlen : (clus s).length ≤ 4096 := Nat.le_trans (clusFrom_len s _ _) sz
  obtain ⟨i0, hi, hz0, hz1, hz2⟩ := info_parts info28
  refine (callsIn_wide (n := 5)).1 ?_
  refine callsIn_of_wp_marks Try.func8 rfl trivial ?_ rfl
  simp only [Try.ntmps8, List.size_toArray, List.length_cons, List.length_nil, Nat.reduceAdd, Nat.reduceSub, Array.replicate_succ, Array.replicate_zero, List.push_toArray, List.append_toArray, List.nil_append, List.cons_append]
  refine wpIn_wide.2 ?_
  go_wp2_with (first | (go_at_call 22; refine (wrong_calls s _).mono ?_; rintro e w1 ⟨rfl, hB⟩) | (go_at_call 23; refine (each_calls s _).mono ?_; rintro e w2 ⟨rfl, rfl⟩))
  have hB1 : Below w.heap.size w ((w1.alloc (.cells #[.slice none 0 0] 22)).alloc (.cells #[.string s] 9)) := (hB.alloc hB.size _).alloc (by have := hB.size; simp; omega) _
  have bT := Boxed.new (w1.alloc (.cells #[.slice none 0 0] 22)) 9 (.string s)
  have y2 := (Boxed.new w1 22 (.slice none 0 0)).alloc (.cells #[.string s] 9)
  have hsz2 : ((w1.alloc (.cells #[.slice none 0 0] 22)).alloc (.cells #[.string s] 9)).heap.size = w1.heap.size + 1 + 1 := by simp
  simp only [World.size_alloc] at bT
  have hsz := hB.size
  obtain ⟨W0, hW0⟩ : ∃ W0, (w1.alloc (.cells #[.slice none 0 0] 22)).alloc (.cells #[.string s] 9) = W0 := ⟨_, rfl⟩
  rw [hW0] at hB1 bT y2 hsz2 ⊢
  clear hW0 hB
  refine (wpIn_wide (n := 5)).1 ?_
  refine wpIn_rangeFunc_ownH rfl (by omega) (gf := 30) (lb := #[.pointer (some ⟨w1.heap.size + 1, 0, none⟩)]) rfl trivial (enters_of Try.func30 (by kernel_rfl) rfl)
    (each_stops s sz (5 - 1) (by omega) (w1.heap.size + 1) W0 (by omega) (rhoB w1.heap.size) (fun A B h => by unfold rhoB; rw [cell_of_heap (h w1.heap.size (by omega))]) (fun r e => by rw [rhoB_eq y2] at e; cases e) bT.cell)
    Kc.trans (fun W l o o' hl ho hc _ => fun wf => Kc.putObj W l o o' hl (by omega) ho hc (by unfold rhoB; rw [cell_of_heap (World.putObj_heap_other (by omega))]) wf wf) (Below.refl _ _) (fun _ => rfl)
    (fun pre W => ((∃ v, Boxed W w1.heap.size 22 v ∧ W.ownsRow w.heap.size 28 3 v pre.length (cells28 pre) ∧ True) ∧ Boxed W (w1.heap.size + 1) 9 (.string s)) ∧ Below w.heap.size w W)
    (fun _ _ _ => False)
    (OwnFrom.and (OwnFrom.and (Own.from (holdsRow_own w.heap.size w1.heap.size 22 28 3 (fun pre => pre.length) (fun pre => cells28 pre) (fun _ _ => True)) _) (Own.from (boxed_own _ _ _) _)) (ownFrom_below (Nat.le_refl _) (by omega)))
    (fun _ _ _ _ _ hs _ _ => hs)
    ⟨⟨⟨_, y2, World.ownsRow_nil _ _ _ _, trivial⟩, bT⟩, hB1⟩
    (fun x a' W => ∃ Bx, w1.heap.size + 1 < Bx ∧ W.heap[Bx]? = some (.cells #[.int .i64 x.f0, .int .i64 x.f1, .int .i64 x.f2] 28 (0, 0)) ∧ a' = { tmps := #[.string s, undef, .slice none 0 0, .int .i64 0, .int .i64 0, .pointer (some ⟨w1.heap.size, 0, none⟩), .pointer (some ⟨Bx, 0, none⟩), .string s, .int .i64 0, .int .i64 0, .bool false, undef, .string s, .func (.func 30) #[] #[.pointer (some ⟨w1.heap.size + 1, 0, none⟩)], .agg #[.int .i64 x.f0, .int .i64 x.f1, .int .i64 x.f2], undef, undef, undef, undef, undef], defers := [] })
    (fun x a' _ X Y row hs hg hr => by
      obtain ⟨Bx, e1, e2, e3⟩ := hs
      refine ⟨Bx, e1, (hg.block Bx (Array.getElem?_eq_some_iff.1 e2).1 (fun e => ?_)).trans e2, e3⟩
      obtain ⟨_, o, ho, hoc⟩ := hr Bx e.symm
      rw [e2] at ho
      cases ho
      cases hoc)
    ?assign ?body ?done ?stop
  case assign =>
    rintro l pre x W K ⟨⟨⟨v, z2, hrow, _⟩, zT⟩, hB2⟩ hK
    gi_wp2
    refine hK _ _ ((KeepsOthers.alloc _ _).from _) (fun wf => ?_) ⟨⟨⟨v, z2.alloc _, hrow.alloc _, trivial⟩, zT.alloc _⟩, hB2.alloc hB2.size _⟩ ⟨W.heap.size, zT.lt, blk_new _ _, rfl⟩
    refine ⟨by simp, Below.heap_alloc W _ _ zT.lt, fun i o _ hi _ _ => blk_alloc hi _, fun r e => ?_⟩
    rw [rhoB_eq (z2.alloc _)] at e
    rw [rhoB_eq z2]
    exact ⟨.inl e, by have := wf r (by rw [rhoB_eq z2]; exact e); simp; omega⟩
  case body =>
    rintro l pre x a' W hl ⟨r, hr⟩ ⟨⟨⟨v, hv, hrow, _⟩, zT⟩, hB2⟩ ⟨Bx, hBx, bX, rfl⟩ hlt
    have hc := hv.cell
    have k0 : W.cell? ⟨Bx, 0, none⟩ = some (.int .i64 x.f0) := (blk_cell bX 0).trans rfl
    have k1 : W.cell? ⟨Bx, 1, none⟩ = some (.int .i64 x.f1) := (blk_cell bX 1).trans rfl
    have k2 : W.cell? ⟨Bx, 2, none⟩ = some (.int .i64 x.f2) := (blk_cell bX 2).trans rfl
    gi_wp2_with (gi_at_builtin; refine wpListIn_append_at _ rfl _ _ 22 rfl w.heap.size 28 i0 (.agg #[.int .i64 0, .int .i64 0, .int .i64 0]) 3 24 Try.underlying22 hi hz0 hz1 hz2 rfl (by decide) _ _ _ rfl (hrow.alloc _) ⟨W.heap.size, 0, none⟩ 1 1 [.int .i64 x.f0, .int .i64 x.f1, .int .i64 x.f2] rfl rfl (cells3_new _ _ _ _) (by simp [Value.oneCell']) (by simp only [maxLen]; omega) (by omega) (by have := hB2.size; simp; omega) ?_; intro v' w1 hown' hgrow hat; obtain ⟨g', cap', rfl⟩ := ownsRow_succ hown'; obtain ⟨hv1, hv2, hr2, hk2, hb2⟩ := hv.appended (by decide) hrow hB2.size (by omega) hown' hgrow; have hc1 := hv1.cell; have hf1 := hv1.frozen)
    exact ⟨hk2.from _, kcAppended hv hv2 zT (by omega) (by omega) hrow hown' hgrow hat, ⟨⟨_, hv2, by rw [cells28_snoc]; simpa using hr2, trivial⟩, ((zT.alloc _).kept hgrow (zT.not_row (by decide) hrow)).other (by omega) _⟩, hB2.trans hb2⟩
  case done =>
    rintro D ys W hD rfl ⟨⟨⟨v, hv, hrow, _⟩, zT⟩, hB2⟩ hK
    have hc := hv.cell
    go_wp2
    refine ⟨by simp, .inl ⟨_, _, rfl, run_takeDeferred hK, ?_⟩⟩
    exact ⟨_, results_tmp2 rfl _ _ _, v, rfl, ⟨fun _ _ => trivial, cells28 _, ownsRow_putObj hrow _ hK rfl, cells28_reps _ _ _ _⟩, hB2.trans (belowK_b (w := w) (Nat.le_refl _) W D _ _ (by omega) hK rfl rfl)⟩
  case stop =>
    rintro D c pre W hD hpre h hK
    exact h.elim

set_option maxHeartbeats 1000000 in
theorem cluster_Split.calls (k : Nat) (a0 : ByteArray) (r1 : List (S28)) (r2 : Int) (w : World) (h : cluster_Split.f k a0 = some (r1, r2)) :
    Calls Try.prog 8 #[.string a0] w fun e w' => ∃ v0_ : Value, e = .returned (.tuple #[v0_, .int .i64 r2]) ∧ Kd.R k28 28 w' w.heap.size (fun _ => True) v0_ r1 ∧ Below w.heap.size w w' := by
  obtain ⟨rfl, rfl⟩ : (splitOf a0).1 = r1 ∧ (splitOf a0).2 = r2 := by
    have : splitOf a0 = (r1, r2) := Option.some.inj h
    rw [this]; exact ⟨rfl, rfl⟩
  clear h
  by_cases hw : wrongOf a0 = 0
  · have e : splitOf a0 = (clus a0, 0) := by unfold splitOf; rw [if_pos hw]
    rw [e]
    exact split_in a0 hw w
  · have HE := Aside0.mk (show splitOf a0 = ([], wrongOf a0) by unfold splitOf; rw [if_neg hw])
    have b0 : (wrongOf a0 != 0) = true := by simp [hw]
    go_enter Try.func8, Try.ntmps8
    go_wp2_with (go_at_call 22; refine (wrong_calls a0 _).mono ?_; rintro e w1 ⟨rfl, hB⟩)
    go_ret2
    exact ⟨.slice none 0 0, by rw [HE.out]; rfl, by rw [HE.out]; exact Kd.R_nil _ _ _ _ _, hB⟩
end Go.Proofs.Ytgohmckmekijiaa.PAll
