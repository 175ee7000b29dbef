/- The iterator that cluster.each hands back yields a text's clusters, in order: for every text of at most 4,096 bytes and every loop body that keeps what the iterator made. -/
import Derived.RangeFuncNested
import Derived.RangeFuncBound
import Derived.RangeFuncCalls
import Derived.RangeFuncLeaves
import Derived.Shelf.Abstract
import Derived.WalkKit
import Derived.OwnWalkIn
import Derived.TacticsInMore
import Derived.LoopNIn
import Derived.LoopIn
import Derived.Deep.LoopGhost
import Derived.Deep.DeepCutAuto
import Derived.Deep.CutBlock
import Derived.Deep.QuietTactic
import Derived.BigQuiet
import Derived.Test.YtgohmckmekijiaaSpec
import Derived.Test.YtgohmckmekijiaaB1
namespace Go.Proofs.Ytgohmckmekijiaa.PAll
open Go.RowKit Go.Shelf Go.Proofs.YtgohmckmekijiaaW.PrintWords Go.Proofs.YtgohmckmekijiaaW.PrintLast Go.Proofs.YtgohmckmekijiaaW.PrintMore
attribute [local go_sem] Oper.semAt_some
set_option linter.unusedVariables false
set_option linter.unusedSimpArgs false

theorem letter_eq (c : Int) : PBase.cluster_letter.f c = some (letterB c) := by
  unfold PBase.cluster_letter.f letterB
  by_cases h1 : 97 ≤ c <;> by_cases h2 : c ≤ 122 <;> by_cases h3 : 65 ≤ c <;> by_cases h4 : c ≤ 90 <;> simp [h1, h2, h3, h4]
theorem kind_eq (c : Int) : PBase.cluster_kind.f c = some (kindOf c) := by
  unfold PBase.cluster_kind.f kindOf
  rw [letter_eq]
  simp only [Option.bind_some]
  by_cases h1 : 32 < c <;> by_cases h2 : c ≤ 126 <;> simp only [h1, h2, and_self, if_true, if_false, and_true, and_false] <;> (repeat' split) <;> first | rfl | simp_all
theorem accent_eq (c : Int) : PBase.cluster_accent.f c = some (accentB c) := by
  unfold PBase.cluster_accent.f accentB
  by_cases h1 : c = 94
  · simp [h1]
  · by_cases h2 : c = 96
    · simp [h2]
    · by_cases h3 : c = 126 <;> simp [h1, h2, h3]

/-- what a round that goes on keeps for the iterator: the text's box; its own blocks (cells from n₁ on that are not the row ρ) -/
structure Kc0 (ρ : World → Option Nat) (n₁ Bn : Nat) (W W' : World) : Prop where
  size : W.heap.size ≤ W'.heap.size
  text : W'.heap[Bn]? = W.heap[Bn]?
  same : ∀ (i : Nat) (o : Obj), n₁ ≤ i → W.heap[i]? = some o → o.isCells = true → some i ≠ ρ W → W'.heap[i]? = some o
  row : ∀ r, ρ W' = some r → (ρ W = some r ∨ W.heap.size ≤ r) ∧ r < W'.heap.size
/-- where the row is one of the world's -/
def Kc (ρ : World → Option Nat) (n₁ Bn : Nat) (W W' : World) : Prop := (∀ r, ρ W = some r → r < W.heap.size) → Kc0 ρ n₁ Bn W W'

theorem Kc0.trans {ρ : World → Option Nat} {n₁ Bn : Nat} {A B C : World} (h : Kc0 ρ n₁ Bn A B) (k : Kc0 ρ n₁ Bn B C) : Kc0 ρ n₁ Bn A C := by
  refine ⟨Nat.le_trans h.size k.size, k.text.trans h.text, fun i o hn hi hc hne => ?_, fun r hr => ?_⟩
  · refine k.same i o hn (h.same i o hn hi hc hne) hc (fun e => ?_)
    rcases (h.row i e.symm).1 with q | q
    · exact hne q.symm
    · have := (Array.getElem?_eq_some_iff.1 hi).1; omega
  · obtain ⟨q, hlt⟩ := k.row r hr
    refine ⟨?_, hlt⟩
    rcases q with q | q
    · exact (h.row r q).1
    · exact .inr (Nat.le_trans h.size q)
theorem Kc.trans {ρ : World → Option Nat} {n₁ Bn : Nat} {A B C : World} (h : Kc ρ n₁ Bn A B) (k : Kc ρ n₁ Bn B C) : Kc ρ n₁ Bn A C := fun wf => (h wf).trans (k (fun r e => ((h wf).row r e).2))

theorem cell_of_heap {W W' : World} {b i : Nat} (h : W'.heap[b]? = W.heap[b]?) : W'.cell? ⟨b, i, none⟩ = W.cell? ⟨b, i, none⟩ := by
  unfold World.cell?
  simp only [h]

theorem grown_set {A B : World} {g i : Nat} {v : Value} (h : A.grownBy B none) (hg : A.heap.size ≤ g) : A.grownBy (B.setCell ⟨g, i, none⟩ v) none :=
  ⟨h.os, h.tape, h.output, Nat.le_trans h.size (KeepsWalks.setCell B _ v).size, fun k hk hr => (Below.heap_setCell B ⟨g, i, none⟩ v k (show k ≠ g by omega)).trans (h.block k hk hr)⟩
theorem grown_drewN {A B : World} (h : A.grownBy B none) (n : Nat) : A.grownBy (B.drewN n) none := ⟨h.os, h.tape, h.output, h.size, h.block⟩
theorem grown_drawn {A B C : World} (h : Drawn0 A B) (k : B.grownBy C none) : A.grownBy C none := by
  obtain ⟨n, rfl⟩ := h.out
  exact ⟨k.os, k.tape, k.output, k.size, k.block⟩

set_option maxRecDepth 100000 in
set_option maxHeartbeats 2000000 in
theorem each1 (s : ByteArray) (hs : s.size ≤ 4096) (n : Nat) (hn : 1 ≤ n) (l Bn n₁ : Nat) (hBn : Bn < n₁) (ρ : World → Option Nat) (hρ : ∀ A B : World, (∀ i, i < n₁ → B.heap[i]? = A.heap[i]?) → ρ B = ρ A)
    (J Jx : List S28 → World → Prop) (hJ : ∀ pre A B, J pre A → A.grownBy B none → J pre B)
    (hY : ∀ pre x W, J pre W → pre.length < (clus s).length → YieldAt Fence.wide (n - 1) Try.prog l #[.agg #[.int .i64 x.f0, .int .i64 x.f1, .int .i64 x.f2]] W fun e W' =>
      (e = .returned (.bool true) ∧ J (pre ++ [x]) W' ∧ Kc ρ n₁ Bn W W') ∨ (e = .returned (.bool false) ∧ Jx (pre ++ [x]) W'))
    (W : World) (hW : n₁ ≤ W.heap.size) (hc : W.cell? ⟨Bn, 0, none⟩ = some (.string s)) (hr : ∀ r, ρ W = some r → r < W.heap.size) (h0 : J [] W) :
    CallsIn Fence.wide n Try.prog 30 #[.func (.yield l) #[] #[], .pointer (some ⟨Bn, 0, none⟩)] W fun e W' => (∃ v, e = .returned v) ∧ ((∃ ys, ys = clus s ∧ J ys W') ∨ (∃ pre, pre <+: clus s ∧ Jx pre W')) := by
  refine callsIn_of_wp Try.func30 rfl trivial ?_ rfl
  simp only [Try.ntmps30, List.size_toArray, List.length_cons, List.length_nil, Nat.reduceAdd, Nat.reduceSub, Array.replicate_succ, Array.replicate_zero, List.push_toArray, List.append_toArray, List.nil_append, List.cons_append]
  refine wpIn_wide.2 ?_
  go_wp2
  go_loopw [3] (fun v3 wr => ∃ (x : Int) (a : Nat) (pre : List S28), v3 = .int .i64 x ∧ Aside0 (x = (a : Int)) ∧ Aside0 (a ≤ s.size) ∧ Aside0 (clus s = pre ++ rest s a) ∧ Aside0 (J pre wr) ∧ Aside0 (n₁ ≤ wr.heap.size) ∧ wr.cell? ⟨Bn, 0, none⟩ = some (.string s) ∧ Aside0 (∀ r, ρ wr = some r → r < wr.heap.size))
    (fun v3 _ => s.size - (intOf v3).toNat)
  case atStart => exact ⟨0, 0, [], rfl, ⟨rfl⟩, ⟨Nat.zero_le _⟩, ⟨rfl⟩, ⟨h0⟩, ⟨hW⟩, hc, ⟨hr⟩⟩
  case round =>
    clear hc hr h0
    obtain ⟨x, a, pre, rfl, hxa, ha, hpre, hJp, hsz, hc, hr⟩ := hrel
    by_cases hlt : a < s.size
    · have hx := bt_at s x
      have hb := bt_range s x
      have p6 : (0 ≤ x) = True := eq_true (by rw [hxa.out]; omega)
      have q6 : (x < (s.size : Int)) = True := eq_true (by rw [hxa.out]; omega)
      have x0 : 0 ≤ x := by rw [hxa.out]; omega
      have x1 : x ≤ 4095 := by rw [hxa.out]; omega
      go_upto_block 2 with (go_at_call 29; (with_reducible refine (PBase.cluster_kind.calls (bt s x) (kindOf (bt s x)) _ (kind_eq _)).mono ?_); rintro e w1 ⟨rfl, hd⟩; have hc1 : w1.cell? ⟨Bn, 0, none⟩ = some (.string s) := (by obtain ⟨m, rfl⟩ := hd.out; exact hc))
      go_cut [] from 5 to 50 (fun wc => Aside0 (w1.grownBy wc none) ∧ Aside0 (wc.heap[w1.heap.size]? = some (.cells #[.int .i64 x, .int .i64 (endOf s a : Nat), .int .i64 (kindOf (bt s x))] 28 (0, 0))))
      case first =>
        go_wp2
        go_loopg [] 3 (fun kq wq => ∃ (y : Int) (t : Nat), Aside0 (y = (t : Int)) ∧ Aside0 (kq + t = a + 4) ∧ Aside0 (t ≤ s.size) ∧ Aside0 (ext s a (kindOf (bt s x)) kq t = endOf s a) ∧ Aside0 (w1.grownBy wq none) ∧ Aside0 (wq.heap[w1.heap.size]? = some (.cells #[.int .i64 x, .int .i64 y, .int .i64 (kindOf (bt s x))] 28 (0, 0))))
        case atStart =>
          refine ⟨x + 1, a + 1, ⟨by rw [hxa.out]; omega⟩, ⟨by omega⟩, ⟨by omega⟩, ⟨by unfold endOf; rw [hxa.out]⟩, ⟨World.grownBy_alloc _ _ _⟩, ⟨blk_new _ _⟩⟩
        case round =>
          obtain ⟨y, t, hy, hkt, hts, hext, hgq, hbq⟩ := hrel
          have hBlt := World.block_lt_of_cell? w1 _ hc1
          have hcq : wr.cell? ⟨Bn, 0, none⟩ = some (.string s) := (cell_of_heap (hgq.out.block Bn hBlt (by simp))).trans hc1
          have z0 : wr.cell? ⟨w1.heap.size, 0, none⟩ = some (.int .i64 x) := (blk_cell hbq.out 0).trans rfl
          have z1 : wr.cell? ⟨w1.heap.size, 1, none⟩ = some (.int .i64 y) := (blk_cell hbq.out 1).trans rfl
          have z2 : wr.cell? ⟨w1.heap.size, 2, none⟩ = some (.int .i64 (kindOf (bt s x))) := (blk_cell hbq.out 2).trans rfl
          have g1 := blk_frozen hbq.out 1
          have y0 : 0 ≤ y := by rw [hy.out]; omega
          have y1 : y ≤ 4096 := by have := hts.out; rw [hy.out]; omega
          have stop : ¬ (kindOf (bt s x) = 1 ∧ t < s.size ∧ t < a + 3 ∧ accentB (bt s (t : Int)) = true) → Aside0 (w1.grownBy wr none) ∧ Aside0 (wr.heap[w1.heap.size]? = some (.cells #[.int .i64 x, .int .i64 (endOf s a : Nat), .int .i64 (kindOf (bt s x))] 28 (0, 0))) := by
            intro hno
            refine ⟨hgq, ⟨?_⟩⟩
            have : endOf s a = t := by
              rw [← hext.out]
              cases gk with
              | zero => rfl
              | succ k => simp only [ext]; rw [if_neg hno]
            rw [this, ← hy.out]
            exact hbq.out
          have HS := Aside0.mk stop
          clear stop
          by_cases e1 : kindOf (bt s x) = 1
          · have b1 : (kindOf (bt s x) == 1) = true := beq_iff_eq.mpr e1
            have E1 := Aside0.mk e1
            clear e1
            by_cases e2 : t < s.size
            · have b2 : decide (y < (s.size : Int)) = true := decide_eq_true (by rw [hy.out]; omega)
              by_cases e3 : t < a + 3
              · have b3 : decide (y < x + 3) = true := decide_eq_true (by rw [hy.out, hxa.out]; omega)
                have hxy := bt_at s y
                have py : (0 ≤ y) = True := eq_true y0
                have qy : (y < (s.size : Int)) = True := eq_true (by rw [hy.out]; omega)
                obtain ⟨kk, rfl⟩ : ∃ m, gk = m + 1 := ⟨gk - 1, by have := hkt.out; omega⟩
                by_cases e4 : accentB (bt s y) = true
                · go_wp2_with (go_at_call 31; (with_reducible refine (PBase.cluster_accent.calls (bt s y) true _ ((accent_eq _).trans (congrArg some e4))).mono ?_); rintro e w2 ⟨rfl, ⟨nd, rfl⟩⟩)
                  go_roundg kk
                  case measure => omega
                  case rel =>
                    refine ⟨y + 1, t + 1, ⟨by rw [hy.out]; omega⟩, ⟨by have := hkt.out; omega⟩, ⟨by omega⟩, ⟨?_⟩, ⟨?_⟩, ⟨?_⟩⟩
                    · have := hext.out
                      simp only [ext] at this
                      rw [if_pos ⟨E1.out, e2, e3, by rw [← hy.out]; exact e4⟩] at this
                      exact this
                    · first | exact grown_drewN (grown_set hgq.out (Nat.le_refl _)) _ | exact grown_set (grown_drewN hgq.out _) (Nat.le_refl _)
                    · first | exact blk_drewN (blk_put hbq.out 1 _ rfl) _ | exact blk_put (blk_drewN hbq.out _) 1 _ rfl
                · have e4' := Bool.eq_false_iff.mpr e4
                  go_wp2_with (go_at_call 31; (with_reducible refine (PBase.cluster_accent.calls (bt s y) false _ ((accent_eq _).trans (congrArg some e4'))).mono ?_); rintro e w2 ⟨rfl, ⟨nd, rfl⟩⟩)
                  go_meet
                  case rel =>
                    obtain ⟨q1, q2⟩ := HS.out (fun q => e4 (by rw [hy.out]; exact q.2.2.2))
                    exact ⟨⟨grown_drewN q1.out _⟩, ⟨blk_drewN q2.out _⟩⟩
              · have b3 : decide (y < x + 3) = false := decide_eq_false (by rw [hy.out, hxa.out]; omega)
                go_wp2
                go_meet
                case rel => exact HS.out (fun q => e3 q.2.2.1)
            · have b2 : decide (y < (s.size : Int)) = false := decide_eq_false (by rw [hy.out]; omega)
              go_wp2
              go_meet
              case rel => exact HS.out (fun q => e2 q.2.1)
          · have b1 : (kindOf (bt s x) == 1) = false := beq_eq_false_iff_ne.mpr e1
            go_wp2
            go_meet
            case rel => exact HS.out (fun q => e1 q.1)
      case rest =>
        obtain ⟨hg, hbk⟩ := hcut
        have hBlt := World.block_lt_of_cell? w1 _ hc1
        have hcq : wc.cell? ⟨Bn, 0, none⟩ = some (.string s) := (cell_of_heap (hg.out.block Bn hBlt (by simp))).trans hc1
        have hgw := grown_drawn hd hg.out
        have hJc := hJ pre _ wc hJp.out hgw
        have hlen : pre.length < (clus s).length := by rw [hpre.out, rest_cons s a hlt]; simp
        have z0 : wc.cell? ⟨w1.heap.size, 0, none⟩ = some (.int .i64 x) := (blk_cell hbk.out 0).trans rfl
        have z1 : wc.cell? ⟨w1.heap.size, 1, none⟩ = some (.int .i64 (endOf s a : Nat)) := (blk_cell hbk.out 1).trans rfl
        have z2 : wc.cell? ⟨w1.heap.size, 2, none⟩ = some (.int .i64 (kindOf (bt s x))) := (blk_cell hbk.out 2).trans rfl
        obtain ⟨fn, tmps, assign, body, hy, hR⟩ := hY pre (clOf s a) wc hJc hlen
        simp only [clOf, ← hxa.out] at hy
        go_upto_region 5 with (fail)
        refine (wpIn_wide (n := n)).1 ?_
        gi_wp2
        have hn1 : n₁ ≤ w1.heap.size := by have := hsz.out; have := hd.below.size; omega
        have hnew : w1.heap.size < wc.heap.size := blk_lt hbk.out
        have hρc : ρ wc = ρ wr := hρ _ _ (fun i hi => (hgw.block i (by have := hsz.out; omega) (by simp)))
        have hne : some w1.heap.size ≠ ρ wc := by
          intro e
          rw [hρc] at e
          have := hr.out _ e.symm
          have := hd.below.size
          omega
        refine hR.mono ?_
        rintro e W3 (⟨rfl, hJ3, hk3⟩ | ⟨rfl, hJx3⟩)
        · replace hk3 := hk3 (fun r e => by rw [hρc] at e; have := hr.out r e; have := hgw.size; omega)
          have hb3 := hk3.same _ _ hn1 hbk.out rfl hne
          have z13 : W3.cell? ⟨w1.heap.size, 1, none⟩ = some (.int .i64 (endOf s a : Nat)) := (blk_cell hb3 1).trans rfl
          have hc3 : W3.cell? ⟨Bn, 0, none⟩ = some (.string s) := (cell_of_heap hk3.text).trans hcq
          gi_wp2
          go_wp2
          go_roundw
          case rel =>
            refine ⟨_, endOf s a, pre ++ [clOf s a], rfl, ⟨rfl⟩, ⟨endOf_le s a hlt⟩, ⟨?_⟩, ⟨hJ3⟩, ⟨?_⟩, hc3, ⟨fun r hr3 => (hk3.row r hr3).2⟩⟩
            · rw [hpre.out, rest_cons s a hlt]; simp
            · have := hk3.size; omega
          case measure =>
            have := endOf_gt s a
            have := endOf_le s a hlt
            have := hxa.out
            simp [intOf]; omega
        · gi_wp2
          go_wp2
          refine bodyPost_ret (results_none rfl _ _ _) rfl ?_
          refine ⟨⟨_, rfl⟩, .inr ⟨pre ++ [clOf s a], ⟨rest s (endOf s a), ?_⟩, hJx3⟩⟩
          rw [hpre.out, rest_cons s a hlt]; simp
    · have q6 : (x < (s.size : Int)) = False := eq_false (by rw [hxa.out]; omega)
      go_wp2
      go_end0
      refine ⟨⟨_, rfl⟩, .inl ⟨pre, ?_, hJp.out⟩⟩
      have := hpre.out
      rw [rest_nil s a (by omega), List.append_nil] at this
      exact this.symm
end Go.Proofs.Ytgohmckmekijiaa.PAll
