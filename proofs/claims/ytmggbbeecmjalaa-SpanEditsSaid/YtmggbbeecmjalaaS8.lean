/- What join answers to a literal and to a part; the edits' answers; no further condition. -/
import Derived.Test.YtmggbbeecmjalaaS7
namespace Go.Proofs.Ytmggbbeecmjalaa.P
open Go.RowKit Go.Proofs.YtmggbbeecmjalaaW.PrintWords Go.Proofs.YtmggbbeecmjalaaW.PrintLast Go.Proofs.YtmggbbeecmjalaaW.PrintMore
attribute [local go_sem] max2_int min2_int max_two min_two
set_option linter.unusedVariables false
set_option linter.unusedSimpArgs false

theorem lit_C {W : World} {gl : Nat} {y : Int} {c : S28} (h : W.heap[gl]? = some (.cells #[.int .i64 y, .int .i64 c.f0, .int .i64 c.f1, .int .i64 c.f2] 60 (0, 0))) : Kd.C k60 W (some ⟨gl, 0, none⟩) 1 [⟨y, c⟩] := by
  have ho : W.ownsRow 0 60 4 (.slice (some ⟨gl, 0, none⟩) 1 1) 1 [.int .i64 y, .int .i64 c.f0, .int .i64 c.f1, .int .i64 c.f2] :=
    ⟨rfl, .inr ⟨gl, 1, _, rfl, Nat.zero_le _, h, Nat.le_refl _, by decide, rfl, rfl⟩⟩
  obtain ⟨A, k, e, hr⟩ := own_reads_row (R := k60.K W) ho (Reps.snoc (Reps.none _ _) (k60_mk W ⟨y, c⟩) rfl) rfl
  injection e with e1 e2 e3
  subst e1
  exact hr
theorem R60_own {w : World} {base : Nat} {ok : Nat → Prop} {v : Value} {xs : List S60} (h : Kd.R k60 60 w base ok v xs) : Kd.R k60 60 w base (fun k => v.ownBlock = some k) v xs :=
  ⟨fun k hk => hk, h.2.imp_ (fun p c hp => by rw [k60_openM hp]; exact k60_mkM _ _ _ p)⟩
theorem R60_any {w : World} {base : Nat} {ok : Nat → Prop} {v : Value} {xs : List S60} (h : Kd.R k60 60 w base ok v xs) : Kd.R k60 60 w base (fun _ => True) v xs := Kd.R_mono h (fun _ _ => trivial)
theorem R60_lt {w : World} {base : Nat} {ok : Nat → Prop} {v : Value} {xs : List S60} (h : Kd.R k60 60 w base ok v xs) : ∀ k, v.ownBlock = some k → k < w.heap.size := fun k hk => ((Kd.R_bound h).1 k hk).2.2.1
theorem R60_ge {w : World} {base : Nat} {ok : Nat → Prop} {v : Value} {xs : List S60} (h : Kd.R k60 60 w base ok v xs) : ∀ k, v.ownBlock = some k → base ≤ k := fun k hk => ((Kd.R_bound h).1 k hk).2.1
theorem join_lit {w W : World} {ok : Nat → Prop} {v : Value} (A : List S28) (gl n : Nat) (c : S28) (y : Int) (hy : y = (n : Int)) (hB : Below w.heap.size w W) (ho : Kd.R k60 60 W w.heap.size ok v (rl A)) (hne : ∀ k, v.ownBlock = some k → k ≠ gl)
    (hlit : W.heap[gl]? = some (.cells #[.int .i64 y, .int .i64 c.f0, .int .i64 c.f1, .int .i64 c.f2] 60 (0, 0))) (hl : A.length + n ≤ 100000) :
    Calls Try.prog 30 #[v, .slice (some ⟨gl, 0, none⟩) 1 1] W fun e w' => ∃ v', e = .returned v' ∧ Kd.R k60 60 w' w.heap.size (fun _ => True) v' (rl (A ++ List.replicate n c)) ∧ Below w.heap.size w w' ∧ Kept W w' (fun k => v.ownBlock = some k) := by
  subst hy
  have hlen : (bytes [⟨(n : Int), c⟩]).length = n := by simp [bytes_one]
  refine (span_join.calls 2 (fun k => v.ownBlock = some k) v (rl A) (some ⟨gl, 0, none⟩) 1 [⟨n, c⟩] _ w W hB (R60_own ho) (fun W_ hk => ?_) (Nat.le_refl _) (join_k A [⟨n, c⟩] (by intro s hs; simp at hs; subst hs; simp) 2 (by simp) (by omega) (by simp))).mono ?_
  · exact lit_C ((hk.2 gl (blk_lt hlit) (fun q => hne gl q rfl)).trans hlit)
  · rintro e w' ⟨v', rfl, hv, hb, hk⟩
    refine ⟨v', rfl, ?_, hb, hk⟩
    have := R60_any hv
    rwa [bytes_one, Int.toNat_natCast] at this
theorem join_part {w W : World} {ok ok1 : Nat → Prop} {v : Value} {A1 : Option Addr} {m c1 : Nat} (A B : List S28) (N : Nat) (hB : Below w.heap.size w W) (ho : Kd.R k60 60 W w.heap.size ok v (rl A)) (hlt : ∀ k, v.ownBlock = some k → k < N)
    (hm : Kd.R k60 60 W N ok1 (.slice A1 m c1) (rl B)) (hl : A.length + B.length ≤ 100000) :
    Calls Try.prog 30 #[v, .slice A1 m c1] W fun e w' => ∃ v', e = .returned v' ∧ Kd.R k60 60 w' w.heap.size (fun _ => True) v' (rl (A ++ B)) ∧ Below w.heap.size w w' ∧ Kept W w' (fun k => v.ownBlock = some k) := by
  obtain ⟨rfl, hc1, hC⟩ := Kd.R_reads' hm
  have hbl := rl_length B
  refine (span_join.calls ((rl B).length + 1) (fun k => v.ownBlock = some k) v (rl A) A1 c1 (rl B) _ w W hB (R60_own ho) (fun W_ hk => ?_) hc1 (join_k A (rl B) (fun s hs => by have := rl_pos B s hs; omega) _ (by omega) (by rw [bytes_rl]; exact hl) (by omega))).mono ?_
  · have h2 := Kd.R_step (Kd.R_bound hm) (w1 := W_) (fun k ho hlt2 => hk.2 k hlt2 (fun q => by have := ho.2.1; have := hlt k q; omega))
    exact (Kd.R_reads' h2).2.2
  · rintro e w' ⟨v', rfl, hv, hb, hk⟩
    refine ⟨v', rfl, ?_, hb, hk⟩
    have := R60_any hv
    rwa [bytes_rl] at this
theorem St45.kept {w w' : World} {g : Nat} {R : List S60} {c : S28} {S : Nat → Prop} (h : St45 w g R c) (hk : Kept w w' S) (hS : ∀ k, S k → w.heap.size ≤ k ∨ ∃ B, B ≤ k ∧ g < B ∧ ∀ v, w.heap[g]? = some (.cells #[.bool true, v, .int .i64 c.f0, .int .i64 c.f1, .int .i64 c.f2] 45 (0, 0)) → ∀ q, v.ownBlock = some q → q < B) : St45 w' g R c := by
  obtain ⟨v, h1, h2⟩ := h
  refine ⟨v, (hk.2 g (blk_lt h1) (fun q => ?_)).trans h1, R60_any (Kd.R_step (Kd.R_bound (R60_own h2)) (fun k ho hlt => hk.2 k hlt (fun q => ?_)))⟩
  · rcases hS g q with a | ⟨B, hB, hg, _⟩
    · have := blk_lt h1; omega
    · omega
  · rcases hS k q with a | ⟨B, hB, _, hv⟩
    · omega
    · have := hv v h1 k ho.1; omega

/-- what Insert answers, and what it leaves -/
def insE (L : List S28) (x n : Int) : Int := if n < 0 ∨ x < 0 ∨ (L.length : Int) < x then 5 else if 4096 - (L.length : Int) < n then 8 else 0
def insC (L : List S28) (K : S28) (x : Int) : S28 := if L.length = 0 then K else rd_T28 L (max (x - 1) 0)
def insL (L : List S28) (K : S28) (x n : Int) : List S28 := if insE L x n = 0 then L.take x.toNat ++ List.replicate n.toNat (insC L K x) ++ L.drop x.toNat else L
/-- what Delete answers, and what it leaves -/
def delE (L : List S28) (x n : Int) : Int := if hold x n L.length = true then 0 else 5
def delL (L : List S28) (x n : Int) : List S28 := if hold x n L.length = true then L.take x.toNat ++ L.drop (x + n).toNat else L
def delK (L : List S28) (K : S28) (x n : Int) : S28 := if hold x n L.length = true ∧ 0 < n ∧ n = (L.length : Int) then rd_T28 L ((L.length : Int) - 1) else K
/-- what Set answers, and what it leaves -/
def setE (L : List S28) (x n : Int) (c : S28) : Int := if hold x n L.length = true then (if okC c = true then 0 else 2) else 5
def setL (L : List S28) (x n : Int) (c : S28) : List S28 := if setE L x n c = 0 then L.take x.toNat ++ List.replicate n.toNat c ++ L.drop (x + n).toNat else L

theorem may_c (c : S28) (w : World) : Calls Try.prog 13 #[.agg #[.int .i64 c.f0, .int .i64 c.f1, .int .i64 c.f2]] w fun e w' => e = .returned (.bool (okC c)) ∧ Below w.heap.size w w' :=
  span_May.calls _ _ _ _ w (may_f c)
theorem rmay_c (c : S28) (w : World) : Calls Try.prog 14 #[.agg #[.int .i64 c.f0, .int .i64 c.f1, .int .i64 c.f2]] w fun e w' => e = .returned (.bool (okC c)) ∧ Below w.heap.size w w' :=
  quireref02_May.calls _ _ _ _ w (rmay_f c)
/-- the new runs are stored -/
theorem St45.store {W : World} {g : Nat} {R R' : List S60} {c : S28} {v : Value} (h : St45 W g R c) (hv : Kd.R k60 60 W 0 (fun _ => True) v R') : St45 (W.setCell ⟨g, 1, none⟩ v) g R' c := by
  obtain ⟨u, h1, h2⟩ := h
  exact ⟨v, blk_set h1 1 v, Kd.R_set hv h1 nt60_45 1 v⟩
end Go.Proofs.Ytmggbbeecmjalaa.P
