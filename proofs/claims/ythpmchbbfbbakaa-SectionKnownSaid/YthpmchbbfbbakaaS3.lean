/- Sections: section.Check. -/
import Derived.Test.YthpmchbbfbbakaaS2
import Derived.RangeFuncBox
import Derived.RangeFuncBound
import Derived.Deep.RegionHeld3
namespace Go.Proofs.Ythpmchbbfbbakaa.Sec
open Go.RowKit Go.Proofs.YthpmchbbfbbakaaW.PrintWords Go.Proofs.YthpmchbbfbbakaaW.PrintLast Go.Proofs.YthpmchbbfbbakaaW.PrintMore
open PSectionTells
set_option linter.unusedVariables false
set_option linter.unusedSimpArgs false

def Sec.texts (s : Sec) : List ByteArray := [s.h0, s.h1, s.h2, s.f0, s.f1, s.f2]
/-- a number, and what it must be within -/
def rowsOf (s : Sec) : List S38 := [⟨s.w, 1, 4095, 5⟩, ⟨s.h, 1, 4095, 5⟩, ⟨s.top, 0, 4095, 5⟩, ⟨s.bottom, 0, 4095, 5⟩, ⟨s.inner, 0, 4095, 5⟩, ⟨s.outer, 0, 4095, 5⟩, ⟨s.gap, 0, 4095, 5⟩, ⟨s.cols, 1, 8, 2⟩, ⟨s.start, 0, 2, 2⟩, ⟨s.balance, 0, 1, 2⟩, ⟨s.mirror, 0, 1, 2⟩]
def firstE (z : Int) : List S38 → Int
  | [] => z
  | r :: l => if r.f0 < r.f1 ∨ r.f2 < r.f0 then r.f3 else firstE z l
def tail (s : Sec) : Int := if wideOf s < 10 ∨ highOf s < 20 then 5 else textsOf s.texts
def chk (s : Sec) : Int := firstE (tail s) (rowsOf s)
/-- all rows that are good -/
def goodR (l : List S38) : Prop := ∀ r, r ∈ l → r.f1 ≤ r.f0 ∧ r.f0 ≤ r.f2

theorem rows_kd (s : Sec) (W : World) (g : Nat) (h : W.heap[g]? = some (.cells #[.int .i64 s.w, .int .i64 1, .int .i64 4095, .int .i64 5,
      .int .i64 s.h, .int .i64 1, .int .i64 4095, .int .i64 5, .int .i64 s.top, .int .i64 0, .int .i64 4095, .int .i64 5,
      .int .i64 s.bottom, .int .i64 0, .int .i64 4095, .int .i64 5, .int .i64 s.inner, .int .i64 0, .int .i64 4095, .int .i64 5,
      .int .i64 s.outer, .int .i64 0, .int .i64 4095, .int .i64 5, .int .i64 s.gap, .int .i64 0, .int .i64 4095, .int .i64 5,
      .int .i64 s.cols, .int .i64 1, .int .i64 8, .int .i64 2, .int .i64 s.start, .int .i64 0, .int .i64 2, .int .i64 2,
      .int .i64 s.balance, .int .i64 0, .int .i64 1, .int .i64 2, .int .i64 s.mirror, .int .i64 0, .int .i64 1, .int .i64 2] 52 (0, 0))) :
    ∀ i : Nat, i < 11 → W.cell? ⟨g, i * 4, none⟩ = some (.int .i64 (rd_T38 (rowsOf s) (i : Int)).f0) ∧ W.cell? ⟨g, i * 4 + 1, none⟩ = some (.int .i64 (rd_T38 (rowsOf s) (i : Int)).f1) ∧ W.cell? ⟨g, i * 4 + 2, none⟩ = some (.int .i64 (rd_T38 (rowsOf s) (i : Int)).f2) ∧ W.cell? ⟨g, i * 4 + 3, none⟩ = some (.int .i64 (rd_T38 (rowsOf s) (i : Int)).f3) := by
  intro i hi
  rw [blk_cell h, blk_cell h, blk_cell h, blk_cell h]
  match i, hi with
  | 0, _ | 1, _ | 2, _ | 3, _ | 4, _ | 5, _ | 6, _ | 7, _ | 8, _ | 9, _ | 10, _ => exact ⟨rfl, rfl, rfl, rfl⟩

theorem rows_drop (s : Sec) (i : Nat) (h : i < 11) : (rowsOf s).drop i = rd_T38 (rowsOf s) (i : Int) :: (rowsOf s).drop (i + 1) := by
  have hl : i < (rowsOf s).length := h
  rw [List.drop_eq_getElem_cons hl]
  simp [rd_T38, hl]

theorem sec_cells {s : Sec} {W : World} {g : Nat} (h : W.heap[g]? = some (.cells s.cs 24 (0, 0))) : W.cell? ⟨g, 0, none⟩ = some (.int .i64 s.w) ∧ W.cell? ⟨g, 1, none⟩ = some (.int .i64 s.h) ∧ W.cell? ⟨g, 2, none⟩ = some (.int .i64 s.top) ∧ W.cell? ⟨g, 3, none⟩ = some (.int .i64 s.bottom) ∧ W.cell? ⟨g, 4, none⟩ = some (.int .i64 s.inner) ∧ W.cell? ⟨g, 5, none⟩ = some (.int .i64 s.outer) ∧ W.cell? ⟨g, 6, none⟩ = some (.int .i64 s.cols) ∧ W.cell? ⟨g, 7, none⟩ = some (.int .i64 s.gap) ∧ W.cell? ⟨g, 8, none⟩ = some (.int .i64 s.start) ∧ W.cell? ⟨g, 9, none⟩ = some (.int .i64 s.balance) ∧ W.cell? ⟨g, 10, none⟩ = some (.int .i64 s.mirror) ∧ W.cell? ⟨g, 11, none⟩ = some (.string s.h0) ∧ W.cell? ⟨g, 12, none⟩ = some (.string s.h1) ∧ W.cell? ⟨g, 13, none⟩ = some (.string s.h2) ∧ W.cell? ⟨g, 14, none⟩ = some (.string s.f0) ∧ W.cell? ⟨g, 15, none⟩ = some (.string s.f1) ∧ W.cell? ⟨g, 16, none⟩ = some (.string s.f2) := by
  have k := fun i => blk_cell h i
  exact ⟨k 0, k 1, k 2, k 3, k 4, k 5, k 6, k 7, k 8, k 9, k 10, k 11, k 12, k 13, k 14, k 15, k 16⟩
theorem cell_alloc_ {W : World} {p : Addr} {v : Value} (h : W.cell? p = some v) (o : Obj) : (W.alloc o).cell? p = some v := by
  have hlt := World.block_lt_of_cell? W p h
  have := Below.heap_alloc W o p.block hlt
  unfold World.cell? at h ⊢
  rw [this]
  exact h

/-- append onto a slice that is full, at a step of a region that draws its order -/
theorem step_append_grows {P : Program} (w : World) {ops : Array Oper} {o : Oper} {a : Act} {K : Act → World → Prop} {Q : Exit → Act → World → Prop} {E : Prop} (hgd : o.guard = none) (s x : Operand) (t : TypeId)
    (hop : o.op = Op.call { callee := Callee.builtin Builtin.append, args := #[s, x], argTypes := #[t, t] })
    (e : TypeId) (i : TypeInfo) (z : Value) (size bytes : Nat) (h1 : P.underlying t = some (.slice e)) (h2 : P.info? e = some i) (h3 : i.zero = some z) (h4 : i.size = size) (h5 : i.bytes = bytes) (h6 : z.cells.size = size) (h7 : 0 < size)
    (b : Addr) (n cap : Nat) (olds : List Value) (hs : a.eval s = .slice (some b) n cap) (hlo : olds.length = n * size) (holds : ∀ j u, olds[j]? = some u → w.cell? (b.add j) = some u)
    (ad : Addr) (m c : Nat) (news : List Value) (hx : a.eval x = .slice (some ad) m c) (hn : news.length = m * size) (hc : ∀ j u, news[j]? = some u → w.cell? (ad.add j) = some u)
    (hfull : cap < n + m) (b1 : n + m ≤ maxLen) (b2 : (n + m) * bytes ≤ 140737488355328)
    (hK : ∀ v' w', w'.ownsRow w.heap.size e size v' (n + m) (olds ++ news) → w.grownBy w' none → K (a.put o.dst v') w') :
    if Region.wanted o (yielded ops a.tmps) = true then Oper.wp P o a w K Q else E := by
  have hw : Region.wanted o (yielded ops a.tmps) = true := by simp [Region.wanted, hgd]
  rw [if_pos hw]
  obtain ⟨v', w', hrun, r1, r2⟩ := run_append_arg_grows (P := P) w t o.type e i z size bytes h1 h2 h3 h4 h5 h6 h7 b n cap olds hlo holds ad m c news hn hc hfull b1 b2
  unfold Oper.wp
  simp [execOp, hop, resolve, invoke, builtin, hs, hx, hrun, Result.andThen]
  exact hK v' w' r1 r2
theorem str3 {W : World} {g o : Nat} {a b c : Value} (h0 : W.cell? ⟨g, o, none⟩ = some a) (h1 : W.cell? ⟨g, o + 1, none⟩ = some b) (h2 : W.cell? ⟨g, o + 2, none⟩ = some c) : ∀ j u, [a, b, c][j]? = some u → W.cell? ((⟨g, o, none⟩ : Addr).add j) = some u := by
  intro j u hu
  rw [Addr.add_lit]
  match j, hu with
  | 0, hu => cases hu; exact h0
  | 1, hu => cases hu; exact h1
  | 2, hu => cases hu; exact h2
theorem own_kd {W : World} {base : Nat} {v : Value} {xs : List ByteArray} (h : W.ownsRow base 9 1 v xs.length (xs.map Value.string)) : Kd.R Kd.string 9 W base (fun _ => True) v xs := Kd.R_of_own h (fun _ _ => trivial)
theorem own_reads {W : World} {base g cap : Nat} {xs : List ByteArray} (h : W.ownsRow base 9 1 (.slice (some ⟨g, 0, none⟩) xs.length cap) xs.length (xs.map Value.string)) : Kd.C Kd.string W (some ⟨g, 0, none⟩) xs.length xs := (Kd.R_reads' (own_kd h)).2.2
theorem own_cap {W : World} {base g cap : Nat} {xs : List ByteArray} (h : W.ownsRow base 9 1 (.slice (some ⟨g, 0, none⟩) xs.length cap) xs.length (xs.map Value.string)) : xs.length ≤ cap := (Kd.R_reads' (own_kd h)).2.1
theorem drawn_tail {W w3 w5 w6 : World} (hB : Below W.heap.size W w3) (hg : w3.drew.grownBy w5 none) (hd : Drawn0 w5 w6) : Below W.heap.size W w6 := by
  have z : w3.drew.heap.size = w3.heap.size := rfl
  have h5 : Below W.heap.size W w5 := (below_drew1 hB).grown hg (by have := hB.size; omega) (fun k e => by cases e)
  exact h5.trans (hd.below.mono h5.size)
theorem info9 : (Try.prog.info? 9).map (fun i => (i.zero, i.size, i.bytes)) = some (some (.string ByteArray.empty), 1, 16) := by kernel_rfl

set_option maxRecDepth 100000 in
set_option maxHeartbeats 8000000 in
theorem check_calls (s : Sec) (W : World) : Calls Try.prog 17 #[s.v] W fun e W' => e = .returned (.int .i64 (chk s)) ∧ Below W.heap.size W W' := by
  dsimp only [Sec.v, Sec.cs]
  obtain ⟨i0, hi, hz0, hz1, hz2⟩ := info_parts info9
  go_enter Try.func17, Try.ntmps17
  go_wp2
  have hB1 : Below W.heap.size W ((W.alloc (.cells s.cs 24)).alloc (.cells #[.int .i64 s.w, .int .i64 1, .int .i64 4095, .int .i64 5,
      .int .i64 s.h, .int .i64 1, .int .i64 4095, .int .i64 5, .int .i64 s.top, .int .i64 0, .int .i64 4095, .int .i64 5,
      .int .i64 s.bottom, .int .i64 0, .int .i64 4095, .int .i64 5, .int .i64 s.inner, .int .i64 0, .int .i64 4095, .int .i64 5,
      .int .i64 s.outer, .int .i64 0, .int .i64 4095, .int .i64 5, .int .i64 s.gap, .int .i64 0, .int .i64 4095, .int .i64 5,
      .int .i64 s.cols, .int .i64 1, .int .i64 8, .int .i64 2, .int .i64 s.start, .int .i64 0, .int .i64 2, .int .i64 2,
      .int .i64 s.balance, .int .i64 0, .int .i64 1, .int .i64 2, .int .i64 s.mirror, .int .i64 0, .int .i64 1, .int .i64 2] 52)) := ((Below.refl _ W).alloc (Nat.le_refl _) _).alloc (by simp) _
  have hS := blk_alloc (blk_new W (.cells s.cs 24)) (.cells #[.int .i64 s.w, .int .i64 1, .int .i64 4095, .int .i64 5,
      .int .i64 s.h, .int .i64 1, .int .i64 4095, .int .i64 5, .int .i64 s.top, .int .i64 0, .int .i64 4095, .int .i64 5,
      .int .i64 s.bottom, .int .i64 0, .int .i64 4095, .int .i64 5, .int .i64 s.inner, .int .i64 0, .int .i64 4095, .int .i64 5,
      .int .i64 s.outer, .int .i64 0, .int .i64 4095, .int .i64 5, .int .i64 s.gap, .int .i64 0, .int .i64 4095, .int .i64 5,
      .int .i64 s.cols, .int .i64 1, .int .i64 8, .int .i64 2, .int .i64 s.start, .int .i64 0, .int .i64 2, .int .i64 2,
      .int .i64 s.balance, .int .i64 0, .int .i64 1, .int .i64 2, .int .i64 s.mirror, .int .i64 0, .int .i64 1, .int .i64 2] 52)
  have hR := blk_new (W.alloc (.cells s.cs 24)) (.cells #[.int .i64 s.w, .int .i64 1, .int .i64 4095, .int .i64 5,
      .int .i64 s.h, .int .i64 1, .int .i64 4095, .int .i64 5, .int .i64 s.top, .int .i64 0, .int .i64 4095, .int .i64 5,
      .int .i64 s.bottom, .int .i64 0, .int .i64 4095, .int .i64 5, .int .i64 s.inner, .int .i64 0, .int .i64 4095, .int .i64 5,
      .int .i64 s.outer, .int .i64 0, .int .i64 4095, .int .i64 5, .int .i64 s.gap, .int .i64 0, .int .i64 4095, .int .i64 5,
      .int .i64 s.cols, .int .i64 1, .int .i64 8, .int .i64 2, .int .i64 s.start, .int .i64 0, .int .i64 2, .int .i64 2,
      .int .i64 s.balance, .int .i64 0, .int .i64 1, .int .i64 2, .int .i64 s.mirror, .int .i64 0, .int .i64 1, .int .i64 2] 52)
  obtain ⟨W0, hW0⟩ : ∃ W0, ((W.alloc (.cells s.cs 24)).alloc (.cells #[.int .i64 s.w, .int .i64 1, .int .i64 4095, .int .i64 5,
      .int .i64 s.h, .int .i64 1, .int .i64 4095, .int .i64 5, .int .i64 s.top, .int .i64 0, .int .i64 4095, .int .i64 5,
      .int .i64 s.bottom, .int .i64 0, .int .i64 4095, .int .i64 5, .int .i64 s.inner, .int .i64 0, .int .i64 4095, .int .i64 5,
      .int .i64 s.outer, .int .i64 0, .int .i64 4095, .int .i64 5, .int .i64 s.gap, .int .i64 0, .int .i64 4095, .int .i64 5,
      .int .i64 s.cols, .int .i64 1, .int .i64 8, .int .i64 2, .int .i64 s.start, .int .i64 0, .int .i64 2, .int .i64 2,
      .int .i64 s.balance, .int .i64 0, .int .i64 1, .int .i64 2, .int .i64 s.mirror, .int .i64 0, .int .i64 1, .int .i64 2] 52)) = W0 := ⟨_, rfl⟩
  rw [hW0] at hB1 hS hR
  have hGoal := hW0
  simp only [Sec.cs] at hGoal
  rw [hGoal]
  clear hW0 hGoal
  simp only [World.size_alloc] at hR
  have HR := Aside0.mk hR
  have HS := Aside0.mk hS
  have HB := Aside0.mk hB1
  clear hR hS hB1
  go_loopw [40] (fun v40 wr => ∃ (x : Int) (i : Nat), v40 = .int .i64 x ∧ Aside0 (x = (i : Int)) ∧ Aside0 (i ≤ 11) ∧ Aside0 (chk s = firstE (tail s) ((rowsOf s).drop i)) ∧ Aside0 (goodR ((rowsOf s).take i)) ∧ Aside0 (wr.heap[W.heap.size]? = some (.cells s.cs 24 (0, 0))) ∧ Aside0 (∀ i : Nat, i < 11 → wr.cell? ⟨W.heap.size + 1, i * 4, none⟩ = some (.int .i64 (rd_T38 (rowsOf s) (i : Int)).f0) ∧ wr.cell? ⟨W.heap.size + 1, i * 4 + 1, none⟩ = some (.int .i64 (rd_T38 (rowsOf s) (i : Int)).f1) ∧ wr.cell? ⟨W.heap.size + 1, i * 4 + 2, none⟩ = some (.int .i64 (rd_T38 (rowsOf s) (i : Int)).f2) ∧ wr.cell? ⟨W.heap.size + 1, i * 4 + 3, none⟩ = some (.int .i64 (rd_T38 (rowsOf s) (i : Int)).f3)) ∧ Aside0 (Below W.heap.size W wr))
    (fun v40 _ => 11 - (intOf v40).toNat)
  case atStart => exact ⟨0, 0, rfl, ⟨rfl⟩, ⟨by omega⟩, ⟨rfl⟩, ⟨by intro r hr; cases hr⟩, HS, ⟨rows_kd s _ _ HR.out⟩, HB⟩
  case round =>
    obtain ⟨x, i, rfl, hx, hi, hfirst, hgood, hS2, hR2, hB2⟩ := hrel
    clear HR HS HB
    by_cases hlt : i < 11
    · have hxi : x.toNat = i := by rw [hx.out]; simp
      have x0 : 0 ≤ x := by rw [hx.out]; omega
      have x1 : x ≤ 10 := by rw [hx.out]; omega
      have q1 : x < 11 := by omega
      have b1 : decide (x < 11) = true := decide_eq_true q1
      obtain ⟨z0, z1, z2, z3⟩ := hR2.out i hlt
      rw [← hxi] at z0 z1 z2 z3
      have hd := rows_drop s i hlt
      have hx2 : ((x.toNat : Nat) : Int) = (i : Int) := by omega
      rw [hx2] at z0 z1 z2 z3
      have HD := Aside0.mk hd
      clear hd hx2 hxi
      as_aux_lemma =>
        by_cases e1 : (rd_T38 (rowsOf s) (i : Int)).f0 < (rd_T38 (rowsOf s) (i : Int)).f1
        · have d1 : decide ((rd_T38 (rowsOf s) (i : Int)).f0 < (rd_T38 (rowsOf s) (i : Int)).f1) = true := decide_eq_true e1
          have HF : Aside0 (chk s = (rd_T38 (rowsOf s) (i : Int)).f3) := ⟨by rw [hfirst.out, HD.out]; exact if_pos (.inl e1)⟩
          clear e1
          generalize rd_T38 (rowsOf s) (i : Int) = r at z0 z1 z2 z3 d1 HF HD
          go_wp2
          go_ret
          exact ⟨by show Ending.returned (.int .i64 r.f3) = _; rw [HF.out], hB2.out.alloc hB2.out.size _⟩
        · have d1 : decide ((rd_T38 (rowsOf s) (i : Int)).f0 < (rd_T38 (rowsOf s) (i : Int)).f1) = false := decide_eq_false e1
          by_cases e2 : (rd_T38 (rowsOf s) (i : Int)).f2 < (rd_T38 (rowsOf s) (i : Int)).f0
          · have d2 : decide ((rd_T38 (rowsOf s) (i : Int)).f2 < (rd_T38 (rowsOf s) (i : Int)).f0) = true := decide_eq_true e2
            have HF : Aside0 (chk s = (rd_T38 (rowsOf s) (i : Int)).f3) := ⟨by rw [hfirst.out, HD.out]; exact if_pos (.inr e2)⟩
            clear e1 e2
            generalize rd_T38 (rowsOf s) (i : Int) = r at z0 z1 z2 z3 d1 d2 HF HD
            go_wp2
            go_ret
            exact ⟨by show Ending.returned (.int .i64 r.f3) = _; rw [HF.out], hB2.out.alloc hB2.out.size _⟩
          · have d2 : decide ((rd_T38 (rowsOf s) (i : Int)).f2 < (rd_T38 (rowsOf s) (i : Int)).f0) = false := decide_eq_false e2
            have HF : Aside0 (chk s = firstE (tail s) ((rowsOf s).drop (i + 1))) := ⟨by rw [hfirst.out, HD.out]; exact if_neg (by omega)⟩
            have HG : Aside0 (goodR ((rowsOf s).take (i + 1))) := ⟨by
              intro r hr
              have ht : (rowsOf s).take (i + 1) = (rowsOf s).take i ++ [rd_T38 (rowsOf s) (i : Int)] := by
                have hl : i < (rowsOf s).length := hlt
                rw [List.take_succ_eq_append_getElem hl]
                simp [rd_T38, hl]
              rw [ht] at hr
              rcases List.mem_append.1 hr with hr | hr
              · exact hgood.out r hr
              · rw [List.mem_singleton.1 hr]; omega⟩
            clear e1 e2
            generalize hrr : rd_T38 (rowsOf s) (i : Int) = r at z0 z1 z2 z3 d1 d2 HD
            clear hrr
            go_wp2
            go_roundw
            case rel =>
              refine ⟨x + 1, i + 1, rfl, ⟨by rw [hx.out]; omega⟩, ⟨by omega⟩, HF, HG, ⟨blk_alloc hS2.out _⟩, ⟨fun j hj => ?_⟩, ⟨hB2.out.alloc hB2.out.size _⟩⟩
              obtain ⟨y0, y1, y2, y3⟩ := hR2.out j hj
              exact ⟨cell_alloc_ y0 _, cell_alloc_ y1 _, cell_alloc_ y2 _, cell_alloc_ y3 _⟩
            case measure => have := hx.out; simp [intOf]; omega
    · have b1 : decide (x < 11) = false := decide_eq_false (by rw [hx.out]; omega)
      have i11 : i = 11 := by have := hi.out; omega
      subst i11
      have hc : s.cols ≠ 0 := by
        have := hgood.out ⟨s.cols, 1, 8, 2⟩ (by simp [rowsOf])
        have h1 : (1 : Int) ≤ s.cols := this.1
        omega
      have hchk : chk s = tail s := hfirst.out
      clear hgood hfirst hR2 hlt hi
      have HCHK := Aside0.mk hchk
      clear hchk
      obtain ⟨a0, a1, a2, a3, a4, a5, a6, a7, a8, a9, a10, a11, a12, a13, a14, a15, a16⟩ := sec_cells hS2.out
      by_cases t1 : wideOf s < 10
      · have d1 : decide (wideOf s < 10) = true := decide_eq_true t1
        have HF : Aside0 (chk s = 5) := ⟨by rw [HCHK.out]; exact if_pos (.inl t1)⟩
        clear t1
        as_aux_lemma =>
          go_wp2_with (go_at_call 29; refine (wide_calls s hc _).mono ?_; rintro e w2 ⟨rfl, hb⟩)
          go_ret
          exact ⟨by show Ending.returned (.int .i64 5) = _; rw [HF.out], hB2.out.trans (hb.mono hB2.out.size)⟩
      · have d1 : decide (wideOf s < 10) = false := decide_eq_false t1
        by_cases t2 : highOf s < 20
        · have d2 : decide (highOf s < 20) = true := decide_eq_true t2
          have HF : Aside0 (chk s = 5) := ⟨by rw [HCHK.out]; exact if_pos (.inr t2)⟩
          clear t1 t2
          as_aux_lemma =>
            go_wp2_with (first | (go_at_call 29; refine (wide_calls s hc _).mono ?_; rintro e w2 ⟨rfl, hb⟩; have hS3 := Aside0.mk (blk_below hS2.out hb); have hB3 := Aside0.mk (hB2.out.trans (hb.mono hB2.out.size)); clear hb; obtain ⟨c0, c1, c2, c3, c4, c5, c6, c7, c8, c9, c10, c11, c12, c13, c14, c15, c16⟩ := sec_cells hS3.out) | (go_at_call 30; refine (high_calls s _).mono ?_; rintro e w3 ⟨rfl, hb⟩))
            go_ret
            exact ⟨by show Ending.returned (.int .i64 5) = _; rw [HF.out], hB3.out.trans (hb.mono hB3.out.size)⟩
        · have d2 : decide (highOf s < 20) = false := decide_eq_false t2
          have HF : Aside0 (chk s = textsOf s.texts) := ⟨by rw [HCHK.out]; exact if_neg (fun q => q.elim t1 t2)⟩
          clear t1 t2
          as_aux_lemma =>
            go_wp2_with (first | (go_at_call 29; refine (wide_calls s hc _).mono ?_; rintro e w2 ⟨rfl, hb⟩; have hS3 := Aside0.mk (blk_below hS2.out hb); have hB3 := Aside0.mk (hB2.out.trans (hb.mono hB2.out.size)); clear hb; obtain ⟨c0, c1, c2, c3, c4, c5, c6, c7, c8, c9, c10, c11, c12, c13, c14, c15, c16⟩ := sec_cells hS3.out) | (go_at_call 30; refine (high_calls s _).mono ?_; rintro e w3 ⟨rfl, hb⟩; have hS4 := Aside0.mk (blk_below hS3.out hb); have hB4 := Aside0.mk (hB3.out.trans (hb.mono hB3.out.size)); clear hb; obtain ⟨e0, e1, e2, e3, e4, e5, e6, e7, e8, e9, e10, e11, e12, e13, e14, e15, e16⟩ := sec_cells hS4.out))
            have gi := fun j => blk_cell hS4.out j
            go_region_held3 (fun _ => True) (trivial) (first | (refine step_append_grows _ (by rfl) _ _ 55 (by rfl) 9 i0 (.string ByteArray.empty) 1 16 Try.underlying55 hi hz0 hz1 hz2 rfl (by decide) ⟨W.heap.size, 11, none⟩ 3 3 [.string s.h0, .string s.h1, .string s.h2] (by rfl) rfl (str3 (gi 11) (gi 12) (gi 13)) ⟨W.heap.size, 14, none⟩ 3 3 [.string s.f0, .string s.f1, .string s.f2] (by rfl) rfl (str3 (gi 14) (gi 15) (gi 16)) (by decide) (by decide) (by decide) ?_; intro v5 w5 hown hgrow; obtain ⟨g5, cap5, rfl⟩ := ownsRow_succ hown) | (go_at_call 32; refine (texts_calls _ _ s.texts (show (6 : Nat) ≤ 100 by decide) _ (own_reads hown) (own_cap hown)).mono ?_; rintro e w6 ⟨rfl, hd⟩))
            go_wp2
            go_ret
            exact ⟨by show Ending.returned (.int .i64 (textsOf s.texts)) = _; rw [HF.out], drawn_tail hB4.out hgrow hd⟩
end Go.Proofs.Ythpmchbbfbbakaa.Sec
