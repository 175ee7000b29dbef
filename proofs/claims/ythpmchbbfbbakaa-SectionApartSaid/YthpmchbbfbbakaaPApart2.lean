/- SectionApart: the plain law, for every section and page. -/
import Derived.Test.YthpmchbbfbbakaaB16
import Derived.Test.YthpmchbbfbbakaaPS
import Derived.Test.YthpmchbbfbbakaaOpenS
import Derived.KernelRfl
namespace Go.Proofs.Ythpmchbbfbbakaa.PAll
open Go.RowKit Go.Proofs.YthpmchbbfbbakaaW.PrintWords Go.Proofs.YthpmchbbfbbakaaW.PrintLast Go.Proofs.YthpmchbbfbbakaaW.PrintMore
set_option linter.unusedVariables false
set_option linter.unusedSimpArgs false

/-- the columns from the i-th on, so many -/
def colsFrom (s : Sec.Sec) (L : Int) : Int → Nat → List S38
  | _, 0 => []
  | i, m + 1 => ⟨L + i * (Sec.wideOf s + s.gap), s.top, Sec.wideOf s, Sec.highOf s⟩ :: colsFrom s L (i + 1) m
theorem colsFrom_length (s : Sec.Sec) (L : Int) : ∀ m i, (colsFrom s L i m).length = m
  | 0, _ => rfl
  | m + 1, i => by simp [colsFrom, colsFrom_length s L m]
theorem prod8 {i d : Int} (i0 : 0 ≤ i) (i1 : i ≤ 8) (d0 : 0 ≤ d) (d1 : d ≤ 8190) : 0 ≤ i * d ∧ i * d ≤ 65520 := by
  refine ⟨Int.mul_nonneg i0 d0, ?_⟩
  have h1 : i * d ≤ 8 * d := Int.mul_le_mul_of_nonneg_right i1 d0
  omega
theorem cols_l0 (s : Sec.Sec) (L : Int) (L0 : 0 ≤ L) (L1 : L ≤ 4095) (g0 : 0 ≤ s.gap) (g1 : s.gap ≤ 4095) (W0 : 0 ≤ Sec.wideOf s) (W1 : Sec.wideOf s ≤ 4095) (c8 : s.cols ≤ 8) : ∀ (m k : Nat) (i : Int) (acc : List S38), m < k → 0 ≤ i → i + m = s.cols → acc.length = i.toNat →
    section_Columns.l0 k acc s.cols i s.w s.h s.top s.bottom s.inner s.outer s.cols s.gap s.start s.balance s.mirror s.h0 s.h1 s.h2 s.f0 s.f1 s.f2 (L + i * (Sec.wideOf s + s.gap)) s.top (Sec.wideOf s) (Sec.highOf s) = some (acc ++ colsFrom s L i m, 0)
  | 0, k + 1, i, acc, hk, hi, hm, ha => by
    unfold section_Columns.l0
    rw [if_neg (by omega)]
    simp [colsFrom]
  | m + 1, k + 1, i, acc, hk, hi, hm, ha => by
    unfold section_Columns.l0
    obtain ⟨p0, p1⟩ := prod8 hi (show i ≤ 8 by omega) (show 0 ≤ Sec.wideOf s + s.gap by omega) (by omega)
    have e : L + i * (Sec.wideOf s + s.gap) + (Sec.wideOf s + s.gap) = L + (i + 1) * (Sec.wideOf s + s.gap) := by rw [Int.add_mul, Int.one_mul, Int.add_assoc]
    rw [if_pos (by omega), if_pos (by omega), Sec.w64 (x := i + 1) (by omega) (by omega), Sec.w64 (x := Sec.wideOf s + s.gap) (by omega) (by omega), Sec.w64 (x := L + i * (Sec.wideOf s + s.gap) + (Sec.wideOf s + s.gap)) (by omega) (by omega), e]
    rw [cols_l0 s L L0 L1 g0 g1 W0 W1 c8 m k (i + 1) _ (by omega) (by omega) (by omega) (by simp; omega)]
    simp [colsFrom]
def colsOf (s : Sec.Sec) (n : Int) : List S38 := colsFrom s (Sec.leftOf s n) 0 s.cols.toNat
theorem colsOf_length (s : Sec.Sec) (n : Int) : (colsOf s n).length = s.cols.toNat := colsFrom_length _ _ _ _
theorem left_range {s : Sec.Sec} (hl : Sec.Long s) (n : Int) : 0 ≤ Sec.leftOf s n ∧ Sec.leftOf s n ≤ 4095 := by
  unfold Sec.Long at hl
  unfold Sec.leftOf
  split <;> omega
theorem cols_f (s : Sec.Sec) (n : Int) (hp : Sec.pageOf s n 1 = 0) (k : Nat) (hk : 9 ≤ k) : section_Columns.f k s.w s.h s.top s.bottom s.inner s.outer s.cols s.gap s.start s.balance s.mirror s.h0 s.h1 s.h2 s.f0 s.f1 s.f2 n = some (colsOf s n, 0) := by
  obtain ⟨hc, _, _⟩ := Sec.page_good hp
  obtain ⟨hl, ha, hw, hh⟩ := Sec.chk_good hc
  obtain ⟨L0, L1⟩ := left_range hl n
  obtain ⟨_, _, W1⟩ := Sec.wide_room hl ha hw
  unfold Sec.Long at hl
  unfold Sec.Args at ha
  unfold section_Columns.f
  simp only [section_page.f, Option.bind_some]
  rw [if_pos hp]
  simp only [section_left.f, section_wide.f, section_high.f, Option.bind_some]
  rw [if_neg (show ¬ s.cols = 0 by omega)]
  simp only [Option.bind_some]
  have e : Sec.leftOf s n + 0 * (Sec.wideOf s + s.gap) = Sec.leftOf s n := by rw [Int.zero_mul, Int.add_zero]
  have h := cols_l0 s (Sec.leftOf s n) L0 L1 (by omega) (by omega) (by omega) W1 (by omega) s.cols.toNat k 0 [] (by omega) (by omega) (by omega) rfl
  rw [e] at h
  exact h
theorem cols_f_bad (s : Sec.Sec) (n : Int) (hp : Sec.pageOf s n 1 ≠ 0) (k : Nat) : section_Columns.f k s.w s.h s.top s.bottom s.inner s.outer s.cols s.gap s.start s.balance s.mirror s.h0 s.h1 s.h2 s.f0 s.f1 s.f2 n = some ([], Sec.pageOf s n 1) := by
  unfold section_Columns.f
  simp only [section_page.f, Option.bind_some]
  rw [if_neg hp]
theorem rects_l0 (l : List S38) (hl : l.length < 4000000) : ∀ (m k : Nat) (i : Int), m < k → 0 ≤ i → i + m = l.length → quirelaw05_rects.l0 k l l i = some true
  | 0, k + 1, i, hk, hi, hm => by
    unfold quirelaw05_rects.l0
    rw [if_neg (by omega)]
  | m + 1, k + 1, i, hk, hi, hm => by
    unfold quirelaw05_rects.l0
    rw [if_pos (by omega), if_pos hi, if_pos (by omega), if_neg (by simp), Sec.w64 (x := i + 1) (by omega) (by omega)]
    exact rects_l0 l hl m k (i + 1) (by omega) (by omega) (by omega)
theorem rects_refl (l : List S38) (k : Nat) (h : l.length < k) (hl : l.length < 4000000) : quirelaw05_rects.f k l l = some true := by
  unfold quirelaw05_rects.f
  rw [if_pos rfl]
  exact rects_l0 l hl l.length k 0 h (by omega) (by omega)
def plainS : Sec.Sec := ⟨300, 400, 40, 40, 30, 30, 1, 10, 0, 0, 0, ⟨#[]⟩, ⟨#[]⟩, ⟨#[]⟩, ⟨#[]⟩, ⟨#[]⟩, ⟨#[]⟩⟩
theorem chk_tail (s : Sec.Sec) (h1 : Sec.Long s) (h2 : Sec.Args s) (h3 : 10 ≤ Sec.wideOf s) (h4 : 20 ≤ Sec.highOf s) : Sec.chk s = Sec.textsOf s.texts := by
  rw [Sec.chk_eq, if_pos h1, if_pos h2]
  unfold Sec.tail
  rw [if_neg (by omega)]
theorem texts_none : Sec.textsOf [⟨#[]⟩, ⟨#[]⟩, ⟨#[]⟩, ⟨#[]⟩, ⟨#[]⟩, ⟨#[]⟩] = 0 := by
  kernel_rfl
theorem chk_plain : Sec.chk plainS = 0 := by
  rw [chk_tail plainS (by decide +kernel) (by decide +kernel) (by decide +kernel) (by decide +kernel)]
  exact texts_none
theorem awake_at (k : Nat) (hk : 20 ≤ k) : quirelaw05_awake.f k = some true := by
  have hp : Sec.pageOf plainS 1 1 = 0 := Sec.page_zero chk_plain (by decide) (by decide)
  have h1 := cols_f plainS 1 hp k (by omega)
  have h2 : section_Check.f plainS.w plainS.h plainS.top plainS.bottom plainS.inner plainS.outer plainS.cols plainS.gap plainS.start plainS.balance plainS.mirror plainS.h0 plainS.h1 plainS.h2 plainS.f0 plainS.f1 plainS.f2 = some 0 := congrArg some chk_plain
  have h3 : colsOf plainS 1 = [(⟨30, 40, 240, 320⟩ : S38)] := by kernel_rfl
  unfold quirelaw05_awake.f
  simp only [section_Plain.f, Option.bind_some]
  simp only [plainS] at h1 h2 h3
  rw [h1]
  simp only [Option.bind_some]
  rw [if_pos trivial]
  have h4 : colsOf ⟨300, 400, 40, 40, 30, 30, 1, 10, 0, 0, 0, ⟨#[]⟩, ⟨#[]⟩, ⟨#[]⟩, ⟨#[]⟩, ⟨#[]⟩, ⟨#[]⟩⟩ 1 = [(⟨30, 40, 240, 320⟩ : S38)] := h3
  rw [h4, rects_refl _ k (by simp; omega) (by simp)]
  simp only [Option.bind_some]
  rw [if_pos trivial, h2]
  rfl
theorem awake_true : quirelaw05_awake.f 20 = some true := awake_at 20 (by decide)
/-- how wide all columns are together -/
def spanOf (s : Sec.Sec) : Int := wrap64 (wrap64 (Sec.wideOf s * s.cols) + wrap64 (s.gap * wrap64 (s.cols - 1)))
theorem across_f (s : Sec.Sec) (n y h : Int) (c0 : s.cols ≠ 0) : section_across.f s.w s.h s.top s.bottom s.inner s.outer s.cols s.gap s.start s.balance s.mirror s.h0 s.h1 s.h2 s.f0 s.f1 s.f2 n y h = some (Sec.leftOf s n, y, spanOf s, h) := by
  unfold section_across.f section_wide.f
  rw [if_neg c0]
  rfl
theorem head_f (s : Sec.Sec) (n : Int) (c0 : s.cols ≠ 0) (hp : Sec.pageOf s n 1 = 0) : section_Head.f s.w s.h s.top s.bottom s.inner s.outer s.cols s.gap s.start s.balance s.mirror s.h0 s.h1 s.h2 s.f0 s.f1 s.f2 n = some (Sec.leftOf s n, wrap64 (Int.tdiv s.top 2), spanOf s, wrap64 (s.top - wrap64 (Int.tdiv s.top 2)), 0) := by
  unfold section_Head.f
  simp only [section_page.f, Option.bind_some]
  rw [if_pos hp, across_f s n _ _ c0]
  rfl
theorem foot_f (s : Sec.Sec) (n : Int) (c0 : s.cols ≠ 0) (hp : Sec.pageOf s n 1 = 0) : section_Foot.f s.w s.h s.top s.bottom s.inner s.outer s.cols s.gap s.start s.balance s.mirror s.h0 s.h1 s.h2 s.f0 s.f1 s.f2 n = some (Sec.leftOf s n, wrap64 (s.h - s.bottom), spanOf s, wrap64 (Int.tdiv s.bottom 2), 0) := by
  unfold section_Foot.f
  simp only [section_page.f, Option.bind_some]
  rw [if_pos hp, across_f s n _ _ c0]
  rfl
theorem colsFrom_get (s : Sec.Sec) (L : Int) : ∀ (m j : Nat) (i : Int), j < m → (colsFrom s L i m).getD j z38 = ⟨L + (i + j) * (Sec.wideOf s + s.gap), s.top, Sec.wideOf s, Sec.highOf s⟩
  | m + 1, 0, i, _ => by simp [colsFrom]
  | m + 1, j + 1, i, h => by
    have := colsFrom_get s L m j (i + 1) (by omega)
    simp only [colsFrom, List.getD_cons_succ]
    rw [this, show i + 1 + (j : Int) = i + ((j + 1 : Nat) : Int) by omega]
theorem rd_cols (s : Sec.Sec) (n i : Int) (h0 : 0 ≤ i) (h1 : i < s.cols) : rd_T38 (colsOf s n) i = ⟨Sec.leftOf s n + i * (Sec.wideOf s + s.gap), s.top, Sec.wideOf s, Sec.highOf s⟩ := by
  unfold rd_T38 colsOf
  rw [colsFrom_get s _ _ _ _ (by omega), show (0 : Int) + (i.toNat : Int) = i by omega]
/-- what is known of a section that may be -/
structure Fine (s : Sec.Sec) (n : Int) : Prop where
  long : Sec.Long s
  args : Sec.Args s
  w10 : 10 ≤ Sec.wideOf s
  w4 : Sec.wideOf s ≤ 4095
  h20 : 20 ≤ Sec.highOf s
  high : Sec.highOf s = s.h - s.top - s.bottom
  l0 : 0 ≤ Sec.leftOf s n
  l1 : Sec.leftOf s n ≤ s.inner + s.outer
  p0 : 0 ≤ (s.cols - 1) * s.gap
  p1 : (s.cols - 1) * s.gap ≤ 28665
  q0 : 0 ≤ Sec.wideOf s * s.cols
  r0 : Sec.wideOf s * s.cols ≤ s.w - s.inner - s.outer - (s.cols - 1) * s.gap
  r1 : s.w - s.inner - s.outer - (s.cols - 1) * s.gap < Sec.wideOf s * s.cols + s.cols
  last : (s.cols - 1) * (Sec.wideOf s + s.gap) = Sec.wideOf s * s.cols - Sec.wideOf s + (s.cols - 1) * s.gap
theorem fine {s : Sec.Sec} {n : Int} (hc : Sec.chk s = 0) : Fine s n := by
  obtain ⟨hl, ha, hw, hh⟩ := Sec.chk_good hc
  obtain ⟨q0, q1, q2⟩ := Sec.wide_room hl ha hw
  rw [Sec.room_eq hl ha] at q0 q1
  have hl' := hl
  have ha' := ha
  unfold Sec.Long at hl'
  unfold Sec.Args at ha'
  obtain ⟨p0, p1⟩ := Sec.prod_range (show 1 ≤ s.cols by omega) (by omega) (show 0 ≤ s.gap by omega) (by omega)
  refine ⟨hl, ha, hw, q2, hh, Sec.high_eq hl, (left_range hl n).1, ?_, p0, p1, Int.mul_nonneg (by omega) (by omega), q0, q1, ?_⟩
  · unfold Sec.leftOf
    split <;> omega
  · rw [Int.mul_add, Int.sub_mul s.cols 1 (Sec.wideOf s), Int.one_mul, Int.mul_comm s.cols]
theorem span_eq {s : Sec.Sec} {n : Int} (F : Fine s n) : spanOf s = Sec.wideOf s * s.cols + (s.cols - 1) * s.gap := by
  have hl := F.long
  have ha := F.args
  have := F.p0
  have := F.p1
  have := F.q0
  have := F.r0
  unfold Sec.Long at hl
  unfold Sec.Args at ha
  unfold spanOf
  rw [Sec.w64 (x := s.cols - 1) (by omega) (by omega), Int.mul_comm s.gap, Sec.w64 (x := Sec.wideOf s * s.cols) (by omega) (by omega), Sec.w64 (x := (s.cols - 1) * s.gap) (by omega) (by omega), Sec.w64 (by omega) (by omega)]
theorem half {x : Int} (h : 0 ≤ x) : 0 ≤ Int.tdiv x 2 ∧ Int.tdiv x 2 ≤ x := by
  rw [Int.tdiv_eq_ediv_of_nonneg h]
  omega
theorem within_true {x y w h X Y W H : Int} (a1 : 0 ≤ w) (a2 : 0 ≤ h) (a3 : X ≤ x) (a4 : Y ≤ y) (b1 : x + w ≤ X + W) (b2 : y + h ≤ Y + H) (c0 : -100000 ≤ X) (c1 : -100000 ≤ Y) (c2 : X + W ≤ 100000) (c3 : Y + H ≤ 100000) : quirelaw05_within.f x y w h X Y W H = some true := by
  unfold quirelaw05_within.f
  rw [if_pos (by omega), if_pos (by omega), if_pos (by omega), if_pos (by omega), Sec.w64 (x := x + w) (by omega) (by omega), Sec.w64 (x := X + W) (by omega) (by omega), Sec.w64 (x := y + h) (by omega) (by omega), Sec.w64 (x := Y + H) (by omega) (by omega), if_pos b1, decide_eq_true b2]
theorem step_le {s : Sec.Sec} {n i : Int} (F : Fine s n) (i0 : 0 ≤ i) (i1 : i < s.cols) : 0 ≤ i * (Sec.wideOf s + s.gap) ∧ i * (Sec.wideOf s + s.gap) ≤ Sec.wideOf s * s.cols - Sec.wideOf s + (s.cols - 1) * s.gap := by
  have hl := F.long
  have hw := F.w10
  unfold Sec.Long at hl
  have h1 : i * (Sec.wideOf s + s.gap) ≤ (s.cols - 1) * (Sec.wideOf s + s.gap) := Int.mul_le_mul_of_nonneg_right (by omega) (by omega)
  rw [F.last] at h1
  exact ⟨Int.mul_nonneg i0 (by omega), h1⟩
theorem apart_l0 (s : Sec.Sec) (n : Int) (F : Fine s n) : ∀ (m k : Nat) (i : Int), 2 * m + 2 ≤ k → 0 ≤ i → i + m = s.cols →
    quirelaw05_SectionApart.l0 k true (colsOf s n) i s.w s.h s.top s.bottom s.inner s.outer s.cols s.gap s.start s.balance s.mirror s.h0 s.h1 s.h2 s.f0 s.f1 s.f2 (Sec.leftOf s n) (wrap64 (Int.tdiv s.top 2)) (spanOf s) (wrap64 (s.top - wrap64 (Int.tdiv s.top 2))) (Sec.leftOf s n) (wrap64 (s.h - s.bottom)) (spanOf s) (wrap64 (Int.tdiv s.bottom 2)) 0 0 s.w s.h = some true
  | 0, k + 2, i, hk, hi, hm => by
    have hl := F.long
    have ha := F.args
    unfold Sec.Long at hl
    unfold Sec.Args at ha
    have h1 := F.w10
    have h2 := F.w4
    have h4 := F.high
    have h5 := F.l0
    have h6 := F.l1
    have h7 := F.p0
    have h8 := F.p1
    have h9 := F.q0
    have h10 := F.r0
    have h11 := F.r1
    have h12 := F.h20
    have hlen : ((colsOf s n).length : Int) = s.cols := by rw [colsOf_length]; omega
    obtain ⟨t0, t1⟩ := half (show 0 ≤ s.top by omega)
    obtain ⟨b0, b1⟩ := half (show 0 ≤ s.bottom by omega)
    rw [quirelaw05_SectionApart.l0, hlen, Sec.w64 (x := s.cols - 1) (by omega) (by omega), rd_cols s n (s.cols - 1) (by omega) (by omega), rd_cols s n 0 (by omega) (by omega), F.last, Int.zero_mul, Int.add_zero, span_eq F]
    rw [if_neg (by omega), if_pos (by omega), if_pos (by omega), if_pos (by omega), if_pos rfl]
    simp only []
    rw [Sec.w64 (x := Sec.leftOf s n + s.w) (by omega) (by omega), Sec.w64 (x := s.inner + s.outer) (by omega) (by omega), Sec.w64 (x := s.h - s.bottom) (by omega) (by omega), Sec.w64 (x := Int.tdiv s.top 2) (by omega) (by omega), Sec.w64 (x := Int.tdiv s.bottom 2) (by omega) (by omega), Sec.w64 (x := s.top - Int.tdiv s.top 2) (by omega) (by omega)]
    rw [Sec.w64 (x := Sec.leftOf s n + s.w - (Sec.leftOf s n + (Sec.wideOf s * s.cols - Sec.wideOf s + (s.cols - 1) * s.gap))) (by omega) (by omega), Sec.w64 (x := Sec.leftOf s n + s.w - (Sec.leftOf s n + (Sec.wideOf s * s.cols - Sec.wideOf s + (s.cols - 1) * s.gap)) - Sec.wideOf s) (by omega) (by omega), Sec.w64 (x := s.inner + s.outer + s.cols) (by omega) (by omega)]
    rw [if_pos (by omega), if_pos (by omega), within_true (by omega) (by omega) (by omega) (by omega) (by omega) (by omega) (by omega) (by omega) (by omega) (by omega)]
    simp only [Option.bind_some]
    rw [if_pos trivial, within_true (by omega) (by omega) (by omega) (by omega) (by omega) (by omega) (by omega) (by omega) (by omega) (by omega)]
    simp only [Option.bind_some]
    rw [if_pos trivial, if_pos trivial, if_pos trivial, Sec.w64 (by omega) (by omega), Sec.w64 (by omega) (by omega)]
    exact congrArg some (beq_iff_eq.mpr (by omega))
  | m + 1, k + 2, i, hk, hi, hm => by
    have hl := F.long
    have ha := F.args
    unfold Sec.Long at hl
    unfold Sec.Args at ha
    have h1 := F.w10
    have h2 := F.w4
    have h4 := F.high
    have h5 := F.l0
    have h6 := F.l1
    have h7 := F.p0
    have h8 := F.p1
    have h9 := F.q0
    have h10 := F.r0
    have h12 := F.h20
    have hlen : ((colsOf s n).length : Int) = s.cols := by rw [colsOf_length]; omega
    obtain ⟨s0, s1⟩ := step_le F hi (show i < s.cols by omega)
    have hnext := apart_l0 s n F m k (i + 1) (by omega) (by omega) (by omega)
    rw [quirelaw05_SectionApart.l0, hlen, rd_cols s n i hi (by omega), rd_cols s n 0 (by omega) (by omega)]
    rw [if_pos (by omega), if_pos hi]
    simp only []
    rw [within_true (by omega) (by omega) (by omega) (by omega) (by omega) (by omega) (by omega) (by omega) (by omega) (by omega)]
    simp only [Option.bind_some]
    rw [if_pos trivial, if_pos trivial, Sec.w64 (x := s.h - s.top) (by omega) (by omega), Sec.w64 (x := s.h - s.top - s.bottom) (by omega) (by omega), if_pos h4, if_pos (by omega), if_pos trivial, decide_eq_false (by omega)]
    rw [quirelaw05_SectionApart.j3, hlen, if_neg (by decide), Sec.w64 (x := i + 1) (by omega) (by omega)]
    by_cases i0 : i > 0
    · have e : (i - 1) * (Sec.wideOf s + s.gap) = i * (Sec.wideOf s + s.gap) - (Sec.wideOf s + s.gap) := by rw [Int.sub_mul, Int.one_mul]
      obtain ⟨u0, u1⟩ := step_le F (show 0 ≤ i - 1 by omega) (show i - 1 < s.cols by omega)
      rw [if_pos i0, if_pos hi, if_pos (by omega), Sec.w64 (x := i - 1) (by omega) (by omega), if_pos (by omega), if_pos (by omega), rd_cols s n i hi (by omega), rd_cols s n (i - 1) (by omega) (by omega)]
      simp only []
      rw [Sec.w64 (x := Sec.leftOf s n + (i - 1) * (Sec.wideOf s + s.gap) + Sec.wideOf s) (by omega) (by omega), Sec.w64 (by omega) (by omega), if_pos (by omega)]
      exact hnext
    · rw [if_neg i0]
      exact hnext
theorem apart_j0_true (k : Nat) (x1 : Int) (x5 : Bool) (y0 y1 y2 y3 y4 y5 y6 y7 y8 y9 y10 : Int) (y11 y12 y13 y14 y15 y16 : ByteArray) : quirelaw05_SectionApart.j0 (k + 1) x1 x5 true y0 y1 y2 y3 y4 y5 y6 y7 y8 y9 y10 y11 y12 y13 y14 y15 y16 = some x5 := by
  simp [quirelaw05_SectionApart.j0]
theorem apart_j0 (s : Sec.Sec) (n : Int) (hc : Sec.chk s = 0) (n1 : 1 ≤ n) (n2 : n ≤ 4096) (k : Nat) (hk : 30 ≤ k) : quirelaw05_SectionApart.j0 (k + 1 + 1) n true false s.w s.h s.top s.bottom s.inner s.outer s.cols s.gap s.start s.balance s.mirror s.h0 s.h1 s.h2 s.f0 s.f1 s.f2 = some true := by
  have F : Fine s n := fine hc
  have ha := F.args
  unfold Sec.Args at ha
  have hp := Sec.page_zero (least := 1) hc n1 n2
  have hlen : ((colsOf s n).length : Int) = s.cols := by rw [colsOf_length]; omega
  rw [quirelaw05_SectionApart.j0, if_neg (by decide), cols_f s n hp _ (by omega), head_f s n (by omega) hp, foot_f s n (by omega) hp]
  simp only [Option.bind_some]
  rw [if_pos trivial, if_pos trivial, if_pos trivial, hlen, show (s.cols != s.cols) = false by simp, quirelaw05_SectionApart.j1, if_neg (by decide)]
  exact apart_l0 s n F s.cols.toNat k 0 (by omega) (by omega) (by omega)
theorem apart_pure (s : Sec.Sec) (n : Int) (g : Sec.good s) (wn : (Lit.int .i64 n).wf = true) : ∃ k, quirelaw05_SectionApart.f k s.w s.h s.top s.bottom s.inner s.outer s.cols s.gap s.start s.balance s.mirror s.h0 s.h1 s.h2 s.f0 s.f1 s.f2 n = some true := by
  refine ⟨58 + 1 + 1, ?_⟩
  have hsm : quirelaw05_small.f s.w s.h s.top s.bottom s.inner s.outer s.cols s.gap s.start s.balance s.mirror s.h0 s.h1 s.h2 s.f0 s.f1 s.f2 = some (Sec.smallOf s) := rfl
  have hk1 : section_Check.f s.w s.h s.top s.bottom s.inner s.outer s.cols s.gap s.start s.balance s.mirror s.h0 s.h1 s.h2 s.f0 s.f1 s.f2 = some (Sec.chk s) := rfl
  unfold quirelaw05_SectionApart.f
  rw [awake_at _ (by decide), hsm, hk1]
  simp only [Option.bind_some]
  by_cases hs : Sec.smallOf s = true
  · rw [if_pos hs]
    by_cases hc : Sec.chk s = 0
    · rw [if_pos hc]
      by_cases h0 : n < 1
      · rw [if_pos h0]
        exact apart_j0_true (58 + 1) _ _ _ _ _ _ _ _ _ _ _ _ _ _ _ _ _ _ _
      · rw [if_neg h0]
        by_cases h1 : n > 4096
        · rw [decide_eq_true h1]
          exact apart_j0_true (58 + 1) _ _ _ _ _ _ _ _ _ _ _ _ _ _ _ _ _ _ _
        · rw [decide_eq_false h1]
          exact apart_j0 s n hc (by omega) (by omega) 58 (by decide)
    · rw [if_neg hc]
      exact apart_j0_true (58 + 1) _ _ _ _ _ _ _ _ _ _ _ _ _ _ _ _ _ _ _
  · rw [if_neg hs]
    exact apart_j0_true (58 + 1) _ _ _ _ _ _ _ _ _ _ _ _ _ _ _ _ _ _ _
end Go.Proofs.Ythpmchbbfbbakaa.PAll
