/- Sections: what Check answers. -/
import Derived.Test.YthpmchbbfbbakaaS1
import Derived.Test.YthpmchbbfbbakaaA2
import Derived.ArgAppend
namespace Go.Proofs.Ythpmchbbfbbakaa.Sec
open Go.RowKit Go.Proofs.YthpmchbbfbbakaaW.PrintWords Go.Proofs.YthpmchbbfbbakaaW.PrintLast Go.Proofs.YthpmchbbfbbakaaW.PrintMore
open PSectionTells
set_option linter.unusedVariables false
set_option linter.unusedSimpArgs false

theorem w64 {x : Int} (h0 : -9223372036854775808 ≤ x) (h1 : x ≤ 9223372036854775807) : wrap64 x = x := by unfold wrap64; omega
theorem up {α : Type} {g : Nat → Option α} {r : α} (h : Ev (fun k => g (k + 1)) r) : Ev g r := Ev.step (fun _ => rfl) h

/-- may the byte be? -/
def okC (c : Int) : Bool := decide (c = 3 ∨ (32 ≤ c ∧ c ≤ 126))
def okFrom (t : ByteArray) : Nat → Nat → Bool
  | 0, _ => true
  | d + 1, i => if okC (bt t (i : Int)) = true then okFrom t d (i + 1) else false
def okB (t : ByteArray) : Bool := okFrom t t.size 0
def longL : List ByteArray → Bool
  | [] => false
  | t :: l => if 100 < t.size then true else longL l
def badL : List ByteArray → Bool
  | [] => false
  | t :: l => if okB t = true then badL l else true
def textsOf (l : List ByteArray) : Int := if longL l = true then 3 else if badL l = true then 4 else 0

theorem bytes_loop (t : ByteArray) (ht : t.size ≤ 100) (d : Nat) : ∀ i : Nat, t.size = i + d → Ev (fun k => quireref05_bytes.l0 k t (i : Int)) (okFrom t d i) := by
  induction d with
  | zero =>
    intro i hi
    have e : ¬ ((i : Int) < (t.size : Int)) := by omega
    refine up ?_
    simp only [quireref05_bytes.l0, if_neg e]
    exact Ev.now _
  | succ d ih =>
    intro i hi
    have e : (i : Int) < (t.size : Int) := by omega
    have e0 : (0 : Int) ≤ (i : Int) := by omega
    have hw : wrap64 ((i : Int) + 1) = ((i + 1 : Nat) : Int) := by rw [w64 (by omega) (by omega)]; omega
    have hrec := ih (i + 1) (by omega)
    refine up ?_
    simp only [quireref05_bytes.l0, if_pos e, if_pos e0, hw, okFrom]
    generalize bt t (i : Int) = c
    by_cases c3 : c = 3
    · have : okC c = true := decide_eq_true (.inl c3)
      simp only [if_pos c3, this, if_true]
      exact hrec
    · by_cases c1 : c < 32
      · have : okC c = false := decide_eq_false (by omega)
        simp only [if_neg c3, if_pos c1, this, Bool.false_eq_true, if_false]
        exact Ev.now _
      · by_cases c2 : c > 126
        · have : okC c = false := decide_eq_false (by omega)
          simp only [if_neg c3, if_neg c1, if_pos c2, this, Bool.false_eq_true, if_false]
          exact Ev.now _
        · have : okC c = true := decide_eq_true (.inr (by omega))
          simp only [if_neg c3, if_neg c1, if_neg c2, this, if_true]
          exact hrec
theorem bytes_calls (t : ByteArray) (ht : t.size ≤ 100) (W : World) : Calls Try.prog 34 #[.string t] W fun e W' => e = .returned (.bool (okB t)) ∧ Drawn0 W W' := by
  obtain ⟨k, hk⟩ := (bytes_loop t ht t.size 0 (by omega)).rounds
  exact quireref05_bytes.calls k t _ W hk

theorem texts_l2 (t : ByteArray) (ht : t.size ≤ 100) (l : List ByteArray) (n j r : Int) (hn : Ev (fun k => section_texts.l1 k l n (wrap64 (j + 1))) r) (d : Nat) : ∀ i : Nat, t.size = i + d →
    Ev (fun k => section_texts.l2 k t l n j (t.size : Int) (i : Int)) (if okFrom t d i = true then r else 4) := by
  induction d with
  | zero =>
    intro i hi
    have e : ¬ ((i : Int) < (t.size : Int)) := by omega
    refine up ?_
    simp only [section_texts.l2, if_neg e, okFrom, if_true]
    exact hn
  | succ d ih =>
    intro i hi
    have e : (i : Int) < (t.size : Int) := by omega
    have e0 : (0 : Int) ≤ (i : Int) := by omega
    have hw : wrap64 ((i : Int) + 1) = ((i + 1 : Nat) : Int) := by rw [w64 (by omega) (by omega)]; omega
    have hrec := ih (i + 1) (by omega)
    refine up ?_
    simp only [section_texts.l2, if_pos e, if_pos e0, hw, okFrom]
    obtain ⟨c, hc⟩ : ∃ c, bt t (i : Int) = c := ⟨_, rfl⟩
    simp only [hc]
    by_cases c3 : c = 3
    · have : okC c = true := decide_eq_true (.inl c3)
      simp only [if_pos c3, this, if_true]
      exact hrec
    · by_cases c1 : c < 32
      · have : okC c = false := decide_eq_false (by omega)
        simp only [if_neg c3, if_pos c1, this, Bool.false_eq_true, if_false]
        exact Ev.now _
      · by_cases c2 : c > 126
        · have : okC c = false := decide_eq_false (by omega)
          simp only [if_neg c3, if_neg c1, if_pos c2, this, Bool.false_eq_true, if_false]
          exact Ev.now _
        · have : okC c = true := decide_eq_true (.inr (by omega))
          simp only [if_neg c3, if_neg c1, if_neg c2, this, if_true]
          exact hrec
theorem rdOf_drop (l : List ByteArray) (i : Nat) (h : i < l.length) : l.drop i = rdOf ByteArray.empty l (i : Int) :: l.drop (i + 1) := by
  rw [List.drop_eq_getElem_cons h]; simp [rdOf, h]
theorem longL_none (l : List ByteArray) (h : longL l = false) : ∀ t, t ∈ l → t.size ≤ 100 := by
  induction l with
  | nil => intro t ht; cases ht
  | cons t l ih =>
    intro u hu
    simp only [longL] at h
    split at h
    · cases h
    · rcases List.mem_cons.1 hu with rfl | hu
      · omega
      · exact ih h u hu
theorem texts_l1 (l : List ByteArray) (hl : l.length ≤ 100) (hs : ∀ t, t ∈ l → t.size ≤ 100) (d : Nat) : ∀ i : Nat, l.length = i + d → Ev (fun k => section_texts.l1 k l (l.length : Int) (i : Int)) (if badL (l.drop i) = true then 4 else 0) := by
  induction d with
  | zero =>
    intro i hi
    have e : ¬ ((i : Int) < (l.length : Int)) := by omega
    refine up ?_
    simp only [section_texts.l1, if_neg e]
    rw [List.drop_of_length_le (by omega)]
    exact Ev.now _
  | succ d ih =>
    intro i hi
    have e : (i : Int) < (l.length : Int) := by omega
    have e0 : (0 : Int) ≤ (i : Int) := by omega
    have hw : wrap64 ((i : Int) + 1) = ((i + 1 : Nat) : Int) := by rw [w64 (by omega) (by omega)]; omega
    have hrec := ih (i + 1) (by omega)
    have hd := rdOf_drop l i (by omega)
    refine up ?_
    simp only [section_texts.l1, if_pos e, if_pos e0]
    have ht := hs (rdOf ByteArray.empty l (i : Int)) (by have : rdOf ByteArray.empty l (i : Int) ∈ l.drop i := by rw [hd]; simp
                                                         exact List.mem_of_mem_drop this)
    have := texts_l2 _ ht l (l.length : Int) (i : Int) _ (by rw [hw]; exact hrec) (rdOf ByteArray.empty l (i : Int)).size 0 (by omega)
    by_cases b : okFrom (rdOf ByteArray.empty l (i : Int)) (rdOf ByteArray.empty l (i : Int)).size 0 = true
    · have hb : badL (l.drop i) = badL (l.drop (i + 1)) := by rw [hd]; exact if_pos b
      rw [hb]
      rw [if_pos b] at this
      exact this
    · have hb : badL (l.drop i) = true := by rw [hd]; exact if_neg b
      rw [hb]
      rw [if_neg b] at this
      exact this
theorem texts_l0 (l : List ByteArray) (hl : l.length ≤ 100) (d : Nat) : ∀ i : Nat, l.length = i + d → (longL l = longL (l.drop i)) → Ev (fun k => section_texts.l0 k l l (l.length : Int) (i : Int)) (textsOf l) := by
  induction d with
  | zero =>
    intro i hi hlong
    have e : ¬ ((i : Int) < (l.length : Int)) := by omega
    refine up ?_
    simp only [section_texts.l0, if_neg e]
    rw [List.drop_of_length_le (show l.length ≤ i by omega)] at hlong
    have := texts_l1 l hl (longL_none l hlong) l.length 0 (by omega)
    unfold textsOf
    rw [hlong]
    exact this
  | succ d ih =>
    intro i hi hlong
    have e : (i : Int) < (l.length : Int) := by omega
    have e0 : (0 : Int) ≤ (i : Int) := by omega
    have hw : wrap64 ((i : Int) + 1) = ((i + 1 : Nat) : Int) := by rw [w64 (by omega) (by omega)]; omega
    have hd := rdOf_drop l i (by omega)
    refine up ?_
    simp only [section_texts.l0, if_pos e, if_pos e0, hw]
    rw [hd] at hlong
    simp only [longL] at hlong
    by_cases c : ((rdOf ByteArray.empty l (i : Int)).size : Int) > 100
    · rw [if_pos (by omega)] at hlong
      simp only [if_pos c]
      unfold textsOf
      rw [hlong]
      exact Ev.now _
    · rw [if_neg (by omega)] at hlong
      simp only [if_neg c]
      exact ih (i + 1) (by omega) hlong
theorem texts_calls (A : Option Addr) (c : Nat) (l : List ByteArray) (hl : l.length ≤ 100) (W : World) (hr : Kd.C Kd.string W A l.length l) (hc : l.length ≤ c) : Calls Try.prog 32 #[.slice A l.length c] W fun e W' => e = .returned (.int .i64 (textsOf l)) ∧ Drawn0 W W' := by
  obtain ⟨k, hk⟩ := (texts_l0 l hl l.length 0 (by omega) rfl).rounds
  exact section_texts.calls k A c l _ W hr hc hk
end Go.Proofs.Ythpmchbbfbbakaa.Sec
