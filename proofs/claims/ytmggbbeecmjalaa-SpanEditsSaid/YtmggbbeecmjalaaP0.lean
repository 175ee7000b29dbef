/- Runs of bytes that look alike, in plain Lean: what the code's join, sums and part and the reference's Runs come to; no further condition. -/
import Derived.Test.YtmggbbeecmjalaaS0
namespace Go.Proofs.Ytmggbbeecmjalaa.P
open Go.RowKit Go.Proofs.YtmggbbeecmjalaaW.PrintWords Go.Proofs.YtmggbbeecmjalaaW.PrintLast Go.Proofs.YtmggbbeecmjalaaW.PrintMore
set_option linter.unusedVariables false
set_option linter.unusedSimpArgs false

theorem S28.ext' {a b : S28} (h0 : a.f0 = b.f0) (h1 : a.f1 = b.f1) (h2 : a.f2 = b.f2) : a = b := by cases a; cases b; simp_all
instance : DecidableEq S28 := fun a b => if h : a.f0 = b.f0 ∧ a.f1 = b.f1 ∧ a.f2 = b.f2 then isTrue (S28.ext' h.1 h.2.1 h.2.2) else isFalse (fun e => h (by subst e; exact ⟨rfl, rfl, rfl⟩))
theorem beq28 (a b : S28) : ((a.f0 == b.f0 && (a.f1 == b.f1 && (a.f2 == b.f2))) = true) ↔ a = b := by
  simp only [Bool.and_eq_true, beq_iff_eq]
  exact ⟨fun h => S28.ext' h.1 h.2.1 h.2.2, fun e => by subst e; exact ⟨rfl, rfl, rfl⟩⟩

theorem snocs {α : Type} (o : List α) : o = [] ∨ ∃ o' t, o = o' ++ [t] := by
  rcases List.eq_nil_or_concat o with h | ⟨a, b, h⟩
  · exact .inl h
  · exact .inr ⟨a, b, by rw [h, List.concat_eq_append]⟩

/-- n bytes that look like c behind runs -/
def addN (out : List S60) (n : Nat) (c : S28) : List S60 :=
  if n = 0 then out else
  match out.getLast? with
  | some t => if t.f1 = c then out.dropLast ++ [⟨t.f0 + n, c⟩] else out ++ [⟨n, c⟩]
  | none => [⟨n, c⟩]
/-- the runs of bytes -/
def rl (L : List S28) : List S60 := L.foldl (fun o c => addN o 1 c) []
/-- the bytes of runs -/
def bytes (R : List S60) : List S28 := R.flatMap (fun s => List.replicate s.f0.toNat s.f1)

theorem addN_nil (n : Nat) (c : S28) : addN [] n c = if n = 0 then [] else [⟨n, c⟩] := by
  unfold addN; split <;> rfl
theorem addN_snoc (o : List S60) (t : S60) (n : Nat) (c : S28) : addN (o ++ [t]) n c = if n = 0 then o ++ [t] else if t.f1 = c then o ++ [⟨t.f0 + n, c⟩] else o ++ [t] ++ [⟨n, c⟩] := by
  unfold addN; simp
theorem addN_zero (o : List S60) (c : S28) : addN o 0 c = o := by simp [addN]
theorem addN_succ (o : List S60) (n : Nat) (c : S28) : addN (addN o n c) 1 c = addN o (n + 1) c := by
  rcases snocs o with rfl | ⟨o', t, rfl⟩
  · rw [addN_nil, addN_nil]
    by_cases h : n = 0
    · subst h; simp [addN_nil]
    · rw [if_neg h, if_neg (by omega)]
      have := addN_snoc [] ⟨(n : Int), c⟩ 1 c
      simp at this
      rw [this]
      simp
  · rw [addN_snoc o' t n c, addN_snoc o' t (n + 1) c]
    by_cases h : n = 0
    · subst h; simp [addN_snoc]
    · rw [if_neg h, if_neg (show ¬ n + 1 = 0 by omega)]
      by_cases e : t.f1 = c
      · rw [if_pos e, if_pos e, addN_snoc]
        simp [Int.add_assoc]
      · rw [if_neg e, if_neg e, addN_snoc]
        simp
theorem rl_nil : rl [] = [] := rfl
theorem rl_snoc (L : List S28) (c : S28) : rl (L ++ [c]) = addN (rl L) 1 c := by simp [rl, List.foldl_append]
theorem rl_rep (L : List S28) (n : Nat) (c : S28) : rl (L ++ List.replicate n c) = addN (rl L) n c := by
  induction n with
  | zero => simp [addN_zero]
  | succ n ih => rw [List.replicate_succ', ← List.append_assoc, rl_snoc, ih, addN_succ]
theorem bytes_nil : bytes [] = [] := rfl
theorem bytes_append (a b : List S60) : bytes (a ++ b) = bytes a ++ bytes b := by simp [bytes]
theorem bytes_one (s : S60) : bytes [s] = List.replicate s.f0.toNat s.f1 := by simp [bytes]
theorem addN_pos (o : List S60) (n : Nat) (c : S28) (h : ∀ s ∈ o, 1 ≤ s.f0) : ∀ s ∈ addN o n c, 1 ≤ s.f0 := by
  rcases snocs o with rfl | ⟨o', t, rfl⟩
  · rw [addN_nil]; split
    · simp
    · intro s hs; simp at hs; subst hs; simp; omega
  · rw [addN_snoc]
    have ht := h t (by simp)
    split
    · exact h
    · split
      · intro s hs
        simp only [List.mem_append, List.mem_singleton] at hs
        rcases hs with hs | rfl
        · exact h s (by simp [hs])
        · simp; omega
      · intro s hs
        simp only [List.mem_append, List.mem_singleton] at hs
        rcases hs with (hs | rfl) | rfl
        · exact h s (by simp [hs])
        · exact ht
        · simp; omega
theorem addN_bytes (o : List S60) (n : Nat) (c : S28) (h : ∀ s ∈ o, 1 ≤ s.f0) : bytes (addN o n c) = bytes o ++ List.replicate n c := by
  rcases snocs o with rfl | ⟨o', t, rfl⟩
  · rw [addN_nil]; split
    · subst n; rfl
    · simp [bytes]
  · rw [addN_snoc]
    have ht := h t (by simp)
    split
    · subst n; simp
    · split
      · rename_i e
        subst e
        rw [bytes_append, bytes_append, bytes_one, bytes_one, List.append_assoc, List.replicate_append_replicate]
        congr 2
        simp
        omega
      · rw [bytes_append _ [_], bytes_one]
        simp
theorem rl_pos (L : List S28) : ∀ s ∈ rl L, 1 ≤ s.f0 := by
  rw [rl, ← List.reverse_reverse L, List.foldl_reverse]
  induction L.reverse with
  | nil => simp
  | cons c l ih => rw [List.foldr_cons]; exact addN_pos _ _ _ ih
theorem bytes_rl (L : List S28) : bytes (rl L) = L := by
  have : ∀ l : List S28, bytes (List.foldr (fun c o => addN o 1 c) [] l) = l.reverse ∧ ∀ s ∈ List.foldr (fun c o => addN o 1 c) [] l, 1 ≤ s.f0 := by
    intro l
    induction l with
    | nil => exact ⟨rfl, by simp⟩
    | cons c l ih =>
      rw [List.foldr_cons]
      refine ⟨?_, addN_pos _ _ _ ih.2⟩
      rw [addN_bytes _ _ _ ih.2, ih.1]
      simp
  have h := (this L.reverse).1
  rw [List.reverse_reverse] at h
  rw [rl, ← List.foldr_reverse]
  exact h
theorem bytes_length_le (R : List S60) (h : ∀ s ∈ R, 1 ≤ s.f0) : R.length ≤ (bytes R).length := by
  induction R with
  | nil => simp
  | cons s R ih =>
    have := h s (by simp)
    have := ih (fun x hx => h x (by simp [hx]))
    simp [bytes] at *
    omega
theorem rl_length (L : List S28) : (rl L).length ≤ L.length := by
  have := bytes_length_le (rl L) (rl_pos L)
  rwa [bytes_rl] at this
theorem mem_le_bytes (R : List S60) (s : S60) (h : s ∈ R) : s.f0.toNat ≤ (bytes R).length := by
  induction R with
  | nil => simp at h
  | cons t R ih =>
    simp [bytes] at *
    rcases h with rfl | h
    · omega
    · have := ih h; omega
theorem rl_mem_le (L : List S28) (s : S60) (h : s ∈ rl L) : s.f0 ≤ L.length := by
  have := mem_le_bytes _ _ h
  rw [bytes_rl] at this
  omega
/-- one run behind runs -/
theorem rl_add (L : List S28) (s : S60) : rl (L ++ bytes [s]) = addN (rl L) s.f0.toNat s.f1 := by rw [bytes_one, rl_rep]

theorem rd_at (R : List S60) (i : Nat) (h : i < R.length) : rd_T60 R (i : Int) = R[i] := by simp [rd_T60, h]
theorem rd28_at (L : List S28) (i : Nat) (h : i < L.length) : rd_T28 L (i : Int) = L[i] := by simp [rd_T28, h]
theorem drop_bytes (M : List S60) (i : Nat) (h : i < M.length) : bytes (M.drop i) = bytes [M[i]] ++ bytes (M.drop (i + 1)) := by
  rw [List.drop_eq_getElem_cons h, ← List.singleton_append, bytes_append]
theorem take_bytes (M : List S60) (i : Nat) (h : i < M.length) : bytes (M.take (i + 1)) = bytes (M.take i) ++ bytes [M[i]] := by
  rw [List.take_succ_eq_append_getElem h, bytes_append]

end Go.Proofs.Ytmggbbeecmjalaa.P
