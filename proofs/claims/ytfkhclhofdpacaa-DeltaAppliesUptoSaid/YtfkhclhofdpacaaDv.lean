/- The plain law of the walk that makes changes: how many lines it drops and adds; the triangle. Conditions: none but those that each names. -/
import Derived.Test.YtfkhclhofdpacaaDs
set_option linter.unusedSimpArgs false
set_option linter.unusedVariables false
namespace Go.PM

theorem sub_meet {α : Type} : ∀ (v s t : List α), s.Sublist v → t.Sublist v → ∃ r : List α, r.Sublist s ∧ r.Sublist t ∧ s.length + t.length ≤ v.length + r.length
  | [], s, t, h1, h2 => by
    cases h1
    cases h2
    exact ⟨[], .slnil, .slnil, by simp⟩
  | y :: v, s, t, h1, h2 => by
    cases h1 with
    | cons _ h1 =>
      cases h2 with
      | cons _ h2 =>
        obtain ⟨r, a1, a2, a3⟩ := sub_meet v s t h1 h2
        exact ⟨r, a1, a2, by rw [List.length_cons]; omega⟩
      | @cons_cons t' _ _ h2 =>
        obtain ⟨r, a1, a2, a3⟩ := sub_meet v s t' h1 h2
        exact ⟨r, a1, a2.cons y, by simp only [List.length_cons]; omega⟩
    | @cons_cons s' _ _ h1 =>
      cases h2 with
      | cons _ h2 =>
        obtain ⟨r, a1, a2, a3⟩ := sub_meet v s' t h1 h2
        exact ⟨r, a1.cons y, a2, by simp only [List.length_cons]; omega⟩
      | @cons_cons t' _ _ h2 =>
        obtain ⟨r, a1, a2, a3⟩ := sub_meet v s' t' h1 h2
        exact ⟨y :: r, a1.cons_cons y, a2.cons_cons y, by simp only [List.length_cons]; omega⟩

section
variable {α : Type} [DecidableEq α]

theorem lcs_comm : ∀ a b : List α, lcs a b = lcs b a
  | [], b => by rw [lcs_nil, lcs_nil']
  | x :: a, [] => by rw [lcs_nil, lcs_nil']
  | x :: a, y :: b => by
    rw [lcs_cons, lcs_cons]
    by_cases h : x = y
    · rw [if_pos h, if_pos h.symm, lcs_comm a b]
    · rw [if_neg h, if_neg (fun e => h e.symm), lcs_comm a (y :: b), lcs_comm (x :: a) b, Nat.max_comm]
  termination_by a b => a.length + b.length

theorem lcs_self : ∀ a : List α, lcs a a = a.length
  | [] => rfl
  | x :: a => by rw [lcs_cons, if_pos rfl, lcs_self a, List.length_cons]

theorem lcs_full : ∀ a b : List α, lcs a b = a.length → lcs a b = b.length → a = b
  | [], [], _, _ => rfl
  | [], y :: b, _, h => by simp [lcs_nil] at h
  | x :: a, [], h, _ => by simp [lcs_nil'] at h
  | x :: a, y :: b, h1, h2 => by
    rw [lcs_cons] at h1 h2
    have e1 := lcs_le a (y :: b)
    have e2 := lcs_le (x :: a) b
    simp only [List.length_cons] at h1 h2 e1 e2
    by_cases h : x = y
    · rw [if_pos h] at h1 h2
      rw [h, lcs_full a b (by omega) (by omega)]
    · rw [if_neg h] at h1 h2
      omega

theorem lcs_sub : ∀ a b : List α, ∃ s : List α, s.Sublist a ∧ s.Sublist b ∧ s.length = lcs a b
  | [], b => ⟨[], .slnil, List.nil_sublist _, rfl⟩
  | x :: a, [] => ⟨[], List.nil_sublist _, .slnil, rfl⟩
  | x :: a, y :: b => by
    rw [lcs_cons]
    by_cases h : x = y
    · obtain ⟨s, h1, h2, h3⟩ := lcs_sub a b
      subst h
      exact ⟨x :: s, h1.cons_cons x, h2.cons_cons x, by rw [if_pos rfl, List.length_cons, h3]⟩
    · rw [if_neg h]
      rcases Nat.le_total (lcs a (y :: b)) (lcs (x :: a) b) with hm | hm
      · obtain ⟨s, h1, h2, h3⟩ := lcs_sub (x :: a) b
        exact ⟨s, h1, h2.cons y, by omega⟩
      · obtain ⟨s, h1, h2, h3⟩ := lcs_sub a (y :: b)
        exact ⟨s, h1.cons x, h2, by omega⟩
  termination_by a b => a.length + b.length

theorem lcs_max : ∀ (a b s : List α), s.Sublist a → s.Sublist b → s.length ≤ lcs a b
  | [], b, s, h1, _ => by
    cases h1
    simp
  | x :: a, [], s, _, h2 => by
    cases h2
    simp
  | x :: a, y :: b, s, h1, h2 => by
    have q1 := (lcs_step a (y :: b)).1 x
    have q2 := (lcs_step (x :: a) b).2 y
    cases h1 with
    | cons _ h1 =>
      have := lcs_max a (y :: b) s h1 h2
      omega
    | @cons_cons s' _ _ h1 =>
      cases h2 with
      | cons _ h2 =>
        have := lcs_max (x :: a) b (x :: s') (h1.cons_cons x) h2
        omega
      | cons_cons _ h2 =>
        have := lcs_max a b s' h1 h2
        rw [lcs_cons, if_pos rfl, List.length_cons]
        omega
  termination_by a b => a.length + b.length

theorem lcs_triangle (u v w : List α) : lcs u v + lcs v w ≤ v.length + lcs u w := by
  obtain ⟨s, s1, s2, s3⟩ := lcs_sub u v
  obtain ⟨t, t1, t2, t3⟩ := lcs_sub v w
  obtain ⟨r, r1, r2, r3⟩ := sub_meet v s t s2 t1
  have := lcs_max u w r (r1.trans s1) (r2.trans t2)
  omega
end

theorem sizeL_app (l m : List Chg) : sizeL (l ++ m) = sizeL l + sizeL m := by
  unfold sizeL
  rw [List.map_append, List.sum_append]

theorem run_size : ∀ (k : Nat) (i : Int) (cur : Option Chg) (a b : List (List UInt8)), a.length + b.length ≤ k → sizeL (run k i cur a b) = sizeL cur.toList + ((a.length : Int) + b.length - 2 * lcs a b)
  | 0, i, cur, a, b, h => by
    have ha : a = [] := List.length_eq_zero_iff.1 (by omega)
    have hb : b = [] := List.length_eq_zero_iff.1 (by omega)
    subst ha hb
    rw [run_end, lcs_nil]
    simp
  | k + 1, i, cur, [], [], _ => by
    rw [run_end, lcs_nil]
    simp
  | k + 1, i, cur, x :: a, [], h => by
    rw [run, run_size k _ _ _ _ (by simp at h ⊢; omega), lcs_nil', lcs_nil']
    cases cur <;> simp [sizeL] <;> omega
  | k + 1, i, cur, [], y :: b, h => by
    rw [run, run_size k _ _ _ _ (by simp at h ⊢; omega), lcs_nil, lcs_nil]
    cases cur <;> simp [sizeL] <;> omega
  | k + 1, i, cur, x :: a, y :: b, h => by
    simp only [List.length_cons] at h
    rw [run, lcs_cons]
    by_cases hxy : x = y
    · rw [if_pos hxy, if_pos hxy, sizeL_app, run_size k _ _ _ _ (by omega)]
      simp [sizeL]
      omega
    · rw [if_neg hxy, if_neg hxy]
      split
      · rename_i hle
        rw [run_size k _ _ _ _ (by simp; omega), Nat.max_eq_left hle]
        cases cur <;> simp [sizeL] <;> omega
      · rename_i hle
        rw [run_size k _ _ _ _ (by simp; omega), Nat.max_eq_right (by omega)]
        cases cur <;> simp [sizeL] <;> omega

/-- How many lines Diff drops and adds. -/
theorem diffL_size (a b : List (List UInt8)) : sizeL (diffL a b) = (a.length : Int) + b.length - 2 * lcs a b := by
  rw [diffL, run_size _ _ _ _ _ (Nat.le_refl _)]
  simp [sizeL]

theorem run_same : ∀ (k : Nat) (i : Int) (a : List (List UInt8)), run k i none a a = []
  | 0, _, _ => rfl
  | _ + 1, _, [] => rfl
  | k + 1, i, x :: a => by
    rw [run, if_pos rfl, run_same k _ a]
    rfl
theorem diffL_same (a : List (List UInt8)) : diffL a a = [] := run_same _ _ _
end Go.PM
