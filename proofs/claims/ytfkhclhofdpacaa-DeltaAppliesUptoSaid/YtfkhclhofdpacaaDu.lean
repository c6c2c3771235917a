/- How many changes the walk makes, and how many lines they add. Conditions: none. -/
import Derived.Test.YtfkhclhofdpacaaDd
import Derived.Test.YtfkhclhofdpacaaDs
set_option linter.unusedSimpArgs false
set_option linter.unusedVariables false
namespace Go.PM

theorem lines_len (l : List Int) : ((l.take 14).map lineI).length ≤ 14 := by
  simp
  omega
theorem raws_len (l : List (List UInt8)) : ((l.take 14).map (List.take 20)).length ≤ 14 := by
  simp
  omega

/-- The walk adds no more lines than there are. -/
theorem run_add_len : ∀ (k : Nat) (i : Int) (cur : Option Chg) (a b : List (List UInt8)), ∀ c ∈ run k i cur a b, c.add.length ≤ (match cur with | some c => c.add.length | none => 0) + b.length
  | 0, i, cur, a, b, c, hc => by
    simp only [run] at hc
    cases cur with
    | none => cases hc
    | some d =>
      simp only [Option.toList_some, List.mem_singleton] at hc
      subst hc
      simp
  | k + 1, i, cur, [], [], c, hc => by
    simp only [run] at hc
    cases cur with
    | none => cases hc
    | some d =>
      simp only [Option.toList_some, List.mem_singleton] at hc
      subst hc
      simp
  | k + 1, i, cur, x :: a, [], c, hc => by
    rw [run] at hc
    have := run_add_len k _ _ _ _ c hc
    cases cur <;> simpa using this
  | k + 1, i, cur, [], y :: b, c, hc => by
    rw [run] at hc
    have := run_add_len k _ _ _ _ c hc
    cases cur <;> simp at this ⊢ <;> omega
  | k + 1, i, cur, x :: a, y :: b, c, hc => by
    rw [run] at hc
    split at hc
    · rcases List.mem_append.1 hc with hc | hc
      · cases cur with
        | none => cases hc
        | some d =>
          simp only [Option.toList_some, List.mem_singleton] at hc
          subst hc
          simp
      · have := run_add_len k _ _ _ _ c hc
        simp at this ⊢
        omega
    · split at hc
      · have := run_add_len k _ _ _ _ c hc
        cases cur <;> simpa using this
      · have := run_add_len k _ _ _ _ c hc
        cases cur <;> simp at this ⊢ <;> omega
theorem diffL_add_len (a b : List (List UInt8)) : ∀ c ∈ diffL a b, c.add.length ≤ b.length := fun c hc => by
  have := run_add_len _ _ _ _ _ c hc
  simpa using this
/-- ... and makes no more changes than there are lines. -/
theorem run_len : ∀ (k : Nat) (i : Int) (cur : Option Chg) (a b : List (List UInt8)), (run k i cur a b).length ≤ 1 + a.length + b.length ∧ (cur = none → (run k i cur a b).length ≤ a.length + b.length)
  | 0, i, cur, a, b => by cases cur <;> simp [run] <;> omega
  | k + 1, i, cur, [], [] => by cases cur <;> simp [run]
  | k + 1, i, cur, x :: a, [] => by
    have := (run_len k (i + 1) (some ⟨(cur.getD ⟨i, 0, []⟩).at_, (cur.getD ⟨i, 0, []⟩).drop + 1, (cur.getD ⟨i, 0, []⟩).add⟩) a []).1
    rw [run]
    simp only [List.length_cons, List.length_nil] at this ⊢
    exact ⟨by omega, fun _ => by omega⟩
  | k + 1, i, cur, [], y :: b => by
    have := (run_len k i (some ⟨(cur.getD ⟨i, 0, []⟩).at_, (cur.getD ⟨i, 0, []⟩).drop, (cur.getD ⟨i, 0, []⟩).add ++ [y]⟩) [] b).1
    rw [run]
    simp only [List.length_cons, List.length_nil] at this ⊢
    exact ⟨by omega, fun _ => by omega⟩
  | k + 1, i, cur, x :: a, y :: b => by
    have h1 := (run_len k (i + 1) none a b).2 rfl
    have h2 := (run_len k (i + 1) (some ⟨(cur.getD ⟨i, 0, []⟩).at_, (cur.getD ⟨i, 0, []⟩).drop + 1, (cur.getD ⟨i, 0, []⟩).add⟩) a (y :: b)).1
    have h3 := (run_len k i (some ⟨(cur.getD ⟨i, 0, []⟩).at_, (cur.getD ⟨i, 0, []⟩).drop, (cur.getD ⟨i, 0, []⟩).add ++ [y]⟩) (x :: a) b).1
    rw [run]
    simp only [List.length_cons] at h1 h2 h3 ⊢
    split
    · have : cur.toList.length ≤ 1 := by cases cur <;> simp
      simp only [List.length_append]
      refine ⟨by omega, fun e => ?_⟩
      subst e
      simp
      omega
    · split
      · exact ⟨by omega, fun _ => by omega⟩
      · exact ⟨by omega, fun _ => by omega⟩
theorem diffL_len (a b : List (List UInt8)) : (diffL a b).length ≤ a.length + b.length := (run_len _ _ _ _ _).2 rfl

end Go.PM
