/- What the functions about changes compute, in plain words: the table of common lines, the walk that makes changes. Conditions: none. -/
import Derived.Test.YtfkhclhofdpacaaDa
set_option linter.unusedSimpArgs false
set_option linter.unusedVariables false
namespace Go.PM

section
variable {α : Type} [DecidableEq α]

def lcsRow (x : α) (f : List α → Nat) : List α → Nat
  | [] => 0
  | y :: b => if x = y then f b + 1 else max (f (y :: b)) (lcsRow x f b)
/-- The greatest number of elements that two lists have in common, in order. -/
def lcs : List α → List α → Nat
  | [], _ => 0
  | x :: a, b => lcsRow x (lcs a) b

theorem lcs_nil (b : List α) : lcs [] b = 0 := rfl
theorem lcs_nil' (a : List α) : lcs a [] = 0 := by cases a <;> rfl
theorem lcs_cons (x y : α) (a b : List α) : lcs (x :: a) (y :: b) = if x = y then lcs a b + 1 else max (lcs a (y :: b)) (lcs (x :: a) b) := rfl

theorem lcs_le : ∀ a b : List α, lcs a b ≤ a.length ∧ lcs a b ≤ b.length
  | [], b => ⟨Nat.zero_le _, Nat.zero_le _⟩
  | x :: a, [] => ⟨Nat.zero_le _, Nat.zero_le _⟩
  | x :: a, y :: b => by
    have h1 := lcs_le a b
    have h2 := lcs_le a (y :: b)
    have h3 := lcs_le (x :: a) b
    rw [lcs_cons]
    simp only [List.length_cons] at *
    split <;> omega
  termination_by a b => a.length + b.length

theorem lcs_step : ∀ (a b : List α), (∀ x, lcs a b ≤ lcs (x :: a) b ∧ lcs (x :: a) b ≤ lcs a b + 1) ∧ (∀ y, lcs a b ≤ lcs a (y :: b) ∧ lcs a (y :: b) ≤ lcs a b + 1)
  | [], [] => ⟨fun x => by simp [lcs_nil', lcs_nil], fun y => by simp [lcs_nil]⟩
  | [], z :: b => by
    refine ⟨fun x => ?_, fun y => by simp [lcs_nil]⟩
    have h := (lcs_step [] b).1 x
    rw [lcs_cons]
    simp only [lcs_nil] at *
    split <;> omega
  | z :: a, [] => by
    refine ⟨fun x => by simp [lcs_nil'], fun y => ?_⟩
    have h := (lcs_step a []).2 y
    rw [lcs_cons]
    simp only [lcs_nil'] at *
    split <;> omega
  | z :: a, w :: b => by
    have hab := lcs_step a b
    have ha := lcs_step a (w :: b)
    have hb := lcs_step (z :: a) b
    constructor
    · intro x
      have e := lcs_cons x w (z :: a) b
      have e1 := lcs_cons z w a b
      have q1 := hab.1 z
      have q2 := hab.2 w
      have q3 := ha.1 z
      have q4 := hb.1 x
      have q5 := hb.2 w
      by_cases h : x = w
      · rw [if_pos h] at e
        omega
      · rw [if_neg h] at e
        omega
    · intro y
      have e := lcs_cons z y a (w :: b)
      have q3 := ha.1 z
      have q4 := ha.2 y
      have q5 := hb.2 w
      have q1 := hab.1 z
      have q2 := hab.2 w
      have e1 := lcs_cons z w a b
      by_cases h : z = y
      · rw [if_pos h] at e
        omega
      · rw [if_neg h] at e
        omega
  termination_by a b => a.length + b.length
end

/-- The walk: what is left of the lists is a and b; i lines of the old list lie behind; cur is the open change. -/
def run : Nat → Int → Option Chg → List (List UInt8) → List (List UInt8) → List Chg
  | 0, _, cur, _, _ => cur.toList
  | k + 1, i, cur, a, b => match a, b with
    | [], [] => cur.toList
    | x :: a', [] => run k (i + 1) (some ⟨(cur.getD ⟨i, 0, []⟩).at_, (cur.getD ⟨i, 0, []⟩).drop + 1, (cur.getD ⟨i, 0, []⟩).add⟩) a' []
    | [], y :: b' => run k i (some ⟨(cur.getD ⟨i, 0, []⟩).at_, (cur.getD ⟨i, 0, []⟩).drop, (cur.getD ⟨i, 0, []⟩).add ++ [y]⟩) [] b'
    | x :: a', y :: b' => if x = y then cur.toList ++ run k (i + 1) none a' b'
      else if lcs (x :: a') b' ≤ lcs a' (y :: b') then run k (i + 1) (some ⟨(cur.getD ⟨i, 0, []⟩).at_, (cur.getD ⟨i, 0, []⟩).drop + 1, (cur.getD ⟨i, 0, []⟩).add⟩) a' (y :: b')
      else run k i (some ⟨(cur.getD ⟨i, 0, []⟩).at_, (cur.getD ⟨i, 0, []⟩).drop, (cur.getD ⟨i, 0, []⟩).add ++ [y]⟩) (x :: a') b'

/-- The changes that lead from a to b. -/
def diffL (a b : List (List UInt8)) : List Chg := run (a.length + b.length) 0 none a b

/-- Do the first elements stand and agree? -/
def heads : List (List UInt8) → List (List UInt8) → Bool
  | x :: _, y :: _ => decide (x = y)
  | _, _ => false

theorem run_end (k : Nat) (i : Int) (cur : Option Chg) : run k i cur [] [] = cur.toList := by cases k <;> rfl

theorem run_keep {k : Nat} {i : Int} {cur : Option Chg} {x y : List UInt8} {a b : List (List UInt8)} (h : x = y) : run (k + 1) i cur (x :: a) (y :: b) = cur.toList ++ run k (i + 1) none a b := by
  rw [run, if_pos h]
theorem run_drop {k : Nat} {i : Int} {cur : Option Chg} {x : List UInt8} {a b : List (List UInt8)} (h : b = [] ∨ (heads (x :: a) b = false ∧ lcs (x :: a) b.tail ≤ lcs a b)) :
    run (k + 1) i cur (x :: a) b = run k (i + 1) (some ⟨(cur.getD ⟨i, 0, []⟩).at_, (cur.getD ⟨i, 0, []⟩).drop + 1, (cur.getD ⟨i, 0, []⟩).add⟩) a b := by
  cases b with
  | nil => rfl
  | cons y b =>
    rcases h with h | ⟨h1, h2⟩
    · cases h
    · simp only [heads, decide_eq_false_iff_not] at h1
      simp only [List.tail_cons] at h2
      rw [run, if_neg h1, if_pos h2]
theorem run_add {k : Nat} {i : Int} {cur : Option Chg} {y : List UInt8} {a b : List (List UInt8)} (h : a = [] ∨ (heads a (y :: b) = false ∧ ¬ lcs a b ≤ lcs a.tail (y :: b))) :
    run (k + 1) i cur a (y :: b) = run k i (some ⟨(cur.getD ⟨i, 0, []⟩).at_, (cur.getD ⟨i, 0, []⟩).drop, (cur.getD ⟨i, 0, []⟩).add ++ [y]⟩) a b := by
  cases a with
  | nil => rfl
  | cons x a =>
    rcases h with h | ⟨h1, h2⟩
    · cases h
    · simp only [heads, decide_eq_false_iff_not] at h1
      simp only [List.tail_cons] at h2
      rw [run, if_neg h1, if_neg h2]
end Go.PM
