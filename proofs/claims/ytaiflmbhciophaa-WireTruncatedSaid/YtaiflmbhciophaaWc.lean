/- The contract of the encoding of an integer. Conditions: none but those that each names. -/
import Derived.Test.YtaiflmbhciophaaWb
set_option linter.unusedSimpArgs false
set_option linter.unusedVariables false
namespace Go.PM
open Go.Proofs
attribute [local irreducible] W PCalls pcall pcallI WL

theorem digsF_pow : ∀ (k j m : Nat), j ≤ k → ((digsF k m).length ≤ j ↔ m < 256 ^ j ∨ (k = j ∧ 256 ^ j ≤ m))
  | 0, j, m, hj => by
    have : j = 0 := by omega
    subst this
    simp [digsF]
    omega
  | k + 1, 0, m, _ => by
    rw [digsF]
    split
    · rename_i h
      simp [h]
    · rename_i h
      simp
      omega
  | k + 1, j + 1, m, hj => by
    rw [digsF]
    split
    · rename_i h
      subst h
      simp
      exact Nat.pos_of_ne_zero (by simp)
    · rename_i h
      have ih := digsF_pow k j (m / 256) (by omega)
      rw [List.length_cons, Nat.pow_succ]
      have h1 : m / 256 < 256 ^ j ↔ m < 256 ^ j * 256 := by rw [Nat.div_lt_iff_lt_mul (by omega)]
      have h2 : 256 ^ j ≤ m / 256 ↔ 256 ^ j * 256 ≤ m := by rw [Nat.le_div_iff_mul_le (by omega)]
      rw [← h1, ← h2]
      constructor
      · intro hl
        rcases ih.1 (by omega) with h | ⟨h3, h4⟩
        · exact .inl h
        · exact .inr ⟨by omega, h4⟩
      · intro hl
        have := ih.2 (by
          rcases hl with h | ⟨h3, h4⟩
          · exact .inl h
          · exact .inr ⟨by omega, h4⟩)
        omega

theorem digs_pow (j m : Nat) (hj : j ≤ 8) : (digs m).length ≤ j ↔ m < 256 ^ j := by
  have := digsF_pow 9 j m (by omega)
  unfold digs
  rw [this]
  constructor
  · rintro (h | ⟨h, _⟩)
    · exact h
    · omega
  · exact .inl

theorem digsF_get : ∀ (k i m : Nat) (h : i < (digsF k m).length), (digsF k m)[i] = UInt8.ofNat (m / 256 ^ i % 256)
  | 0, i, m, h => by simp [digsF] at h
  | k + 1, i, m, h => by
    by_cases hm : m = 0
    · subst hm
      simp [digsF] at h
    · have e : digsF (k + 1) m = UInt8.ofNat (m % 256) :: digsF k (m / 256) := by rw [digsF, if_neg hm]
      cases i with
      | zero => simp [e]
      | succ i =>
        have h' : i < (digsF k (m / 256)).length := by
          rw [e, List.length_cons] at h
          omega
        have ih := digsF_get k i (m / 256) h'
        simp only [e, List.getElem_cons_succ]
        rw [ih, Nat.div_div_eq_div_mul, Nat.pow_succ, Nat.mul_comm 256]
end Go.PM
