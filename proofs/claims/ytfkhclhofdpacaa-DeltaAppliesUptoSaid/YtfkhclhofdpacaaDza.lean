/- Valid changes of few lines, applied. Conditions: none but those that each names. -/
import Derived.Test.YtfkhclhofdpacaaDx
import Derived.Test.YtfkhclhofdpacaaDu
import Derived.Test.YtfkhclhofdpacaaDn
set_option linter.unusedSimpArgs false
set_option linter.unusedVariables false
namespace Go.PM
open Go.Proofs
attribute [local irreducible] W PCalls pcall pcallI WL

theorem addsL_le (m : Nat) : ∀ l : List Chg, (∀ c ∈ l, c.add.length ≤ m) → addsL l ≤ m * l.length
  | [], _ => by simp [addsL]
  | c :: l, h => by
    have h1 := addsL_le m l fun x hx => h x (.tail _ hx)
    have h2 := h c (.head _)
    have e3 : addsL (c :: l) = c.add.length + addsL l := rfl
    rw [List.length_cons, Nat.mul_add, Nat.mul_one]
    omega

theorem applyL_valid {u : List (List UInt8)} {l : List Chg} (h : validL u.length (-1) l = true) : applyL u l = applyF u 0 l := by rw [applyL, if_pos h]
theorem applyE_valid {u : List (List UInt8)} {l : List Chg} (h : validL u.length (-1) l = true) : applyE u l = 0 := by rw [applyE, if_pos h]

theorem apply_len {u : List (List UInt8)} {l : List Chg} (h : validL u.length (-1) l = true) : (applyF u 0 l).length ≤ u.length + addsL l ∧ 0 ≤ sizeL l ∧ sizeL l ≤ u.length + addsL l := by
  obtain ⟨s, s1, s2, s3, s4⟩ := apply_keeps u l (-1) 0 h (by omega) (by omega) (.inr ⟨rfl, rfl⟩)
  have h1 := s1.length_le
  have h2 := size_parts l
  rw [List.length_drop] at h1
  omega

/-- applying valid changes -/
theorem apply_v (G : Globs) (u : List (List UInt8)) (l : List Chg) (hu : u.length ≤ 1000) (hl : l.length ≤ 1000) (ha : ∀ c ∈ l, c.add.length ≤ 1000) (hv : validL u.length (-1) l = true) :
    PCalls Try.prog G 14 [.list 1 (u.map pstr), .list 3 (l.map Chg.pv)] [] (fun res H => res = .tuple [.list 1 ((applyF u 0 l).map pstr), pint .i64 0] ∧ H = []) := by
  have h1 := addsL_le 1000 l ha
  have := apply_c G u l (by omega) (by omega) (fun c hc => by have := ha c hc; omega)
  rw [applyL_valid hv, applyE_valid hv] at this
  exact this

end Go.PM
