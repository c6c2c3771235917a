/- What applying changes hands back, as lists. Conditions: none but those that each names. -/
import Derived.Test.YtfkhclhofdpacaaDg
set_option linter.unusedSimpArgs false
set_option linter.unusedVariables false
namespace Go.PM
open Go.Proofs

/-- The lines, and the error, that applying changes gives. -/
def applyL (u : List (List UInt8)) (l : List Chg) : List (List UInt8) := if validL u.length (-1) l then applyF u 0 l else []
def applyE (u : List (List UInt8)) (l : List Chg) : Int := if validL u.length (-1) l then 0 else 1

theorem Px_apply {G : Globs} {u : List (List UInt8)} {l : List Chg} {res : PV} {H : Heap} (h : (validL u.length (-1) l = false ∧ res = .tuple [pnil, pint .i64 1] ∧ H = []) ∨
      (validL u.length (-1) l = true ∧ ∃ n ty, res = .tuple [.row n 1 (applyF u 0 l).length, pint .i64 0] ∧ H = [(n, ⟨ty, true, 1, (applyF u 0 l).map pstr⟩)])) :
    ∃ res' H', Px G res H res' H' ∧ res' = .tuple [.list 1 ((applyL u l).map pstr), pint .i64 (applyE u l)] ∧ H' = [] := by
  rcases h with ⟨hv, rfl, rfl⟩ | ⟨hv, n, ty, rfl, rfl⟩
  · refine ⟨_, _, Px.nil2 1 _ _, ?_, rfl⟩
    simp [applyL, applyE, hv]
  · refine ⟨_, _, Px.freeze _ _ n (o := ⟨ty, true, 1, (applyF u 0 l).map pstr⟩) (by simp only [look, if_true]) (by simp [frzOk, del]), ?_, by simp [frzH, del]⟩
    simp [frz, frz1, elemsOf, applyL, applyE, hv]
    rw [List.take_of_length_le (by simp)]

theorem apply_c (G : Globs) (u : List (List UInt8)) (l : List Chg) (hl : (l.length : Int) ≤ 1000000000000) (hb : u.length + addsL l ≤ 1000000000000) (ha : ∀ c ∈ l, (c.add.length : Int) ≤ 1000000000000) :
    PCalls Try.prog G 14 [.list 1 (u.map pstr), .list 3 (l.map Chg.pv)] [] (fun res H => res = .tuple [.list 1 ((applyL u l).map pstr), pint .i64 (applyE u l)] ∧ H = []) :=
  (apply_r G u l hl hb ha).px fun _ _ hR => Px_apply hR
end Go.PM
