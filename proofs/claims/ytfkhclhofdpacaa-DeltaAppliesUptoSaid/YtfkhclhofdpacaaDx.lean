/- The plain law of changes: what Diff makes is valid and leads to the new lines; no valid changes that lead there are smaller. Conditions: none but those that each names. -/
import Derived.Test.YtfkhclhofdpacaaDm
import Derived.Test.YtfkhclhofdpacaaDv
set_option linter.unusedSimpArgs false
set_option linter.unusedVariables false
namespace Go.PM

theorem run_valid (u : List (List UInt8)) : ∀ (k i : Nat) (cur : Option Chg) (b : List (List UInt8)) (last : Int), i ≤ u.length → (u.drop i).length + b.length ≤ k → last < (cur.getD ⟨i, 0, []⟩).at_ → 0 ≤ (cur.getD ⟨i, 0, []⟩).drop →
    (cur.getD ⟨i, 0, []⟩).at_ + (cur.getD ⟨i, 0, []⟩).drop = i → (∀ c, cur = some c → ¬ (c.drop = 0 ∧ c.add.length = 0)) → validL u.length last (run k i cur (u.drop i) b) = true
  | k, i, cur, b, last, hi, hk, h1, h2, h3, h4 => by
    have one : validL u.length last cur.toList = true := by
      cases cur with
      | none => rfl
      | some c =>
        have := h4 c rfl
        simp only [Option.getD_some] at h1 h2 h3
        simp only [Option.toList_some]
        rw [validL, if_neg (by omega), validL]
    cases k with
    | zero => exact one
    | succ k =>
      by_cases hiu : i < u.length
      · have hd : u.drop i = u[i] :: u.drop (i + 1) := List.drop_eq_getElem_cons hiu
        have drp : validL u.length last (run k ((i : Int) + 1) (some ⟨(cur.getD ⟨i, 0, []⟩).at_, (cur.getD ⟨i, 0, []⟩).drop + 1, (cur.getD ⟨i, 0, []⟩).add⟩) (u.drop (i + 1)) b) = true := by
          have hk2 : (u.drop i).length = (u.drop (i + 1)).length + 1 := by rw [hd, List.length_cons]
          have := run_valid u k (i + 1) (some ⟨(cur.getD ⟨i, 0, []⟩).at_, (cur.getD ⟨i, 0, []⟩).drop + 1, (cur.getD ⟨i, 0, []⟩).add⟩) b last (by omega) (by omega) (by simpa using h1) (by simp only [Option.getD_some]; omega) (by simp only [Option.getD_some]; omega)
            (fun c hc => by cases hc; simp only; omega)
          simpa using this
        cases b with
        | nil =>
          rw [hd, run]
          exact drp
        | cons y b =>
          have hkl : (u.drop i).length + b.length ≤ k := by simp only [List.length_cons] at hk; omega
          have ad : validL u.length last (run k (i : Int) (some ⟨(cur.getD ⟨i, 0, []⟩).at_, (cur.getD ⟨i, 0, []⟩).drop, (cur.getD ⟨i, 0, []⟩).add ++ [y]⟩) (u.drop i) b) = true :=
            run_valid u k i (some ⟨(cur.getD ⟨i, 0, []⟩).at_, (cur.getD ⟨i, 0, []⟩).drop, (cur.getD ⟨i, 0, []⟩).add ++ [y]⟩) b last hi hkl (by simpa using h1) (by simpa using h2) (by simpa using h3) (fun c hc => by cases hc; simp)
          rw [hd, run]
          split
          · have kp : ∀ last' : Int, last' ≤ i → validL u.length last' (run k ((i : Int) + 1) none (u.drop (i + 1)) b) = true := fun last' hl => by
              have hk2 : (u.drop i).length = (u.drop (i + 1)).length + 1 := by rw [hd, List.length_cons]
              have := run_valid u k (i + 1) none b last' (by omega) (by omega) (by simp only [Option.getD_none]; omega) (by simp) (by simp) (fun c hc => by cases hc)
              simpa using this
            cases cur with
            | none =>
              simp only [Option.getD_none] at h1
              exact kp last (by omega)
            | some c =>
              have h5 := h4 c rfl
              simp only [Option.getD_some] at h1 h2 h3
              simp only [Option.toList_some, List.cons_append, List.nil_append]
              rw [validL, if_neg (by omega), h3]
              exact kp i (by omega)
          · split
            · exact drp
            · rw [← hd]
              exact ad
      · rw [List.drop_of_length_le (by omega)]
        cases b with
        | nil =>
          rw [run]
          exact one
        | cons y b =>
          rw [run]
          have := run_valid u k i (some ⟨(cur.getD ⟨i, 0, []⟩).at_, (cur.getD ⟨i, 0, []⟩).drop, (cur.getD ⟨i, 0, []⟩).add ++ [y]⟩) b last hi (by simp only [List.length_cons] at hk; omega) (by simpa using h1) (by simpa using h2) (by simpa using h3) (fun c hc => by cases hc; simp)
          rw [List.drop_of_length_le (by omega)] at this
          exact this

theorem diffL_valid (u v : List (List UInt8)) : validL u.length (-1) (diffL u v) = true := by
  have := run_valid u (u.length + v.length) 0 none v (-1) (by omega) (by simp) (by simp) (by simp) (by simp) (fun c hc => by cases hc)
  simpa [diffL] using this

theorem run_apply (u : List (List UInt8)) : ∀ (k i : Nat) (cur : Option Chg) (b : List (List UInt8)) (p : Int), i ≤ u.length → (u.drop i).length + b.length ≤ k → 0 ≤ p → p ≤ (cur.getD ⟨i, 0, []⟩).at_ → 0 ≤ (cur.getD ⟨i, 0, []⟩).drop →
    (cur.getD ⟨i, 0, []⟩).at_ + (cur.getD ⟨i, 0, []⟩).drop = i → applyF u p (run k i cur (u.drop i) b) = (u.drop p.toNat).take ((cur.getD ⟨i, 0, []⟩).at_ - p).toNat ++ ((cur.getD ⟨i, 0, []⟩).add ++ b)
  | k, i, cur, b, p, hi, hk, h0, h1, h2, h3 => by
    have one : u.length ≤ i → b = [] → applyF u p cur.toList = (u.drop p.toNat).take ((cur.getD ⟨i, 0, []⟩).at_ - p).toNat ++ ((cur.getD ⟨i, 0, []⟩).add ++ b) := fun hu hb => by
      subst hb
      cases cur with
      | none =>
        simp only [Option.getD_none, Option.toList_none] at *
        rw [applyF, List.take_of_length_le (by rw [List.length_drop]; omega)]
        simp
      | some c =>
        simp only [Option.getD_some, Option.toList_some] at *
        rw [applyF, applyF, List.drop_of_length_le (by omega : u.length ≤ (c.at_ + c.drop).toNat)]
    cases k with
    | zero =>
      have hb : b = [] := List.length_eq_zero_iff.1 (by omega)
      have hu : u.length ≤ i := by rw [List.length_drop] at hk; omega
      have := one hu hb
      simpa [run] using this
    | succ k =>
      by_cases hiu : i < u.length
      · have hd : u.drop i = u[i] :: u.drop (i + 1) := List.drop_eq_getElem_cons hiu
        have hk2 : (u.drop i).length = (u.drop (i + 1)).length + 1 := by rw [hd, List.length_cons]
        have drp : applyF u p (run k ((i : Int) + 1) (some ⟨(cur.getD ⟨i, 0, []⟩).at_, (cur.getD ⟨i, 0, []⟩).drop + 1, (cur.getD ⟨i, 0, []⟩).add⟩) (u.drop (i + 1)) b) = (u.drop p.toNat).take ((cur.getD ⟨i, 0, []⟩).at_ - p).toNat ++ ((cur.getD ⟨i, 0, []⟩).add ++ b) := by
          have := run_apply u k (i + 1) (some ⟨(cur.getD ⟨i, 0, []⟩).at_, (cur.getD ⟨i, 0, []⟩).drop + 1, (cur.getD ⟨i, 0, []⟩).add⟩) b p (by omega) (by omega) h0 (by simpa using h1) (by simp only [Option.getD_some]; omega) (by simp only [Option.getD_some]; omega)
          simpa using this
        cases b with
        | nil =>
          rw [hd, run]
          exact drp
        | cons y b =>
          have hkl : (u.drop i).length + b.length ≤ k := by simp only [List.length_cons] at hk; omega
          have ad : applyF u p (run k (i : Int) (some ⟨(cur.getD ⟨i, 0, []⟩).at_, (cur.getD ⟨i, 0, []⟩).drop, (cur.getD ⟨i, 0, []⟩).add ++ [y]⟩) (u.drop i) b) = (u.drop p.toNat).take ((cur.getD ⟨i, 0, []⟩).at_ - p).toNat ++ ((cur.getD ⟨i, 0, []⟩).add ++ y :: b) := by
            have := run_apply u k i (some ⟨(cur.getD ⟨i, 0, []⟩).at_, (cur.getD ⟨i, 0, []⟩).drop, (cur.getD ⟨i, 0, []⟩).add ++ [y]⟩) b p hi hkl h0 (by simpa using h1) (by simpa using h2) (by simpa using h3)
            rw [this]
            simp
          rw [hd, run]
          split
          · rename_i hxy
            have kp : ∀ p' : Int, 0 ≤ p' → p' ≤ i → applyF u p' (run k ((i : Int) + 1) none (u.drop (i + 1)) b) = (u.drop p'.toNat).take (i - p').toNat ++ y :: b := fun p' hp0 hp => by
              have := run_apply u k (i + 1) none b p' (by omega) (by omega) hp0 (by simp only [Option.getD_none]; omega) (by simp) (by simp)
              simp only [Int.natCast_add, Int.cast_ofNat_Int, Option.getD_none] at this
              rw [this, show ((i : Int) + 1 - p').toNat = (i - p').toNat + 1 by omega, List.take_add_one, List.getElem?_drop, show p'.toNat + (i - p').toNat = i by omega, List.getElem?_eq_getElem hiu, hxy]
              simp
            cases cur with
            | none =>
              simp only [Option.getD_none] at h1
              simp only [Option.getD_none, Option.toList_none, List.nil_append]
              exact kp p h0 h1
            | some c =>
              simp only [Option.getD_some] at h1 h2 h3
              simp only [Option.toList_some, List.cons_append, List.nil_append, Option.getD_some]
              rw [applyF, h3, kp i (by omega) (by omega)]
              simp
          · split
            · exact drp
            · rw [← hd]
              exact ad
      · have hdn : u.drop i = [] := List.drop_of_length_le (by omega)
        rw [hdn]
        cases b with
        | nil =>
          rw [run]
          exact one (by omega) rfl
        | cons y b =>
          rw [run]
          have := run_apply u k i (some ⟨(cur.getD ⟨i, 0, []⟩).at_, (cur.getD ⟨i, 0, []⟩).drop, (cur.getD ⟨i, 0, []⟩).add ++ [y]⟩) b p hi (by simp only [List.length_cons] at hk; omega) h0 (by simpa using h1) (by simpa using h2) (by simpa using h3)
          rw [hdn] at this
          rw [this]
          simp

/-- Apply of Diff leads from the one to the other. -/
theorem diffL_apply (u v : List (List UInt8)) : applyF u 0 (diffL u v) = v := by
  have := run_apply u (u.length + v.length) 0 none v 0 (by omega) (by simp) (by omega) (by simp) (by simp) (by simp)
  simpa [diffL] using this

def dropsL (l : List Chg) : Int := (l.map fun c => c.drop).sum

theorem size_parts : ∀ l : List Chg, sizeL l = dropsL l + addsL l
  | [] => rfl
  | c :: l => by
    have := size_parts l
    have e1 : sizeL (c :: l) = c.drop + (c.add.length : Int) + sizeL l := by simp [sizeL]
    have e2 : dropsL (c :: l) = c.drop + dropsL l := by simp [dropsL]
    have e3 : addsL (c :: l) = c.add.length + addsL l := rfl
    omega

theorem apply_keeps (u : List (List UInt8)) : ∀ (l : List Chg) (last p : Int), validL u.length last l = true → 0 ≤ p → p ≤ u.length → (p = last ∨ (p = 0 ∧ last = -1)) →
    ∃ s : List (List UInt8), s.Sublist (u.drop p.toNat) ∧ s.Sublist (applyF u p l) ∧ (s.length : Int) = u.length - p - dropsL l ∧ ((applyF u p l).length : Int) = u.length - p - dropsL l + addsL l
  | [], last, p, _, h0, h1, _ => by
    refine ⟨u.drop p.toNat, List.Sublist.refl _, by rw [applyF]; exact List.Sublist.refl _, ?_, ?_⟩
    · rw [List.length_drop]
      simp [dropsL]
      omega
    · rw [applyF, List.length_drop]
      simp [dropsL, addsL]
      omega
  | c :: l, last, p, hv, h0, h1, h2 => by
    rw [validL] at hv
    split at hv
    · cases hv
    · rename_i hc
      obtain ⟨s, s1, s2, s3, s4⟩ := apply_keeps u l (c.at_ + c.drop) (c.at_ + c.drop) hv (by omega) (by omega) (.inl rfl)
      have e2 : dropsL (c :: l) = c.drop + dropsL l := by simp [dropsL]
      have e3 : addsL (c :: l) = c.add.length + addsL l := rfl
      have hlen : ((u.drop p.toNat).take (c.at_ - p).toNat).length = (c.at_ - p).toNat := by
        rw [List.length_take, List.length_drop]
        omega
      refine ⟨(u.drop p.toNat).take (c.at_ - p).toNat ++ s, ?_, ?_, ?_, ?_⟩
      · have hsplit : u.drop p.toNat = (u.drop p.toNat).take (c.at_ - p).toNat ++ u.drop c.at_.toNat := by
          conv => lhs; rw [← List.take_append_drop (c.at_ - p).toNat (u.drop p.toNat)]
          rw [List.drop_drop, show p.toNat + (c.at_ - p).toNat = c.at_.toNat by omega]
        have hd : u.drop (c.at_ + c.drop).toNat = (u.drop c.at_.toNat).drop c.drop.toNat := by
          rw [List.drop_drop, show c.at_.toNat + c.drop.toNat = (c.at_ + c.drop).toNat by omega]
        have hs : s.Sublist (u.drop c.at_.toNat) := s1.trans (hd ▸ List.drop_sublist _ _)
        conv => rhs; rw [hsplit]
        exact (List.Sublist.refl _).append hs
      · rw [applyF]
        exact (List.Sublist.refl _).append (s2.trans (List.sublist_append_right _ _))
      · rw [List.length_append, hlen]
        omega
      · rw [applyF, List.length_append, List.length_append, hlen]
        omega

/-- No valid changes that lead from u to w are smaller than what Diff makes. -/
theorem least (u : List (List UInt8)) (c : List Chg) (hc : validL u.length (-1) c = true) : sizeL (diffL u (applyF u 0 c)) ≤ sizeL c := by
  obtain ⟨s, s1, s2, s3, s4⟩ := apply_keeps u c (-1) 0 hc (by omega) (by omega) (.inr ⟨rfl, rfl⟩)
  have h1 := lcs_max u (applyF u 0 c) s (by simpa using s1) s2
  have h2 := size_parts c
  rw [diffL_size]
  omega

theorem size_triangle (u v w : List (List UInt8)) : sizeL (diffL u w) ≤ sizeL (diffL u v) + sizeL (diffL v w) := by
  have := lcs_triangle u v w
  rw [diffL_size, diffL_size, diffL_size]
  omega
end Go.PM
