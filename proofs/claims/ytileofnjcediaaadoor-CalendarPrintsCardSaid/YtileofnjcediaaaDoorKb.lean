/- Plain laws: whatever is read is a valid span, and is printed as shortly. Conditions: none but those that each names. -/
import Derived.Test.YtileofnjcediaaaDoorKa
set_option linter.unusedSimpArgs false
set_option linter.unusedVariables false
namespace Go.PM

theorem dM_of {y m d n : Int} (h : okD y m d) (e : dayN y m d = n) : dY n = y ∧ dM n = m ∧ dD n = d := date_eq h e

/-- What is read of a date. -/
theorem dateP_inv {s : List UInt8} {a b : Int} (h : dateP s = (a, b, 0)) : ∃ y, 1 ≤ y ∧ y ≤ 2800 ∧
    ((s.length = 4 ∧ a = startI y ∧ b = startI (y + 1) - 1) ∨ (s.length = 7 ∧ ∃ m, okD y m 1 ∧ a = dayN y m 1 ∧ b = dayN y m 1 + lenM y m - 1) ∨ (s.length = 10 ∧ ∃ m d, okD y m d ∧ a = dayN y m d ∧ b = dayN y m d)) := by
  cases hf : formB s with
  | false => rw [dateP_no s hf] at h; simp at h
  | true =>
    rw [dateP_ok s hf] at h
    by_cases hy : numF (s.take 4) < 1 ∨ 2800 < numF (s.take 4)
    · rw [if_pos hy] at h; simp at h
    · rw [if_neg hy] at h
      refine ⟨numF (s.take 4), by omega, by omega, ?_⟩
      by_cases h4 : s.length = 4
      · rw [if_pos h4] at h
        simp only [Prod.mk.injEq, and_true] at h
        exact .inl ⟨h4, h.1.symm, h.2.symm⟩
      · rw [if_neg h4] at h
        by_cases h7 : s.length = 7
        · rw [if_pos h7] at h
          split at h
          · rename_i hok
            simp only [Prod.mk.injEq, and_true] at h
            exact .inr (.inl ⟨h7, _, hok, h.1.symm, h.2.symm⟩)
          · simp at h
        · rw [if_neg h7] at h
          split at h
          · rename_i hok
            simp only [Prod.mk.injEq, and_true] at h
            refine .inr (.inr ⟨?_, _, _, hok, h.1.symm, h.2.symm⟩)
            by_cases h10 : s.length = 10
            · exact h10
            · rw [form_no s h4 h7 h10] at hf
              cases hf
          · simp at h
theorem begin_le {n : Int} : (beginP n).length ≤ 10 ∧ (dD n = 1 → (beginP n).length ≤ 7) ∧ (dM n = 1 → dD n = 1 → (beginP n).length ≤ 4) := by
  unfold beginP
  split
  · rw [pad4_len]; omega
  · split
    · rw [ym_len]; omega
    · rw [ymd_len]; omega
theorem end_le {n : Int} : (endP n).length ≤ 10 ∧ (dD n = lenM (dY n) (dM n) → (endP n).length ≤ 7) ∧ (dM n = 12 → dD n = 31 → (endP n).length ≤ 4) := by
  unfold endP
  split
  · rw [pad4_len]; omega
  · split
    · rw [ym_len]; omega
    · rw [ymd_len]; omega
theorem okD_end {y m : Int} (h : okD y m 1) : okD y m (lenM y m) := by
  obtain ⟨h1, h2, h3, h4, h5, h6⟩ := h
  unfold okD
  omega
theorem dateP_valid {s : List UInt8} {a b : Int} (h : dateP s = (a, b, 0)) : okS a b = true := by
  obtain ⟨y, h1, h2, ⟨_, rfl, rfl⟩ | ⟨_, m, hok, rfl, rfl⟩ | ⟨_, m, d, hok, rfl, rfl⟩⟩ := dateP_inv h
  · exact span_years h1 (Int.le_refl _) h2
  · have i1 := dayN_in hok
    have i2 := dayN_in (okD_end hok)
    have l := lenM_pos y hok.2.2.1 hok.2.2.2.1
    rw [dayN_end] at i2
    rw [okS_iff]
    omega
  · have i1 := dayN_in hok
    rw [okS_iff]
    omega
theorem begin_short {s : List UInt8} {a b : Int} (h : dateP s = (a, b, 0)) : (beginP a).length ≤ s.length := by
  obtain ⟨y, h1, h2, ⟨hl, rfl, rfl⟩ | ⟨hl, m, hok, rfl, rfl⟩ | ⟨hl, m, d, hok, rfl, rfl⟩⟩ := dateP_inv h
  · have e := date_eq (okD_first y h1 h2) rfl
    rw [dayN_first] at e
    have := (begin_le (n := startI y)).2.2 e.2.1 e.2.2
    omega
  · have e := date_eq hok rfl
    have := (begin_le (n := dayN y m 1)).2.1 e.2.2
    omega
  · have := (begin_le (n := dayN y m d)).1
    omega
theorem end_short {s : List UInt8} {a b : Int} (h : dateP s = (a, b, 0)) : (endP b).length ≤ s.length := by
  obtain ⟨y, h1, h2, ⟨hl, rfl, rfl⟩ | ⟨hl, m, hok, rfl, rfl⟩ | ⟨hl, m, d, hok, rfl, rfl⟩⟩ := dateP_inv h
  · have e := date_eq (okD_last y h1 h2) rfl
    rw [dayN_last] at e
    have := (end_le (n := startI (y + 1) - 1)).2.2 e.2.1 e.2.2
    omega
  · have e := date_eq (okD_end hok) rfl
    rw [dayN_end] at e
    have := (end_le (n := dayN y m 1 + lenM y m - 1)).2.1 (by rw [e.1, e.2.1, e.2.2])
    omega
  · have := (end_le (n := dayN y m d)).1
    omega

/-- How long a printed span is at most. -/
theorem print_le {a b : Int} : (printP a b).length ≤ 21 := by
  have h1 := (begin_le (n := a)).1
  have h2 := (end_le (n := b)).1
  unfold printP restP
  split
  · simp
  split
  · rw [pad4_len]; omega
  split
  · simp [pad4_len]
  split
  · rw [ym_len]; omega
  split
  · rw [ymd_len]; omega
  · rw [List.length_append, List.length_cons]; omega
theorem print_year {a b y : Int} (h1 : 1 ≤ y) (h2 : y ≤ 2800) (ha : a = startI y) (hb : b = startI (y + 1) - 1) : (printP a b).length ≤ 4 := by
  subst ha
  subst hb
  have e := date_eq (okD_first y h1 h2) rfl
  rw [dayN_first] at e
  unfold printP
  split
  · simp
  · rw [if_pos ⟨by rw [e.1], by rw [e.1]⟩, pad4_len]
    omega
theorem startI_at {y : Int} (h1 : 1 ≤ y) (h2 : y ≤ 2800) : dY (startI y) = y ∧ dM (startI y) = 1 ∧ dD (startI y) = 1 := by
  have e := date_eq (okD_first y h1 h2) rfl
  rw [dayN_first] at e
  exact e
theorem print_about {a b z : Int} (h1 : 1 ≤ z) (h2 : z ≤ 2800) (ha : a = startI (max 1 (z - 5))) (hb : b = startI (min 2800 (z + 4) + 1) - 1) : (printP a b).length ≤ 5 := by
  have e := startI_at (y := max 1 (z - 5)) (by omega) (by omega)
  rw [← ha] at e
  unfold printP
  split
  · simp
  split
  · rw [pad4_len]; omega
  split
  · simp [pad4_len]
  · rename_i hn
    rw [e.1] at hn
    exact absurd ⟨ha, hb⟩ (aboutF_none hn (by omega) (by omega))
theorem print_month {a b y m : Int} (h : okD y m 1) (ha : a = dayN y m 1) (hb : b = dayN y m 1 + lenM y m - 1) : (printP a b).length ≤ 7 := by
  have e := date_eq h ha.symm
  unfold printP restP
  split
  · simp
  split
  · rw [pad4_len]; omega
  split
  · simp [pad4_len]
  · rw [e.1, e.2.1, if_pos ⟨ha, hb⟩, ym_len]
    omega
theorem print_day {a b : Int} (h : a = b) : (printP a b).length ≤ 10 := by
  unfold printP restP
  split
  · simp
  split
  · rw [pad4_len]; omega
  split
  · simp [pad4_len]
  split
  · rw [ym_len]; omega
  · rw [ymd_len]; omega
theorem print_both {a b : Int} (h : a ≠ b) : (printP a b).length ≤ max 7 ((beginP a).length + 1 + (endP b).length) := by
  unfold printP restP
  split
  · simp
  split
  · rw [pad4_len]; omega
  split
  · simp [pad4_len]; omega
  split
  · rw [ym_len]; omega
  · rw [List.length_append, List.length_cons]; omega

theorem date_len {s : List UInt8} {x : Int × Int × Int} (h : dateP s = x) (h0 : x.2.2 = 0) : 4 ≤ s.length := by
  obtain ⟨a, b, e⟩ := x
  simp only at h0
  subst h0
  obtain ⟨y, h1, h2, ⟨hl, _⟩ | ⟨hl, _⟩ | ⟨hl, _⟩⟩ := dateP_inv h <;> omega

/-- Whatever is read is a valid span, and is printed as shortly. -/
theorem parse_short {s : List UInt8} {a b : Int} (h : parseP s = (a, b, 0)) : okS a b = true ∧ (printP a b).length ≤ s.length := by
  rw [parseP] at h
  split at h
  · rename_i hc
    rw [aboutP] at h
    split at h
    · simp at h
    · rename_i h1
      split at h
      · simp at h
      · rename_i h2
        simp only [Prod.mk.injEq, and_true] at h
        have hl : (s.drop 1).length = 4 := by
          rcases Nat.lt_trichotomy (s.drop 1).length 4 with g | g | g
          · exact absurd (Or.inr (by omega)) h1
          · exact g
          · exact absurd (Or.inr (by omega)) h1
        rw [List.length_drop] at hl
        refine ⟨?_, ?_⟩
        · rw [← h.1, ← h.2]
          exact span_years (by omega) (by omega) (by omega)
        · have := print_about (a := a) (b := b) (z := numF (s.drop 1)) (by omega) (by omega) h.1.symm h.2.symm
          omega
  · split at h
    · rename_i hp
      rw [bothP] at h
      split at h
      · simp at h
      · split at h
        · simp at h
        · rename_i h1 h2
          simp only [Prod.mk.injEq, and_true] at h
          obtain ⟨hA, hB⟩ := h
          cases hx : dateP (s.take (posL s)) with
          | mk a1 r =>
            obtain ⟨a2, a3⟩ := r
            cases hy : dateP (s.drop (posL s + 1)) with
            | mk b1 r2 =>
              obtain ⟨b2, b3⟩ := r2
              rw [hx] at h2 hA
              rw [hy] at h2 hB
              simp only at h2 hA hB
              have e3 : a3 = 0 := by omega
              have f3 : b3 = 0 := by omega
              subst e3
              subst f3
              subst hA
              subst hB
              have v1 := okS_iff.1 (dateP_valid hx)
              have v2 := okS_iff.1 (dateP_valid hy)
              refine ⟨okS_iff.2 (by omega), ?_⟩
              have s1 := begin_short hx
              have s2 := end_short hy
              have q1 := date_len hx rfl
              have q2 := date_len hy rfl
              have hlen : (s.take (posL s)).length + 1 + (s.drop (posL s + 1)).length = s.length := by
                rw [List.length_take, List.length_drop]
                omega
              by_cases hab : a1 = b2
              · have := print_day hab
                by_cases h10 : 10 ≤ s.length
                · omega
                · exfalso
                  obtain ⟨y, y1, y2, ⟨_, ya, yb⟩ | ⟨yl, _⟩ | ⟨yl, _⟩⟩ := dateP_inv hx
                  · obtain ⟨z, z1, z2, ⟨_, za, zb⟩ | ⟨zl, _⟩ | ⟨zl, _⟩⟩ := dateP_inv hy
                    · have t1 := yearL_two y
                      have t2 := startI_succ y
                      rcases Int.lt_or_le z y with g | g
                      · have := startI_mono (y := z + 1) (z := y) (by omega)
                        omega
                      · have := startI_mono (y := y + 1) (z := z + 1) (by omega)
                        omega
                    · omega
                    · omega
                  · omega
                  · omega
              · have := print_both hab
                omega
    · obtain ⟨y, h1, h2, ⟨hl, ha, hb⟩ | ⟨hl, m, hok, ha, hb⟩ | ⟨hl, m, d, hok, ha, hb⟩⟩ := dateP_inv h
      · refine ⟨dateP_valid h, ?_⟩
        have := print_year h1 h2 ha hb
        omega
      · refine ⟨dateP_valid h, ?_⟩
        have := print_month hok ha hb
        omega
      · refine ⟨dateP_valid h, ?_⟩
        have := print_day (a := a) (b := b) (by omega)
        omega

theorem dateP_bad {s : List UInt8} {a b e : Int} (h : dateP s = (a, b, e)) (he : ¬ e = 0) : a = 0 ∧ b = 0 := by
  unfold dateP at h
  repeat' split at h
  all_goals
    simp only [Prod.mk.injEq] at h
    omega
theorem parse_bad {s : List UInt8} {a b e : Int} (h : parseP s = (a, b, e)) (he : ¬ e = 0) : a = 0 ∧ b = 0 := by
  rw [parseP] at h
  split at h
  · unfold aboutP at h
    repeat' split at h
    all_goals
      simp only [Prod.mk.injEq] at h
      omega
  · split at h
    · unfold bothP at h
      repeat' split at h
      all_goals
        simp only [Prod.mk.injEq] at h
        omega
    · exact dateP_bad h he
end Go.PM
