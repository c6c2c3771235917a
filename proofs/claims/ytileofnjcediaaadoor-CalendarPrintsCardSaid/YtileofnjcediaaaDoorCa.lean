/- Plain laws of days and dates. Conditions: none but those that each names. -/
import Derived.Test.YtileofnjcediaaaDoorPna
set_option linter.unusedSimpArgs false
set_option linter.unusedVariables false
namespace Go.PM

/-- the days of a year -/
def yearL (y : Int) : Int := if y % 4 = 0 ∧ (y % 100 ≠ 0 ∨ y % 400 = 0) then 366 else 365
/-- the days of a month -/
def lenM (y m : Int) : Int := if m = 2 then yearL y - 337 else if m = 4 ∨ m = 6 ∨ m = 9 ∨ m = 11 then 30 else 31
/-- the number of the first day of a year -/
def startI (y : Int) : Int := 365 * (y - 1) + (y - 1) / 4 - (y - 1) / 100 + (y - 1) / 400 + 1
/-- the days of a year ahead of a month -/
def cumM (y m : Int) : Int := (if 3 ≤ m then yearL y - 365 else 0) + (if m ≤ 1 then 0 else if m = 2 then 31 else if m = 3 then 59 else if m = 4 then 90 else if m = 5 then 120 else if m = 6 then 151 else if m = 7 then 181 else if m = 8 then 212 else if m = 9 then 243 else if m = 10 then 273 else if m = 11 then 304 else if m = 12 then 334 else 365)
/-- there is a date -/
def okD (y m d : Int) : Prop := 1 ≤ y ∧ y ≤ 2800 ∧ 1 ≤ m ∧ m ≤ 12 ∧ 1 ≤ d ∧ d ≤ lenM y m
instance (y m d : Int) : Decidable (okD y m d) := by unfold okD; infer_instance
/-- the number of a date -/
def dayN (y m d : Int) : Int := startI y + cumM y m + d - 1

theorem yearL_two (y : Int) : yearL y = 365 ∨ yearL y = 366 := by
  unfold yearL
  split <;> simp
theorem startI_succ (y : Int) : startI (y + 1) = startI y + yearL y := by
  unfold startI yearL
  split <;> omega
theorem startI_mono {y z : Int} (h : y ≤ z) : startI y ≤ startI z := by
  unfold startI
  omega
theorem m_cases {m : Int} (h1 : 1 ≤ m) (h2 : m ≤ 12) : m = 1 ∨ m = 2 ∨ m = 3 ∨ m = 4 ∨ m = 5 ∨ m = 6 ∨ m = 7 ∨ m = 8 ∨ m = 9 ∨ m = 10 ∨ m = 11 ∨ m = 12 := by omega
theorem cumM_succ (y : Int) {m : Int} (h1 : 1 ≤ m) (h2 : m ≤ 12) : cumM y (m + 1) = cumM y m + lenM y m := by
  rcases m_cases h1 h2 with rfl | rfl | rfl | rfl | rfl | rfl | rfl | rfl | rfl | rfl | rfl | rfl <;> simp [cumM, lenM] <;> omega
theorem cumM_one (y : Int) : cumM y 1 = 0 := by simp [cumM]
theorem cumM_13 (y : Int) : cumM y 13 = yearL y := by simp [cumM]
theorem lenM_pos (y : Int) {m : Int} (h1 : 1 ≤ m) (h2 : m ≤ 12) : 28 ≤ lenM y m ∧ lenM y m ≤ 31 := by
  have := yearL_two y
  rcases m_cases h1 h2 with rfl | rfl | rfl | rfl | rfl | rfl | rfl | rfl | rfl | rfl | rfl | rfl <;> simp [lenM] <;> omega
theorem cumM_mono (y : Int) {m k : Int} (h1 : 1 ≤ m) (h2 : m ≤ k) (h3 : k ≤ 13) : cumM y m ≤ cumM y k := by
  have := yearL_two y
  unfold cumM
  omega
theorem dayN_lo {y m d : Int} (h : okD y m d) : startI y ≤ dayN y m d := by
  obtain ⟨_, _, h1, h2, h3, _⟩ := h
  have := cumM_mono y (m := 1) (k := m) (by omega) h1 (by omega)
  rw [cumM_one] at this
  unfold dayN
  omega
theorem dayN_hi {y m d : Int} (h : okD y m d) : dayN y m d < startI (y + 1) := by
  obtain ⟨_, _, h1, h2, h3, h4⟩ := h
  have h5 := cumM_mono y (m := m + 1) (k := 13) (by omega) (by omega) (by omega)
  rw [cumM_13, cumM_succ y h1 h2] at h5
  rw [startI_succ]
  unfold dayN
  omega
theorem dayN_inj {y m d y' m' d' : Int} (h : okD y m d) (h' : okD y' m' d') (e : dayN y m d = dayN y' m' d') : y = y' ∧ m = m' ∧ d = d' := by
  have a1 := dayN_lo h
  have a2 := dayN_hi h
  have b1 := dayN_lo h'
  have b2 := dayN_hi h'
  have hy : y = y' := by
    rcases Int.lt_trichotomy y y' with hl | hl | hl
    · have := startI_mono (y := y + 1) (z := y') (by omega)
      omega
    · exact hl
    · have := startI_mono (y := y' + 1) (z := y) (by omega)
      omega
  subst hy
  obtain ⟨_, _, h1, h2, h3, h4⟩ := h
  obtain ⟨_, _, h1', h2', h3', h4'⟩ := h'
  unfold dayN at e
  have hm : m = m' := by
    rcases Int.lt_trichotomy m m' with hl | hl | hl
    · have := cumM_mono y (m := m + 1) (k := m') (by omega) (by omega) (by omega)
      rw [cumM_succ y h1 h2] at this
      omega
    · exact hl
    · have := cumM_mono y (m := m' + 1) (k := m) (by omega) (by omega) (by omega)
      rw [cumM_succ y h1' h2'] at this
      omega
  subst hm
  exact ⟨rfl, rfl, by omega⟩

/-- the date of a day -/
def yearF (n : Int) : Int := if startI ((n - 1) * 400 / 146097 + 1) > n then (n - 1) * 400 / 146097 else if startI ((n - 1) * 400 / 146097 + 2) ≤ n then (n - 1) * 400 / 146097 + 2 else (n - 1) * 400 / 146097 + 1
theorem yearF_lo {n : Int} (h : 1 ≤ n) : startI (yearF n) ≤ n := by
  unfold yearF
  unfold startI
  split
  · omega
  · split <;> omega
theorem year_far (n q A B C : Int) (h1 : 400 * (n - 1) < 146097 * q + 146097) (h2 : q + 2 ≤ 4 * A + 3) (h3 : 100 * B ≤ q + 2) (h4 : q + 2 ≤ 400 * C + 399) : n < 365 * (q + 2) + A - B + C + 1 := by omega
theorem yearF_hi {n : Int} (h : 1 ≤ n) : n < startI (yearF n + 1) := by
  unfold yearF
  generalize hq : (n - 1) * 400 / 146097 = q
  split
  · assumption
  · split
    · have := year_far n q ((q + 2) / 4) ((q + 2) / 100) ((q + 2) / 400) (by omega) (by omega) (by omega) (by omega)
      unfold startI
      rw [show q + 2 + 1 - 1 = q + 2 by omega]
      exact this
    · rename_i h1 h2
      rw [show q + 1 + 1 = q + 2 by omega]
      omega
def restF (n : Int) : Int := n - startI (yearF n)
def monthF (y r : Int) : Int := if r < cumM y 2 then 1 else if r < cumM y 3 then 2 else if r < cumM y 4 then 3 else if r < cumM y 5 then 4 else if r < cumM y 6 then 5 else if r < cumM y 7 then 6 else if r < cumM y 8 then 7 else if r < cumM y 9 then 8 else if r < cumM y 10 then 9 else if r < cumM y 11 then 10 else if r < cumM y 12 then 11 else 12
theorem monthF_ok (y : Int) {r : Int} (h1 : 0 ≤ r) (h2 : r < yearL y) : 1 ≤ monthF y r ∧ monthF y r ≤ 12 ∧ cumM y (monthF y r) ≤ r ∧ r < cumM y (monthF y r) + lenM y (monthF y r) := by
  have hy := yearL_two y
  simp only [monthF]
  repeat' split
  all_goals simp [cumM, lenM] at *
  all_goals omega
def dY (n : Int) : Int := yearF n
def dM (n : Int) : Int := monthF (yearF n) (restF n)
def dD (n : Int) : Int := restF n - cumM (yearF n) (dM n) + 1
theorem date_ok {n : Int} (h1 : 1 ≤ n) (h2 : n ≤ 1022679) : okD (dY n) (dM n) (dD n) ∧ dayN (dY n) (dM n) (dD n) = n := by
  have a := yearF_lo h1
  have b := yearF_hi h1
  have c := startI_succ (yearF n)
  obtain ⟨m1, m2, m3, m4⟩ := monthF_ok (yearF n) (r := restF n) (by unfold restF; omega) (by unfold restF; omega)
  have hy1 : 1 ≤ yearF n := by
    rcases Int.lt_or_le (yearF n) 1 with h | h
    · have := startI_mono (y := yearF n + 1) (z := 1) (by omega)
      rw [show startI 1 = 1 by rfl] at this
      omega
    · exact h
  have hy2 : yearF n ≤ 2800 := by
    rcases Int.lt_or_le 2800 (yearF n) with h | h
    · have := startI_mono (y := 2801) (z := yearF n) (by omega)
      rw [show startI 2801 = 1022680 by rfl] at this
      omega
    · exact h
  refine ⟨⟨hy1, hy2, m1, m2, ?_, ?_⟩, ?_⟩
  · unfold dD dM; omega
  · unfold dD dY dM; omega
  · unfold dayN dD dY dM restF; omega
theorem date_eq {y m d n : Int} (h : okD y m d) (e : dayN y m d = n) : dY n = y ∧ dM n = m ∧ dD n = d := by
  subst e
  have h1 : 1 ≤ dayN y m d := by
    have a := dayN_lo h
    have b := startI_mono h.1
    rw [show startI 1 = 1 by rfl] at b
    omega
  have h2 : dayN y m d ≤ 1022679 := by
    have a := dayN_hi h
    have b := startI_mono (y := y + 1) (z := 2801) (by have := h.2.1; omega)
    rw [show startI 2801 = 1022680 by rfl] at b
    omega
  obtain ⟨a, b⟩ := date_ok h1 h2
  exact dayN_inj a h b
end Go.PM
