/- Plain laws: what is printed is read as it was; whatever is read is printed as shortly. Conditions: none but those that each names. -/
import Derived.Test.YtileofnjcediaaaDoorCu
set_option linter.unusedSimpArgs false
set_option linter.unusedVariables false
namespace Go.PM

theorem dgt_isDg (n : Int) : isDg (dgt n) = true := by
  rw [isDg_iff]
  have := dgt_nat n
  omega
theorem dgt_ne47 (n : Int) : dgt n ≠ 47 := by
  intro h
  have := dgt_nat n
  rw [h] at this
  have h2 : ((47 : UInt8).toNat : Int) = 47 := rfl
  omega
theorem dgt_ne99 (n : Int) : dgt n ≠ 99 := by
  intro h
  have := dgt_nat n
  rw [h] at this
  have h2 : ((99 : UInt8).toNat : Int) = 99 := rfl
  omega
theorem digB_pad4 (n : Int) : digB (pad4 n) = true := by simp [digB, pad4, dgt_isDg]
theorem digB_pad2 (n : Int) : digB (pad2 n) = true := by simp [digB, pad2, dgt_isDg]
theorem numF_pad4 {n : Int} (h0 : 0 ≤ n) (h1 : n ≤ 9999) : numF (pad4 n) = n := by
  rw [numF, if_pos (digB_pad4 n)]
  simp only [numN, pad4, List.foldl_cons, List.foldl_nil, dgt_nat]
  omega
theorem numF_pad2 {n : Int} (h0 : 0 ≤ n) (h1 : n ≤ 99) : numF (pad2 n) = n := by
  rw [numF, if_pos (digB_pad2 n)]
  simp only [numN, pad2, List.foldl_cons, List.foldl_nil, dgt_nat]
  omega

theorem ym_len (y m : Int) : (ymB y m).length = 7 := rfl
theorem ymd_len (y m d : Int) : (ymdB y m d).length = 10 := rfl
theorem dateP_y {y : Int} (h1 : 1 ≤ y) (h2 : y ≤ 2800) : dateP (pad4 y) = (startI y, startI (y + 1) - 1, 0) := by
  have hf : formB (pad4 y) = true := by rw [form_4 _ rfl, show (pad4 y).take 4 = pad4 y from rfl, digB_pad4]
  rw [dateP_ok _ hf, show (pad4 y).take 4 = pad4 y from rfl, numF_pad4 (by omega) (by omega), if_neg (by omega), if_pos (pad4_len y)]
theorem dateP_ym {y m : Int} (h : okD y m 1) : dateP (ymB y m) = (dayN y m 1, dayN y m 1 + lenM y m - 1, 0) := by
  have h' := h
  obtain ⟨h1, h2, h3, h4, _⟩ := h'
  have e1 : (ymB y m).take 4 = pad4 y := rfl
  have e2 : pcS (ymB y m) 5 7 = pad2 m := rfl
  have hf : formB (ymB y m) = true := by
    rw [form_7 _ rfl, e1, e2, digB_pad4, digB_pad2]
    rfl
  rw [dateP_ok _ hf, e1, e2, numF_pad4 (by omega) (by omega), numF_pad2 (by omega) (by omega), if_neg (by omega), if_neg (show ¬ (ymB y m).length = 4 by rw [ym_len]; decide), if_pos (ym_len y m), if_pos h]
theorem dateP_ymd {y m d : Int} (h : okD y m d) : dateP (ymdB y m d) = (dayN y m d, dayN y m d, 0) := by
  have h' := h
  obtain ⟨h1, h2, h3, h4, h5, h6⟩ := h'
  have l1 := lenM_pos y h3 h4
  have e1 : (ymdB y m d).take 4 = pad4 y := rfl
  have e2 : pcS (ymdB y m d) 5 7 = pad2 m := rfl
  have e3 : pcS (ymdB y m d) 8 10 = pad2 d := rfl
  have hf : formB (ymdB y m d) = true := by
    rw [form_10 _ rfl, e1, e2, e3, digB_pad4, digB_pad2, digB_pad2]
    rfl
  rw [dateP_ok _ hf, e1, e2, e3, numF_pad4 (by omega) (by omega), numF_pad2 (by omega) (by omega), numF_pad2 (by omega) (by omega), if_neg (by omega), if_neg (show ¬ (ymdB y m d).length = 4 by rw [ymd_len]; decide), if_neg (show ¬ (ymdB y m d).length = 7 by rw [ymd_len]; decide), if_pos h]

theorem dateP_begin {n : Int} (h1 : 1 ≤ n) (h2 : n ≤ 1022679) : ∃ x, dateP (beginP n) = (n, x, 0) := by
  obtain ⟨ho, he⟩ := date_ok h1 h2
  obtain ⟨o1, o2, o3, o4, o5, o6⟩ := ho
  have l1 := lenM_pos (dY n) o3 o4
  unfold beginP
  split
  · rename_i h
    rw [dateP_y o1 o2]
    rw [h.1, h.2, dayN_first] at he
    exact ⟨_, by rw [he]⟩
  · split
    · rename_i h
      rw [dateP_ym (by unfold okD; omega)]
      rw [h] at he
      exact ⟨_, by rw [he]⟩
    · rw [dateP_ymd ⟨o1, o2, o3, o4, o5, o6⟩, he]
      exact ⟨_, rfl⟩
theorem dateP_end {n : Int} (h1 : 1 ≤ n) (h2 : n ≤ 1022679) : ∃ x, dateP (endP n) = (x, n, 0) := by
  obtain ⟨ho, he⟩ := date_ok h1 h2
  obtain ⟨o1, o2, o3, o4, o5, o6⟩ := ho
  have l1 := lenM_pos (dY n) o3 o4
  unfold endP
  split
  · rename_i h
    rw [dateP_y o1 o2]
    rw [h.1, h.2, dayN_last] at he
    exact ⟨_, by rw [he]⟩
  · split
    · rename_i h
      rw [dateP_ym (by unfold okD; omega)]
      rw [h, dayN_end] at he
      exact ⟨_, by rw [he]⟩
    · rw [dateP_ymd ⟨o1, o2, o3, o4, o5, o6⟩, he]
      exact ⟨_, rfl⟩

/-- no '/' -/
def noS (s : List UInt8) : Prop := ∀ c ∈ s, c ≠ 47
theorem posL_noS : ∀ {s : List UInt8}, noS s → posL s = s.length
  | [], _ => rfl
  | c :: r, h => by
    have hc : c ≠ 47 := h c (.head _)
    have h2 : posL (c :: r) = posL r + 1 := by simp [posL, hc]
    rw [h2, posL_noS fun x hx => h x (.tail _ hx), List.length_cons]
theorem posL_app : ∀ {s : List UInt8} (t : List UInt8), noS s → posL (s ++ 47 :: t) = s.length
  | [], t, _ => by simp [posL]
  | c :: r, t, h => by
    have hc : c ≠ 47 := h c (.head _)
    have h2 : posL (c :: (r ++ 47 :: t)) = posL (r ++ 47 :: t) + 1 := by simp [posL, hc]
    rw [List.cons_append, h2, posL_app t fun x hx => h x (.tail _ hx), List.length_cons]
theorem noS_pad4 (n : Int) : noS (pad4 n) := by
  intro c hc
  simp only [pad4, List.mem_cons, List.not_mem_nil, or_false] at hc
  rcases hc with rfl | rfl | rfl | rfl <;> exact dgt_ne47 _
theorem noS_pad2 (n : Int) : noS (pad2 n) := by
  intro c hc
  simp only [pad2, List.mem_cons, List.not_mem_nil, or_false] at hc
  rcases hc with rfl | rfl <;> exact dgt_ne47 _
theorem noS_dash {s t : List UInt8} (h1 : noS s) (h2 : noS t) : noS (s ++ 45 :: t) := by
  intro c hc
  rcases List.mem_append.1 hc with h | h
  · exact h1 c h
  · rcases List.mem_cons.1 h with rfl | h
    · decide
    · exact h2 c h
theorem noS_ym (y m : Int) : noS (ymB y m) := noS_dash (noS_pad4 y) (noS_pad2 m)
theorem noS_ymd (y m d : Int) : noS (ymdB y m d) := noS_dash (noS_pad4 y) (noS_dash (noS_pad2 m) (noS_pad2 d))
theorem noS_begin (n : Int) : noS (beginP n) := by
  unfold beginP
  split
  · exact noS_pad4 _
  · split
    · exact noS_ym _ _
    · exact noS_ymd _ _ _
theorem first_pad4 (y : Int) (t : List UInt8) : ¬ (pad4 y ++ t).take 1 = [99] := by
  intro h
  have : dgt (y / 10 / 10 / 10) = 99 := by simpa [pad4] using h
  exact dgt_ne99 _ this
theorem parseP_date (s : List UInt8) (h1 : ¬ s.take 1 = [99]) (h2 : noS s) : parseP s = dateP s := by
  rw [parseP, if_neg h1, if_neg (by rw [posL_noS h2]; omega)]

theorem begin_form (n : Int) : ∃ y t, beginP n = pad4 y ++ t := by
  unfold beginP ymB ymdB
  split
  · exact ⟨dY n, [], (List.append_nil _).symm⟩
  · split
    · exact ⟨_, _, rfl⟩
    · exact ⟨_, _, rfl⟩
theorem aboutF_some {a b : Int} : ∀ {k : Nat} {z u : Int}, aboutF a b k z = some u → a = startI (max 1 (u - 5)) ∧ b = startI (min 2800 (u + 4) + 1) - 1 ∧ z ≤ u ∧ u < z + k
  | 0, z, u, h => by cases h
  | k + 1, z, u, h => by
    rw [aboutF] at h
    split at h
    · rename_i hc
      cases h
      exact ⟨hc.1, hc.2, by omega, by omega⟩
    · obtain ⟨h1, h2, h3, h4⟩ := aboutF_some h
      exact ⟨h1, h2, by omega, by omega⟩
theorem aboutF_none {a b : Int} : ∀ {k : Nat} {z u : Int}, aboutF a b k z = none → z ≤ u → u < z + k → ¬ (a = startI (max 1 (u - 5)) ∧ b = startI (min 2800 (u + 4) + 1) - 1)
  | 0, z, u, _, h1, h2 => by omega
  | k + 1, z, u, h, h1, h2 => by
    rw [aboutF] at h
    split at h
    · cases h
    · rename_i hc
      by_cases hz : z = u
      · subst hz
        exact hc
      · exact aboutF_none h (by omega) (by omega)

/-- What is printed is read as it was. -/
theorem parse_print {a b : Int} (h : okS a b = true) : parseP (printP a b) = (a, b, 0) := by
  have hv := okS_iff.1 h
  obtain ⟨ho, he⟩ := date_ok (n := a) (by omega) (by omega)
  obtain ⟨o1, o2, o3, o4, o5, o6⟩ := ho
  have l1 := lenM_pos (dY a) o3 o4
  rw [printP, if_neg (by rw [h]; decide)]
  split
  · rename_i h1
    rw [parseP_date _ (by simpa using first_pad4 (dY a) []) (noS_pad4 _), dateP_y o1 o2, ← h1.1, ← h1.2]
  · cases hab : aboutF a b (min 2800 (dY a + 5) + 1 - dY a).toNat (dY a) with
    | some z =>
      obtain ⟨h1, h2, h3, h4⟩ := aboutF_some hab
      simp only
      rw [parseP, if_pos (by simp), show (99 :: pad4 z).drop 1 = pad4 z from rfl, aboutP, if_neg (by rw [digB_pad4]; simp [pad4_len]), numF_pad4 (by omega) (by omega), if_neg (by omega), ← h1, ← h2]
    | none =>
      simp only
      unfold restP
      split
      · rename_i h1
        rw [parseP_date (ymB (dY a) (dM a)) (first_pad4 _ _) (noS_ym _ _), dateP_ym (by unfold okD; omega), ← h1.1]
        have := h1.2
        rw [← h1.1] at this
        rw [← this]
      · split
        · rename_i h1
          rw [parseP_date (ymdB (dY a) (dM a) (dD a)) (first_pad4 _ _) (noS_ymd _ _ _), dateP_ymd ⟨o1, o2, o3, o4, o5, o6⟩, he, ← h1]
        · obtain ⟨x, hx⟩ := dateP_begin (n := a) (by omega) (by omega)
          obtain ⟨w, hw⟩ := dateP_end (n := b) (by omega) (by omega)
          have hn := noS_begin a
          have hp := posL_app (endP b) hn
          obtain ⟨y, t, hy⟩ := begin_form a
          rw [parseP, if_neg (by rw [hy, List.append_assoc]; exact first_pad4 _ _), hp, if_pos (by simp), List.take_left, show (beginP a).length + 1 = (beginP a).length + 1 from rfl, ← List.drop_drop, List.drop_left, show (47 :: endP b).drop 1 = endP b from rfl, hx, hw]
          simp only [bothP]
          rw [if_neg (by simp), if_neg (by simp; omega)]
end Go.PM
