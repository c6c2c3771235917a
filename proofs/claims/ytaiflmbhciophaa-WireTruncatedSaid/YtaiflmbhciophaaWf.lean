/- Plain laws of the encoding of an integer: what is decoded of an encoding, what is encoded of what was decoded. Conditions: none but those that each names. -/
import Derived.Test.YtaiflmbhciophaaWe
set_option linter.unusedSimpArgs false
set_option linter.unusedVariables false
namespace Go.PM
open Go.Proofs

def valL : List UInt8 → Nat
  | [] => 0
  | d :: l => 256 * valL l + d.toNat
theorem valB_rev : ∀ l : List UInt8, valB l.reverse = valL l
  | [] => rfl
  | d :: l => by rw [List.reverse_cons, valB_snoc, valB_rev l, valL]
theorem valB_eq (l : List UInt8) : valB l = valL l.reverse := by rw [← valB_rev, List.reverse_reverse]

theorem valL_pos : ∀ (l : List UInt8) (h : l ≠ []), l.getLast h ≠ 0 → 0 < valL l
  | [d], _, h => by
    simp only [valL, List.getLast_singleton] at h ⊢
    have : d.toNat ≠ 0 := fun e => h (UInt8.toNat_inj.1 e)
    omega
  | d :: e :: l, _, h => by
    have := valL_pos (e :: l) (by simp) (by simpa using h)
    rw [valL]
    omega

theorem digsF_valL : ∀ (k : Nat) (l : List UInt8), l.length ≤ k → (∀ h : l ≠ [], l.getLast h ≠ 0) → digsF k (valL l) = l
  | 0, l, h, _ => by
    have : l = [] := List.length_eq_zero_iff.1 (by omega)
    subst this
    rfl
  | k + 1, [], _, _ => by rw [digsF]; rfl
  | k + 1, d :: l, h, hz => by
    have hp := valL_pos (d :: l) (by simp) (hz (by simp))
    have hd := d.toNat_lt
    have h2 : digsF k (valL l) = l := digsF_valL k l (by simp at h; omega) fun hl => by
      have := hz (by simp)
      rwa [List.getLast_cons hl] at this
    rw [digsF, if_neg (by omega), valL, show (256 * valL l + d.toNat) / 256 = valL l by omega, h2, show (256 * valL l + d.toNat) % 256 = d.toNat by omega]
    simp

theorem valL_digsF : ∀ (k m : Nat), m < 256 ^ k → valL (digsF k m) = m
  | 0, m, h => by
    rw [digsF, valL]
    simp at h
    omega
  | k + 1, m, h => by
    rw [digsF]
    split
    · rename_i h0
      rw [h0]
      rfl
    · have h1 : m / 256 < 256 ^ k := by
        rw [Nat.pow_succ] at h
        exact Nat.div_lt_of_lt_mul (by rw [Nat.mul_comm]; exact h)
      rw [valL, valL_digsF k _ h1]
      have : (UInt8.ofNat (m % 256)).toNat = m % 256 := UInt8.toNat_ofNat_of_lt' (show _ < 256 by omega)
      rw [this]
      omega

theorem digsF_last : ∀ (k m : Nat), m < 256 ^ k → ∀ h : digsF k m ≠ [], (digsF k m).getLast h ≠ 0
  | 0, m, _, h => absurd rfl h
  | k + 1, m, hm, h => by
    by_cases h0 : m = 0
    · subst h0
      exact absurd (by rw [digsF]; rfl) h
    · have e : digsF (k + 1) m = UInt8.ofNat (m % 256) :: digsF k (m / 256) := by rw [digsF, if_neg h0]
      have h1 : m / 256 < 256 ^ k := by
        rw [Nat.pow_succ] at hm
        exact Nat.div_lt_of_lt_mul (by rw [Nat.mul_comm]; exact hm)
      simp only [e]
      by_cases hn : digsF k (m / 256) = []
      · have hv := valL_digsF k _ h1
        rw [hn] at hv
        simp only [valL] at hv
        simp only [hn, List.getLast_singleton]
        intro e2
        have := congrArg UInt8.toNat e2
        rw [UInt8.toNat_ofNat_of_lt' (show _ < 256 by omega)] at this
        simp at this
        omega
      · rw [List.getLast_cons hn]
        exact digsF_last k _ h1 hn

theorem digs_len (m : Nat) (h : m < 9223372036854775808) : (digs m).length ≤ 8 := (digs_pow 8 m (by omega)).2 (by omega)
theorem digs_val (m : Nat) (h : m < 9223372036854775808) : valB (digs m).reverse = m := by
  rw [valB_rev]
  exact valL_digsF 9 m (by omega)
theorem head_ne (l : List UInt8) (h : ∀ h : l ≠ [], l.getLast h ≠ 0) : l.reverse.head? ≠ some 0 := by
  rw [List.head?_reverse]
  intro e
  obtain ⟨h1, h2⟩ := List.getLast?_eq_some_iff.1 e
  subst h2
  exact h (by simp) (by simp)
theorem digs_head (m : Nat) (h : m < 9223372036854775808) : (digs m).reverse.head? ≠ some 0 := head_ne _ (digsF_last 9 m (by omega))
/-- Digits without a zero ahead are those of their number. -/
theorem digs_of (l : List UInt8) (hl : l.length ≤ 8) (h : l.head? ≠ some 0) : digs (valB l) = l.reverse := by
  rw [valB_eq]
  refine digsF_valL 9 _ (by simp; omega) fun hn e => h ?_
  rw [← List.reverse_reverse l, List.head?_reverse, List.getLast?_eq_some_getLast hn, e]
/-- Digits with a zero ahead are more than their number has. -/
theorem digs_zero (l : List UInt8) (hl : l.length ≤ 8) (h : l.head? = some 0) : (digs (valB l)).length < l.length := by
  cases l with
  | nil => simp at h
  | cons d l =>
    simp at h
    subst h
    have : valB (0 :: l) = valB l := by simp [valB]
    rw [this, List.length_cons]
    have := (digs_pow l.length (valB l) (by simp at hl; omega)).2 (valB_lt l)
    omega

def hdB (n : Int) (k : Nat) : UInt8 := if n < 0 then UInt8.ofNat (127 - k) else UInt8.ofNat (128 + k)
theorem intB_eq (n : Int) : intB n = hdB n (digs (magn n)).length :: (digs (magn n)).reverse.map (flipB n) := rfl
theorem hdB_nat (n : Int) (k : Nat) (h : k ≤ 8) : (hdB n k).toNat = if n < 0 then 127 - k else 128 + k := by
  unfold hdB
  split
  · rw [UInt8.toNat_ofNat_of_lt' (show _ < 256 by omega)]
  · rw [UInt8.toNat_ofNat_of_lt' (show _ < 256 by omega)]
theorem hdB_kOf (n : Int) (k : Nat) (h : k ≤ 8) : kOf (hdB n k) = k := by
  unfold kOf
  rw [hdB_nat n k h]
  split <;> split <;> omega
theorem hdB_neg (n : Int) (k : Nat) (h : k ≤ 8) : (hdB n k).toNat < 128 ↔ n < 0 := by
  rw [hdB_nat n k h]
  split
  · exact ⟨fun _ => by assumption, fun _ => by omega⟩
  · exact ⟨fun _ => by omega, fun _ => by omega⟩
theorem sub_sub_u8 (d : UInt8) : 255 - (255 - d) = d := by
  apply UInt8.toNat_inj.1
  have := d.toNat_lt
  rw [sub255, sub255]
  omega
theorem flD_flip (n : Int) (k : Nat) (h : k ≤ 8) (d : UInt8) : flD (hdB n k) (flipB n d) = d := by
  unfold flD flipB
  by_cases hn : n < 0
  · rw [if_pos ((hdB_neg n k h).2 hn), if_pos hn, sub_sub_u8]
  · rw [if_neg (fun e => hn ((hdB_neg n k h).1 e)), if_neg hn]

abbrev inR (n : Int) : Prop := -9223372036854775808 ≤ n ∧ n ≤ 9223372036854775807
theorem magn_lt {n : Int} (h : inR n) : magn n < 9223372036854775808 := by
  unfold magn
  split <;> omega
theorem magn_of (n : Int) : n = if n < 0 then -1 - (magn n : Int) else magn n := by
  unfold magn
  split <;> omega
theorem intB_len (n : Int) : (intB n).length = (digs (magn n)).length + 1 := by simp [intB_eq]
theorem intB_len9 {n : Int} (h : inR n) : 1 ≤ (intB n).length ∧ (intB n).length ≤ 9 := by
  have := digs_len _ (magn_lt h)
  rw [intB_len]
  omega

theorem gI_intB {n : Int} (h : inR n) (t : List UInt8) : gI (intB n ++ t) = (n, (intB n).length, 0) := by
  have hk := digs_len _ (magn_lt h)
  have hm := magn_lt h
  rw [intB_eq, List.cons_append]
  have hko := hdB_kOf n _ hk
  have hds : ((((digs (magn n)).reverse.map (flipB n) ++ t).take (digs (magn n)).length).map (flD (hdB n (digs (magn n)).length))) = (digs (magn n)).reverse := by
    rw [List.take_append_of_le_length (by simp), List.take_of_length_le (by simp), List.map_map]
    conv => rhs; rw [← List.map_id (digs (magn n)).reverse]
    exact List.map_congr_left fun d _ => flD_flip n _ hk d
  rw [gI_good (by omega) (by rw [hko]; simp), hko, hds, digs_val _ hm]
  · have := magn_of n
    by_cases hn : n < 0
    · rw [if_pos ((hdB_neg n _ hk).2 hn)]
      rw [if_pos hn] at this
      rw [← this]
      simp
    · rw [if_neg (fun e => hn ((hdB_neg n _ hk).1 e))]
      rw [if_neg hn] at this
      rw [← this]
      simp
  · rw [hko, hds, digs_val _ hm]
    rintro (h1 | h1)
    · exact digs_head _ hm h1
    · omega

theorem kOf_hd (h : UInt8) (n : Int) (hk : kOf h ≤ 8) (hn : n < 0 ↔ h.toNat < 128) : hdB n (kOf h) = h := by
  apply UInt8.toNat_inj.1
  rw [hdB_nat n _ hk]
  have := h.toNat_lt
  unfold kOf
  by_cases h1 : h.toNat < 128
  · rw [if_pos (hn.2 h1), if_pos h1]
    omega
  · rw [if_neg (fun e => h1 (hn.1 e)), if_neg h1]
    omega

theorem flip_flD (n : Int) (h d : UInt8) (hn : n < 0 ↔ h.toNat < 128) : flipB n (flD h d) = d := by
  unfold flD flipB
  by_cases h1 : h.toNat < 128
  · rw [if_pos (hn.2 h1), if_pos h1, sub_sub_u8]
  · rw [if_neg (fun e => h1 (hn.1 e)), if_neg h1]

theorem magn_sgn (m : Nat) (b : Prop) [Decidable b] : magn (if b then -1 - (m : Int) else m) = m ∧ ((if b then -1 - (m : Int) else m) < 0 ↔ b) := by
  by_cases hb : b
  · rw [if_pos hb]
    unfold magn
    rw [if_pos (by omega)]
    exact ⟨by omega, fun _ => hb, fun _ => by omega⟩
  · rw [if_neg hb]
    unfold magn
    rw [if_neg (by omega)]
    exact ⟨by omega, fun _ => by omega, fun h => absurd h hb⟩

/-- What is encoded of digits. -/
theorem intB_of (h : UInt8) (ds : List UInt8) (hk : kOf h = ds.length) (hl : ds.length ≤ 8) (hz : ds.head? ≠ some 0) :
    intB (if h.toNat < 128 then -1 - (valB ds : Int) else valB ds) = h :: ds.map (fun d => flipB (if h.toNat < 128 then -1 - (valB ds : Int) else valB ds) d) := by
  obtain ⟨h1, h2⟩ := magn_sgn (valB ds) (h.toNat < 128)
  rw [intB_eq, h1, digs_of ds hl hz, List.reverse_reverse, List.length_reverse, ← hk, kOf_hd h _ (by omega) h2]

theorem gI_ok {b : List UInt8} {n : Int} {u : Nat} (hg : gI b = (n, u, 0)) : u ≤ b.length ∧ b.take u = intB n ∧ inR n := by
  cases b with
  | nil => simp [gI] at hg
  | cons h t =>
    by_cases h1 : 8 < kOf h
    · rw [gI_form h1] at hg
      simp at hg
    · by_cases h2 : t.length < kOf h
      · rw [gI_more h1 h2] at hg
        simp at hg
      · by_cases h3 : ((t.take (kOf h)).map (flD h)).head? = some 0 ∨ 9223372036854775808 ≤ valB ((t.take (kOf h)).map (flD h))
        · rw [gI_bad h1 h2 h3] at hg
          simp at hg
        · rw [gI_good h1 h2 h3] at hg
          simp only [Prod.mk.injEq, and_true] at hg
          obtain ⟨rfl, rfl⟩ := hg
          have hdl : ((t.take (kOf h)).map (flD h)).length = kOf h := by simp; omega
          obtain ⟨ds, hds⟩ : ∃ ds, ds = (t.take (kOf h)).map (flD h) := ⟨_, rfl⟩
          rw [← hds] at h3 hdl ⊢
          obtain ⟨m1, m2⟩ := magn_sgn (valB ds) (h.toNat < 128)
          refine ⟨by simp; omega, ?_, ?_⟩
          · rw [intB_of h ds hdl.symm (by omega) (fun e => h3 (.inl e)), List.take_succ_cons, hds, List.map_map]
            rw [← hds]
            congr 1
            conv => lhs; rw [← List.map_id (t.take (kOf h))]
            exact List.map_congr_left fun d _ => (flip_flD _ h d m2).symm
          · constructor <;> split <;> omega

theorem gI_cut {n : Int} (h : inR n) {i : Nat} (hi : i < (intB n).length) : gI ((intB n).take i) = (0, 0, 3) := by
  have hk := digs_len _ (magn_lt h)
  rw [intB_eq] at hi ⊢
  cases i with
  | zero => rfl
  | succ j =>
    have hko := hdB_kOf n _ hk
    rw [List.take_succ_cons]
    exact gI_more (by omega) (by rw [hko]; simp at hi ⊢; omega)

theorem gI_err {b : List UInt8} {n : Int} {u : Nat} {e : Int} (hg : gI b = (n, u, e)) : e = 0 ∨ (n = 0 ∧ u = 0 ∧ (e = 2 ∨ e = 3)) := by
  cases b with
  | nil =>
    simp [gI] at hg
    right
    omega
  | cons h t =>
    rw [gI] at hg
    split at hg
    · simp at hg
      right
      omega
    · split at hg
      · simp at hg
        right
        omega
      · split at hg
        · simp at hg
          right
          omega
        · simp only [Prod.mk.injEq] at hg
          exact .inl hg.2.2.symm
theorem gI_le (b : List UInt8) : (gI b).2.1 ≤ b.length := by
  obtain ⟨⟨n, u, e⟩, hg⟩ : ∃ x, x = gI b := ⟨_, rfl⟩
  rw [← hg]
  rcases gI_err hg.symm with h | h
  · subst h
    exact (gI_ok hg.symm).1
  · simp [h.2.1]
theorem gI_pos {b : List UInt8} {n : Int} {u : Nat} (hg : gI b = (n, u, 0)) : 1 ≤ u ∧ u ≤ 9 := by
  obtain ⟨h1, h2, h3⟩ := gI_ok hg
  have := intB_len9 h3
  rw [← h2, List.length_take] at this
  omega
end Go.PM
