/- Plain laws of the encodings: what is decoded of an encoding, of its beginning, and what is encoded of what was decoded. Conditions: none but those that each names. -/
import Derived.Test.YtaiflmbhciophaaWn
set_option linter.unusedSimpArgs false
set_option linter.unusedVariables false
namespace Go.PM
open Go.Proofs

theorem gC_enc (size : Nat) (n : Nat) (r : List UInt8) (hs : 1 ≤ size) (hn : n ≤ 9223372036854775807) (h : n * size ≤ r.length) : gC size (intB n ++ r) = ((n : Int), (intB n).length, 0) := by
  have hg := gI_intB (n := n) ⟨by omega, by omega⟩ r
  unfold gC
  rw [hg]
  rw [if_neg (by simp), if_neg (by simp only; omega), if_neg]
  simp only [List.length_append]
  rw [show (intB n).length + r.length - (intB n).length = r.length by omega]
  have : (n : Int) ≤ (r.length : Int) / size := by
    rw [Int.le_ediv_iff_mul_le (by omega)]
    exact_mod_cast h
  omega
theorem gC_short (size : Nat) (n : Nat) (r : List UInt8) (hs : 1 ≤ size) (hn : n ≤ 9223372036854775807) (h : r.length < n * size) : gC size (intB n ++ r) = (0, 0, 3) := by
  have hg := gI_intB (n := n) ⟨by omega, by omega⟩ r
  unfold gC
  rw [hg]
  rw [if_neg (by simp), if_neg (by simp only; omega), if_pos]
  simp only [List.length_append]
  rw [show (intB n).length + r.length - (intB n).length = r.length by omega]
  rw [Int.ediv_lt_iff_lt_mul (by omega)]
  exact_mod_cast h
theorem gC_cut (size : Nat) (n : Nat) (i : Nat) (hn : n ≤ 9223372036854775807) (h : i < (intB n).length) : gC size ((intB n).take i) = (0, 0, 3) := by
  have hg := gI_cut (n := n) ⟨by omega, by omega⟩ h
  unfold gC
  rw [hg]
  rw [if_pos (by simp)]

theorem gS_enc (s t : List UInt8) (h : s.length ≤ 4294967296) : gS (bytesB s ++ t) = (s, (bytesB s).length, 0) := by
  have hg := gC_enc 1 s.length (s ++ t) (by omega) (by omega) (by simp)
  unfold gS bytesB
  rw [List.append_assoc, hg, if_neg (by simp)]
  simp
theorem gS_cut (s : List UInt8) (i : Nat) (h : s.length ≤ 4294967296) (hi : i < (bytesB s).length) : (gS ((bytesB s).take i)).2.2 = 3 := by
  unfold bytesB at hi ⊢
  rw [List.length_append] at hi
  have hg : gC 1 ((intB s.length ++ s).take i) = (0, 0, 3) := by
    by_cases h1 : i < (intB s.length).length
    · rw [List.take_append_of_le_length (by omega)]
      exact gC_cut 1 s.length i (by omega) h1
    · rw [List.take_append, List.take_of_length_le (by omega)]
      exact gC_short 1 s.length _ (by omega) (by omega) (by rw [List.length_take]; omega)
  unfold gS
  rw [hg, if_pos (by simp)]
theorem gC_take {size : Nat} {b : List UInt8} (hs : 1 ≤ size) (h : (gC size b).2.2 = 0) : b.take (gC size b).2.1 = intB (gC size b).1 := by
  obtain ⟨h1, -⟩ := gC_ok hs h
  have h2 := gI_ok (b := b) (n := (gC size b).1) (u := (gC size b).2.1) (by rw [h1, ← h])
  exact h2.2.1
theorem gS_ok (b : List UInt8) (h : (gS b).2.2 = 0) : (gS b).2.1 ≤ b.length ∧ b.take (gS b).2.1 = bytesB (gS b).1 ∧ (gS b).1.length ≤ b.length := by
  unfold gS at h ⊢
  split at h
  · rename_i h1
    exact absurd h h1
  · rename_i h1
    rw [if_neg h1]
    have h2 : (gC 1 b).2.2 = 0 := by simpa using h1
    obtain ⟨h3, h4, h5, h6, h7⟩ := gC_ok (size := 1) (by omega) h2
    have h8 := gC_take (size := 1) (by omega) h2
    obtain ⟨k, hk⟩ : ∃ k : Nat, (gC 1 b).1 = k := ⟨(gC 1 b).1.toNat, by omega⟩
    have hl : ((b.drop (gC 1 b).2.1).take k).length = k := by
      rw [List.length_take, List.length_drop]
      omega
    refine ⟨by simp only; omega, ?_, ?_⟩
    · simp only [bytesB]
      rw [hk, Int.toNat_natCast, hl, ← hk, ← h8, List.take_add]
    · simp only [List.length_take, List.length_drop]
      omega

section
variable {α : Type} {g : List UInt8 → α × Nat × Int} {enc : α → List UInt8}
theorem gL_enc : ∀ (l : List α) (t : List UInt8), (∀ x ∈ l, ∀ t, g (enc x ++ t) = (x, (enc x).length, 0)) → gL g l.length (l.flatMap enc ++ t) = (l, (l.flatMap enc).length, 0)
  | [], t, _ => rfl
  | x :: l, t, h => by
    have ih := gL_enc l t fun y hy => h y (.tail _ hy)
    have hx := h x (.head _) (l.flatMap enc ++ t)
    rw [List.flatMap_cons, List.append_assoc, List.length_cons, gL, hx]
    rw [if_neg (by simp)]
    simp only [List.drop_left, ih]
    rw [if_neg (by simp), List.length_append]
theorem gLs_enc (size : Nat) (l : List α) (t : List UInt8) (hs : 1 ≤ size) (hl : l.length ≤ 4294967296) (h : ∀ x ∈ l, ∀ t, g (enc x ++ t) = (x, (enc x).length, 0)) (hsz : ∀ x ∈ l, size ≤ (enc x).length) :
    gLs g size (encL enc l ++ t) = (l, (encL enc l).length, 0) := by
  have hb : l.length * size ≤ (l.flatMap enc).length := by
    clear hl h
    induction l with
    | nil => simp
    | cons x l ih =>
      have h1 := ih fun y hy => hsz y (.tail _ hy)
      have h2 := hsz x (.head _)
      rw [List.flatMap_cons, List.length_append, List.length_cons, Nat.succ_mul]
      omega
  have hc := gC_enc size l.length (l.flatMap enc ++ t) hs (by omega) (by rw [List.length_append]; omega)
  unfold gLs encL
  rw [List.append_assoc, hc, if_neg (by simp)]
  simp only [List.drop_left, Int.toNat_natCast]
  rw [gL_enc l t h]
  unfold comb
  rw [if_neg (by simp)]
  simp
theorem gL_cut : ∀ (l : List α) (j : Nat), (∀ x ∈ l, ∀ t, g (enc x ++ t) = (x, (enc x).length, 0)) → (∀ x ∈ l, ∀ i, i < (enc x).length → (g ((enc x).take i)).2.2 = 3) → j < (l.flatMap enc).length →
    (gL g l.length ((l.flatMap enc).take j)).2.2 = 3
  | [], j, _, _, h => by simp at h
  | x :: l, j, h, hc, hj => by
    rw [List.flatMap_cons, List.length_append] at hj
    rw [List.flatMap_cons, List.length_cons, gL]
    by_cases h1 : j < (enc x).length
    · have h2 := hc x (.head _) j h1
      rw [List.take_append_of_le_length (by omega), if_pos (by rw [h2]; simp)]
      exact h2
    · have ih := gL_cut l (j - (enc x).length) (fun y hy => h y (.tail _ hy)) (fun y hy => hc y (.tail _ hy)) (by omega)
      have h2 := h x (.head _) ((l.flatMap enc).take (j - (enc x).length))
      rw [List.take_append, List.take_of_length_le (by omega), h2, if_neg (by simp)]
      simp only [List.drop_left]
      rw [if_pos (by rw [ih]; simp)]
      exact ih
theorem gLs_cut (size : Nat) (l : List α) (i : Nat) (hs : 1 ≤ size) (hl : l.length ≤ 4294967296) (h : ∀ x ∈ l, ∀ t, g (enc x ++ t) = (x, (enc x).length, 0))
    (hc : (∀ x ∈ l, ∀ i, i < (enc x).length → (g ((enc x).take i)).2.2 = 3) ∨ (∀ x ∈ l, (enc x).length = size)) (hi : i < (encL enc l).length) : (gLs g size ((encL enc l).take i)).2.2 = 3 := by
  unfold encL at hi ⊢
  rw [List.length_append] at hi
  by_cases h1 : i < (intB l.length).length
  · rw [List.take_append_of_le_length (by omega)]
    have hg := gC_cut size l.length i (by omega) h1
    unfold gLs
    rw [hg, if_pos (by simp)]
  · rw [List.take_append, List.take_of_length_le (by omega)]
    by_cases h2 : ((l.flatMap enc).take (i - (intB l.length).length)).length < l.length * size
    · have hg := gC_short size l.length _ hs (by omega) h2
      unfold gLs
      rw [hg, if_pos (by simp)]
    · have hg := gC_enc size l.length _ hs (by omega) (Nat.le_of_not_lt h2)
      unfold gLs
      rw [hg, if_neg (by simp)]
      simp only [List.drop_left, Int.toNat_natCast]
      rcases hc with hc | hc
      · have h3 := gL_cut l (i - (intB l.length).length) h hc (by omega)
        unfold comb
        rw [if_pos (by rw [h3]; simp)]
        exact h3
      · exfalso
        have hb : (l.flatMap enc).length = l.length * size := by
          clear h2 hg hi h1 hl h
          induction l with
          | nil => simp
          | cons x l ih =>
            have h4 := ih fun y hy => hc y (.tail _ hy)
            have h5 := hc x (.head _)
            rw [List.flatMap_cons, List.length_append, List.length_cons, Nat.succ_mul]
            omega
        rw [List.length_take] at h2
        omega
theorem gL_ok : ∀ (k : Nat) (b : List UInt8), (∀ b, (g b).2.2 = 0 → (g b).2.1 ≤ b.length ∧ b.take (g b).2.1 = enc (g b).1) → (gL g k b).2.2 = 0 →
    (gL g k b).2.1 ≤ b.length ∧ b.take (gL g k b).2.1 = (gL g k b).1.flatMap enc ∧ (gL g k b).1.length = k
  | 0, b, _, _ => by simp [gL]
  | k + 1, b, h, he => by
    rw [gL] at he ⊢
    split at he
    · rename_i h1
      exact absurd he h1
    · rename_i h1
      rw [if_neg h1]
      split at he
      · rename_i h2
        exact absurd he h2
      · rename_i h2
        rw [if_neg h2]
        obtain ⟨a1, a2⟩ := h b (by simpa using h1)
        obtain ⟨b1, b2, b3⟩ := gL_ok k (b.drop (g b).2.1) h (by simpa using h2)
        rw [List.length_drop] at b1
        refine ⟨by simp only; omega, ?_, by simp [b3]⟩
        simp only
        rw [List.flatMap_cons, ← a2, ← b2, List.take_add]
theorem gLs_ok (size : Nat) (b : List UInt8) (hs : 1 ≤ size) (h : ∀ b, (g b).2.2 = 0 → (g b).2.1 ≤ b.length ∧ b.take (g b).2.1 = enc (g b).1) (he : (gLs g size b).2.2 = 0) :
    (gLs g size b).2.1 ≤ b.length ∧ b.take (gLs g size b).2.1 = encL enc (gLs g size b).1 ∧ ((gLs g size b).1.length : Int) * size ≤ b.length := by
  unfold gLs at he ⊢
  split at he
  · rename_i h1
    exact absurd he h1
  · rename_i h1
    rw [if_neg h1]
    have h2 : (gC size b).2.2 = 0 := by simpa using h1
    obtain ⟨h3, h4, h5, h6, h7⟩ := gC_ok hs h2
    have h8 := gC_take hs h2
    unfold comb at he ⊢
    split at he
    · rename_i h9
      exact absurd he h9
    · rename_i h9
      rw [if_neg h9]
      obtain ⟨b1, b2, b3⟩ := gL_ok (gC size b).1.toNat (b.drop (gC size b).2.1) h (by simpa using h9)
      rw [List.length_drop] at b1
      obtain ⟨k, hk⟩ : ∃ k : Nat, (gC size b).1 = k := ⟨(gC size b).1.toNat, by omega⟩
      refine ⟨by simp only; omega, ?_, ?_⟩
      · simp only [List.nil_append]
        unfold encL
        rw [b3, ← b2, List.take_add, h8, hk, Int.toNat_natCast]
      · simp only [List.nil_append]
        rw [b3]
        rw [hk] at h7 ⊢
        rw [Int.toNat_natCast]
        omega
end

theorem gI_ok2 (b : List UInt8) (h : (gI b).2.2 = 0) : (gI b).2.1 ≤ b.length ∧ b.take (gI b).2.1 = intB (gI b).1 := by
  have := gI_ok (b := b) (n := (gI b).1) (u := (gI b).2.1) (by rw [← h])
  exact ⟨this.1, this.2.1⟩
theorem gS_ok2 (b : List UInt8) (h : (gS b).2.2 = 0) : (gS b).2.1 ≤ b.length ∧ b.take (gS b).2.1 = bytesB (gS b).1 := ⟨(gS_ok b h).1, (gS_ok b h).2.1⟩
theorem gD_enc (d t : List UInt8) (h : d.length = 16) : gD (id d ++ t) = (d, (id d).length, 0) := by
  unfold gD
  simp only [id]
  rw [List.take_append_of_le_length (by omega), List.take_of_length_le (by omega), h]
end Go.PM
