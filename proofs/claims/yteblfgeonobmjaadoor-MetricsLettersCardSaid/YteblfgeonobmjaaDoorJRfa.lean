/- Joined texts (Sa Sb Qg Qi Sc Sd Se Sf Qw Sq): the machine, the contracts, the laws. Conditions: none but those that each names. -/
import Derived.Test.YteblfgeonobmjaaDoorJf
set_option linter.unusedSimpArgs false
set_option linter.unusedVariables false
namespace Go.PM
theorem foldC_mono {a : List Ltr} {f : Font} {s : List UInt8} (i : Nat) : ∀ k, i + k ≤ a.length → (foldC a f s i).1 ≤ (foldC a f s (i + k)).1
  | 0, _ => Nat.le_refl _
  | k + 1, h => by
    refine Nat.le_trans (foldC_mono i k (by omega)) ?_
    rw [show i + (k + 1) = i + k + 1 by omega, foldC_step (a := a) (i := i + k) (by omega)]
    unfold stepC
    split
    · rename_i hc
      simp only
      omega
    · exact Nat.le_refl _
/-- Two texts at which the same letters stand, as far as they are met, have the same first character. -/
theorem foldC_same {a : List Ltr} {f : Font} {s t : List UInt8} (h0 : s.getD 0 0 = t.getD 0 0) (h : ∀ x ∈ a, fits s x = fits t x) : ∀ i, i ≤ a.length → foldC a f s i = foldC a f t i
  | 0, _ => by simp only [foldC, List.take_zero, List.foldl_nil, h0]
  | i + 1, hi => by
    rw [foldC_step (by omega), foldC_step (by omega), foldC_same h0 h i (by omega)]
    unfold stepC
    rw [h a[i] (List.getElem_mem _)]
theorem charF_same {a : List Ltr} {f : Font} {s t : List UInt8} (h0 : s.getD 0 0 = t.getD 0 0) (h : ∀ x ∈ a, fits s x = fits t x) : charF a f s = charF a f t := by
  unfold charF
  rw [foldC_same h0 h a.length (Nat.le_refl _)]
theorem take_getD0 {s : List UInt8} {n : Nat} (h : 1 ≤ n) : (s.take n).getD 0 0 = s.getD 0 0 := by
  cases s with
  | nil => simp
  | cons c s =>
    cases n with
    | zero => omega
    | succ n => simp
/-- A text that is cut behind its first character has the same first character. -/
theorem charF_take {a : List Ltr} {f : Font} {s : List UInt8} (hs : s ≠ []) {n : Nat} (hn : (charF a f s).1 ≤ n) : charF a f (s.take n) = charF a f s := by
  have hl := charF_len (a := a) (f := f) hs
  have key : ∀ i, i ≤ a.length → foldC a f (s.take n) i = foldC a f s i := by
    intro i
    induction i with
    | zero =>
      intro _
      simp only [foldC, List.take_zero, List.foldl_nil, take_getD0 (show 1 ≤ n by omega)]
    | succ i ih =>
      intro hi
      rw [foldC_step (by omega), foldC_step (by omega), ih (by omega)]
      unfold stepC
      by_cases hc : (foldC a f s i).1 < a[i].text.length ∧ fits s a[i] = true
      · have h1 : (foldC a f s (i + 1)).1 = a[i].text.length := by
          rw [foldC_step (by omega), stepC, if_pos hc]
        have h2 := foldC_mono (a := a) (f := f) (s := s) (i + 1) (a.length - (i + 1)) (by omega)
        rw [show i + 1 + (a.length - (i + 1)) = a.length by omega] at h2
        have h3 := foldC_len (a := a) (f := f) hs a.length (Nat.le_refl _)
        have h4 : a[i].text.length ≤ n := by
          have : (charF a f s).1 = (foldC a f s a.length).2.1 := rfl
          omega
        have h5 : fits (s.take n) a[i] = true := by
          have := hc.2
          simp only [fits, Bool.and_eq_true, decide_eq_true_eq] at this ⊢
          refine ⟨by rw [List.length_take]; omega, ?_⟩
          rw [List.take_take, show min a[i].text.length n = a[i].text.length by omega]
          exact this.2
        rw [if_pos hc, if_pos ⟨hc.1, h5⟩]
      · rw [if_neg hc, if_neg]
        rintro ⟨h1, h2⟩
        refine hc ⟨h1, ?_⟩
        simp only [fits, Bool.and_eq_true, decide_eq_true_eq] at h2 ⊢
        rw [List.length_take, List.take_take] at h2
        refine ⟨by omega, ?_⟩
        rw [show min a[i].text.length n = a[i].text.length by omega] at h2
        exact h2.2
  unfold charF
  rw [key a.length (Nat.le_refl _)]
/-- The length of a beginning of so many characters. -/
def lenC (cs : List (List UInt8 × Int)) (k : Nat) : Nat := ((cs.take k).flatMap (·.1)).length
/-- The characters of a beginning that ends behind a character. -/
theorem charsF_pre (a : List Ltr) (f : Font) : ∀ (k : Nat) (s : List UInt8), k ≤ (charsF a f s).length → charsF a f (s.take (lenC (charsF a f s) k)) = (charsF a f s).take k
  | 0, s, _ => by simp [lenC, charsF, charsN]
  | k + 1, s, h => by
    by_cases hs : s = []
    · subst hs
      rw [charsF_nil] at h
      simp at h
    · have hl := charF_len (a := a) (f := f) hs
      have hc := charsF_cons a f s hs
      have h1 : lenC (charsF a f s) (k + 1) = (charF a f s).1 + lenC (charsF a f (s.drop (charF a f s).1)) k := by
        unfold lenC
        rw [hc]
        simp only [List.take_succ_cons, List.flatMap_cons, List.length_append, List.length_take]
        omega
      rw [h1]
      have h2 : s.take ((charF a f s).1 + lenC (charsF a f (s.drop (charF a f s).1)) k) ≠ [] := by
        intro e
        have := congrArg List.length e
        rw [List.length_take] at this
        simp only [List.length_nil] at this
        have := List.length_pos_iff.2 hs
        omega
      rw [charsF_cons a f _ h2, charF_take hs (by omega), List.take_take, hc, List.take_succ_cons]
      rw [show min (charF a f s).1 ((charF a f s).1 + lenC (charsF a f (s.drop (charF a f s).1)) k) = (charF a f s).1 by omega]
      congr 1
      rw [List.drop_take, show (charF a f s).1 + lenC (charsF a f (s.drop (charF a f s).1)) k - (charF a f s).1 = lenC (charsF a f (s.drop (charF a f s).1)) k by omega]
      refine charsF_pre a f k _ ?_
      rw [hc] at h
      simpa using h
/-- No letter's text has the byte c. -/
def freeOf (a : List Ltr) (c : UInt8) : Prop := ∀ x ∈ a, c ∉ x.text
theorem fits_cons_free {a : List Ltr} {c : UInt8} (h : freeOf a c) {r t : List UInt8} {x : Ltr} (hx : x ∈ a) : fits (r ++ c :: t) x = fits r x := by
  rw [Bool.eq_iff_iff]
  simp only [fits, Bool.and_eq_true, decide_eq_true_eq, List.length_append, List.length_cons]
  constructor
  · rintro ⟨h1, h2⟩
    have h3 : x.text.length ≤ r.length := by
      rcases Nat.lt_or_ge r.length x.text.length with h4 | h4
      · exfalso
        refine h x hx ?_
        rw [← h2, List.take_append, List.mem_append]
        refine .inr ?_
        rw [show x.text.length - r.length = (x.text.length - r.length - 1) + 1 by omega, List.take_succ_cons]
        exact .head _
      · exact h4
    refine ⟨h3, ?_⟩
    rw [List.take_append_of_le_length h3] at h2
    exact h2
  · rintro ⟨h1, h2⟩
    refine ⟨by omega, ?_⟩
    rw [List.take_append_of_le_length h1]
    exact h2
/-- A text in which a byte stands that belongs to no letter: the characters ahead of it, the byte, those behind it. -/
theorem charsF_sep {a : List Ltr} {f : Font} {c : UInt8} (h : freeOf a c) (ht : ∀ x ∈ a, x.text ≠ []) : ∀ (n : Nat) (r t : List UInt8), r.length ≤ n → charsF a f (r ++ c :: t) = charsF a f r ++ ([c], singleF f c) :: charsF a f t
  | n, [], t, _ => by
    rw [charsF_nil, List.nil_append, List.nil_append, charsF_cons a f _ (by simp)]
    have h1 : charF a f (c :: t) = (1, singleF f c) := by
      have : ∀ i, i ≤ a.length → foldC a f (c :: t) i = (0, 1, singleF f c) := by
        intro i
        induction i with
        | zero =>
          intro _
          simp [foldC]
        | succ i ih =>
          intro hi
          rw [foldC_step (by omega), ih (by omega), stepC, if_neg]
          rintro ⟨h1, h2⟩
          have h3 := fits_cons_free h (r := []) (t := t) (List.getElem_mem (l := a) (n := i) (by omega))
          rw [List.nil_append] at h3
          rw [h3] at h2
          simp only [fits, Bool.and_eq_true, decide_eq_true_eq, List.length_nil] at h2
          exact ht a[i] (List.getElem_mem _) (List.length_eq_zero_iff.1 (by omega))
      unfold charF
      rw [this a.length (Nat.le_refl _)]
    rw [h1]
    simp
  | 0, c' :: r, t, hn => by simp at hn
  | n + 1, c' :: r, t, hn => by
    have hl := charF_len (a := a) (f := f) (s := c' :: r) (by simp)
    have h1 : charF a f ((c' :: r) ++ c :: t) = charF a f (c' :: r) := charF_same (by simp) (fun x hx => fits_cons_free h hx)
    rw [charsF_cons a f ((c' :: r) ++ c :: t) (by simp), h1, charsF_cons a f (c' :: r) (by simp)]
    rw [List.take_append_of_le_length hl.2, List.drop_append_of_le_length hl.2, charsF_sep h ht n _ t (by rw [List.length_drop]; simp only [List.length_cons] at hn ⊢; omega)]
    simp
/-- A valid alphabet's letters have no byte below 33 and no reserved one. -/
theorem valid_free {a : List Ltr} (h : validF a = true) {c : UInt8} (hc : okB c = false) : freeOf a c := by
  intro x hx hm
  obtain ⟨j, hj, rfl⟩ := List.mem_iff_getElem.1 hx
  have h1 := (okLtr_iff.1 (okFrom_get (validF_iff.1 h).2.2.1 hj)).1
  unfold plainB at h1
  rw [Bool.and_eq_true, List.all_eq_true] at h1
  rw [h1.1 c hm] at hc
  cases hc
theorem valid_ne {a : List Ltr} (h : validF a = true) : ∀ x ∈ a, x.text ≠ [] := by
  intro x hx
  obtain ⟨j, hj, rfl⟩ := List.mem_iff_getElem.1 hx
  exact (valid_text h hj).1
/-- A text of bytes that belong to no letter. -/
theorem charsF_free {a : List Ltr} {f : Font} (ht : ∀ x ∈ a, x.text ≠ []) : ∀ s : List UInt8, (∀ c ∈ s, freeOf a c) → charsF a f s = s.map fun c => ([c], singleF f c)
  | [], _ => rfl
  | c :: s, h => by
    have := charsF_sep (f := f) (h c (List.mem_cons_self)) ht 0 [] s (Nat.le_refl _)
    rw [List.nil_append, charsF_nil, List.nil_append] at this
    rw [this, charsF_free ht s (fun d hd => h d (List.mem_cons_of_mem _ hd)), List.map_cons]
end Go.PM

namespace Go.PM
/-- What a character adds to the width behind the character 'last'. -/
def incF (f : Font) (bold : Bool) (last : List UInt8) (c : List UInt8 × Int) : Int := max 0 (boldF f bold c.2 - kernF f.kerns last c.1)
def runW (f : Font) (bold : Bool) : List UInt8 → Int → List (List UInt8 × Int) → List Int
  | _, _, [] => []
  | last, sum, c :: cs => (sum + incF f bold last c) :: runW f bold c.1 (sum + incF f bold last c) cs
def totW (f : Font) (bold : Bool) : List UInt8 → List (List UInt8 × Int) → Int
  | _, [] => 0
  | last, c :: cs => incF f bold last c + totW f bold c.1 cs
def lastC : List UInt8 → List (List UInt8 × Int) → List UInt8
  | last, [] => last
  | _, c :: cs => lastC c.1 cs
def endsF : Nat → List (List UInt8 × Int) → List Nat
  | _, [] => []
  | at_, c :: cs => (at_ + c.1.length) :: endsF (at_ + c.1.length) cs
theorem incF_nn (f : Font) (bold : Bool) (last : List UInt8) (c : List UInt8 × Int) : 0 ≤ incF f bold last c := by unfold incF; omega
theorem fold_run (f : Font) (bold : Bool) : ∀ (cs : List (List UInt8 × Int)) (st : Nat × Int × List UInt8 × List (Nat × Int)),
    ((cs.foldl (stepM f bold) st).2.2.2).map (·.2) = st.2.2.2.map (·.2) ++ runW f bold st.2.2.1 st.2.1 cs ∧ ((cs.foldl (stepM f bold) st).2.2.2).map (·.1) = st.2.2.2.map (·.1) ++ endsF st.1 cs
  | [], st => by simp [runW, endsF]
  | c :: cs, st => by
    obtain ⟨h1, h2⟩ := fold_run f bold cs (stepM f bold st c)
    rw [List.foldl_cons, h1, h2]
    simp only [stepM, runW, endsF, incF, List.map_append, List.map_cons, List.map_nil, List.append_assoc, List.singleton_append, and_self]
theorem runW_len (f : Font) (bold : Bool) : ∀ (cs : List (List UInt8 × Int)) (last : List UInt8) (sum : Int), (runW f bold last sum cs).length = cs.length
  | [], _, _ => rfl
  | c :: cs, _, _ => by simp [runW, runW_len f bold cs]
theorem runW_app (f : Font) (bold : Bool) : ∀ (cs ds : List (List UInt8 × Int)) (last : List UInt8) (sum : Int), runW f bold last sum (cs ++ ds) = runW f bold last sum cs ++ runW f bold (lastC last cs) (sum + totW f bold last cs) ds
  | [], ds, last, sum => by simp [runW, lastC, totW]
  | c :: cs, ds, last, sum => by
    simp only [List.cons_append, runW, lastC, totW]
    rw [runW_app f bold cs ds, Int.add_assoc]
theorem totW_app (f : Font) (bold : Bool) : ∀ (cs ds : List (List UInt8 × Int)) (last : List UInt8), totW f bold last (cs ++ ds) = totW f bold last cs + totW f bold (lastC last cs) ds
  | [], ds, last => by simp [lastC, totW]
  | c :: cs, ds, last => by
    simp only [List.cons_append, lastC, totW]
    rw [totW_app f bold cs ds, Int.add_assoc]
theorem runW_at (f : Font) (bold : Bool) : ∀ (cs : List (List UInt8 × Int)) (last : List UInt8) (sum : Int) (i : Nat), i < cs.length → (runW f bold last sum cs)[i]? = some (sum + totW f bold last (cs.take (i + 1)))
  | [], _, _, i, h => by simp at h
  | c :: cs, last, sum, 0, h => by simp [runW, totW]
  | c :: cs, last, sum, i + 1, h => by
    simp only [runW, List.getElem?_cons_succ, List.take_succ_cons, totW]
    rw [runW_at f bold cs _ _ i (by simpa using h), Int.add_assoc]
theorem runW_take (f : Font) (bold : Bool) : ∀ (k : Nat) (cs : List (List UInt8 × Int)) (last : List UInt8) (sum : Int), runW f bold last sum (cs.take k) = (runW f bold last sum cs).take k
  | 0, _, _, _ => by simp [runW]
  | k + 1, [], _, _ => by simp [runW]
  | k + 1, c :: cs, last, sum => by
    simp only [List.take_succ_cons, runW]
    rw [runW_take f bold k cs]
theorem totW_nn (f : Font) (bold : Bool) : ∀ (cs : List (List UInt8 × Int)) (last : List UInt8), 0 ≤ totW f bold last cs
  | [], _ => Int.le_refl _
  | c :: cs, last => by
    have := incF_nn f bold last c
    have := totW_nn f bold cs c.1
    simp only [totW]
    omega
theorem totW_mono (f : Font) (bold : Bool) (cs : List (List UInt8 × Int)) (last : List UInt8) {i j : Nat} (h : i ≤ j) : totW f bold last (cs.take i) ≤ totW f bold last (cs.take j) := by
  have e : cs.take j = cs.take i ++ (cs.take j).drop i := by
    have := (List.take_append_drop i (cs.take j)).symm
    rw [List.take_take, Nat.min_eq_left h] at this
    exact this
  rw [e, totW_app]
  have := totW_nn f bold ((cs.take j).drop i) (lastC last (cs.take i))
  omega
/-- Each byte belongs to a character. -/
def okC (cs : List (List UInt8 × Int)) : Prop := ∀ c ∈ cs, c.2 ≠ 0
theorem meas_ok {a : List Ltr} {f : Font} {s : List UInt8} {bold : Bool} (hs : s.length ≤ 65536) (h : okC (charsF a f s)) :
    (measF a f s bold).1.map (·.2) = runW f bold [] 0 (charsF a f s) ∧ (measF a f s bold).1.map (·.1) = endsF 0 (charsF a f s) ∧ (measF a f s bold).2 = 0 ∧ (measF a f s bold).1.length = (charsF a f s).length := by
  rw [measF_ok hs h]
  have := fold_run f bold (charsF a f s) (0, 0, [], [])
  simp only [foldM, List.take_length]
  simp only [List.map_nil, List.nil_append] at this
  refine ⟨this.1, this.2, trivial, ?_⟩
  have h2 := congrArg List.length this.1
  rw [List.length_map, runW_len] at h2
  exact h2
theorem widths_ok {a : List Ltr} {f : Font} {s : List UInt8} {bold : Bool} (hv : validF a = true) (hf : okFont f = true) (hs : s.length ≤ 65536) (h : okC (charsF a f s)) : widthsF a f s bold = (runW f bold [] 0 (charsF a f s), 0) := by
  obtain ⟨h1, _, h2, _⟩ := meas_ok (bold := bold) hs h
  unfold widthsF
  rw [hv, hf, h1, h2]
  rfl
theorem widths_bad {a : List Ltr} {f : Font} {s : List UInt8} {bold : Bool} (hv : validF a = true) (hf : okFont f = true) (hs : s.length ≤ 65536) (h : ¬ okC (charsF a f s)) : widthsF a f s bold = ([], 2) := by
  unfold widthsF
  rw [hv, hf, measF_bad hs (by
    refine Classical.byContradiction fun hn => h fun c hc e => hn ⟨c, hc, e⟩)]
  rfl
theorem width_ok {a : List Ltr} {f : Font} {s : List UInt8} {bold : Bool} (hv : validF a = true) (hf : okFont f = true) (hs : s.length ≤ 65536) (h : okC (charsF a f s)) : widthF a f s bold = (totW f bold [] (charsF a f s), 0) := by
  unfold widthF
  rw [widths_ok hv hf hs h]
  generalize charsF a f s = cs
  by_cases hc : cs = []
  · subst hc
    rfl
  · have hp := List.length_pos_iff.2 hc
    have hl := runW_len f bold cs [] 0
    rw [if_neg (by
      intro e
      simp only at e
      rw [e] at hl
      simp at hl
      omega)]
    simp only [Prod.mk.injEq, and_true]
    rw [List.getD_eq_getElem?_getD, hl, runW_at f bold cs [] 0 _ (by omega), show cs.length - 1 + 1 = cs.length by omega, List.take_length]
    simp
theorem width_bad {a : List Ltr} {f : Font} {s : List UInt8} {bold : Bool} (hv : validF a = true) (hf : okFont f = true) (hs : s.length ≤ 65536) (h : ¬ okC (charsF a f s)) : widthF a f s bold = (0, 2) := by
  unfold widthF
  rw [widths_bad hv hf hs h]
  rfl
theorem endsF_at : ∀ (cs : List (List UInt8 × Int)) (n i : Nat), i < cs.length → (endsF n cs)[i]? = some (n + lenC cs (i + 1))
  | [], _, i, h => by simp at h
  | c :: cs, n, 0, h => by simp [endsF, lenC]
  | c :: cs, n, i + 1, h => by
    simp only [endsF, List.getElem?_cons_succ]
    rw [endsF_at cs _ i (by simpa using h)]
    simp only [lenC, List.take_succ_cons, List.flatMap_cons, List.length_append]
    rw [Nat.add_assoc]
/-- What Fit finds: the beginning of k characters, none wider, the next one wider. -/
theorem fit_k {f : Font} {bold : Bool} {cs : List (List UInt8 × Int)} {l : List (Nat × Int)} (h1 : l.map (·.2) = runW f bold [] 0 cs) (h2 : l.map (·.1) = endsF 0 cs) (hl : l.length = cs.length) (most : Int) (hm : 0 ≤ most) :
    ∀ i, i ≤ l.length → ∃ k, k ≤ i ∧ fitL most l i = lenC cs k ∧ totW f bold [] (cs.take k) ≤ most ∧ (k < i → most < totW f bold [] (cs.take (k + 1)))
  | 0, _ => ⟨0, Nat.le_refl _, by simp [fitL, lenC], by simpa [totW] using hm, by omega⟩
  | i + 1, hi => by
    obtain ⟨k, k1, k2, k3, k4⟩ := fit_k h1 h2 hl most hm i (by omega)
    have w1 : l[i].2 = totW f bold [] (cs.take (i + 1)) := by
      have := runW_at f bold cs [] 0 i (by omega)
      rw [← h1, List.getElem?_map, List.getElem?_eq_getElem (by omega)] at this
      simpa using this
    have w2 : l[i].1 = lenC cs (i + 1) := by
      have := endsF_at cs 0 i (by omega)
      rw [← h2, List.getElem?_map, List.getElem?_eq_getElem (by omega)] at this
      simpa using this
    rw [fitL_step (by omega), w1, w2]
    split
    · rename_i hc
      exact ⟨i + 1, Nat.le_refl _, rfl, hc, by omega⟩
    · rename_i hc
      refine ⟨k, by omega, k2, k3, fun _ => ?_⟩
      by_cases hk : k < i
      · exact k4 hk
      · have : k = i := by omega
        subst this
        omega
end Go.PM

namespace Go.PM
open Go.Proofs
attribute [local irreducible] W PCalls pcall pcallI WL
set_option maxRecDepth 100000
set_option maxHeartbeats 8000000
/-- The letters by their texts. -/
def mA (a : List Ltr) : List (List UInt8 × Nat) := growM (texts a) 0 []
/-- The longest text of at most n bytes with which s begins. -/
def hitN (a : List Ltr) (s : List UInt8) : Nat → Option (Nat × Nat)
  | 0 => none
  | n + 1 => match getM (s.take (n + 1)) (mA a) with
    | some i => some (i, n + 1)
    | none => hitN a s n
def hit (a : List Ltr) (s : List UInt8) : Option (Nat × Nat) := hitN a s (min 4 s.length)
def readW (a : List Ltr) : Nat → List UInt8 → List Int × Nat
  | 0, _ => ([], 0)
  | f + 1, s => match hit a s with
    | none => ([], 0)
    | some (i, n) => ((i : Int) :: (readW a f (s.drop n)).1, n + (readW a f (s.drop n)).2)
def readF (a : List Ltr) (s : List UInt8) : List Int × Int :=
  if validF a then ((readW a s.length s).1, if (readW a s.length s).2 = s.length then -1 else (readW a s.length s).2) else ([], 0)
theorem hitN_le {a : List Ltr} {s : List UInt8} {i m : Nat} : ∀ {n : Nat}, hitN a s n = some (i, m) → 1 ≤ m ∧ m ≤ n
  | 0, h => by simp [hitN] at h
  | n + 1, h => by
    unfold hitN at h
    split at h
    · simp only [Option.some.injEq, Prod.mk.injEq] at h
      omega
    · have := hitN_le h
      omega
theorem hit_le {a : List Ltr} {s : List UInt8} {i m : Nat} (h : hit a s = some (i, m)) : 1 ≤ m ∧ m ≤ 4 ∧ m ≤ s.length := by
  have := hitN_le h
  omega
theorem readW_nil {a : List Ltr} : ∀ f : Nat, readW a f [] = ([], 0)
  | 0 => rfl
  | f + 1 => rfl
theorem readW_hit {a : List Ltr} {f : Nat} {s : List UInt8} {i n : Nat} (h : hit a s = some (i, n)) : readW a (f + 1) s = ((i : Int) :: (readW a f (s.drop n)).1, n + (readW a f (s.drop n)).2) := by
  rw [readW, h]
theorem readW_le {a : List Ltr} : ∀ (f : Nat) (s : List UInt8), (readW a f s).2 ≤ s.length ∧ (readW a f s).1.length ≤ (readW a f s).2
  | 0, s => by simp [readW]
  | f + 1, s => by
    unfold readW
    cases h : hit a s with
    | none => simp
    | some x =>
      obtain ⟨i, n⟩ := x
      have h1 := hit_le h
      obtain ⟨h2, h3⟩ := readW_le f (s.drop n)
      rw [List.length_drop] at h2
      show n + (readW a f (s.drop n)).2 ≤ s.length ∧ ((i : Int) :: (readW a f (s.drop n)).1).length ≤ n + (readW a f (s.drop n)).2
      generalize readW a f (s.drop n) = q at h2 h3 ⊢
      rw [List.length_cons]
      obtain ⟨h4, h5, h6⟩ := h1
      exact ⟨by omega, by omega⟩
/-- Numbers read so far, beside the map. -/
theorem read_c (G : Globs) (a : List Ltr) (s : List UInt8) (ha : HA a) (hs : s.length ≤ 100000000) : PCalls Tryd.prog G 51 [ltsP a, pstr s] [] (fun res H => ∃ o, res = .tuple [o, pint .i64 (readF a s).2] ∧ CRI (readF a s).1 o H) := by
  have c1 := index_c G a ha.1 ha.2
  (refine PCalls_f Tryd.func51 rfl Tryd.ntmps51 Tryd.results51 (by simp) fun fin hfin => ?_; have hnm : True := trivial; simp (maxSteps := 2000000) (disch := omega) only [evb, evd, eve, constPV, seqK, blockK, scopeK, pbound, pelems, PV.mem?, PV.one, PV.cells, peqs, peq1, pkeys, pkeyt, List.set, Value.cells, ↓popG_eq, ↓pop.eq_1, ↓List.getElem?_map, ↓List.getElem?_cons_zero, ↓List.getElem?_cons_succ, Value.oneCell', Nat.reduceAdd, Nat.reduceMul, Nat.reduceSub, Nat.reduceLeDiff, Nat.reduceEqDiff, ↓reduceIte, ne_eq, reduceCtorEq, forall_const, exists_and_left, exists_eq_left', eq_self, Nat.reduceLT, Int.reduceLT, Int.reduceLE, Int.reduceToNat, Int.reduceAdd, Int.reduceSub, Int.reduceNeg, hnm, Tryd.tf0, Tryd.tf1, Tryd.tf3, Tryd.tf4, Tryd.tf9, Tryd.tf22, Tryd.tf23, Tryd.tf60, Tryd.tf98, Tryd.tf99, Tryd.call64])
  repeat' (first
    | (with_reducible apply W_seq_k; intro nx hnx)
    | (with_reducible first | apply W_block | apply W_scope)
    | (with_reducible refine W_prune 4083 ?_; simp only [prb, Nat.reducePow, Nat.reduceDiv, Nat.reduceMod, Nat.reduceBEq]; with_reducible apply W_region_l)
    | ((first | (with_reducible apply WL_op; intro nx hnx) | with_reducible refine Ev_out ?_ | (with_reducible refine pfresh_k hnm fun nm hnm => ?_; (try simp only [fmb] at hnm)) | (with_reducible refine pborn_mu hnm fun nm hnm => ?_; (try simp only [fmb] at hnm)) | (with_reducible refine pmaybe_k ?_; intro bn hbn)); try (simp (maxSteps := 2000000) (disch := omega) only [evb, evd, eve, constPV, seqK, blockK, scopeK, pbound, pelems, PV.mem?, PV.one, PV.cells, peqs, peq1, pkeys, pkeyt, List.set, Value.cells, ↓popG_eq, ↓pop.eq_1, ↓List.getElem?_map, ↓List.getElem?_cons_zero, ↓List.getElem?_cons_succ, Value.oneCell', Nat.reduceAdd, Nat.reduceMul, Nat.reduceSub, Nat.reduceLeDiff, Nat.reduceEqDiff, ↓reduceIte, ne_eq, reduceCtorEq, forall_const, exists_and_left, exists_eq_left', eq_self, Nat.reduceLT, Int.reduceLT, Int.reduceLE, Int.reduceToNat, Int.reduceAdd, Int.reduceSub, Int.reduceNeg, hnm, Tryd.tf0, Tryd.tf1, Tryd.tf3, Tryd.tf4, Tryd.tf9, Tryd.tf22, Tryd.tf23, Tryd.tf60, Tryd.tf98, Tryd.tf99, Tryd.call64]); repeat (refine And.intro (by omega) ?_))
    | ((with_reducible first | apply WL_nil | apply W_label | apply W_skip | apply W_exit | apply W_ret); try simp only [seqK, blockK, scopeK, ↓reduceIte, Nat.reduceEqDiff])
    | (with_reducible apply W_cond_k; intro _ _ ea eb; (simp only [condK, cob, opnd, constPV, Nat.reduceEqDiff, Nat.reduceLT, ↓reduceIte, hcb, reduceCtorEq, forall_const, ne_eq]); subst ea eb; first | (refine ⟨fun hc => ?_, fun hc => ?_⟩ <;> first | (exfalso; omega) | (exfalso; exact hc trivial) | skip) | skip)
    | (with_reducible apply hnx; clear hnx nx)
    | (with_reducible refine And.intro (by omega) ?_)
    | (with_reducible refine And.intro ?_ ?_)
    | ((with_reducible refine pcall_k c1 ?_; rintro _ _ (⟨hv, rfl, rfl⟩ | ⟨hv, mn, rfl, rfl⟩) - <;> refine Ev_in ?_))
    | (clear hnx nx; with_reducible apply hnx; clear hnx nx)
    | (clear hnx nx; clear hnx nx; with_reducible apply hnx; clear hnx nx))
  · refine hfin _ _ (Fin_ret2 rfl rfl (Sub_nil _) ?_); simp only [List.getD_cons_zero, List.getD_cons_succ, fr_getD_cons, fr_getD_nil, Nat.reduceEqDiff, Nat.reduceLT, ↓reduceIte]
    refine ⟨pnil, ?_, .inl ⟨?_, rfl, by trivial⟩⟩ <;> simp [readF, hv]
  · refine W_loop_k (fun z τ => ∃ (p f : Nat) (out : List Int) (o : PV) (HO : Heap), p ≤ s.length ∧ z = s.length - p ∧ s.length - p ≤ f ∧ out.length ≤ p ∧ (readW a s.length s).1 = out ++ (readW a f (s.drop p)).1 ∧ (readW a s.length s).2 = p + (readW a f (s.drop p)).2 ∧ CRI out o HO ∧ τ = ⟨fr 51 [(8, pn p), (7, o), (6, .mp mn), (1, pstr s)], (mn, ⟨99, false, 0, entsS (mA a)⟩) :: HO⟩) s.length
      ⟨fr 51 [(8, pn 0), (7, pnil), (6, .mp mn), (1, pstr s)], (mn, ⟨99, false, 0, entsS (mA a)⟩) :: []⟩ (by
      refine Wk_fr (by simp only [wkb, Nat.reduceEqDiff, Nat.reduceLT, ↓reduceIte, pn]) ?_
      exact Sub_refl (by simp [names])) ⟨0, s.length, [], _, _, by omega, by omega, by omega, by simp, by simp, by simp, .inl ⟨rfl, rfl, rfl⟩, rfl⟩ ?_
    rintro z τ ⟨p, f, out, o, HO, hp, rfl, hf, hol, hr1, hr2, hC, rfl⟩ lp hlp
    refine W_nd fun nd => ?_
    have nd3 : (mn ∉ names HO) ∧ (names HO).Nodup := by
      simp only [names, List.map_cons, List.nodup_cons] at nd
      exact nd
    by_cases hps : p < s.length
    · obtain ⟨f', rfl⟩ : ∃ f', f = f' + 1 := ⟨f - 1, by omega⟩
      repeat' (first
    | (with_reducible apply W_seq_k; intro nx hnx)
    | (with_reducible first | apply W_block | apply W_scope)
    | (with_reducible refine W_prune 4083 ?_; simp only [prb, Nat.reducePow, Nat.reduceDiv, Nat.reduceMod, Nat.reduceBEq]; with_reducible apply W_region_l)
    | ((first | (with_reducible apply WL_op; intro nx hnx) | with_reducible refine Ev_out ?_ | (with_reducible refine pfresh_k hnm fun nm hnm => ?_; (try simp only [fmb] at hnm)) | (with_reducible refine pborn_mu hnm fun nm hnm => ?_; (try simp only [fmb] at hnm)) | (with_reducible refine pmaybe_k ?_; intro bn hbn)); try (simp (maxSteps := 2000000) (disch := omega) only [evb, evd, eve, constPV, seqK, blockK, scopeK, pbound, pelems, PV.mem?, PV.one, PV.cells, peqs, peq1, pkeys, pkeyt, List.set, Value.cells, ↓popG_eq, ↓pop.eq_1, ↓List.getElem?_map, ↓List.getElem?_cons_zero, ↓List.getElem?_cons_succ, Value.oneCell', Nat.reduceAdd, Nat.reduceMul, Nat.reduceSub, Nat.reduceLeDiff, Nat.reduceEqDiff, ↓reduceIte, ne_eq, reduceCtorEq, forall_const, exists_and_left, exists_eq_left', eq_self, Nat.reduceLT, Int.reduceLT, Int.reduceLE, Int.reduceToNat, Int.reduceAdd, Int.reduceSub, Int.reduceNeg, hnm, Tryd.tf0, Tryd.tf1, Tryd.tf3, Tryd.tf4, Tryd.tf9, Tryd.tf22, Tryd.tf23, Tryd.tf60, Tryd.tf98, Tryd.tf99, Tryd.call64]); repeat (refine And.intro (by omega) ?_))
    | ((with_reducible first | apply WL_nil | apply W_label | apply W_skip | apply W_exit | apply W_ret); try simp only [seqK, blockK, scopeK, ↓reduceIte, Nat.reduceEqDiff])
    | (with_reducible apply W_cond_k; intro _ _ ea eb; (simp only [condK, cob, opnd, constPV, Nat.reduceEqDiff, Nat.reduceLT, ↓reduceIte, hcb, reduceCtorEq, forall_const, ne_eq]); subst ea eb; first | (refine ⟨fun hc => ?_, fun hc => ?_⟩ <;> first | (exfalso; omega) | (exfalso; exact hc trivial) | skip) | skip)
    | (with_reducible apply hnx; clear hnx nx)
    | (with_reducible refine And.intro (by omega) ?_)
    | (with_reducible refine And.intro ?_ ?_)
    | (clear hnx nx; with_reducible apply hnx; clear hnx nx)
    | (clear hnx nx; clear hnx nx; with_reducible apply hnx; clear hnx nx))
      all_goals first
        | exact absurd trivial hc
        | (exfalso
           omega)
        | skip
      have hmin : min 4 ((s.length : Int) - p) = ((min 4 (s.length - p) : Nat) : Int) := by omega
      rw [hmin]
      have hm4 : min 4 (s.length - p) ≤ 4 ∧ min 4 (s.length - p) ≤ s.length - p := by omega
      have hh : hitN a (s.drop p) (min 4 (s.length - p)) = hit a (s.drop p) := by
        unfold hit
        rw [List.length_drop]
      generalize min 4 (s.length - p) = m at hh hm4 ⊢
      refine W_loop_k (fun z τ => ∃ n : Nat, n ≤ m ∧ z = n ∧ hitN a (s.drop p) n = hit a (s.drop p) ∧ τ = ⟨fr 51 [(9, pn n), (8, pn p), (7, o), (6, .mp mn), (1, pstr s)], (mn, ⟨99, false, 0, entsS (mA a)⟩) :: HO⟩) m
        ⟨fr 51 [(9, pn m), (8, pn p), (7, o), (6, .mp mn), (1, pstr s)], (mn, ⟨99, false, 0, entsS (mA a)⟩) :: HO⟩ (by
        refine Wk_fr (by simp only [wkb, Nat.reduceEqDiff, Nat.reduceLT, ↓reduceIte, pn]) ?_
        exact Sub_refl (by simp only [names, List.map_cons, List.nodup_cons]; exact nd3)) ⟨m, by omega, rfl, hh, rfl⟩ ?_
      rintro n τ ⟨_, hnm2, rfl, hhn, rfl⟩ lp2 hlp2
      cases n with
      | zero =>
        have hnone : hit a (s.drop p) = none := hhn.symm
        repeat' (first
    | (with_reducible apply W_seq_k; intro nx hnx)
    | (with_reducible first | apply W_block | apply W_scope)
    | (with_reducible refine W_prune 4083 ?_; simp only [prb, Nat.reducePow, Nat.reduceDiv, Nat.reduceMod, Nat.reduceBEq]; with_reducible apply W_region_l)
    | ((first | (with_reducible apply WL_op; intro nx hnx) | with_reducible refine Ev_out ?_ | (with_reducible refine pfresh_k hnm fun nm hnm => ?_; (try simp only [fmb] at hnm)) | (with_reducible refine pborn_mu hnm fun nm hnm => ?_; (try simp only [fmb] at hnm)) | (with_reducible refine pmaybe_k ?_; intro bn hbn)); try (simp (maxSteps := 2000000) (disch := omega) only [evb, evd, eve, constPV, seqK, blockK, scopeK, pbound, pelems, PV.mem?, PV.one, PV.cells, peqs, peq1, pkeys, pkeyt, List.set, Value.cells, ↓popG_eq, ↓pop.eq_1, ↓List.getElem?_map, ↓List.getElem?_cons_zero, ↓List.getElem?_cons_succ, Value.oneCell', Nat.reduceAdd, Nat.reduceMul, Nat.reduceSub, Nat.reduceLeDiff, Nat.reduceEqDiff, ↓reduceIte, ne_eq, reduceCtorEq, forall_const, exists_and_left, exists_eq_left', eq_self, Nat.reduceLT, Int.reduceLT, Int.reduceLE, Int.reduceToNat, Int.reduceAdd, Int.reduceSub, Int.reduceNeg, hnm, Tryd.tf0, Tryd.tf1, Tryd.tf3, Tryd.tf4, Tryd.tf9, Tryd.tf22, Tryd.tf23, Tryd.tf60, Tryd.tf98, Tryd.tf99, Tryd.call64]); repeat (refine And.intro (by omega) ?_))
    | ((with_reducible first | apply WL_nil | apply W_label | apply W_skip | apply W_exit | apply W_ret); try simp only [seqK, blockK, scopeK, ↓reduceIte, Nat.reduceEqDiff])
    | (with_reducible apply W_cond_k; intro _ _ ea eb; (simp only [condK, cob, opnd, constPV, Nat.reduceEqDiff, Nat.reduceLT, ↓reduceIte, hcb, reduceCtorEq, forall_const, ne_eq]); subst ea eb; first | (refine ⟨fun hc => ?_, fun hc => ?_⟩ <;> first | (exfalso; omega) | (exfalso; exact hc trivial) | skip) | skip)
    | (with_reducible apply hnx; clear hnx nx)
    | (with_reducible refine And.intro (by omega) ?_)
    | (with_reducible refine And.intro ?_ ?_)
    | (clear hnx nx; with_reducible apply hnx; clear hnx nx)
    | (clear hnx nx; clear hnx nx; with_reducible apply hnx; clear hnx nx))
        all_goals first
          | exact absurd trivial hc
          | (exfalso
             omega)
          | skip
        have e : readW a (f' + 1) (s.drop p) = ([], 0) := by
          unfold readW
          rw [hnone]
        rw [e] at hr1 hr2
        have e2 : readF a s = (out, (p : Int)) := by
          simp [readF, hv, hr1, hr2, Nat.ne_of_lt hps]
        refine hfin _ _ (Fin_ret2 rfl rfl (H := HO) ⟨fun x hx => List.mem_cons_of_mem _ hx, nd3.2⟩ ?_)
        simp only [fr_getD_cons, Nat.reduceEqDiff, Nat.reduceLT, ↓reduceIte]
        rw [e2]
        exact ⟨o, rfl, hC⟩
      | succ n =>
        have hk0 : ((p : Int) + ((n + 1 : Nat) : Int)).toNat = p + (n + 1) := by omega
        have hkey : List.drop p (List.take (p + (n + 1)) s) = (s.drop p).take (n + 1) := by
          rw [List.drop_take, Nat.add_sub_cancel_left]
        unfold hitN at hhn
        generalize (s.drop p).take (n + 1) = t at hkey hhn
        rcases mfindS t (mA a) 0 with ⟨g1, g2, g3⟩ | ⟨j, v, g1, g2, g3⟩
        · rw [g1] at hhn
          repeat' (first
    | (with_reducible apply W_seq_k; intro nx hnx)
    | (with_reducible first | apply W_block | apply W_scope)
    | (with_reducible refine W_prune 4083 ?_; simp only [prb, Nat.reducePow, Nat.reduceDiv, Nat.reduceMod, Nat.reduceBEq]; with_reducible apply W_region_l)
    | ((first | (with_reducible apply WL_op; intro nx hnx) | with_reducible refine Ev_out ?_ | (with_reducible refine pfresh_k hnm fun nm hnm => ?_; (try simp only [fmb] at hnm)) | (with_reducible refine pborn_mu hnm fun nm hnm => ?_; (try simp only [fmb] at hnm)) | (with_reducible refine pmaybe_k ?_; intro bn hbn)); try (simp (maxSteps := 2000000) (disch := omega) only [evb, evd, eve, constPV, seqK, blockK, scopeK, pbound, pelems, PV.mem?, PV.one, PV.cells, peqs, peq1, pkeys, pkeyt, List.set, Value.cells, ↓popG_eq, ↓pop.eq_1, ↓List.getElem?_map, ↓List.getElem?_cons_zero, ↓List.getElem?_cons_succ, Value.oneCell', Nat.reduceAdd, Nat.reduceMul, Nat.reduceSub, Nat.reduceLeDiff, Nat.reduceEqDiff, ↓reduceIte, ne_eq, reduceCtorEq, forall_const, exists_and_left, exists_eq_left', eq_self, Nat.reduceLT, Int.reduceLT, Int.reduceLE, Int.reduceToNat, Int.reduceAdd, Int.reduceSub, Int.reduceNeg, hnm, Tryd.tf0, Tryd.tf1, Tryd.tf3, Tryd.tf4, Tryd.tf9, Tryd.tf22, Tryd.tf23, Tryd.tf60, Tryd.tf98, Tryd.tf99, Tryd.call64, hk0, hkey, g2]); repeat (refine And.intro (by omega) ?_))
    | ((with_reducible first | apply WL_nil | apply W_label | apply W_skip | apply W_exit | apply W_ret); try simp only [seqK, blockK, scopeK, ↓reduceIte, Nat.reduceEqDiff])
    | (with_reducible apply W_cond_k; intro _ _ ea eb; (simp only [condK, cob, opnd, constPV, Nat.reduceEqDiff, Nat.reduceLT, ↓reduceIte, hcb, reduceCtorEq, forall_const, ne_eq]); subst ea eb; first | (refine ⟨fun hc => ?_, fun hc => ?_⟩ <;> first | (exfalso; omega) | (exfalso; exact hc trivial) | skip) | skip)
    | (with_reducible apply hnx; clear hnx nx)
    | (with_reducible refine And.intro (by omega) ?_)
    | (with_reducible refine And.intro ?_ ?_)
    | (clear hnx nx; with_reducible apply hnx; clear hnx nx)
    | (clear hnx nx; clear hnx nx; with_reducible apply hnx; clear hnx nx))
          all_goals first
            | exact absurd trivial hc
            | (exfalso
               omega)
            | skip
          all_goals
            refine hlp2 _ n _ (by omega) ?_ ⟨by omega, by omega, rfl, hhn, rfl⟩
            refine Wk_fr (by simp only [wkb, Nat.reduceEqDiff, Nat.reduceLT, ↓reduceIte, pn, Int.natCast_add, Int.natCast_one, Int.add_sub_cancel]) ?_
            all_goals exact Sub_refl (by simp only [names, List.map_cons, List.nodup_cons]; exact nd3)
        · rw [g1] at hhn
          have e : readW a (f' + 1) (s.drop p) = ((v : Int) :: (readW a f' (s.drop (p + (n + 1)))).1, (n + 1) + (readW a f' (s.drop (p + (n + 1)))).2) := by
            rw [readW_hit hhn.symm, List.drop_drop]
          rw [e] at hr1 hr2
          have hr1 : (readW a s.length s).1 = (out ++ [(v : Int)]) ++ (readW a f' (s.drop (p + (n + 1)))).1 := by rw [hr1]; simp
          have hr2 : (readW a s.length s).2 = (p + (n + 1)) + (readW a f' (s.drop (p + (n + 1)))).2 := by rw [hr2]; omega
          rcases hC with ⟨rfl, rfl, rfl⟩ | ⟨nn, rfl, rfl⟩
          · repeat' (first
    | (with_reducible apply W_seq_k; intro nx hnx)
    | (with_reducible first | apply W_block | apply W_scope)
    | (with_reducible refine W_prune 4083 ?_; simp only [prb, Nat.reducePow, Nat.reduceDiv, Nat.reduceMod, Nat.reduceBEq]; with_reducible apply W_region_l)
    | ((first | (with_reducible apply WL_op; intro nx hnx) | with_reducible refine Ev_out ?_ | (with_reducible refine pfresh_k hnm fun nm hnm => ?_; (try simp only [fmb] at hnm)) | (with_reducible refine pborn_mu hnm fun nm hnm => ?_; (try simp only [fmb] at hnm)) | (with_reducible refine pmaybe_k ?_; intro bn hbn)); try (simp (maxSteps := 2000000) (disch := omega) only [evb, evd, eve, constPV, seqK, blockK, scopeK, pbound, pelems, PV.mem?, PV.one, PV.cells, peqs, peq1, pkeys, pkeyt, List.set, Value.cells, ↓popG_eq, ↓pop.eq_1, ↓List.getElem?_map, ↓List.getElem?_cons_zero, ↓List.getElem?_cons_succ, Value.oneCell', Nat.reduceAdd, Nat.reduceMul, Nat.reduceSub, Nat.reduceLeDiff, Nat.reduceEqDiff, ↓reduceIte, ne_eq, reduceCtorEq, forall_const, exists_and_left, exists_eq_left', eq_self, Nat.reduceLT, Int.reduceLT, Int.reduceLE, Int.reduceToNat, Int.reduceAdd, Int.reduceSub, Int.reduceNeg, hnm, Tryd.tf0, Tryd.tf1, Tryd.tf3, Tryd.tf4, Tryd.tf9, Tryd.tf22, Tryd.tf23, Tryd.tf60, Tryd.tf98, Tryd.tf99, Tryd.call64, hk0, hkey, g2]); repeat (refine And.intro (by omega) ?_))
    | ((with_reducible first | apply WL_nil | apply W_label | apply W_skip | apply W_exit | apply W_ret); try simp only [seqK, blockK, scopeK, ↓reduceIte, Nat.reduceEqDiff])
    | (with_reducible apply W_cond_k; intro _ _ ea eb; (simp only [condK, cob, opnd, constPV, Nat.reduceEqDiff, Nat.reduceLT, ↓reduceIte, hcb, reduceCtorEq, forall_const, ne_eq]); subst ea eb; first | (refine ⟨fun hc => ?_, fun hc => ?_⟩ <;> first | (exfalso; omega) | (exfalso; exact hc trivial) | skip) | skip)
    | (with_reducible apply hnx; clear hnx nx)
    | (with_reducible refine And.intro (by omega) ?_)
    | (with_reducible refine And.intro ?_ ?_)
    | (clear hnx nx; with_reducible apply hnx; clear hnx nx)
    | (clear hnx nx; clear hnx nx; with_reducible apply hnx; clear hnx nx))
            all_goals first
              | exact absurd trivial hc
              | (exfalso
                 omega)
              | skip
            refine hlp _ (s.length - (p + (n + 1))) ⟨fr 51 [(8, pn (p + (n + 1))), (7, .row nm 1 1), (6, .mp mn), (1, pstr s)], (mn, ⟨99, false, 0, entsS (mA a)⟩) :: [(nm, ⟨3, true, 1, [pn v]⟩)]⟩ (by omega) ?_ ⟨p + (n + 1), f', [(v : Int)], _, _, by omega, rfl, by omega, by simp; omega, hr1, hr2, .inr ⟨nm, rfl, rfl⟩, rfl⟩
            refine Wk_fr (by simp only [wkb, Nat.reduceEqDiff, Nat.reduceLT, ↓reduceIte, pn, Int.natCast_add]) ?_
            all_goals
              (try rw [List.map_append])
              refine ⟨fun x hx => ?_, by simp [names, hnm]⟩
              simp only [List.mem_cons, List.not_mem_nil, or_false] at hx ⊢
              rcases hx with rfl | rfl
              · exact .inr (.inr rfl)
              · exact .inl rfl
          · have hne : (nn = mn) = False ∧ (mn = nn) = False := by
              have := nd3.1
              simp only [names, List.map_cons, List.map_nil, List.mem_cons, List.not_mem_nil, or_false] at this
              exact ⟨eq_false fun e => this e.symm, eq_false this⟩
            repeat' (first
    | (with_reducible apply W_seq_k; intro nx hnx)
    | (with_reducible first | apply W_block | apply W_scope)
    | (with_reducible refine W_prune 4083 ?_; simp only [prb, Nat.reducePow, Nat.reduceDiv, Nat.reduceMod, Nat.reduceBEq]; with_reducible apply W_region_l)
    | ((first | (with_reducible apply WL_op; intro nx hnx) | with_reducible refine Ev_out ?_ | (with_reducible refine pfresh_k hnm fun nm hnm => ?_; (try simp only [fmb] at hnm)) | (with_reducible refine pborn_mu hnm fun nm hnm => ?_; (try simp only [fmb] at hnm)) | (with_reducible refine pmaybe_k ?_; intro bn hbn)); try (simp (maxSteps := 2000000) (disch := omega) only [evb, evd, eve, constPV, seqK, blockK, scopeK, pbound, pelems, PV.mem?, PV.one, PV.cells, peqs, peq1, pkeys, pkeyt, List.set, Value.cells, ↓popG_eq, ↓pop.eq_1, ↓List.getElem?_map, ↓List.getElem?_cons_zero, ↓List.getElem?_cons_succ, Value.oneCell', Nat.reduceAdd, Nat.reduceMul, Nat.reduceSub, Nat.reduceLeDiff, Nat.reduceEqDiff, ↓reduceIte, ne_eq, reduceCtorEq, forall_const, exists_and_left, exists_eq_left', eq_self, Nat.reduceLT, Int.reduceLT, Int.reduceLE, Int.reduceToNat, Int.reduceAdd, Int.reduceSub, Int.reduceNeg, hnm, Tryd.tf0, Tryd.tf1, Tryd.tf3, Tryd.tf4, Tryd.tf9, Tryd.tf22, Tryd.tf23, Tryd.tf60, Tryd.tf98, Tryd.tf99, Tryd.call64, hk0, hkey, g2, hne]); repeat (refine And.intro (by omega) ?_))
    | ((with_reducible first | apply WL_nil | apply W_label | apply W_skip | apply W_exit | apply W_ret); try simp only [seqK, blockK, scopeK, ↓reduceIte, Nat.reduceEqDiff])
    | (with_reducible apply W_cond_k; intro _ _ ea eb; (simp only [condK, cob, opnd, constPV, Nat.reduceEqDiff, Nat.reduceLT, ↓reduceIte, hcb, reduceCtorEq, forall_const, ne_eq]); subst ea eb; first | (refine ⟨fun hc => ?_, fun hc => ?_⟩ <;> first | (exfalso; omega) | (exfalso; exact hc trivial) | skip) | skip)
    | (with_reducible apply hnx; clear hnx nx)
    | (with_reducible refine And.intro (by omega) ?_)
    | (with_reducible refine And.intro ?_ ?_)
    | (clear hnx nx; with_reducible apply hnx; clear hnx nx)
    | (clear hnx nx; clear hnx nx; with_reducible apply hnx; clear hnx nx))
            all_goals first
              | exact absurd trivial hc
              | (exfalso
                 omega)
              | skip
            have hl1 : (out ++ [(v : Int)]).length = out.length + 1 := by simp
            refine hlp _ (s.length - (p + (n + 1))) ⟨fr 51 [(8, pn (p + (n + 1))), (7, .row nm 1 (out ++ [(v : Int)]).length), (6, .mp mn), (1, pstr s)], (mn, ⟨99, false, 0, entsS (mA a)⟩) :: [(nm, ⟨3, true, 1, (out ++ [(v : Int)]).map (pint .i64)⟩)]⟩ (by omega) ?_ ⟨p + (n + 1), f', out ++ [(v : Int)], _, _, by omega, rfl, by omega, by simp; omega, hr1, hr2, .inr ⟨nm, rfl, rfl⟩, rfl⟩
            refine Wk_fr (by simp only [wkb, Nat.reduceEqDiff, Nat.reduceLT, ↓reduceIte, pn, Int.natCast_add, hl1]) ?_
            all_goals
              (try rw [List.map_append])
              refine ⟨fun x hx => ?_, by simp [names, hnm]⟩
              simp only [List.mem_cons, List.not_mem_nil, or_false] at hx ⊢
              rcases hx with rfl | rfl
              · exact .inr (.inr rfl)
              · exact .inl rfl
    · have hi2 : p = s.length := by omega
      subst hi2
      rw [List.drop_length, readW_nil] at hr1 hr2
      repeat' (first
    | (with_reducible apply W_seq_k; intro nx hnx)
    | (with_reducible first | apply W_block | apply W_scope)
    | (with_reducible refine W_prune 4083 ?_; simp only [prb, Nat.reducePow, Nat.reduceDiv, Nat.reduceMod, Nat.reduceBEq]; with_reducible apply W_region_l)
    | ((first | (with_reducible apply WL_op; intro nx hnx) | with_reducible refine Ev_out ?_ | (with_reducible refine pfresh_k hnm fun nm hnm => ?_; (try simp only [fmb] at hnm)) | (with_reducible refine pborn_mu hnm fun nm hnm => ?_; (try simp only [fmb] at hnm)) | (with_reducible refine pmaybe_k ?_; intro bn hbn)); try (simp (maxSteps := 2000000) (disch := omega) only [evb, evd, eve, constPV, seqK, blockK, scopeK, pbound, pelems, PV.mem?, PV.one, PV.cells, peqs, peq1, pkeys, pkeyt, List.set, Value.cells, ↓popG_eq, ↓pop.eq_1, ↓List.getElem?_map, ↓List.getElem?_cons_zero, ↓List.getElem?_cons_succ, Value.oneCell', Nat.reduceAdd, Nat.reduceMul, Nat.reduceSub, Nat.reduceLeDiff, Nat.reduceEqDiff, ↓reduceIte, ne_eq, reduceCtorEq, forall_const, exists_and_left, exists_eq_left', eq_self, Nat.reduceLT, Int.reduceLT, Int.reduceLE, Int.reduceToNat, Int.reduceAdd, Int.reduceSub, Int.reduceNeg, hnm, Tryd.tf0, Tryd.tf1, Tryd.tf3, Tryd.tf4, Tryd.tf9, Tryd.tf22, Tryd.tf23, Tryd.tf60, Tryd.tf98, Tryd.tf99, Tryd.call64]); repeat (refine And.intro (by omega) ?_))
    | ((with_reducible first | apply WL_nil | apply W_label | apply W_skip | apply W_exit | apply W_ret); try simp only [seqK, blockK, scopeK, ↓reduceIte, Nat.reduceEqDiff])
    | (with_reducible apply W_cond_k; intro _ _ ea eb; (simp only [condK, cob, opnd, constPV, Nat.reduceEqDiff, Nat.reduceLT, ↓reduceIte, hcb, reduceCtorEq, forall_const, ne_eq]); subst ea eb; first | (refine ⟨fun hc => ?_, fun hc => ?_⟩ <;> first | (exfalso; omega) | (exfalso; exact hc trivial) | skip) | skip)
    | (with_reducible apply hnx; clear hnx nx)
    | (with_reducible refine And.intro (by omega) ?_)
    | (with_reducible refine And.intro ?_ ?_)
    | (clear hnx nx; with_reducible apply hnx; clear hnx nx)
    | (clear hnx nx; clear hnx nx; with_reducible apply hnx; clear hnx nx))
      all_goals first
        | exact absurd trivial hc
        | (exfalso
           omega)
        | skip
      have e2 : readF a s = (out, -1) := by
        simp only [List.append_nil, Nat.add_zero] at hr1 hr2
        simp [readF, hv, hr1, hr2]
      refine hfin _ _ (Fin_ret2 rfl rfl (H := HO) ⟨fun x hx => List.mem_cons_of_mem _ hx, nd3.2⟩ ?_)
      simp only [fr_getD_cons, Nat.reduceEqDiff, Nat.reduceLT, ↓reduceIte]
      rw [e2]
      exact ⟨o, rfl, hC⟩
end Go.PM

namespace Go.PM
open Go.Proofs
theorem CRI.frz {G : Globs} {f : FuncId} {args : List PV} {b : List Int} (h : PCalls Tryd.prog G f args [] (CRI b)) : PCalls Tryd.prog G f args [] (fun res H => res = wP b ∧ H = []) := by
  refine h.px fun res H hR => ?_
  rcases hR with ⟨rfl, rfl, rfl⟩ | ⟨N, rfl, rfl⟩
  · exact ⟨_, _, Px.nil 1 _, rfl, rfl⟩
  · have h2 := Px.freeze (G := G) (.row N 1 b.length) [(N, ⟨3, true, 1, b.map (pint .i64)⟩)] N (o := ⟨3, true, 1, b.map (pint .i64)⟩) (by simp only [look, if_true]) (by simp [frzOk, del])
    refine ⟨_, _, h2, ?_, by simp [frzH, del]⟩
    simp only [PM.frz, frz1, if_true]
    rw [if_pos ⟨by simp, by omega⟩, elemsOf, if_pos rfl, List.take_of_length_le (by simp)]
theorem CRI.frz2 {G : Globs} {f : FuncId} {args : List PV} {b : List Int} {k : Int} (h : PCalls Tryd.prog G f args [] (fun res H => ∃ o, res = .tuple [o, pint .i64 k] ∧ CRI b o H)) : PCalls Tryd.prog G f args [] (fun res H => res = .tuple [wP b, pint .i64 k] ∧ H = []) := by
  refine h.px fun res H hR => ?_
  obtain ⟨o, rfl, hR⟩ := hR
  rcases hR with ⟨rfl, rfl, rfl⟩ | ⟨N, rfl, rfl⟩
  · exact ⟨_, _, Px.nil2 1 _ _, rfl, rfl⟩
  · have h2 := Px.freeze (G := G) (.tuple [.row N 1 b.length, pint .i64 k]) [(N, ⟨3, true, 1, b.map (pint .i64)⟩)] N (o := ⟨3, true, 1, b.map (pint .i64)⟩) (by simp only [look, if_true]) (by simp [frzOk, del])
    refine ⟨_, _, h2, ?_, by simp [frzH, del]⟩
    simp only [PM.frz, frz1, if_true, List.map_cons, List.map_nil]
    rw [if_pos ⟨by simp, by omega⟩, elemsOf, if_pos rfl, List.take_of_length_le (by simp)]
theorem read_f (G : Globs) (a : List Ltr) (s : List UInt8) (ha : HA a) (hs : s.length ≤ 100000000) : PCalls Tryd.prog G 51 [ltsP a, pstr s] [] (fun res H => res = .tuple [wP (readF a s).1, pint .i64 (readF a s).2] ∧ H = []) := CRI.frz2 (read_c G a s ha hs)
attribute [local irreducible] W PCalls pcall pcallI WL
set_option maxRecDepth 100000
set_option maxHeartbeats 8000000
def safeF (a : List Ltr) (w : List Int) : Bool :=
  decide ((writeF a w).2 = 0) && (decide ((readF a (writeF a w).1).2 = -1) && decide ((readF a (writeF a w).1).1 = w))
theorem writeF_len {a : List Ltr} {w : List Int} : (writeF a w).1.length ≤ 4 * w.length := by
  unfold writeF
  split
  · split
    · exact textF_len (by assumption) w (by assumption)
    · simp
  · simp
theorem readF_len {a : List Ltr} {s : List UInt8} : (readF a s).1.length ≤ s.length := by
  unfold readF
  split
  · have := readW_le (a := a) s.length s
    simp only
    omega
  · simp
theorem safe_c (G : Globs) (a : List Ltr) (w : List Int) (ha : HA a) (hw : w.length ≤ 10000000) : PCalls Tryd.prog G 33 [ltsP a, wP w] [] (fun res H => res = pbool (safeF a w) ∧ H = []) := by
  have h1 := writeF_len (a := a) (w := w)
  have c1 := write_c G a w ha (by omega)
  have c2 := read_f G a (writeF a w).1 ha (by omega)
  have h2 := readF_len (a := a) (s := (writeF a w).1)
  have c3 := equal_c G (readF a (writeF a w).1).1 w (by omega)
  unfold safeF
  generalize readF a (writeF a w).1 = q at *
  generalize writeF a w = p at *
  by_cases hp : p.2 = 0
  · by_cases hq : q.2 = -1
    · (refine PCalls_f Tryd.func33 rfl Tryd.ntmps33 Tryd.results33 (by simp) fun fin hfin => ?_; have hnm : True := trivial; simp (maxSteps := 2000000) (disch := omega) only [evb, evd, eve, constPV, seqK, blockK, scopeK, pbound, pelems, PV.mem?, PV.one, PV.cells, peqs, peq1, pkeys, pkeyt, List.set, Value.cells, ↓popG_eq, ↓pop.eq_1, ↓List.getElem?_map, ↓List.getElem?_cons_zero, ↓List.getElem?_cons_succ, Value.oneCell', Nat.reduceAdd, Nat.reduceMul, Nat.reduceSub, Nat.reduceLeDiff, Nat.reduceEqDiff, ↓reduceIte, ne_eq, reduceCtorEq, forall_const, exists_and_left, exists_eq_left', eq_self, Nat.reduceLT, Int.reduceLT, Int.reduceLE, Int.reduceToNat, Int.reduceAdd, Int.reduceSub, Int.reduceNeg, hnm, Tryd.tf0, Tryd.tf1, Tryd.tf3, Tryd.tf4, Tryd.tf9, Tryd.tf22, Tryd.tf23, Tryd.tf37, Tryd.tf57, Tryd.tf60, Tryd.tf80, Tryd.call34, Tryd.call51, Tryd.call52])
      repeat' (first
    | (with_reducible apply W_seq_k; intro nx hnx)
    | (with_reducible first | apply W_block | apply W_scope)
    | (with_reducible refine W_prune 499 ?_; simp only [prb, Nat.reducePow, Nat.reduceDiv, Nat.reduceMod, Nat.reduceBEq]; with_reducible apply W_region_l)
    | ((first | (with_reducible apply WL_op; intro nx hnx) | with_reducible refine Ev_out ?_); try (simp (maxSteps := 2000000) (disch := omega) only [evb, evd, eve, constPV, seqK, blockK, scopeK, pbound, pelems, PV.mem?, PV.one, PV.cells, peqs, peq1, pkeys, pkeyt, List.set, Value.cells, ↓popG_eq, ↓pop.eq_1, ↓List.getElem?_map, ↓List.getElem?_cons_zero, ↓List.getElem?_cons_succ, Value.oneCell', Nat.reduceAdd, Nat.reduceMul, Nat.reduceSub, Nat.reduceLeDiff, Nat.reduceEqDiff, ↓reduceIte, ne_eq, reduceCtorEq, forall_const, exists_and_left, exists_eq_left', eq_self, Nat.reduceLT, Int.reduceLT, Int.reduceLE, Int.reduceToNat, Int.reduceAdd, Int.reduceSub, Int.reduceNeg, hnm, Tryd.tf0, Tryd.tf1, Tryd.tf3, Tryd.tf4, Tryd.tf9, Tryd.tf22, Tryd.tf23, Tryd.tf37, Tryd.tf57, Tryd.tf60, Tryd.tf80, Tryd.call34, Tryd.call51, Tryd.call52, hp, hq]); repeat (refine And.intro (by omega) ?_))
    | ((with_reducible first | apply WL_nil | apply W_label | apply W_skip | apply W_exit | apply W_ret); try simp only [seqK, blockK, scopeK, ↓reduceIte, Nat.reduceEqDiff])
    | (with_reducible apply pguard_intro <;> (intro hc; (try simp only [hcb, reduceCtorEq, forall_const, ne_eq] at hc); first | (exfalso; omega) | (exfalso; exact hc trivial) | refine Ev_in ?_))
    | (with_reducible apply W_cond_k; intro _ _ ea eb; (simp only [condK, cob, opnd, constPV, Nat.reduceEqDiff, Nat.reduceLT, ↓reduceIte, hcb, reduceCtorEq, forall_const, ne_eq]); subst ea eb; first | (refine ⟨fun hc => ?_, fun hc => ?_⟩ <;> first | (exfalso; omega) | (exfalso; exact hc trivial) | skip) | skip)
    | (with_reducible apply hnx; clear hnx nx)
    | (with_reducible refine And.intro (by omega) ?_)
    | (with_reducible refine And.intro ?_ ?_)
    | (with_reducible refine pcall_k (c1) ?_; rintro _ _ ⟨rfl, rfl⟩ -; refine Ev_in ?_)
    | (with_reducible refine pcall_k (c2) ?_; rintro _ _ ⟨rfl, rfl⟩ -; refine Ev_in ?_)
    | (with_reducible refine pcall_k (c3) ?_; rintro _ _ ⟨rfl, rfl⟩ -; refine Ev_in ?_)
    | (clear hnx nx; with_reducible apply hnx; clear hnx nx)
    | (clear hnx nx; clear hnx nx; with_reducible apply hnx; clear hnx nx))
      all_goals first
        | exact absurd trivial hc
        | (exfalso
           omega)
        | skip
      all_goals
        refine hfin _ _ (Fin_ret1 rfl (Sub_nil _) ?_); simp only [List.getD_cons_zero, List.getD_cons_succ, fr_getD_cons, fr_getD_nil, Nat.reduceEqDiff, Nat.reduceLT, ↓reduceIte]
        exact ⟨by simp [hp, hq], by trivial⟩
    · (refine PCalls_f Tryd.func33 rfl Tryd.ntmps33 Tryd.results33 (by simp) fun fin hfin => ?_; have hnm : True := trivial; simp (maxSteps := 2000000) (disch := omega) only [evb, evd, eve, constPV, seqK, blockK, scopeK, pbound, pelems, PV.mem?, PV.one, PV.cells, peqs, peq1, pkeys, pkeyt, List.set, Value.cells, ↓popG_eq, ↓pop.eq_1, ↓List.getElem?_map, ↓List.getElem?_cons_zero, ↓List.getElem?_cons_succ, Value.oneCell', Nat.reduceAdd, Nat.reduceMul, Nat.reduceSub, Nat.reduceLeDiff, Nat.reduceEqDiff, ↓reduceIte, ne_eq, reduceCtorEq, forall_const, exists_and_left, exists_eq_left', eq_self, Nat.reduceLT, Int.reduceLT, Int.reduceLE, Int.reduceToNat, Int.reduceAdd, Int.reduceSub, Int.reduceNeg, hnm, Tryd.tf0, Tryd.tf1, Tryd.tf3, Tryd.tf4, Tryd.tf9, Tryd.tf22, Tryd.tf23, Tryd.tf37, Tryd.tf57, Tryd.tf60, Tryd.tf80, Tryd.call34, Tryd.call51, Tryd.call52])
      repeat' (first
    | (with_reducible apply W_seq_k; intro nx hnx)
    | (with_reducible first | apply W_block | apply W_scope)
    | (with_reducible refine W_prune 499 ?_; simp only [prb, Nat.reducePow, Nat.reduceDiv, Nat.reduceMod, Nat.reduceBEq]; with_reducible apply W_region_l)
    | ((first | (with_reducible apply WL_op; intro nx hnx) | with_reducible refine Ev_out ?_); try (simp (maxSteps := 2000000) (disch := omega) only [evb, evd, eve, constPV, seqK, blockK, scopeK, pbound, pelems, PV.mem?, PV.one, PV.cells, peqs, peq1, pkeys, pkeyt, List.set, Value.cells, ↓popG_eq, ↓pop.eq_1, ↓List.getElem?_map, ↓List.getElem?_cons_zero, ↓List.getElem?_cons_succ, Value.oneCell', Nat.reduceAdd, Nat.reduceMul, Nat.reduceSub, Nat.reduceLeDiff, Nat.reduceEqDiff, ↓reduceIte, ne_eq, reduceCtorEq, forall_const, exists_and_left, exists_eq_left', eq_self, Nat.reduceLT, Int.reduceLT, Int.reduceLE, Int.reduceToNat, Int.reduceAdd, Int.reduceSub, Int.reduceNeg, hnm, Tryd.tf0, Tryd.tf1, Tryd.tf3, Tryd.tf4, Tryd.tf9, Tryd.tf22, Tryd.tf23, Tryd.tf37, Tryd.tf57, Tryd.tf60, Tryd.tf80, Tryd.call34, Tryd.call51, Tryd.call52, hp]); repeat (refine And.intro (by omega) ?_))
    | ((with_reducible first | apply WL_nil | apply W_label | apply W_skip | apply W_exit | apply W_ret); try simp only [seqK, blockK, scopeK, ↓reduceIte, Nat.reduceEqDiff])
    | (with_reducible apply pguard_intro <;> (intro hc; (try simp only [hcb, reduceCtorEq, forall_const, ne_eq] at hc); first | (exfalso; omega) | (exfalso; exact hc trivial) | refine Ev_in ?_))
    | (with_reducible apply W_cond_k; intro _ _ ea eb; (simp only [condK, cob, opnd, constPV, Nat.reduceEqDiff, Nat.reduceLT, ↓reduceIte, hcb, reduceCtorEq, forall_const, ne_eq]); subst ea eb; first | (refine ⟨fun hc => ?_, fun hc => ?_⟩ <;> first | (exfalso; omega) | (exfalso; exact hc trivial) | skip) | skip)
    | (with_reducible apply hnx; clear hnx nx)
    | (with_reducible refine And.intro (by omega) ?_)
    | (with_reducible refine And.intro ?_ ?_)
    | (with_reducible refine pcall_k (c1) ?_; rintro _ _ ⟨rfl, rfl⟩ -; refine Ev_in ?_)
    | (with_reducible refine pcall_k (c2) ?_; rintro _ _ ⟨rfl, rfl⟩ -; refine Ev_in ?_)
    | (with_reducible refine pcall_k (c3) ?_; rintro _ _ ⟨rfl, rfl⟩ -; refine Ev_in ?_)
    | (clear hnx nx; with_reducible apply hnx; clear hnx nx)
    | (clear hnx nx; clear hnx nx; with_reducible apply hnx; clear hnx nx))
      all_goals first
        | exact absurd trivial hc
        | (exfalso
           omega)
        | skip
      all_goals
        refine hfin _ _ (Fin_ret1 rfl (Sub_nil _) ?_); simp only [List.getD_cons_zero, List.getD_cons_succ, fr_getD_cons, fr_getD_nil, Nat.reduceEqDiff, Nat.reduceLT, ↓reduceIte]
        exact ⟨by simp [hp, hq], by trivial⟩
  · (refine PCalls_f Tryd.func33 rfl Tryd.ntmps33 Tryd.results33 (by simp) fun fin hfin => ?_; have hnm : True := trivial; simp (maxSteps := 2000000) (disch := omega) only [evb, evd, eve, constPV, seqK, blockK, scopeK, pbound, pelems, PV.mem?, PV.one, PV.cells, peqs, peq1, pkeys, pkeyt, List.set, Value.cells, ↓popG_eq, ↓pop.eq_1, ↓List.getElem?_map, ↓List.getElem?_cons_zero, ↓List.getElem?_cons_succ, Value.oneCell', Nat.reduceAdd, Nat.reduceMul, Nat.reduceSub, Nat.reduceLeDiff, Nat.reduceEqDiff, ↓reduceIte, ne_eq, reduceCtorEq, forall_const, exists_and_left, exists_eq_left', eq_self, Nat.reduceLT, Int.reduceLT, Int.reduceLE, Int.reduceToNat, Int.reduceAdd, Int.reduceSub, Int.reduceNeg, hnm, Tryd.tf0, Tryd.tf1, Tryd.tf3, Tryd.tf4, Tryd.tf9, Tryd.tf22, Tryd.tf23, Tryd.tf37, Tryd.tf57, Tryd.tf60, Tryd.tf80, Tryd.call34, Tryd.call51, Tryd.call52])
    repeat' (first
    | (with_reducible apply W_seq_k; intro nx hnx)
    | (with_reducible first | apply W_block | apply W_scope)
    | (with_reducible refine W_prune 499 ?_; simp only [prb, Nat.reducePow, Nat.reduceDiv, Nat.reduceMod, Nat.reduceBEq]; with_reducible apply W_region_l)
    | ((first | (with_reducible apply WL_op; intro nx hnx) | with_reducible refine Ev_out ?_); try (simp (maxSteps := 2000000) (disch := omega) only [evb, evd, eve, constPV, seqK, blockK, scopeK, pbound, pelems, PV.mem?, PV.one, PV.cells, peqs, peq1, pkeys, pkeyt, List.set, Value.cells, ↓popG_eq, ↓pop.eq_1, ↓List.getElem?_map, ↓List.getElem?_cons_zero, ↓List.getElem?_cons_succ, Value.oneCell', Nat.reduceAdd, Nat.reduceMul, Nat.reduceSub, Nat.reduceLeDiff, Nat.reduceEqDiff, ↓reduceIte, ne_eq, reduceCtorEq, forall_const, exists_and_left, exists_eq_left', eq_self, Nat.reduceLT, Int.reduceLT, Int.reduceLE, Int.reduceToNat, Int.reduceAdd, Int.reduceSub, Int.reduceNeg, hnm, Tryd.tf0, Tryd.tf1, Tryd.tf3, Tryd.tf4, Tryd.tf9, Tryd.tf22, Tryd.tf23, Tryd.tf37, Tryd.tf57, Tryd.tf60, Tryd.tf80, Tryd.call34, Tryd.call51, Tryd.call52]); repeat (refine And.intro (by omega) ?_))
    | ((with_reducible first | apply WL_nil | apply W_label | apply W_skip | apply W_exit | apply W_ret); try simp only [seqK, blockK, scopeK, ↓reduceIte, Nat.reduceEqDiff])
    | (with_reducible apply pguard_intro <;> (intro hc; (try simp only [hcb, reduceCtorEq, forall_const, ne_eq] at hc); first | (exfalso; omega) | (exfalso; exact hc trivial) | refine Ev_in ?_))
    | (with_reducible apply W_cond_k; intro _ _ ea eb; (simp only [condK, cob, opnd, constPV, Nat.reduceEqDiff, Nat.reduceLT, ↓reduceIte, hcb, reduceCtorEq, forall_const, ne_eq]); subst ea eb; first | (refine ⟨fun hc => ?_, fun hc => ?_⟩ <;> first | (exfalso; omega) | (exfalso; exact hc trivial) | skip) | skip)
    | (with_reducible apply hnx; clear hnx nx)
    | (with_reducible refine And.intro (by omega) ?_)
    | (with_reducible refine And.intro ?_ ?_)
    | (with_reducible refine pcall_k (c1) ?_; rintro _ _ ⟨rfl, rfl⟩ -; refine Ev_in ?_)
    | (with_reducible refine pcall_k (c2) ?_; rintro _ _ ⟨rfl, rfl⟩ -; refine Ev_in ?_)
    | (with_reducible refine pcall_k (c3) ?_; rintro _ _ ⟨rfl, rfl⟩ -; refine Ev_in ?_)
    | (clear hnx nx; with_reducible apply hnx; clear hnx nx)
    | (clear hnx nx; clear hnx nx; with_reducible apply hnx; clear hnx nx))
    all_goals first
      | exact absurd trivial hc
      | (exfalso
         omega)
      | skip
    all_goals
      refine hfin _ _ (Fin_ret1 rfl (Sub_nil _) ?_); simp only [List.getD_cons_zero, List.getD_cons_succ, fr_getD_cons, fr_getD_nil, Nat.reduceEqDiff, Nat.reduceLT, ↓reduceIte]
      exact ⟨by simp [hp], by trivial⟩
end Go.PM

namespace Go.PM
theorem getM_zip : ∀ (ts : List (List UInt8)) (i : Nat) (t : List UInt8), (getM t (ts.zipIdx i) = none → t ∉ ts) ∧ (∀ k, getM t (ts.zipIdx i) = some k → i ≤ k ∧ ts[k - i]? = some t)
  | [], i, t => by simp [getM]
  | x :: r, i, t => by
    obtain ⟨h1, h2⟩ := getM_zip r (i + 1) t
    simp only [List.zipIdx_cons, getM]
    by_cases hx : x = t
    · rw [if_pos hx]
      refine ⟨fun h => (by cases h), fun k h => ?_⟩
      cases h
      simp [hx]
    · rw [if_neg hx]
      refine ⟨fun h => ?_, fun k h => ?_⟩
      · rw [List.mem_cons, not_or]
        exact ⟨fun e => hx e.symm, h1 h⟩
      · obtain ⟨h3, h4⟩ := h2 k h
        refine ⟨by omega, ?_⟩
        rw [show k - i = (k - (i + 1)) + 1 by omega, List.getElem?_cons_succ]
        exact h4
theorem mA_get {a : List Ltr} (hv : validF a = true) (t : List UInt8) : (getM t (mA a) = none → t ∉ texts a) ∧ (∀ k, getM t (mA a) = some k → (texts a)[k]? = some t) := by
  have hn := (validF_iff.1 hv).2.2.2
  have : mA a = (texts a).zipIdx 0 := by
    unfold mA
    rw [growM_nodup _ _ _ hn (by simp)]
    rfl
  rw [this]
  obtain ⟨h1, h2⟩ := getM_zip (texts a) 0 t
  exact ⟨h1, fun k h => (h2 k h).2⟩
theorem hitN_some {a : List Ltr} {s : List UInt8} {i m : Nat} : ∀ {n : Nat}, hitN a s n = some (i, m) → getM (s.take m) (mA a) = some i ∧ ∀ j, m < j → j ≤ n → getM (s.take j) (mA a) = none
  | 0, h => by simp [hitN] at h
  | n + 1, h => by
    unfold hitN at h
    split at h
    · rename_i k hk
      simp only [Option.some.injEq, Prod.mk.injEq] at h
      obtain ⟨rfl, rfl⟩ := h
      exact ⟨hk, fun j h1 h2 => by omega⟩
    · rename_i hk
      obtain ⟨h1, h2⟩ := hitN_some h
      refine ⟨h1, fun j h3 h4 => ?_⟩
      by_cases hj : j = n + 1
      · subst hj
        exact hk
      · exact h2 j h3 (by omega)
theorem texts_get {a : List Ltr} {k : Nat} {t : List UInt8} : (texts a)[k]? = some t → ∃ h : k < a.length, a[k].text = t := by
  intro h
  obtain ⟨h1, h2⟩ := List.getElem?_eq_some_iff.1 h
  have h3 : k < a.length := by simpa [texts] using h1
  refine ⟨h3, ?_⟩
  simpa [texts] using h2
theorem getD_lt {a : List Ltr} {k : Nat} (h : k < a.length) : a.getD k default = a[k] := by
  rw [List.getD_eq_getElem?_getD, List.getElem?_eq_getElem h]
  rfl
/-- What is met at the beginning: the letter with the longest text there, or none. -/
theorem foldC_best {a : List Ltr} {f : Font} {s : List UInt8} (ht : ∀ x ∈ a, x.text ≠ []) : ∀ i, i ≤ a.length →
    ((foldC a f s i).1 = 0 ∧ ∀ k (h : k < a.length), k < i → fits s a[k] = false) ∨ ∃ j, ∃ h : j < a.length, j < i ∧ fits s a[j] = true ∧ foldC a f s i = (a[j].text.length, a[j].text.length, a[j].width) ∧ ∀ k (h : k < a.length), k < i → fits s a[k] = true → a[k].text.length ≤ a[j].text.length
  | 0, _ => .inl ⟨rfl, fun k _ h => by omega⟩
  | i + 1, hi => by
    rw [foldC_step (by omega), stepC]
    have hp : 0 < a[i].text.length := List.length_pos_iff.2 (ht _ (List.getElem_mem _))
    rcases foldC_best (f := f) (s := s) ht i (by omega) with ⟨h1, h2⟩ | ⟨j, hj, h1, h2, h3, h4⟩
    · by_cases hc : fits s a[i] = true
      · rw [if_pos ⟨by omega, hc⟩]
        refine .inr ⟨i, by omega, by omega, hc, rfl, fun k hk hk2 hf => ?_⟩
        by_cases e : k = i
        · subst e
          exact Nat.le_refl _
        · rw [h2 k hk (by omega)] at hf
          cases hf
      · rw [if_neg (fun h => hc h.2)]
        refine .inl ⟨h1, fun k hk hk2 => ?_⟩
        by_cases e : k = i
        · subst e
          simpa using hc
        · exact h2 k hk (by omega)
    · by_cases hc : (foldC a f s i).1 < a[i].text.length ∧ fits s a[i] = true
      · rw [if_pos hc]
        have h5 : (foldC a f s i).1 = a[j].text.length := by rw [h3]
        refine .inr ⟨i, by omega, by omega, hc.2, rfl, fun k hk hk2 hf => ?_⟩
        by_cases e : k = i
        · subst e
          exact Nat.le_refl _
        · have := h4 k hk (by omega) hf
          omega
      · rw [if_neg hc]
        have h5 : (foldC a f s i).1 = a[j].text.length := by rw [h3]
        refine .inr ⟨j, hj, by omega, h2, h3, fun k hk hk2 hf => ?_⟩
        by_cases e : k = i
        · subst e
          rcases Nat.lt_or_ge (foldC a f s k).1 a[k].text.length with h6 | h6
          · exact absurd ⟨h6, hf⟩ hc
          · omega
        · exact h4 k hk (by omega) hf
/-- What Read meets at the beginning is the first character. -/
theorem hit_char {a : List Ltr} {f : Font} (hv : validF a = true) {s : List UInt8} {i n : Nat} (h : hit a s = some (i, n)) : ∃ hi : i < a.length, charF a f s = (n, a[i].width) ∧ a[i].text = s.take n ∧ 1 ≤ n ∧ n ≤ s.length := by
  have hle := hit_le h
  obtain ⟨q1, q2⟩ := hitN_some (n := min 4 s.length) h
  obtain ⟨hi, h4⟩ := texts_get ((mA_get hv _).2 i q1)
  have h5 : a[i].text.length = n := by rw [h4, List.length_take]; omega
  have hfi : fits s a[i] = true := by
    simp only [fits, Bool.and_eq_true, decide_eq_true_eq, h5]
    exact ⟨hle.2.2, h4.symm⟩
  refine ⟨hi, ?_, h4, hle.1, hle.2.2⟩
  rcases foldC_best (f := f) (s := s) (valid_ne hv) a.length (Nat.le_refl _) with ⟨_, h2⟩ | ⟨j, hj, _, h2, h3, h6⟩
  · rw [h2 i hi hi] at hfi
    cases hfi
  · have h7 := h6 i hi hi hfi
    rw [h5] at h7
    have h8 := h2
    simp only [fits, Bool.and_eq_true, decide_eq_true_eq] at h8
    have h9 := (valid_text hv hj).2
    have h10 : ¬ n < a[j].text.length := fun hlt => by
      have := (mA_get hv _).1 (q2 _ hlt (by omega))
      rw [h8.2] at this
      exact this (List.mem_map.2 ⟨a[j], List.getElem_mem hj, rfl⟩)
    have h11 : a[j].text.length = n := by omega
    have h12 : a[i].text = a[j].text := by rw [h4, ← h8.2, h11]
    have h13 : i = j := by
      have hnd := (validF_iff.1 hv).2.2.2
      have e : (texts a)[i]'(by simpa [texts] using hi) = (texts a)[j]'(by simpa [texts] using hj) := by simpa [texts] using h12
      exact (List.getElem_inj hnd).1 e
    subst h13
    show (foldC a f s a.length).2 = _
    rw [h3, h11]
/-- A text that is read to its end has one character for each letter. -/
theorem chars_read {a : List Ltr} {f : Font} (hv : validF a = true) : ∀ (k : Nat) (s : List UInt8), (readW a k s).2 = s.length → charsF a f s = (readW a k s).1.map fun x => ((a.getD x.toNat default).text, (a.getD x.toNat default).width)
  | 0, s, h => by
    have : s = [] := List.length_eq_zero_iff.1 h.symm
    subst this
    rfl
  | k + 1, s, h => by
    unfold readW at h ⊢
    cases hh : hit a s with
    | none =>
      rw [hh] at h
      have : s = [] := List.length_eq_zero_iff.1 h.symm
      subst this
      rfl
    | some x =>
      obtain ⟨i, n⟩ := x
      rw [hh] at h
      simp only at h ⊢
      obtain ⟨hi, h1, h2, h3, h4⟩ := hit_char (f := f) hv hh
      have hs : s ≠ [] := by
        rintro rfl
        simp at h4
        omega
      rw [charsF_cons a f s hs, h1, List.map_cons, chars_read hv k (s.drop n) (by rw [List.length_drop]; omega)]
      simp only [Int.toNat_natCast, getD_lt hi]
      rw [h2]
/-! ### Digits and marks -/
def isDig (c : UInt8) : Bool := decide (48 ≤ c.toNat) && decide (c.toNat ≤ 57)
def digN (s : List UInt8) : Nat := (s.filter isDig).length
theorem digN_app (s t : List UInt8) : digN (s ++ t) = digN s + digN t := by simp [digN]
theorem digN_le (s : List UInt8) : digN s ≤ s.length := List.length_filter_le _ _
theorem dig_res {c : UInt8} (h : isDig c = true) : okB c = false := by
  have key : ∀ n : _root_.Fin 256, isDig (UInt8.ofNat n.val) = true → okB (UInt8.ofNat n.val) = false := by decide +kernel
  have h2 := key ⟨c.toNat, c.toNat_lt⟩
  rw [UInt8.ofNat_toNat] at h2
  exact h2 h
/-- With another width of the singles the characters are the same ones. -/
theorem foldC_font {a : List Ltr} {f g : Font} {s : List UInt8} (ht : ∀ x ∈ a, x.text ≠ []) : ∀ i, i ≤ a.length → (foldC a g s i).1 = (foldC a f s i).1 ∧ (foldC a g s i).2.1 = (foldC a f s i).2.1 ∧
    (if (foldC a f s i).1 = 0 then (foldC a f s i).2.2 = singleF f (s.getD 0 0) ∧ (foldC a g s i).2.2 = singleF g (s.getD 0 0) ∧ (foldC a f s i).2.1 = 1 else (foldC a g s i).2.2 = (foldC a f s i).2.2 ∧ ∃ x ∈ a, x.text = s.take (foldC a f s i).2.1 ∧ (foldC a f s i).2.2 = x.width)
  | 0, _ => by
    refine ⟨rfl, rfl, ?_⟩
    rw [if_pos (show (foldC a f s 0).1 = 0 from rfl)]
    exact ⟨rfl, rfl, rfl⟩
  | i + 1, hi => by
    obtain ⟨h1, h2, h3⟩ := foldC_font (f := f) (g := g) (s := s) ht i (by omega)
    rw [foldC_step (by omega), foldC_step (by omega), stepC, stepC, h1]
    have hp : 0 < a[i].text.length := List.length_pos_iff.2 (ht _ (List.getElem_mem _))
    by_cases hc : (foldC a f s i).1 < a[i].text.length ∧ fits s a[i] = true
    · rw [if_pos hc, if_pos hc]
      refine ⟨rfl, rfl, ?_⟩
      simp only
      rw [if_neg (by omega)]
      refine ⟨trivial, a[i], List.getElem_mem _, ?_, rfl⟩
      have := hc.2
      simp only [fits, Bool.and_eq_true, decide_eq_true_eq] at this
      exact this.2.symm
    · rw [if_neg hc, if_neg hc]
      exact ⟨h1, h2, h3⟩
/-- Two lists of the same length, place by place. -/
def All2 {α : Type} (D : α → α → Prop) : List α → List α → Prop
  | [], [] => True
  | x :: xs, y :: ys => D x y ∧ All2 D xs ys
  | _, _ => False
/-- The widths with the one font and with the other, character by character. -/
theorem chars_font {a : List Ltr} {f g : Font} (ht : ∀ x ∈ a, x.text ≠ []) (D : List UInt8 × Int → List UInt8 × Int → Prop)
    (h1 : ∀ c, D ([c], singleF f c) ([c], singleF g c)) (h2 : ∀ x ∈ a, D (x.text, x.width) (x.text, x.width)) : ∀ (k : Nat) (s : List UInt8), s.length ≤ k → All2 D (charsF a f s) (charsF a g s)
  | 0, s, h => by
    have : s = [] := List.length_eq_zero_iff.1 (by omega)
    subst this
    exact trivial
  | k + 1, s, h => by
    by_cases hs : s = []
    · subst hs
      exact trivial
    · have hl := charF_len (a := a) (f := f) hs
      obtain ⟨e1, e2, e3⟩ := foldC_font (f := f) (g := g) (s := s) ht a.length (Nat.le_refl _)
      have e4 : (charF a g s).1 = (charF a f s).1 := e2
      have ih := chars_font (f := f) (g := g) ht D h1 h2 k (s.drop (charF a f s).1) (by rw [List.length_drop]; omega)
      have hd : D (s.take (charF a f s).1, (charF a f s).2) (s.take (charF a f s).1, (charF a g s).2) := by
        by_cases h0 : (foldC a f s a.length).1 = 0
        · rw [if_pos h0] at e3
          have w1 : (charF a f s).2 = singleF f (s.getD 0 0) := e3.1
          have w2 : (charF a g s).2 = singleF g (s.getD 0 0) := e3.2.1
          have w3 : (charF a f s).1 = 1 := e3.2.2
          rw [w1, w2, w3]
          cases s with
          | nil => exact absurd rfl hs
          | cons c s =>
            simp only [List.take_succ_cons, List.take_zero, List.getD_cons_zero]
            exact h1 c
        · rw [if_neg h0] at e3
          have w1 : (charF a g s).2 = (charF a f s).2 := e3.1
          obtain ⟨x, hx, e5, e6⟩ := e3.2
          have w2 : x.text = s.take (charF a f s).1 := e5
          have w3 : (charF a f s).2 = x.width := e6
          rw [w1, ← w2, w3]
          exact h2 x hx
      rw [charsF_cons a f s hs, charsF_cons a g s hs, e4]
      exact ⟨hd, ih⟩
theorem All2.imp {α : Type} {D D' : α → α → Prop} (h : ∀ x y, D x y → D' x y) : ∀ {xs ys : List α}, All2 D xs ys → All2 D' xs ys
  | [], [], _ => trivial
  | _ :: _, _ :: _, k => ⟨h _ _ k.1, All2.imp h k.2⟩
theorem All2.self {α : Type} {D : α → α → Prop} : ∀ {xs : List α}, All2 D xs xs → ∀ x ∈ xs, D x x
  | _ :: _, k, x, hx => by
    rcases List.mem_cons.1 hx with rfl | hx
    · exact k.1
    · exact All2.self k.2 x hx
/-- Without kerns, not bold: the sum of the widths. -/
def sumW (cs : List (List UInt8 × Int)) : Int := (cs.map (·.2)).foldr (· + ·) 0
theorem kernF_nil (l r : List UInt8) : kernF [] l r = 0 := rfl
theorem tot_sum {f : Font} (hk : f.kerns = []) : ∀ (cs : List (List UInt8 × Int)) (last : List UInt8), (∀ c ∈ cs, 0 ≤ c.2) → totW f false last cs = sumW cs
  | [], _, _ => rfl
  | c :: cs, last, h => by
    have h0 := h c (List.mem_cons_self)
    simp only [totW, incF, boldF, hk, kernF_nil, sumW, List.map_cons, List.foldr_cons]
    have := tot_sum hk cs c.1 (fun x hx => h x (List.mem_cons_of_mem _ hx))
    simp only [sumW] at this
    rw [this]
    simp
    omega
end Go.PM

namespace Go.PM
open Go.Proofs
attribute [local irreducible] W PCalls pcall pcallI WL
theorem fit_bad {a : List Ltr} {f : Font} {s : List UInt8} {bold : Bool} (hs : s.length ≤ 65536) (h : ¬ okC (charsF a f s)) (most : Int) : fitF a f s bold most = [] := by
  unfold fitF
  rw [measF_bad hs (Classical.byContradiction fun hn => h fun c hc e => hn ⟨c, hc, e⟩)]
  simp [fitL]
theorem charsF_empty {a : List Ltr} {f : Font} {s : List UInt8} : (charsF a f s).length = 0 ↔ s = [] := by
  constructor
  · intro h
    by_cases hs : s = []
    · exact hs
    · have := charsF_pos a f s hs
      omega
  · rintro rfl
    rfl
theorem pint_getD {l : List Int} {i : Nat} (h : i < l.length) : (l.map (pint .i64)).getD i .junk = pint .i64 (l.getD i 0) := by
  rw [List.getD_eq_getElem?_getD, List.getElem?_map, List.getD_eq_getElem?_getD, List.getElem?_eq_getElem h]
  rfl
theorem runW_getD {f : Font} {bold : Bool} {cs : List (List UInt8 × Int)} {i : Nat} (h : i < cs.length) : (runW f bold [] 0 cs).getD i 0 = totW f bold [] (cs.take (i + 1)) := by
  rw [List.getD_eq_getElem?_getD, runW_at f bold cs [] 0 i h]
  simp
/-- Order: of the widths X of all beginnings, the width w, what Fit returns and its widths Y. -/
theorem order_ok {a : List Ltr} {f : Font} {s : List UInt8} {bold : Bool} {lim : Int} (hv : validF a = true) (hok : okFont f = true) (hs : s.length ≤ 65536) (hc : okC (charsF a f s)) (hl : 0 ≤ lim) :
    ∃ X Y : List Int, ∃ w : Int, widthsF a f s bold = (X, 0) ∧ widthF a f s bold = (w, 0) ∧ X.length ≤ s.length ∧ (∀ i, i + 1 < X.length → X.getD i 0 ≤ X.getD (i + 1) 0) ∧ (X = [] ↔ s = []) ∧
      (X ≠ [] → X.getD (X.length - 1) 0 = w ∧ 0 ≤ X.getD 0 0) ∧ widthsF a f (fitF a f s bold lim) bold = (Y, 0) ∧ (∃ n, fitF a f s bold lim = s.take n) ∧ Y.length ≤ X.length ∧ Y = X.take Y.length ∧
      (Y ≠ [] → Y.getD (Y.length - 1) 0 ≤ lim) ∧ (Y.length < X.length → lim < X.getD Y.length 0) := by
  obtain ⟨m1, m2, m3, m4⟩ := meas_ok (bold := bold) hs hc
  obtain ⟨k, k1, k2, k3, k4⟩ := fit_k m1 m2 m4 lim hl _ (Nat.le_refl _)
  have hpre := charsF_pre a f k s (by omega)
  have hlen := charsF_len a f s
  have hfit : fitF a f s bold lim = s.take (lenC (charsF a f s) k) := by
    unfold fitF
    rw [hv, hok, k2]
    rfl
  have hne := charsF_empty (a := a) (f := f) (s := s)
  have hRl := runW_len f bold (charsF a f s) [] 0
  refine ⟨runW f bold [] 0 (charsF a f s), runW f bold [] 0 ((charsF a f s).take k), totW f bold [] (charsF a f s), widths_ok hv hok hs hc, width_ok hv hok hs hc, by omega, ?_, ?_, ?_, ?_, ⟨_, hfit⟩, ?_, ?_, ?_, ?_⟩
  · intro i hi
    rw [runW_getD (by omega), runW_getD (by omega)]
    exact totW_mono _ _ _ _ (by omega)
  · constructor
    · intro h
      rw [h] at hRl
      exact hne.1 hRl.symm
    · intro h
      have := hne.2 h
      exact List.length_eq_zero_iff.1 (by omega)
  · intro h
    have hp := List.length_pos_iff.2 h
    rw [runW_getD (by omega), runW_getD (by omega), hRl, show (charsF a f s).length - 1 + 1 = (charsF a f s).length by omega, List.take_length]
    exact ⟨rfl, totW_nn _ _ _ _⟩
  · rw [hfit, widths_ok hv hok (by rw [List.length_take]; omega) (by rw [hpre]; exact fun c h => hc c (List.mem_of_mem_take h)), hpre]
  · rw [runW_len, hRl, List.length_take]
    omega
  · rw [runW_len, runW_take, List.length_take]
    rw [show min k (charsF a f s).length = k by omega]
  · intro h
    have hp := List.length_pos_iff.2 h
    rw [runW_len, List.length_take] at hp ⊢
    rw [runW_getD (by rw [List.length_take]; omega), List.take_take, show min (min k (charsF a f s).length - 1 + 1) k = k by omega]
    exact k3
  · rw [runW_len, List.length_take, hRl]
    intro h
    rw [show min k (charsF a f s).length = k by omega]
    rw [runW_getD (by omega)]
    exact k4 (by omega)
set_option maxRecDepth 100000
set_option maxHeartbeats 8000000
theorem prefix1_c (G : Globs) (s p : List UInt8) (hs : (s.length : Int) ≤ 9223372036854775807) (hp : (p.length : Int) ≤ 9223372036854775807) : PCalls Tryd.prog G 50 [pstr s, pstr p] [] (fun res H => res = pbool (decide (s.take p.length = p)) ∧ H = []) := by
  by_cases hl : p.length ≤ s.length
  · (refine PCalls_f Tryd.func50 rfl Tryd.ntmps50 Tryd.results50 (by simp) fun fin hfin => ?_; have hnm : True := trivial; simp (maxSteps := 2000000) (disch := omega) only [evb, evd, eve, constPV, seqK, blockK, scopeK, pbound, pelems, PV.mem?, PV.one, PV.cells, peqs, peq1, pkeys, pkeyt, List.set, Value.cells, ↓popG_eq, ↓pop.eq_1, ↓List.getElem?_map, ↓List.getElem?_cons_zero, ↓List.getElem?_cons_succ, Value.oneCell', Nat.reduceAdd, Nat.reduceMul, Nat.reduceSub, Nat.reduceLeDiff, Nat.reduceEqDiff, ↓reduceIte, ne_eq, reduceCtorEq, forall_const, exists_and_left, exists_eq_left', eq_self, Nat.reduceLT, Int.reduceLT, Int.reduceLE, Int.reduceToNat, Int.reduceAdd, Int.reduceSub, Int.reduceNeg, hnm, Tryd.tf3, Tryd.tf4, Tryd.tf9])
    repeat' (first
    | (with_reducible apply W_seq_k; intro nx hnx)
    | (with_reducible first | apply W_block | apply W_scope)
    | (with_reducible refine W_prune 19 ?_; simp only [prb, Nat.reducePow, Nat.reduceDiv, Nat.reduceMod, Nat.reduceBEq]; with_reducible apply W_region_l)
    | ((first | (with_reducible apply WL_op; intro nx hnx) | with_reducible refine Ev_out ?_); try (simp (maxSteps := 2000000) (disch := omega) only [evb, evd, eve, constPV, seqK, blockK, scopeK, pbound, pelems, PV.mem?, PV.one, PV.cells, peqs, peq1, pkeys, pkeyt, List.set, Value.cells, ↓popG_eq, ↓pop.eq_1, ↓List.getElem?_map, ↓List.getElem?_cons_zero, ↓List.getElem?_cons_succ, Value.oneCell', Nat.reduceAdd, Nat.reduceMul, Nat.reduceSub, Nat.reduceLeDiff, Nat.reduceEqDiff, ↓reduceIte, ne_eq, reduceCtorEq, forall_const, exists_and_left, exists_eq_left', eq_self, Nat.reduceLT, Int.reduceLT, Int.reduceLE, Int.reduceToNat, Int.reduceAdd, Int.reduceSub, Int.reduceNeg, hnm, Tryd.tf3, Tryd.tf4, Tryd.tf9]); repeat (refine And.intro (by omega) ?_))
    | ((with_reducible first | apply WL_nil | apply W_label | apply W_skip | apply W_exit | apply W_ret); try simp only [seqK, blockK, scopeK, ↓reduceIte, Nat.reduceEqDiff])
    | (with_reducible apply pguard_intro <;> (intro hc; (try simp only [hcb, reduceCtorEq, forall_const, ne_eq] at hc); first | (exfalso; omega) | (exfalso; exact hc trivial) | refine Ev_in ?_))
    | (with_reducible apply W_cond_k; intro _ _ ea eb; (simp only [condK, cob, opnd, constPV, Nat.reduceEqDiff, Nat.reduceLT, ↓reduceIte, hcb, reduceCtorEq, forall_const, ne_eq]); subst ea eb; first | (refine ⟨fun hc => ?_, fun hc => ?_⟩ <;> first | (exfalso; omega) | (exfalso; exact hc trivial) | skip) | skip)
    | (with_reducible apply hnx; clear hnx nx)
    | (with_reducible refine And.intro (by omega) ?_)
    | (with_reducible refine And.intro ?_ ?_)
    | (clear hnx nx; with_reducible apply hnx; clear hnx nx)
    | (clear hnx nx; clear hnx nx; with_reducible apply hnx; clear hnx nx))
    all_goals first | exact absurd trivial hc | contradiction | exact fun h => False.elim h | (exfalso; omega) | (exfalso; have hc := of_decide_eq_false hc; omega) | (exfalso; simp only [Bool.not_false, Bool.not_true, decide_eq_true_eq, decide_eq_false_iff_not] at *; omega) | skip
    all_goals
      refine hfin _ _ (Fin_ret1 rfl (Sub_nil _) ?_); simp only [List.getD_cons_zero, List.getD_cons_succ, fr_getD_cons, fr_getD_nil, Nat.reduceEqDiff, Nat.reduceLT, ↓reduceIte]
      refine ⟨?_, by trivial⟩
      simp
      rw [Bool.eq_iff_iff]
      simp
  · (refine PCalls_f Tryd.func50 rfl Tryd.ntmps50 Tryd.results50 (by simp) fun fin hfin => ?_; have hnm : True := trivial; simp (maxSteps := 2000000) (disch := omega) only [evb, evd, eve, constPV, seqK, blockK, scopeK, pbound, pelems, PV.mem?, PV.one, PV.cells, peqs, peq1, pkeys, pkeyt, List.set, Value.cells, ↓popG_eq, ↓pop.eq_1, ↓List.getElem?_map, ↓List.getElem?_cons_zero, ↓List.getElem?_cons_succ, Value.oneCell', Nat.reduceAdd, Nat.reduceMul, Nat.reduceSub, Nat.reduceLeDiff, Nat.reduceEqDiff, ↓reduceIte, ne_eq, reduceCtorEq, forall_const, exists_and_left, exists_eq_left', eq_self, Nat.reduceLT, Int.reduceLT, Int.reduceLE, Int.reduceToNat, Int.reduceAdd, Int.reduceSub, Int.reduceNeg, hnm, Tryd.tf3, Tryd.tf4, Tryd.tf9])
    repeat' (first
    | (with_reducible apply W_seq_k; intro nx hnx)
    | (with_reducible first | apply W_block | apply W_scope)
    | (with_reducible refine W_prune 19 ?_; simp only [prb, Nat.reducePow, Nat.reduceDiv, Nat.reduceMod, Nat.reduceBEq]; with_reducible apply W_region_l)
    | ((first | (with_reducible apply WL_op; intro nx hnx) | with_reducible refine Ev_out ?_); try (simp (maxSteps := 2000000) (disch := omega) only [evb, evd, eve, constPV, seqK, blockK, scopeK, pbound, pelems, PV.mem?, PV.one, PV.cells, peqs, peq1, pkeys, pkeyt, List.set, Value.cells, ↓popG_eq, ↓pop.eq_1, ↓List.getElem?_map, ↓List.getElem?_cons_zero, ↓List.getElem?_cons_succ, Value.oneCell', Nat.reduceAdd, Nat.reduceMul, Nat.reduceSub, Nat.reduceLeDiff, Nat.reduceEqDiff, ↓reduceIte, ne_eq, reduceCtorEq, forall_const, exists_and_left, exists_eq_left', eq_self, Nat.reduceLT, Int.reduceLT, Int.reduceLE, Int.reduceToNat, Int.reduceAdd, Int.reduceSub, Int.reduceNeg, hnm, Tryd.tf3, Tryd.tf4, Tryd.tf9]); repeat (refine And.intro (by omega) ?_))
    | ((with_reducible first | apply WL_nil | apply W_label | apply W_skip | apply W_exit | apply W_ret); try simp only [seqK, blockK, scopeK, ↓reduceIte, Nat.reduceEqDiff])
    | (with_reducible apply pguard_intro <;> (intro hc; (try simp only [hcb, reduceCtorEq, forall_const, ne_eq] at hc); first | (exfalso; omega) | (exfalso; exact hc trivial) | refine Ev_in ?_))
    | (with_reducible apply W_cond_k; intro _ _ ea eb; (simp only [condK, cob, opnd, constPV, Nat.reduceEqDiff, Nat.reduceLT, ↓reduceIte, hcb, reduceCtorEq, forall_const, ne_eq]); subst ea eb; first | (refine ⟨fun hc => ?_, fun hc => ?_⟩ <;> first | (exfalso; omega) | (exfalso; exact hc trivial) | skip) | skip)
    | (with_reducible apply hnx; clear hnx nx)
    | (with_reducible refine And.intro (by omega) ?_)
    | (with_reducible refine And.intro ?_ ?_)
    | (clear hnx nx; with_reducible apply hnx; clear hnx nx)
    | (clear hnx nx; clear hnx nx; with_reducible apply hnx; clear hnx nx))
    all_goals first | exact absurd trivial hc | contradiction | exact fun h => False.elim h | (exfalso; omega) | (exfalso; have hc := of_decide_eq_false hc; omega) | (exfalso; simp only [Bool.not_false, Bool.not_true, decide_eq_true_eq, decide_eq_false_iff_not] at *; omega) | skip
    all_goals
      refine hfin _ _ (Fin_ret1 rfl (Sub_nil _) ?_); simp only [List.getD_cons_zero, List.getD_cons_succ, fr_getD_cons, fr_getD_nil, Nat.reduceEqDiff, Nat.reduceLT, ↓reduceIte]
      refine ⟨?_, by trivial⟩
      rw [decide_eq_false]
      intro e
      have := congrArg List.length e
      rw [List.length_take] at this
      omega
theorem prefix_c (G : Globs) (s p : List UInt8) (hs : (s.length : Int) ≤ 9223372036854775807) (hp : (p.length : Int) ≤ 9223372036854775807) : PCalls Tryd.prog G 31 [pstr s, pstr p] [] (fun res H => res = pbool (decide (s.take p.length = p)) ∧ H = []) := by
  have c1 := prefix1_c G s p hs hp
  generalize decide (s.take p.length = p) = b at *
  (refine PCalls_f Tryd.func31 rfl Tryd.ntmps31 Tryd.results31 (by simp) fun fin hfin => ?_; have hnm : True := trivial; simp (maxSteps := 2000000) (disch := omega) only [evb, evd, eve, constPV, seqK, blockK, scopeK, pbound, pelems, PV.mem?, PV.one, PV.cells, peqs, peq1, pkeys, pkeyt, List.set, Value.cells, ↓popG_eq, ↓pop.eq_1, ↓List.getElem?_map, ↓List.getElem?_cons_zero, ↓List.getElem?_cons_succ, Value.oneCell', Nat.reduceAdd, Nat.reduceMul, Nat.reduceSub, Nat.reduceLeDiff, Nat.reduceEqDiff, ↓reduceIte, ne_eq, reduceCtorEq, forall_const, exists_and_left, exists_eq_left', eq_self, Nat.reduceLT, Int.reduceLT, Int.reduceLE, Int.reduceToNat, Int.reduceAdd, Int.reduceSub, Int.reduceNeg, hnm, Tryd.tf4, Tryd.tf9, Tryd.call50])
  repeat' (first
    | (with_reducible apply W_seq_k; intro nx hnx)
    | (with_reducible first | apply W_block | apply W_scope)
    | (with_reducible refine W_prune 19 ?_; simp only [prb, Nat.reducePow, Nat.reduceDiv, Nat.reduceMod, Nat.reduceBEq]; with_reducible apply W_region_l)
    | ((first | (with_reducible apply WL_op; intro nx hnx) | with_reducible refine Ev_out ?_); try (simp (maxSteps := 2000000) (disch := omega) only [evb, evd, eve, constPV, seqK, blockK, scopeK, pbound, pelems, PV.mem?, PV.one, PV.cells, peqs, peq1, pkeys, pkeyt, List.set, Value.cells, ↓popG_eq, ↓pop.eq_1, ↓List.getElem?_map, ↓List.getElem?_cons_zero, ↓List.getElem?_cons_succ, Value.oneCell', Nat.reduceAdd, Nat.reduceMul, Nat.reduceSub, Nat.reduceLeDiff, Nat.reduceEqDiff, ↓reduceIte, ne_eq, reduceCtorEq, forall_const, exists_and_left, exists_eq_left', eq_self, Nat.reduceLT, Int.reduceLT, Int.reduceLE, Int.reduceToNat, Int.reduceAdd, Int.reduceSub, Int.reduceNeg, hnm, Tryd.tf4, Tryd.tf9, Tryd.call50]); repeat (refine And.intro (by omega) ?_))
    | ((with_reducible first | apply WL_nil | apply W_label | apply W_skip | apply W_exit | apply W_ret); try simp only [seqK, blockK, scopeK, ↓reduceIte, Nat.reduceEqDiff])
    | (with_reducible apply W_cond_k; intro _ _ ea eb; (simp only [condK, cob, opnd, constPV, Nat.reduceEqDiff, Nat.reduceLT, ↓reduceIte, hcb, reduceCtorEq, forall_const, ne_eq]); subst ea eb; first | (refine ⟨fun hc => ?_, fun hc => ?_⟩ <;> first | (exfalso; omega) | (exfalso; exact hc trivial) | skip) | skip)
    | (with_reducible apply hnx; clear hnx nx)
    | (with_reducible refine And.intro (by omega) ?_)
    | (with_reducible refine And.intro ?_ ?_)
    | (with_reducible refine pcall_k (c1) ?_; rintro _ _ ⟨rfl, rfl⟩ -; refine Ev_in ?_)
    | (clear hnx nx; with_reducible apply hnx; clear hnx nx)
    | (clear hnx nx; clear hnx nx; with_reducible apply hnx; clear hnx nx))
  all_goals first | exact absurd trivial hc | contradiction | exact fun h => False.elim h | (exfalso; omega) | (exfalso; have hc := of_decide_eq_false hc; omega) | (exfalso; simp only [Bool.not_false, Bool.not_true, decide_eq_true_eq, decide_eq_false_iff_not] at *; omega) | skip
  all_goals
    refine hfin _ _ (Fin_ret1 rfl (Sub_nil _) ?_); simp only [List.getD_cons_zero, List.getD_cons_succ, fr_getD_cons, fr_getD_nil, Nat.reduceEqDiff, Nat.reduceLT, ↓reduceIte]
    exact ⟨by first | rfl | trivial, by trivial⟩
end Go.PM

namespace Go.PM
theorem plain_ok {f : Font} (h : okFont f = true) : okFont (plainFo f) = true := by
  rw [okFont_iff] at h ⊢
  obtain ⟨h1, h2, h3, h4, _⟩ := h
  exact ⟨h1, h2, h3, h4, by simp [plainFo], by simp [plainFo], by simp [plainFo, pairs]⟩
theorem kernF_first {f : Font} (hok : okFont f = true) (r : List UInt8) : kernF f.kerns [] r = 0 := by
  unfold kernF
  cases hf : f.kerns.find? fun k => decide (k.left = [] ∧ k.right = r) with
  | none => rfl
  | some k =>
    exfalso
    have h1 := List.mem_of_find?_eq_some hf
    have h2 := List.find?_some hf
    simp only [decide_eq_true_eq] at h2
    have h3 := ((okFont_iff f).1 hok).2.2.2.2.2.1
    rw [List.all_eq_true] at h3
    have h4 := (okKern_iff k).1 (h3 k h1)
    rw [h2.1] at h4
    simp at h4
theorem inc_first {f : Font} (hok : okFont f = true) (bold : Bool) (last : List UInt8) (c : List UInt8 × Int) : incF f bold last c ≤ incF f bold [] c := by
  have h1 := kernF_nn hok last c.1
  have h2 := kernF_first hok c.1
  unfold incF
  omega
theorem tot_first {f : Font} (hok : okFont f = true) (bold : Bool) (last : List UInt8) : ∀ cs : List (List UInt8 × Int), totW f bold last cs ≤ totW f bold [] cs
  | [] => Int.le_refl _
  | c :: cs => by
    have := inc_first hok bold last c
    simp only [totW]
    omega
theorem tot_nokern {f : Font} (hk : f.kerns = []) (bold : Bool) (last last' : List UInt8) : ∀ cs : List (List UInt8 × Int), totW f bold last cs = totW f bold last' cs
  | [] => rfl
  | c :: cs => by
    simp only [totW, incF, hk, kernF_nil]
theorem tot_le {f : Font} (hok : okFont f = true) (bold : Bool) : ∀ (cs : List (List UInt8 × Int)) (last : List UInt8), lowW f bold cs → totW f bold last cs ≤ 4001 * cs.length
  | [], _, _ => by simp [totW]
  | c :: cs, last, h => by
    have h1 := h c (List.mem_cons_self)
    have h2 := kernF_nn hok last c.1
    have h3 := tot_le hok bold cs c.1 (fun x hx => h x (List.mem_cons_of_mem _ hx))
    simp only [totW, incF, List.length_cons]
    omega
theorem space_res : okB 32 = false := by decide
theorem chars_space {a : List Ltr} (hv : validF a = true) (f : Font) (s t : List UInt8) : charsF a f (s ++ [32] ++ t) = charsF a f s ++ ([32], f.space) :: charsF a f t := by
  rw [List.append_assoc, List.singleton_append, charsF_sep (valid_free hv space_res) (valid_ne hv) s.length s t (Nat.le_refl _)]
  rfl
theorem space_ne {f : Font} (hok : okFont f = true) : f.space ≠ 0 := by
  have := ((okFont_iff f).1 hok).1
  omega
theorem parts_ok {a : List Ltr} {f : Font} {s t : List UInt8} (bold : Bool) (hv : validF a = true) (hok : okFont f = true) (hs : s.length ≤ 60) (ht : t.length ≤ 60) (h1 : okC (charsF a f s)) (h2 : okC (charsF a f t)) :
    ∃ X Y : List Int, ∃ u v one q : Int, widthsF a f s bold = (X, 0) ∧ widthF a f s bold = (u, 0) ∧ widthF a f t bold = (v, 0) ∧ widthF a f [32] bold = (one, 0) ∧ widthsF a f (s ++ [32] ++ t) bold = (Y, 0) ∧
      X.length < Y.length ∧ Y.length ≤ 200 ∧ X = Y.take X.length ∧ Y.getD (Y.length - 1) 0 = q ∧ q ≤ u + one + v ∧ (f.kerns = [] → q = u + one + v) ∧ (0 ≤ u ∧ u ≤ 1000000) ∧ (0 ≤ v ∧ v ≤ 1000000) ∧ (0 ≤ one ∧ one ≤ 1000000) := by
  have hw : ∀ x ∈ a, 0 ≤ x.width ∧ x.width ≤ 1000 := fun x hx => by have := valid_wid hv x hx; omega
  have e1 : charsF a f [32] = [([32], f.space)] := by
    have := chars_space hv f [] []
    simpa [charsF_nil] using this
  have hsp := space_ne hok
  have o3 : okC (charsF a f [32]) := by
    rw [e1]
    intro c hc
    simp only [List.mem_singleton] at hc
    subst hc
    exact hsp
  have hch := chars_space hv f s t
  have o4 : okC (charsF a f (s ++ [32] ++ t)) := by
    rw [hch]
    intro c hc
    rcases List.mem_append.1 hc with hc | hc
    · exact h1 c hc
    · rcases List.mem_cons.1 hc with rfl | hc
      · exact hsp
      · exact h2 c hc
  have l1 := charsF_len a f s
  have l2 := charsF_len a f t
  have b1 := tot_le hok bold _ [] (chars_low bold hok hw s)
  have b2 := tot_le hok bold _ [] (chars_low bold hok hw t)
  have b3 := tot_le hok bold _ [] (chars_low bold hok hw [32])
  have n1 := totW_nn f bold (charsF a f s) []
  have n2 := totW_nn f bold (charsF a f t) []
  have n3 := totW_nn f bold (charsF a f [32]) []
  have i1 := inc_first hok bold (lastC [] (charsF a f s)) ([32], f.space)
  have i2 := tot_first hok bold [32] (charsF a f t)
  have hY := runW_len f bold (charsF a f (s ++ [32] ++ t)) [] 0
  have hYn : (charsF a f (s ++ [32] ++ t)).length = (charsF a f s).length + ((charsF a f t).length + 1) := by
    rw [hch, List.length_append, List.length_cons]
  have hq : totW f bold [] (charsF a f (s ++ [32] ++ t)) = totW f bold [] (charsF a f s) + (incF f bold (lastC [] (charsF a f s)) ([32], f.space) + totW f bold [32] (charsF a f t)) := by
    rw [hch, totW_app]
    rfl
  have h32 : totW f bold [] (charsF a f [32]) = incF f bold [] ([32], f.space) := by
    rw [e1]
    simp [totW]
  have hl32 : (charsF a f [32]).length = 1 := by rw [e1]; rfl
  refine ⟨_, _, _, _, _, totW f bold [] (charsF a f (s ++ [32] ++ t)), widths_ok hv hok (by omega) h1, width_ok hv hok (by omega) h1, width_ok hv hok (by omega) h2, width_ok hv hok (by simp) o3, widths_ok hv hok (by simp; omega) o4, ?_, ?_, ?_, ?_, ?_, ?_, ?_, ?_, ?_⟩
  · rw [runW_len, hY, hYn]
    omega
  · rw [hY, hYn]
    omega
  · rw [runW_len, hch, runW_app, List.take_append_of_le_length (by rw [runW_len]; omega), List.take_of_length_le (by rw [runW_len]; omega)]
  · rw [runW_getD (by omega), hY, show (charsF a f (s ++ [32] ++ t)).length - 1 + 1 = (charsF a f (s ++ [32] ++ t)).length by omega, List.take_length]
  · rw [hq, h32]
    omega
  · intro hk
    rw [hq, h32, tot_nokern hk bold [32] []]
    have : incF f bold (lastC [] (charsF a f s)) ([32], f.space) = incF f bold [] ([32], f.space) := by
      simp only [incF, hk, kernF_nil]
    omega
  · exact ⟨n1, by omega⟩
  · exact ⟨n2, by omega⟩
  · exact ⟨n3, by omega⟩
theorem parts_bad {a : List Ltr} {f : Font} {s t : List UInt8} (bold : Bool) (hv : validF a = true) (hok : okFont f = true) (hs : s.length ≤ 60) (ht : t.length ≤ 60) (h : ¬ (okC (charsF a f s) ∧ okC (charsF a f t))) : widthsF a f (s ++ [32] ++ t) bold = ([], 2) := by
  refine widths_bad hv hok (by simp; omega) fun hn => h ?_
  rw [chars_space hv] at hn
  exact ⟨fun c hc => hn c (List.mem_append.2 (.inl hc)), fun c hc => hn c (List.mem_append.2 (.inr (List.mem_cons_of_mem _ hc)))⟩
end Go.PM

namespace Go.PM
/-- The letter x as a character. -/
@[reducible] def ltC (a : List Ltr) (x : Int) : List UInt8 × Int := ((a.getD x.toNat default).text, (a.getD x.toNat default).width)
theorem safe_parts {a : List Ltr} {w : List Int} (hv : validF a = true) (h : safeF a w = true) : w.all (inA a) = true ∧ (writeF a w).2 = 0 ∧ ∀ f : Font, charsF a f (writeF a w).1 = w.map (ltC a) := by
  unfold safeF at h
  simp only [Bool.and_eq_true, decide_eq_true_eq] at h
  obtain ⟨h1, h2, h3⟩ := h
  refine ⟨?_, h1, fun f => ?_⟩
  · unfold writeF at h1
    rw [hv, if_pos rfl] at h1
    split at h1
    · assumption
    · simp at h1
  · unfold readF at h2 h3
    rw [hv] at h2 h3
    simp only [↓reduceIte] at h2 h3
    have h4 : (readW a (writeF a w).1.length (writeF a w).1).2 = (writeF a w).1.length := by
      split at h2
      · assumption
      · omega
    rw [chars_read hv _ _ h4, h3]
theorem tot_plain {f : Font} (hok : okFont f = true) : ∀ (cs : List (List UInt8 × Int)) (last last' : List UInt8), totW f false last cs ≤ totW (plainFo f) false last' cs
  | [], _, _ => Int.le_refl _
  | c :: cs, last, last' => by
    have h1 := kernF_nn hok last c.1
    have h2 := tot_plain hok cs c.1 c.1
    have h3 : kernF (plainFo f).kerns last' c.1 = 0 := rfl
    simp only [totW, incF, h3, boldF]
    simp only [Bool.false_eq_true, ↓reduceIte]
    omega
theorem letters_ok {a : List Ltr} {f : Font} {w : List Int} (hv : validF a = true) (hok : okFont f = true) (hw : w.length ≤ 1000) (hs : safeF a w = true) :
    ∃ X Y : List Int, ∃ S : Nat → Int, (writeF a w).2 = 0 ∧ widthsF a f (writeF a w).1 false = (X, 0) ∧ widthsF a (plainFo f) (writeF a w).1 false = (Y, 0) ∧ X.length = w.length ∧ Y.length = w.length ∧ S 0 = 0 ∧
      ∀ i, i < w.length → (0 ≤ w.getD i 0 ∧ (w.getD i 0).toNat < a.length) ∧ S (i + 1) = S i + (a.getD (w.getD i 0).toNat default).width ∧ Y.getD i 0 = S (i + 1) ∧ X.getD i 0 ≤ S (i + 1) ∧ (0 ≤ S i ∧ S i ≤ 1000 * i) ∧
        (0 ≤ (a.getD (w.getD i 0).toNat default).width ∧ (a.getD (w.getD i 0).toNat default).width ≤ 1000) := by
  obtain ⟨h1, h2, h3⟩ := safe_parts hv hs
  have hl := writeF_len (a := a) (w := w)
  rw [List.all_eq_true] at h1
  have hin : ∀ i, i < w.length → 0 ≤ w.getD i 0 ∧ (w.getD i 0).toNat < a.length := by
    intro i hi
    have := h1 w[i] (List.getElem_mem hi)
    have e : w.getD i 0 = w[i] := by rw [List.getD_eq_getElem?_getD, List.getElem?_eq_getElem hi]; rfl
    rw [e]
    simp only [inA, Bool.and_eq_true, decide_eq_true_eq] at this
    exact ⟨this.1, by omega⟩
  have hwid : ∀ i, i < w.length → 1 ≤ (a.getD (w.getD i 0).toNat default).width ∧ (a.getD (w.getD i 0).toNat default).width ≤ 1000 := by
    intro i hi
    obtain ⟨h4, h5⟩ := hin i hi
    rw [getD_lt h5]
    exact valid_wid hv _ (List.getElem_mem _)
  have hcl : (w.map (ltC a)).length = w.length := List.length_map ..
  have okc : okC (w.map (ltC a)) := by
    intro c hc
    obtain ⟨i, hi, rfl⟩ := List.mem_iff_getElem.1 hc
    rw [hcl] at hi
    have := hwid i hi
    have e : w.getD i 0 = w[i] := by rw [List.getD_eq_getElem?_getD, List.getElem?_eq_getElem hi]; rfl
    rw [e] at this
    rw [List.getElem_map]
    simp only
    omega
  have hpo := plain_ok hok
  have hstep : ∀ i, i < w.length → totW (plainFo f) false [] ((w.map (ltC a)).take (i + 1)) = totW (plainFo f) false [] ((w.map (ltC a)).take i) + (a.getD (w.getD i 0).toNat default).width := by
    intro i hi
    have h4 := hwid i hi
    have e : w.getD i 0 = w[i] := by rw [List.getD_eq_getElem?_getD, List.getElem?_eq_getElem hi]; rfl
    rw [List.take_succ_eq_append_getElem (by rw [hcl]; exact hi), totW_app, List.getElem_map, ← e]
    have h5 : kernF (plainFo f).kerns (lastC [] ((w.map (ltC a)).take i)) (ltC a (w.getD i 0)).1 = 0 := rfl
    simp only [totW, incF, h5, boldF]
    simp only [Bool.false_eq_true, ↓reduceIte]
    omega
  have hb : ∀ i, i ≤ w.length → 0 ≤ totW (plainFo f) false [] ((w.map (ltC a)).take i) ∧ totW (plainFo f) false [] ((w.map (ltC a)).take i) ≤ 1000 * i := by
    intro i
    induction i with
    | zero =>
      intro _
      simp [totW]
    | succ i ih =>
      intro hi
      have := ih (by omega)
      have := hstep i (by omega)
      have := hwid i (by omega)
      omega
  refine ⟨_, _, fun i => totW (plainFo f) false [] ((w.map (ltC a)).take i), h2, widths_ok hv hok (by omega) (by rw [h3]; exact okc), widths_ok hv hpo (by omega) (by rw [h3]; exact okc), ?_, ?_, ?_, ?_⟩
  · rw [runW_len, h3, hcl]
  · rw [runW_len, h3, hcl]
  · simp [totW]
  · intro i hi
    refine ⟨hin i hi, hstep i hi, ?_, ?_, hb i (by omega), ?_⟩
    · rw [h3, runW_getD (by omega)]
    · rw [h3, runW_getD (by omega)]
      exact tot_plain hok _ _ _
    · have := hwid i hi
      omega
end Go.PM

namespace Go.PM
open Go.Proofs
attribute [local irreducible] W PCalls pcall pcallI WL
set_option maxRecDepth 100000
set_option maxHeartbeats 8000000
/-- The word that l makes. -/
def wordF (n : Nat) (l : List Int) : List Int := (l.take 12).map fun x => arF x n
theorem word_r (G : Globs) (a : List Ltr) (l : List Int) (ha : a.length ≤ 1000) (ha1 : 1 ≤ a.length) (hl : okI l) : PCalls Tryd.prog G 32 [ltsP a, wP l] [] (CRI (wordF a.length l)) := by
  have hl1 := hl.1
  (refine PCalls_f Tryd.func32 rfl Tryd.ntmps32 Tryd.results32 (by simp) fun fin hfin => ?_; have hnm : True := trivial; simp (maxSteps := 2000000) (disch := omega) only [evb, evd, eve, constPV, seqK, blockK, scopeK, pbound, pelems, PV.mem?, PV.one, PV.cells, peqs, peq1, pkeys, pkeyt, List.set, Value.cells, ↓popG_eq, ↓pop.eq_1, ↓List.getElem?_map, ↓List.getElem?_cons_zero, ↓List.getElem?_cons_succ, Value.oneCell', Nat.reduceAdd, Nat.reduceMul, Nat.reduceSub, Nat.reduceLeDiff, Nat.reduceEqDiff, ↓reduceIte, ne_eq, reduceCtorEq, forall_const, exists_and_left, exists_eq_left', eq_self, Nat.reduceLT, Int.reduceLT, Int.reduceLE, Int.reduceToNat, Int.reduceAdd, Int.reduceSub, Int.reduceNeg, hnm, Tryd.tf0, Tryd.tf1, Tryd.tf3, Tryd.tf4, Tryd.tf22, Tryd.tf23, Tryd.tf60, Tryd.call24])
  repeat' (first
    | (with_reducible apply W_seq_k; intro nx hnx)
    | (with_reducible first | apply W_block | apply W_scope)
    | (with_reducible refine W_prune 115 ?_; simp only [prb, Nat.reducePow, Nat.reduceDiv, Nat.reduceMod, Nat.reduceBEq]; with_reducible apply W_region_l)
    | ((first | (with_reducible apply WL_op; intro nx hnx) | with_reducible refine Ev_out ?_ | (with_reducible refine pfresh_k hnm fun nm hnm => ?_; (try simp only [fmb] at hnm)) | (with_reducible refine pborn_mu hnm fun nm hnm => ?_; (try simp only [fmb] at hnm))); try (simp (maxSteps := 2000000) (disch := omega) only [evb, evd, eve, constPV, seqK, blockK, scopeK, pbound, pelems, PV.mem?, PV.one, PV.cells, peqs, peq1, pkeys, pkeyt, List.set, Value.cells, ↓popG_eq, ↓pop.eq_1, ↓List.getElem?_map, ↓List.getElem?_cons_zero, ↓List.getElem?_cons_succ, Value.oneCell', Nat.reduceAdd, Nat.reduceMul, Nat.reduceSub, Nat.reduceLeDiff, Nat.reduceEqDiff, ↓reduceIte, ne_eq, reduceCtorEq, forall_const, exists_and_left, exists_eq_left', eq_self, Nat.reduceLT, Int.reduceLT, Int.reduceLE, Int.reduceToNat, Int.reduceAdd, Int.reduceSub, Int.reduceNeg, hnm, Tryd.tf0, Tryd.tf1, Tryd.tf3, Tryd.tf4, Tryd.tf22, Tryd.tf23, Tryd.tf60, Tryd.call24]); repeat (refine And.intro (by omega) ?_))
    | ((with_reducible first | apply WL_nil | apply W_label | apply W_skip | apply W_exit | apply W_ret); try simp only [seqK, blockK, scopeK, ↓reduceIte, Nat.reduceEqDiff])
    | (with_reducible apply pguard_intro <;> (intro hc; (try simp only [hcb, reduceCtorEq, forall_const, ne_eq] at hc); first | (exfalso; omega) | (exfalso; exact hc trivial) | refine Ev_in ?_))
    | (with_reducible apply W_cond_k; intro _ _ ea eb; (simp only [condK, cob, opnd, constPV, Nat.reduceEqDiff, Nat.reduceLT, ↓reduceIte, hcb, reduceCtorEq, forall_const, ne_eq]); subst ea eb; first | (refine ⟨fun hc => ?_, fun hc => ?_⟩ <;> first | (exfalso; omega) | (exfalso; exact hc trivial) | skip) | skip)
    | (with_reducible apply hnx; clear hnx nx)
    | (with_reducible refine And.intro (by omega) ?_)
    | (with_reducible refine And.intro ?_ ?_)
    | (clear hnx nx; with_reducible apply hnx; clear hnx nx)
    | (clear hnx nx; clear hnx nx; with_reducible apply hnx; clear hnx nx))
  refine W_loop_k (fun z τ => ∃ (i : Nat) (o : PV) (HO : Heap), i ≤ l.length ∧ i ≤ 12 ∧ z = 12 - i ∧ CRI ((l.take i).map fun x => arF x a.length) o HO ∧ τ = ⟨fr 28 [(6, pn i), (5, o), (1, wP l), (0, ltsP a)], HO⟩) 12
    ⟨fr 28 [(6, pn 0), (5, pnil), (1, wP l), (0, ltsP a)], []⟩ (by
    exact Wk_fr (by simp only [wkb, Nat.reduceEqDiff, Nat.reduceLT, ↓reduceIte, pn]) (Sub_nil _)) ⟨0, _, _, by omega, by omega, by omega, .inl ⟨rfl, rfl, rfl⟩, rfl⟩ ?_
  rintro z τ ⟨i, o, HO, hi, hi12, rfl, hC, rfl⟩ lp hlp
  refine W_nd fun nd => ?_
  by_cases hil : i < l.length ∧ i < 12
  · obtain ⟨hil, hil2⟩ := hil
    have hgw : l[i]? = some l[i] := List.getElem?_eq_getElem hil
    have hsn : (l.take (i + 1)).map (fun x => arF x a.length) = (l.take i).map (fun x => arF x a.length) ++ [arF l[i] a.length] := by rw [List.take_add_one, hgw, List.map_append]; rfl
    have cr := around_c G l[i] a.length (by omega) (hl.2 _ (List.getElem_mem hil)) (by omega)
    have hul : ((l.take i).map (fun x => arF x a.length)).length ≤ 12 := by rw [List.length_map, List.length_take]; omega
    generalize arF l[i] a.length = y at *
    generalize (l.take i).map (fun x => arF x a.length) = u at *
    rcases hC with ⟨hu0, rfl, rfl⟩ | ⟨n, rfl, rfl⟩
    · subst hu0
      repeat' (first
    | (with_reducible apply W_seq_k; intro nx hnx)
    | (with_reducible first | apply W_block | apply W_scope)
    | (with_reducible refine W_prune 115 ?_; simp only [prb, Nat.reducePow, Nat.reduceDiv, Nat.reduceMod, Nat.reduceBEq]; with_reducible apply W_region_l)
    | ((first | (with_reducible apply WL_op; intro nx hnx) | with_reducible refine Ev_out ?_ | (with_reducible refine pfresh_k hnm fun nm hnm => ?_; (try simp only [fmb] at hnm)) | (with_reducible refine pborn_mu hnm fun nm hnm => ?_; (try simp only [fmb] at hnm))); try (simp (maxSteps := 2000000) (disch := omega) only [evb, evd, eve, constPV, seqK, blockK, scopeK, pbound, pelems, PV.mem?, PV.one, PV.cells, peqs, peq1, pkeys, pkeyt, List.set, Value.cells, ↓popG_eq, ↓pop.eq_1, ↓List.getElem?_map, ↓List.getElem?_cons_zero, ↓List.getElem?_cons_succ, Value.oneCell', Nat.reduceAdd, Nat.reduceMul, Nat.reduceSub, Nat.reduceLeDiff, Nat.reduceEqDiff, ↓reduceIte, ne_eq, reduceCtorEq, forall_const, exists_and_left, exists_eq_left', eq_self, Nat.reduceLT, Int.reduceLT, Int.reduceLE, Int.reduceToNat, Int.reduceAdd, Int.reduceSub, Int.reduceNeg, hnm, Tryd.tf0, Tryd.tf1, Tryd.tf3, Tryd.tf4, Tryd.tf22, Tryd.tf23, Tryd.tf60, Tryd.call24, hgw]); repeat (refine And.intro (by omega) ?_))
    | ((with_reducible first | apply WL_nil | apply W_label | apply W_skip | apply W_exit | apply W_ret); try simp only [seqK, blockK, scopeK, ↓reduceIte, Nat.reduceEqDiff])
    | (with_reducible apply pguard_intro <;> (intro hc; (try simp only [hcb, reduceCtorEq, forall_const, ne_eq] at hc); first | (exfalso; omega) | (exfalso; exact hc trivial) | refine Ev_in ?_))
    | (with_reducible apply W_cond_k; intro _ _ ea eb; (simp only [condK, cob, opnd, constPV, Nat.reduceEqDiff, Nat.reduceLT, ↓reduceIte, hcb, reduceCtorEq, forall_const, ne_eq]); subst ea eb; first | (refine ⟨fun hc => ?_, fun hc => ?_⟩ <;> first | (exfalso; omega) | (exfalso; exact hc trivial) | skip) | skip)
    | (with_reducible apply hnx; clear hnx nx)
    | (with_reducible refine And.intro (by omega) ?_)
    | (with_reducible refine And.intro ?_ ?_)
    | (with_reducible refine pcall_k (cr) ?_; rintro _ _ ⟨rfl, rfl⟩ -; refine Ev_in ?_)
    | (clear hnx nx; with_reducible apply hnx; clear hnx nx)
    | (clear hnx nx; clear hnx nx; with_reducible apply hnx; clear hnx nx))
      all_goals first | exact absurd trivial hc | contradiction | exact fun h => False.elim h | (exfalso; omega) | (exfalso; have hc := of_decide_eq_false hc; omega) | (exfalso; simp only [Bool.not_false, Bool.not_true, decide_eq_true_eq, decide_eq_false_iff_not] at *; omega) | skip
      all_goals
        refine hlp _ (12 - (i + 1)) ⟨fr 28 [(6, pn (i + 1)), (5, .row nm 1 1), (1, wP l), (0, ltsP a)], [(nm, ⟨3, true, 1, [pint .i64 y]⟩)]⟩ (by omega) ?_ ⟨i + 1, _, _, by omega, by omega, rfl, by rw [hsn]; exact .inr ⟨nm, rfl, rfl⟩, rfl⟩
        refine Wk_fr (by simp only [wkb, Nat.reduceEqDiff, Nat.reduceLT, ↓reduceIte, pn]) ?_
        all_goals
          refine ⟨fun x hx => ?_, by simp [names, hnm]⟩
          simp only [List.mem_cons, List.not_mem_nil, or_false] at hx ⊢
          first
            | exact hx
            | exact .inl hx
    · repeat' (first
    | (with_reducible apply W_seq_k; intro nx hnx)
    | (with_reducible first | apply W_block | apply W_scope)
    | (with_reducible refine W_prune 115 ?_; simp only [prb, Nat.reducePow, Nat.reduceDiv, Nat.reduceMod, Nat.reduceBEq]; with_reducible apply W_region_l)
    | ((first | (with_reducible apply WL_op; intro nx hnx) | with_reducible refine Ev_out ?_ | (with_reducible refine pfresh_k hnm fun nm hnm => ?_; (try simp only [fmb] at hnm)) | (with_reducible refine pborn_mu hnm fun nm hnm => ?_; (try simp only [fmb] at hnm))); try (simp (maxSteps := 2000000) (disch := omega) only [evb, evd, eve, constPV, seqK, blockK, scopeK, pbound, pelems, PV.mem?, PV.one, PV.cells, peqs, peq1, pkeys, pkeyt, List.set, Value.cells, ↓popG_eq, ↓pop.eq_1, ↓List.getElem?_map, ↓List.getElem?_cons_zero, ↓List.getElem?_cons_succ, Value.oneCell', Nat.reduceAdd, Nat.reduceMul, Nat.reduceSub, Nat.reduceLeDiff, Nat.reduceEqDiff, ↓reduceIte, ne_eq, reduceCtorEq, forall_const, exists_and_left, exists_eq_left', eq_self, Nat.reduceLT, Int.reduceLT, Int.reduceLE, Int.reduceToNat, Int.reduceAdd, Int.reduceSub, Int.reduceNeg, hnm, Tryd.tf0, Tryd.tf1, Tryd.tf3, Tryd.tf4, Tryd.tf22, Tryd.tf23, Tryd.tf60, Tryd.call24, hgw]); repeat (refine And.intro (by omega) ?_))
    | ((with_reducible first | apply WL_nil | apply W_label | apply W_skip | apply W_exit | apply W_ret); try simp only [seqK, blockK, scopeK, ↓reduceIte, Nat.reduceEqDiff])
    | (with_reducible apply pguard_intro <;> (intro hc; (try simp only [hcb, reduceCtorEq, forall_const, ne_eq] at hc); first | (exfalso; omega) | (exfalso; exact hc trivial) | refine Ev_in ?_))
    | (with_reducible apply W_cond_k; intro _ _ ea eb; (simp only [condK, cob, opnd, constPV, Nat.reduceEqDiff, Nat.reduceLT, ↓reduceIte, hcb, reduceCtorEq, forall_const, ne_eq]); subst ea eb; first | (refine ⟨fun hc => ?_, fun hc => ?_⟩ <;> first | (exfalso; omega) | (exfalso; exact hc trivial) | skip) | skip)
    | (with_reducible apply hnx; clear hnx nx)
    | (with_reducible refine And.intro (by omega) ?_)
    | (with_reducible refine And.intro ?_ ?_)
    | (with_reducible refine pcall_k (cr) ?_; rintro _ _ ⟨rfl, rfl⟩ -; refine Ev_in ?_)
    | (clear hnx nx; with_reducible apply hnx; clear hnx nx)
    | (clear hnx nx; clear hnx nx; with_reducible apply hnx; clear hnx nx))
      all_goals first | exact absurd trivial hc | contradiction | exact fun h => False.elim h | (exfalso; omega) | (exfalso; have hc := of_decide_eq_false hc; omega) | (exfalso; simp only [Bool.not_false, Bool.not_true, decide_eq_true_eq, decide_eq_false_iff_not] at *; omega) | skip
      all_goals
        have hl1 : (u ++ [y]).length = u.length + 1 := by simp
        refine hlp _ (12 - (i + 1)) ⟨fr 28 [(6, pn (i + 1)), (5, .row nm 1 (u ++ [y]).length), (1, wP l), (0, ltsP a)], [(nm, ⟨3, true, 1, (u ++ [y]).map (pint .i64)⟩)]⟩ (by omega) ?_ ⟨i + 1, _, _, by omega, by omega, rfl, by rw [hsn]; exact .inr ⟨nm, rfl, rfl⟩, rfl⟩
        refine Wk_fr (by simp only [wkb, Nat.reduceEqDiff, Nat.reduceLT, ↓reduceIte, pn, hl1]) ?_
        all_goals
          (try rw [List.map_append])
          refine ⟨fun x hx => ?_, by simp [names, hnm]⟩
          simp only [List.mem_cons, List.not_mem_nil, or_false] at hx ⊢
          first
            | exact hx
            | exact .inl hx
  · have he : l.take i = l.take 12 := by
      by_cases h : i < l.length
      · have : i = 12 := by omega
        rw [this]
      · rw [List.take_of_length_le (by omega), List.take_of_length_le (by omega)]
    rw [he] at hC
    repeat' (first
    | (with_reducible apply W_seq_k; intro nx hnx)
    | (with_reducible first | apply W_block | apply W_scope)
    | (with_reducible refine W_prune 115 ?_; simp only [prb, Nat.reducePow, Nat.reduceDiv, Nat.reduceMod, Nat.reduceBEq]; with_reducible apply W_region_l)
    | ((first | (with_reducible apply WL_op; intro nx hnx) | with_reducible refine Ev_out ?_ | (with_reducible refine pfresh_k hnm fun nm hnm => ?_; (try simp only [fmb] at hnm)) | (with_reducible refine pborn_mu hnm fun nm hnm => ?_; (try simp only [fmb] at hnm))); try (simp (maxSteps := 2000000) (disch := omega) only [evb, evd, eve, constPV, seqK, blockK, scopeK, pbound, pelems, PV.mem?, PV.one, PV.cells, peqs, peq1, pkeys, pkeyt, List.set, Value.cells, ↓popG_eq, ↓pop.eq_1, ↓List.getElem?_map, ↓List.getElem?_cons_zero, ↓List.getElem?_cons_succ, Value.oneCell', Nat.reduceAdd, Nat.reduceMul, Nat.reduceSub, Nat.reduceLeDiff, Nat.reduceEqDiff, ↓reduceIte, ne_eq, reduceCtorEq, forall_const, exists_and_left, exists_eq_left', eq_self, Nat.reduceLT, Int.reduceLT, Int.reduceLE, Int.reduceToNat, Int.reduceAdd, Int.reduceSub, Int.reduceNeg, hnm, Tryd.tf0, Tryd.tf1, Tryd.tf3, Tryd.tf4, Tryd.tf22, Tryd.tf23, Tryd.tf60, Tryd.call24]); repeat (refine And.intro (by omega) ?_))
    | ((with_reducible first | apply WL_nil | apply W_label | apply W_skip | apply W_exit | apply W_ret); try simp only [seqK, blockK, scopeK, ↓reduceIte, Nat.reduceEqDiff])
    | (with_reducible apply pguard_intro <;> (intro hc; (try simp only [hcb, reduceCtorEq, forall_const, ne_eq] at hc); first | (exfalso; omega) | (exfalso; exact hc trivial) | refine Ev_in ?_))
    | (with_reducible apply W_cond_k; intro _ _ ea eb; (simp only [condK, cob, opnd, constPV, Nat.reduceEqDiff, Nat.reduceLT, ↓reduceIte, hcb, reduceCtorEq, forall_const, ne_eq]); subst ea eb; first | (refine ⟨fun hc => ?_, fun hc => ?_⟩ <;> first | (exfalso; omega) | (exfalso; exact hc trivial) | skip) | skip)
    | (with_reducible apply hnx; clear hnx nx)
    | (with_reducible refine And.intro (by omega) ?_)
    | (with_reducible refine And.intro ?_ ?_)
    | (clear hnx nx; with_reducible apply hnx; clear hnx nx)
    | (clear hnx nx; clear hnx nx; with_reducible apply hnx; clear hnx nx))
    all_goals first | exact absurd trivial hc | contradiction | exact fun h => False.elim h | (exfalso; omega) | (exfalso; have hc := of_decide_eq_false hc; omega) | (exfalso; simp only [Bool.not_false, Bool.not_true, decide_eq_true_eq, decide_eq_false_iff_not] at *; omega) | skip
    all_goals
      refine hfin _ _ (Fin_ret1 rfl (Sub_refl nd) ?_)
      simp only [fr_getD_cons, Nat.reduceEqDiff, Nat.reduceLT, ↓reduceIte]
      exact hC
theorem word_c (G : Globs) (a : List Ltr) (l : List Int) (ha : a.length ≤ 1000) (ha1 : 1 ≤ a.length) (hl : okI l) : PCalls Tryd.prog G 32 [ltsP a, wP l] [] (fun res H => res = wP (wordF a.length l) ∧ H = []) := CRI.frz (word_r G a l ha ha1 hl)
end Go.PM

namespace Go.PM
open Go.Proofs
attribute [local irreducible] W PCalls pcall pcallI WL
theorem lts_getD {a : List Ltr} {j : Nat} (h : j < a.length) : (a.map ltP).getD j .junk = ltP (a.getD j default) := by
  rw [List.getD_eq_getElem?_getD, List.getElem?_map, List.getD_eq_getElem?_getD, List.getElem?_eq_getElem h]
  rfl
set_option maxRecDepth 100000
set_option maxHeartbeats 8000000
theorem law8 (G : Globs) (t : TypeId) (hG : G 1 = .gtab t powC) (l m k : List Int) (hl : okI l) (hm : okI m) (hk : okI k) :
    PCalls Tryd.prog G 8 [wP l, wP m, wP k] [] (fun res H => res = pbool true ∧ H = []) := by
  have hv := letters_valid l
  have hA := valid_HA hv
  have hn := lettersF_len l
  have hx := valid_lens hv
  have c1 := letters_c G l hl
  have c2 := font_f G (lettersF l) m (by omega) hx hm
  have c3 := word_c G (lettersF l) k (by omega) (by omega) hk
  have hwl : (wordF (lettersF l).length k).length ≤ 12 := by
    unfold wordF
    rw [List.length_map, List.length_take]
    omega
  generalize lettersF l = a at *
  have hfo := fontF_ok a m
  have hfH := ok_HF hfo
  generalize fontF a m = f at *
  generalize wordF a.length k = w at *
  have c9 := lives_c G t hG
  have c4 := safe_c G a w hA (by omega)
  have c5 := write_c G a w hA (by omega)
  by_cases hs : safeF a w = true
  · obtain ⟨X, Y, S, e1, e2, e3, hX, hY, s0, hS⟩ := letters_ok hv hfo (by omega) hs
    have hsl := writeF_len (a := a) (w := w)
    have c6 := widths_c G a f (writeF a w).1 false hA hfH (by omega)
    have c7 := plain_f G f
    have c8 := widths_c G a (plainFo f) (writeF a w).1 false hA (ok_HF (plain_ok hfo)) (by omega)
    rw [e1] at c5
    rw [e2] at c6
    rw [e3] at c8
    rw [hs] at c4
    generalize (writeF a w).1 = s at *
    (refine PCalls_f Tryd.func8 rfl Tryd.ntmps8 Tryd.results8 (by simp) fun fin hfin => ?_; have hnm : True := trivial; simp (maxSteps := 2000000) (disch := omega) only [evb, evd, eve, constPV, seqK, blockK, scopeK, pbound, pelems, PV.mem?, PV.one, PV.cells, peqs, peq1, pkeys, pkeyt, List.set, Value.cells, ↓popG_eq, ↓pop.eq_1, ↓List.getElem?_map, ↓List.getElem?_cons_zero, ↓List.getElem?_cons_succ, Value.oneCell', Nat.reduceAdd, Nat.reduceMul, Nat.reduceSub, Nat.reduceLeDiff, Nat.reduceEqDiff, ↓reduceIte, ne_eq, reduceCtorEq, forall_const, exists_and_left, exists_eq_left', eq_self, Nat.reduceLT, Int.reduceLT, Int.reduceLE, Int.reduceToNat, Int.reduceAdd, Int.reduceSub, Int.reduceNeg, hnm, Tryd.tf0, Tryd.tf1, Tryd.tf3, Tryd.tf4, Tryd.tf9, Tryd.tf22, Tryd.tf23, Tryd.tf27, Tryd.tf37, Tryd.tf40, Tryd.tf57, Tryd.tf60, Tryd.call10, Tryd.call11, Tryd.call20, Tryd.call23, Tryd.call30, Tryd.call32, Tryd.call33, Tryd.call34])
    repeat' (first
    | (with_reducible apply W_seq_k; intro nx hnx)
    | (with_reducible first | apply W_block | apply W_scope)
    | (with_reducible refine W_prune 262087 ?_; simp only [prb, Nat.reducePow, Nat.reduceDiv, Nat.reduceMod, Nat.reduceBEq]; with_reducible apply W_region_l)
    | ((first | (with_reducible apply WL_op; intro nx hnx) | with_reducible refine Ev_out ?_ | (with_reducible refine pfresh_k hnm fun nm hnm => ?_; (try simp only [fmb] at hnm)) | (with_reducible refine pborn_mu hnm fun nm hnm => ?_; (try simp only [fmb] at hnm))); try (simp (maxSteps := 2000000) (disch := omega) only [evb, evd, eve, constPV, seqK, blockK, scopeK, pbound, pelems, PV.mem?, PV.one, PV.cells, peqs, peq1, pkeys, pkeyt, List.set, Value.cells, ↓popG_eq, ↓pop.eq_1, ↓List.getElem?_map, ↓List.getElem?_cons_zero, ↓List.getElem?_cons_succ, Value.oneCell', Nat.reduceAdd, Nat.reduceMul, Nat.reduceSub, Nat.reduceLeDiff, Nat.reduceEqDiff, ↓reduceIte, ne_eq, reduceCtorEq, forall_const, exists_and_left, exists_eq_left', eq_self, Nat.reduceLT, Int.reduceLT, Int.reduceLE, Int.reduceToNat, Int.reduceAdd, Int.reduceSub, Int.reduceNeg, hnm, Tryd.tf0, Tryd.tf1, Tryd.tf3, Tryd.tf4, Tryd.tf9, Tryd.tf22, Tryd.tf23, Tryd.tf27, Tryd.tf37, Tryd.tf40, Tryd.tf57, Tryd.tf60, Tryd.call10, Tryd.call11, Tryd.call20, Tryd.call23, Tryd.call30, Tryd.call32, Tryd.call33, Tryd.call34, hX, hY]); repeat (refine And.intro (by omega) ?_))
    | ((with_reducible first | apply WL_nil | apply W_label | apply W_skip | apply W_exit | apply W_ret); try simp only [seqK, blockK, scopeK, ↓reduceIte, Nat.reduceEqDiff])
    | (with_reducible apply pguard_intro <;> (intro hc; (try simp only [hcb, reduceCtorEq, forall_const, ne_eq] at hc); first | (exfalso; omega) | (exfalso; exact hc trivial) | refine Ev_in ?_))
    | (with_reducible apply W_cond_k; intro _ _ ea eb; (simp only [condK, cob, opnd, constPV, Nat.reduceEqDiff, Nat.reduceLT, ↓reduceIte, hcb, reduceCtorEq, forall_const, ne_eq]); subst ea eb; first | (refine ⟨fun hc => ?_, fun hc => ?_⟩ <;> first | (exfalso; omega) | (exfalso; exact hc trivial) | skip) | skip)
    | (with_reducible apply hnx; clear hnx nx)
    | (with_reducible refine And.intro (by omega) ?_)
    | (with_reducible refine And.intro ?_ ?_)
    | (with_reducible refine pcall_k (c1) ?_; rintro _ _ ⟨rfl, rfl⟩ -; refine Ev_in ?_)
    | (with_reducible refine pcall_k (c2) ?_; rintro _ _ ⟨rfl, rfl⟩ -; refine Ev_in ?_)
    | (with_reducible refine pcall_k (c3) ?_; rintro _ _ ⟨rfl, rfl⟩ -; refine Ev_in ?_)
    | (with_reducible refine pcall_k (c4) ?_; rintro _ _ ⟨rfl, rfl⟩ -; refine Ev_in ?_)
    | (with_reducible refine pcall_k (c5) ?_; rintro _ _ ⟨rfl, rfl⟩ -; refine Ev_in ?_)
    | (with_reducible refine pcall_k (c6) ?_; rintro _ _ ⟨rfl, rfl⟩ -; refine Ev_in ?_)
    | (with_reducible refine pcall_k (c7) ?_; rintro _ _ ⟨rfl, rfl⟩ -; refine Ev_in ?_)
    | (with_reducible refine pcall_k (c8) ?_; rintro _ _ ⟨rfl, rfl⟩ -; refine Ev_in ?_)
    | (clear hnx nx; with_reducible apply hnx; clear hnx nx)
    | (clear hnx nx; clear hnx nx; with_reducible apply hnx; clear hnx nx))
    all_goals first | exact absurd trivial hc | contradiction | exact fun h => False.elim h | (exfalso; omega) | (exfalso; have hc := of_decide_eq_false hc; omega) | (exfalso; simp only [Bool.not_false, Bool.not_true, decide_eq_true_eq, decide_eq_false_iff_not] at *; omega) | skip
    generalize nm = mn at *
    refine W_loop_k (fun z τ => ∃ i : Nat, i ≤ w.length ∧ z = w.length - i ∧ τ = ⟨fr 107 [(17, pn i), (16, pint .i64 (S i)), (14, wP Y), (12, wP X), (9, wP w), (7, ltsP a)], []⟩) w.length
      ⟨fr 107 [(17, pn 0), (16, pint .i64 (S 0)), (14, wP Y), (12, wP X), (9, wP w), (7, ltsP a)], []⟩ (by
      rw [s0]
      exact Wk_fr (by simp only [wkb, Nat.reduceEqDiff, Nat.reduceLT, ↓reduceIte, pn]) (Sub_nil _)) ⟨0, by omega, by omega, rfl⟩ ?_
    rintro z τ ⟨i, hi, rfl, rfl⟩ lp hlp
    by_cases hil : i < w.length
    · obtain ⟨⟨x1, x2⟩, x3, x4, x5, x6, x7⟩ := hS i hil
      have g1 := pint_getD hil
      have g2 := pint_getD (l := X) (i := i) (by omega)
      have g3 := pint_getD (l := Y) (i := i) (by omega)
      have g4 := lts_getD x2
      generalize w.getD i 0 = x at *
      generalize a.getD x.toNat default = L at *
      generalize X.getD i 0 = xi at *
      generalize Y.getD i 0 = yi at *
      obtain ⟨sj, hsj⟩ : ∃ sj, sj = S (i + 1) := ⟨_, rfl⟩
      rw [← hsj] at x3 x4 x5
      subst x4
      repeat' (first
    | (with_reducible apply W_seq_k; intro nx hnx)
    | (with_reducible first | apply W_block | apply W_scope)
    | (with_reducible refine W_prune 262087 ?_; simp only [prb, Nat.reducePow, Nat.reduceDiv, Nat.reduceMod, Nat.reduceBEq]; with_reducible apply W_region_l)
    | ((first | (with_reducible apply WL_op; intro nx hnx) | with_reducible refine Ev_out ?_ | (with_reducible refine pfresh_k hnm fun nm hnm => ?_; (try simp only [fmb] at hnm)) | (with_reducible refine pborn_mu hnm fun nm hnm => ?_; (try simp only [fmb] at hnm))); try (simp (maxSteps := 2000000) (disch := omega) only [evb, evd, eve, constPV, seqK, blockK, scopeK, pbound, pelems, PV.mem?, PV.one, PV.cells, peqs, peq1, pkeys, pkeyt, List.set, Value.cells, ↓popG_eq, ↓pop.eq_1, ↓List.getElem?_map, ↓List.getElem?_cons_zero, ↓List.getElem?_cons_succ, Value.oneCell', Nat.reduceAdd, Nat.reduceMul, Nat.reduceSub, Nat.reduceLeDiff, Nat.reduceEqDiff, ↓reduceIte, ne_eq, reduceCtorEq, forall_const, exists_and_left, exists_eq_left', eq_self, Nat.reduceLT, Int.reduceLT, Int.reduceLE, Int.reduceToNat, Int.reduceAdd, Int.reduceSub, Int.reduceNeg, hnm, Tryd.tf0, Tryd.tf1, Tryd.tf3, Tryd.tf4, Tryd.tf9, Tryd.tf22, Tryd.tf23, Tryd.tf27, Tryd.tf37, Tryd.tf40, Tryd.tf57, Tryd.tf60, Tryd.call10, Tryd.call11, Tryd.call20, Tryd.call23, Tryd.call30, Tryd.call32, Tryd.call33, Tryd.call34, g1, g2, g3, g4, hX, hY, ← x3]); repeat (refine And.intro (by omega) ?_))
    | ((with_reducible first | apply WL_nil | apply W_label | apply W_skip | apply W_exit | apply W_ret); try simp only [seqK, blockK, scopeK, ↓reduceIte, Nat.reduceEqDiff])
    | (with_reducible apply pguard_intro <;> (intro hc; (try simp only [hcb, reduceCtorEq, forall_const, ne_eq] at hc); first | (exfalso; omega) | (exfalso; exact hc trivial) | refine Ev_in ?_))
    | (with_reducible apply W_cond_k; intro _ _ ea eb; (simp only [condK, cob, opnd, constPV, Nat.reduceEqDiff, Nat.reduceLT, ↓reduceIte, hcb, reduceCtorEq, forall_const, ne_eq]); subst ea eb; first | (refine ⟨fun hc => ?_, fun hc => ?_⟩ <;> first | (exfalso; omega) | (exfalso; exact hc trivial) | skip) | skip)
    | (with_reducible apply hnx; clear hnx nx)
    | (with_reducible refine And.intro (by omega) ?_)
    | (with_reducible refine And.intro ?_ ?_)
    | (clear hnx nx; with_reducible apply hnx; clear hnx nx)
    | (clear hnx nx; clear hnx nx; with_reducible apply hnx; clear hnx nx))
      all_goals first | exact absurd trivial hc | contradiction | exact fun h => False.elim h | (exfalso; omega) | (exfalso; have hc := of_decide_eq_false hc; omega) | (exfalso; simp only [Bool.not_false, Bool.not_true, decide_eq_true_eq, decide_eq_false_iff_not] at *; omega) | skip
      refine hlp _ (w.length - (i + 1)) _ (by omega) ?_ ⟨i + 1, by omega, rfl, rfl⟩
      exact Wk_fr (by simp only [wkb, Nat.reduceEqDiff, Nat.reduceLT, ↓reduceIte, pn, ← hsj]) (Sub_nil _)
    · have hi2 : i = w.length := by omega
      subst hi2
      repeat' (first
    | (with_reducible apply W_seq_k; intro nx hnx)
    | (with_reducible first | apply W_block | apply W_scope)
    | (with_reducible refine W_prune 262087 ?_; simp only [prb, Nat.reducePow, Nat.reduceDiv, Nat.reduceMod, Nat.reduceBEq]; with_reducible apply W_region_l)
    | ((first | (with_reducible apply WL_op; intro nx hnx) | with_reducible refine Ev_out ?_ | (with_reducible refine pfresh_k hnm fun nm hnm => ?_; (try simp only [fmb] at hnm)) | (with_reducible refine pborn_mu hnm fun nm hnm => ?_; (try simp only [fmb] at hnm))); try (simp (maxSteps := 2000000) (disch := omega) only [evb, evd, eve, constPV, seqK, blockK, scopeK, pbound, pelems, PV.mem?, PV.one, PV.cells, peqs, peq1, pkeys, pkeyt, List.set, Value.cells, ↓popG_eq, ↓pop.eq_1, ↓List.getElem?_map, ↓List.getElem?_cons_zero, ↓List.getElem?_cons_succ, Value.oneCell', Nat.reduceAdd, Nat.reduceMul, Nat.reduceSub, Nat.reduceLeDiff, Nat.reduceEqDiff, ↓reduceIte, ne_eq, reduceCtorEq, forall_const, exists_and_left, exists_eq_left', eq_self, Nat.reduceLT, Int.reduceLT, Int.reduceLE, Int.reduceToNat, Int.reduceAdd, Int.reduceSub, Int.reduceNeg, hnm, Tryd.tf0, Tryd.tf1, Tryd.tf3, Tryd.tf4, Tryd.tf9, Tryd.tf22, Tryd.tf23, Tryd.tf27, Tryd.tf37, Tryd.tf40, Tryd.tf57, Tryd.tf60, Tryd.call10, Tryd.call11, Tryd.call20, Tryd.call23, Tryd.call30, Tryd.call32, Tryd.call33, Tryd.call34]); repeat (refine And.intro (by omega) ?_))
    | ((with_reducible first | apply WL_nil | apply W_label | apply W_skip | apply W_exit | apply W_ret); try simp only [seqK, blockK, scopeK, ↓reduceIte, Nat.reduceEqDiff])
    | (with_reducible apply pguard_intro <;> (intro hc; (try simp only [hcb, reduceCtorEq, forall_const, ne_eq] at hc); first | (exfalso; omega) | (exfalso; exact hc trivial) | refine Ev_in ?_))
    | (with_reducible apply W_cond_k; intro _ _ ea eb; (simp only [condK, cob, opnd, constPV, Nat.reduceEqDiff, Nat.reduceLT, ↓reduceIte, hcb, reduceCtorEq, forall_const, ne_eq]); subst ea eb; first | (refine ⟨fun hc => ?_, fun hc => ?_⟩ <;> first | (exfalso; omega) | (exfalso; exact hc trivial) | skip) | skip)
    | (with_reducible apply hnx; clear hnx nx)
    | (with_reducible refine And.intro (by omega) ?_)
    | (with_reducible refine And.intro ?_ ?_)
    | (with_reducible refine pcall_k (c9) ?_; rintro _ _ ⟨rfl, rfl⟩ -; refine Ev_in ?_)
    | (clear hnx nx; with_reducible apply hnx; clear hnx nx)
    | (clear hnx nx; clear hnx nx; with_reducible apply hnx; clear hnx nx))
      all_goals first | exact absurd trivial hc | contradiction | exact fun h => False.elim h | (exfalso; omega) | (exfalso; have hc := of_decide_eq_false hc; omega) | (exfalso; simp only [Bool.not_false, Bool.not_true, decide_eq_true_eq, decide_eq_false_iff_not] at *; omega) | skip
      all_goals (refine hfin _ _ (Fin_ret1 rfl (Sub_nil _) ?_); simp only [List.getD_cons_zero, List.getD_cons_succ, fr_getD_cons, fr_getD_nil, Nat.reduceEqDiff, Nat.reduceLT, ↓reduceIte]; first | trivial | exact ⟨rfl, by trivial⟩ | (simp; done) | (simp; omega))
  · have hs : safeF a w = false := by simpa using hs
    rw [hs] at c4
    (refine PCalls_f Tryd.func8 rfl Tryd.ntmps8 Tryd.results8 (by simp) fun fin hfin => ?_; have hnm : True := trivial; simp (maxSteps := 2000000) (disch := omega) only [evb, evd, eve, constPV, seqK, blockK, scopeK, pbound, pelems, PV.mem?, PV.one, PV.cells, peqs, peq1, pkeys, pkeyt, List.set, Value.cells, ↓popG_eq, ↓pop.eq_1, ↓List.getElem?_map, ↓List.getElem?_cons_zero, ↓List.getElem?_cons_succ, Value.oneCell', Nat.reduceAdd, Nat.reduceMul, Nat.reduceSub, Nat.reduceLeDiff, Nat.reduceEqDiff, ↓reduceIte, ne_eq, reduceCtorEq, forall_const, exists_and_left, exists_eq_left', eq_self, Nat.reduceLT, Int.reduceLT, Int.reduceLE, Int.reduceToNat, Int.reduceAdd, Int.reduceSub, Int.reduceNeg, hnm, Tryd.tf0, Tryd.tf1, Tryd.tf3, Tryd.tf4, Tryd.tf9, Tryd.tf22, Tryd.tf23, Tryd.tf27, Tryd.tf37, Tryd.tf40, Tryd.tf57, Tryd.tf60, Tryd.call10, Tryd.call11, Tryd.call20, Tryd.call23, Tryd.call30, Tryd.call32, Tryd.call33, Tryd.call34])
    repeat' (first
    | (with_reducible apply W_seq_k; intro nx hnx)
    | (with_reducible first | apply W_block | apply W_scope)
    | (with_reducible refine W_prune 262087 ?_; simp only [prb, Nat.reducePow, Nat.reduceDiv, Nat.reduceMod, Nat.reduceBEq]; with_reducible apply W_region_l)
    | ((first | (with_reducible apply WL_op; intro nx hnx) | with_reducible refine Ev_out ?_ | (with_reducible refine pfresh_k hnm fun nm hnm => ?_; (try simp only [fmb] at hnm)) | (with_reducible refine pborn_mu hnm fun nm hnm => ?_; (try simp only [fmb] at hnm))); try (simp (maxSteps := 2000000) (disch := omega) only [evb, evd, eve, constPV, seqK, blockK, scopeK, pbound, pelems, PV.mem?, PV.one, PV.cells, peqs, peq1, pkeys, pkeyt, List.set, Value.cells, ↓popG_eq, ↓pop.eq_1, ↓List.getElem?_map, ↓List.getElem?_cons_zero, ↓List.getElem?_cons_succ, Value.oneCell', Nat.reduceAdd, Nat.reduceMul, Nat.reduceSub, Nat.reduceLeDiff, Nat.reduceEqDiff, ↓reduceIte, ne_eq, reduceCtorEq, forall_const, exists_and_left, exists_eq_left', eq_self, Nat.reduceLT, Int.reduceLT, Int.reduceLE, Int.reduceToNat, Int.reduceAdd, Int.reduceSub, Int.reduceNeg, hnm, Tryd.tf0, Tryd.tf1, Tryd.tf3, Tryd.tf4, Tryd.tf9, Tryd.tf22, Tryd.tf23, Tryd.tf27, Tryd.tf37, Tryd.tf40, Tryd.tf57, Tryd.tf60, Tryd.call10, Tryd.call11, Tryd.call20, Tryd.call23, Tryd.call30, Tryd.call32, Tryd.call33, Tryd.call34]); repeat (refine And.intro (by omega) ?_))
    | ((with_reducible first | apply WL_nil | apply W_label | apply W_skip | apply W_exit | apply W_ret); try simp only [seqK, blockK, scopeK, ↓reduceIte, Nat.reduceEqDiff])
    | (with_reducible apply pguard_intro <;> (intro hc; (try simp only [hcb, reduceCtorEq, forall_const, ne_eq] at hc); first | (exfalso; omega) | (exfalso; exact hc trivial) | refine Ev_in ?_))
    | (with_reducible apply W_cond_k; intro _ _ ea eb; (simp only [condK, cob, opnd, constPV, Nat.reduceEqDiff, Nat.reduceLT, ↓reduceIte, hcb, reduceCtorEq, forall_const, ne_eq]); subst ea eb; first | (refine ⟨fun hc => ?_, fun hc => ?_⟩ <;> first | (exfalso; omega) | (exfalso; exact hc trivial) | skip) | skip)
    | (with_reducible apply hnx; clear hnx nx)
    | (with_reducible refine And.intro (by omega) ?_)
    | (with_reducible refine And.intro ?_ ?_)
    | (with_reducible refine pcall_k (c1) ?_; rintro _ _ ⟨rfl, rfl⟩ -; refine Ev_in ?_)
    | (with_reducible refine pcall_k (c2) ?_; rintro _ _ ⟨rfl, rfl⟩ -; refine Ev_in ?_)
    | (with_reducible refine pcall_k (c3) ?_; rintro _ _ ⟨rfl, rfl⟩ -; refine Ev_in ?_)
    | (with_reducible refine pcall_k (c4) ?_; rintro _ _ ⟨rfl, rfl⟩ -; refine Ev_in ?_)
    | (with_reducible refine pcall_k (c9) ?_; rintro _ _ ⟨rfl, rfl⟩ -; refine Ev_in ?_)
    | (clear hnx nx; with_reducible apply hnx; clear hnx nx)
    | (clear hnx nx; clear hnx nx; with_reducible apply hnx; clear hnx nx))
    all_goals first | exact absurd trivial hc | contradiction | exact fun h => False.elim h | (exfalso; omega) | (exfalso; have hc := of_decide_eq_false hc; omega) | (exfalso; simp only [Bool.not_false, Bool.not_true, decide_eq_true_eq, decide_eq_false_iff_not] at *; omega) | skip
    all_goals (refine hfin _ _ (Fin_ret1 rfl (Sub_nil _) ?_); simp only [List.getD_cons_zero, List.getD_cons_succ, fr_getD_cons, fr_getD_nil, Nat.reduceEqDiff, Nat.reduceLT, ↓reduceIte]; first | trivial | exact ⟨rfl, by trivial⟩ | (simp; done) | (simp; omega))
end Go.PM
