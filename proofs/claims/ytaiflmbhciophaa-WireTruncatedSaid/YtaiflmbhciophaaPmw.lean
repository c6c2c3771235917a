/- The pure machine, part w: frames as short lists of what the slots hold. Conditions: none. -/
import Derived.Test.YtaiflmbhciophaaPmv
set_option linter.unusedSimpArgs false
set_option linter.unusedVariables false
namespace Go.PM
open Go.RowKit

/-- A frame of n slots: what was put last stands first. -/
def fr (n : Nat) (l : List (Nat × PV)) : List PV := l.foldr (fun x f => f.set x.1 x.2) (List.replicate n .junk)

theorem fr_length (n : Nat) : ∀ l : List (Nat × PV), (fr n l).length = n
  | [] => by simp [fr]
  | x :: l => by
    have := fr_length n l
    simp only [fr, List.foldr_cons, List.length_set] at this ⊢
    exact this

theorem fr_set (n : Nat) (l : List (Nat × PV)) (i : Nat) (v : PV) : (fr n l).set i v = fr n ((i, v) :: l) := rfl

theorem fr_getD_nil (n j : Nat) : (fr n []).getD j .junk = .junk := by
  simp only [fr, List.foldr_nil, List.getD_eq_getElem?_getD, List.getElem?_replicate]
  split <;> rfl

theorem fr_getD_cons (n i j : Nat) (v : PV) (l : List (Nat × PV)) : (fr n ((i, v) :: l)).getD j .junk = if i = j then (if i < n then v else .junk) else (fr n l).getD j .junk := by
  have hl := fr_length n l
  show ((fr n l).set i v).getD j .junk = _
  by_cases h : i = j
  · subst h
    rw [if_pos rfl]
    split
    · rename_i hi
      rw [List.getD_eq_getElem?_getD, List.getElem?_set_self (by omega)]
      rfl
    · rename_i hi
      rw [List.getD_eq_getElem?_getD, List.getElem?_eq_none (by simp; omega)]
      rfl
  · rw [if_neg h, List.getD_eq_getElem?_getD, List.getElem?_set_ne h, ← List.getD_eq_getElem?_getD]

theorem fr_same {n i : Nat} {v : PV} {l : List (Nat × PV)} (h : i < n) : (fr n ((i, v) :: l)).getD i .junk = v := by
  rw [fr_getD_cons, if_pos rfl, if_pos h]
theorem fr_other {n i j : Nat} {v : PV} {l : List (Nat × PV)} (h : i ≠ j) : (fr n ((i, v) :: l)).getD j .junk = (fr n l).getD j .junk := by
  rw [fr_getD_cons, if_neg h]

theorem wkF_of : ∀ (l l' : List PV), l.length = l'.length → (∀ i : Nat, l'.getD i .junk = .junk ∨ l.getD i .junk = l'.getD i .junk) → wkF l l'
  | [], [], _, _ => trivial
  | p :: r, p' :: r', hl, h => by
    refine ⟨?_, wkF_of r r' (by simpa using hl) fun i => by simpa using h (i + 1)⟩
    have := h 0
    simp only [List.getD_cons_zero] at this
    rcases this with e | e
    · exact .inl e
    · exact .inr e.symm
  | [], _ :: _, hl, _ => by simp at hl
  | _ :: _, [], hl, _ => by simp at hl

theorem fr_mem (n : Nat) : ∀ (l : List (Nat × PV)) (i : Nat), (fr n l).getD i .junk = .junk ∨ (i, (fr n l).getD i .junk) ∈ l
  | [], i => .inl (fr_getD_nil n i)
  | (j, v) :: l, i => by
    rw [fr_getD_cons]
    split
    · rename_i h
      subst h
      split
      · exact .inr (by simp)
      · exact .inl rfl
    · rcases fr_mem n l i with h | h
      · exact .inl h
      · exact .inr (List.mem_cons_of_mem _ h)

theorem wkF_fr {n : Nat} {l l' : List (Nat × PV)} (h : ∀ x ∈ l', (fr n l).getD x.1 .junk = x.2) : wkF (fr n l) (fr n l') := by
  refine wkF_of _ _ (by rw [fr_length, fr_length]) fun i => ?_
  rcases fr_mem n l' i with e | e
  · exact .inl e
  · exact .inr (h _ e)

def layFrom : Nat → List PV → List (Nat × PV)
  | _, [] => []
  | k, p :: r => (k, p) :: layFrom (k + 1) r

theorem fr_layFrom (n : Nat) : ∀ (args : List PV) (k i : Nat), k + args.length ≤ n → (fr n (layFrom k args)).getD i .junk = if k ≤ i ∧ i < k + args.length then args.getD (i - k) .junk else .junk
  | [], k, i, _ => by
    rw [layFrom, fr_getD_nil, if_neg (by simp only [List.length_nil]; omega)]
  | p :: r, k, i, h => by
    rw [layFrom, fr_getD_cons]
    simp only [List.length_cons] at h
    split
    · rename_i e
      subst e
      rw [if_pos (by omega), if_pos (by simp)]
      simp
    · rename_i e
      rw [fr_layFrom n r (k + 1) i (by omega)]
      by_cases hc : k + 1 ≤ i ∧ i < k + 1 + r.length
      · rw [if_pos hc, if_pos (by simp only [List.length_cons]; omega), show i - k = (i - (k + 1)) + 1 by omega, List.getD_cons_succ]
      · rw [if_neg hc, if_neg (by simp only [List.length_cons]; omega)]

theorem getD_ext : ∀ (l l' : List PV), l.length = l'.length → (∀ i : Nat, l.getD i .junk = l'.getD i .junk) → l = l'
  | [], [], _, _ => rfl
  | p :: r, p' :: r', hl, h => by
    have h0 := h 0
    simp only [List.getD_cons_zero] at h0
    rw [h0, getD_ext r r' (by simpa using hl) fun i => by simpa using h (i + 1)]
  | [], _ :: _, hl, _ => by simp at hl
  | _ :: _, [], hl, _ => by simp at hl

theorem fr_args {n : Nat} {args : List PV} (h : args.length ≤ n) : args ++ List.replicate (n - args.length) .junk = fr n (layFrom 0 args) := by
  refine getD_ext _ _ (by simp [fr_length]; omega) fun i => ?_
  rw [fr_layFrom n args 0 i (by omega)]
  by_cases hi : i < args.length
  · rw [if_pos (by omega), List.getD_eq_getElem?_getD, List.getElem?_append_left hi, ← List.getD_eq_getElem?_getD]
    simp
  · rw [if_neg (by omega), List.getD_eq_getElem?_getD, List.getElem?_append_right (by omega), List.getElem?_replicate]
    split <;> rfl

section
variable {P : Program} {G : Globs}
/-- A function, its end out of sight. -/
theorem PCalls_f {f : FuncId} {fn : Func} {c : Code} {n : Nat} {rs : List ResultVar} {args : List PV} {Hin : Heap} {R : PV → Heap → Prop} (hf : P.funcs[f]? = some fn) (hb : fn.body = some c) (hn : fn.ntmps = n) (hrs : fn.results = rs.toArray) (hl : args.length ≤ n)
    (h : ∀ fin : Exit → PState → Prop, (∀ e σ, Fin P rs R e σ → fin e σ) → W P G (Hin.map (·.1)) c ⟨fr n (layFrom 0 args), Hin⟩ fin) : PCalls P G f args Hin R :=
  PCalls_k hf hb hn hrs fun fin hfin => by rw [fr_args hl]; exact h fin hfin
end

theorem Wk_fr {n : Nat} {l l' : List (Nat × PV)} {H H' : Heap} (h : ∀ x ∈ l', (fr n l).getD x.1 .junk = x.2) (hs : Sub H' H) : Wk ⟨fr n l, H⟩ ⟨fr n l', H'⟩ := ⟨wkF_fr h, hs⟩

theorem fr_get (n : Nat) (l : List (Nat × PV)) (i : Nat) (p : PV) (h : (fr n l).getD i .junk = p) (hp : p ≠ .junk) : (fr n l)[i]? = some p := by
  rw [List.getD_eq_getElem?_getD] at h
  cases hq : (fr n l)[i]? with
  | none => rw [hq] at h; exact absurd h.symm hp
  | some q => rw [hq] at h; rw [← h]; rfl

section
variable {P : Program} {G : Globs}
theorem W_adopt_f {c : Code} {K : Exit → PState → Prop} {I : List Int} {n0 : Nat} {l : List (Nat × PV)} {H : Heap} (i : Nat) (e : TypeId) (es : Nat) (hi : (fr n0 l).getD i .junk = pnil)
    (h : ∀ n : Int, n ∉ names H → W P G I c ⟨fr n0 ((i, .row n es 0) :: l), (n, ⟨e, true, es, []⟩) :: H⟩ K) : W P G I c ⟨fr n0 l, H⟩ K :=
  W_adopt i e es (fr_get _ _ _ _ hi (by simp [pnil])) fun n hn => h n hn
end

attribute [irreducible] fr
end Go.PM
