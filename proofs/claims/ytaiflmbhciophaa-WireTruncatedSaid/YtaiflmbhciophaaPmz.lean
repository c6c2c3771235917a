/- The pure machine, part z: rows that are turned no more from their birth on, beside structures. Conditions: none. -/
import Derived.Test.YtaiflmbhciophaaPmy
set_option linter.unusedSimpArgs false
set_option linter.unusedVariables false
namespace Go.PM
open Go.RowKit

/-- Values, and structures of values, in which no object of one's own is named. -/
def stabF : PV → Bool
  | .agg cs | .tuple cs => cs.all stab
  | p => stab p
theorem map_frz1_stab {n : Int} {cs : List PV} : ∀ {l : List PV}, l.all stab = true → l.map (frz1 n cs) = l
  | [], _ => rfl
  | p :: l, h => by
    simp only [List.all_cons, Bool.and_eq_true] at h
    rw [List.map_cons, (stab_frz h.1 n cs).2, map_frz1_stab h.2]
theorem stabF_frz {p : PV} (h : stabF p = true) (n : Int) (cs : List PV) : frz n cs p = p := by
  cases p <;> first
    | (simp only [stabF] at h
       simp only [frz]
       rw [map_frz1_stab h])
    | (simp only [stabF] at h
       exact (stab_frz h n cs).1)

section
variable {P : Program} {G : Globs} {l : List Oper} {K : PState → Prop} {I : List Int}
theorem W_adopt_c {c : Code} {σ : PState} {K' : Exit → PState → Prop} (m : Int) (j : Nat) (e : TypeId) (es : Nat) {o : PObj} (hl : look σ.heap m = some o) (hj : o.cells[j]? = some pnil)
    (h : ∀ n : Int, n ∉ names σ.heap → W P G I c ⟨σ.frame, (n, ⟨e, true, es, []⟩) :: upd σ.heap m { o with cells := o.cells.set j (.row n es 0) }⟩ K') : W P G I c σ K' := by
  intro E hE A a w hs Q hq
  obtain ⟨A', τ, ⟨n, hn, rfl⟩, hs'⟩ := Wxs.adopt_c (G := G) (I := I) (T := fun τ => ∃ n, n ∉ names σ.heap ∧ τ = ⟨σ.frame, (n, ⟨e, true, es, []⟩) :: upd σ.heap m { o with cells := o.cells.set j (.row n es 0) }⟩) m j e es hl hj (fun n hn => .of (Wx.refl _) ⟨n, hn, rfl⟩) E hE A a w hs
  exact h n hn E hE A' a w hs' Q hq
theorem WL_born {l0 : List Oper} {N d : Nat} {L : List (Nat × PV)} {n : Int} {e : TypeId} {es len : Nat} {cells : List PV} (hI : n ∉ I) (hL : L.all (fun x => stabF x.2) = true) (hc : len * es ≤ cells.length ∧ 0 < es) 
    (h : WL P G I l0 l ⟨fr N ((d, .list es (elemsOf es (cells.map nl) len)) :: L), []⟩ K) : WL P G I l0 l ⟨fr N ((d, .row n es len) :: L), [(n, ⟨e, true, es, cells⟩)]⟩ K := by
  refine WL_x (Wx.nl_obj.trans ?_) h
  have h1 := Wx.freeze_f (G := G) (I := I) (N := N) (l := (d, .row n es len) :: L) (H := [(n, ⟨e, true, es, cells.map nl⟩)]) n (o := ⟨e, true, es, cells.map nl⟩) hI (by simp only [look, if_true]) (by simp [frzOk, del])
  have e1 : L.map (fun x => (x.1, frz n (cells.map nl) x.2)) = L := by
    conv => rhs; rw [← List.map_id L]
    exact List.map_congr_left fun x hx => by rw [stabF_frz (List.all_eq_true.1 hL x hx)]; rfl
  have e2 : frz n (cells.map nl) (.row n es len) = .list es (elemsOf es (cells.map nl) len) := by
    simp only [frz, frz1, if_true, List.length_map]
    rw [if_pos hc]
  rw [List.map_cons, e1] at h1
  simp only [e2] at h1
  simpa [frzH, del] using h1
end

/-- What is still to be evaluated. -/
def Ev (p : Prop) : Prop := p
theorem Ev_in {p : Prop} (h : Ev p) : p := h
theorem Ev_out {p : Prop} (h : p) : Ev p := h
end Go.PM
