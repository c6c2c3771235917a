/- The pure machine, part y: one operation at a time, what follows out of sight; rows that are turned no more from their birth on. Conditions: none. -/
import Derived.Test.YtaiflmbhciophaaPmx
import Derived.Scope
set_option linter.unusedSimpArgs false
set_option linter.unusedVariables false
namespace Go.PM
open Go.RowKit

section
variable {P : Program} {G : Globs} {q : Bool} {ds : List (Option Tmp)} {l : List Oper} {σ τ : PState} {K : PState → Prop} {I : List Int}

/-- The operations l, the rest of a region of the operations l0. -/
def WL (P : Program) (G : Globs) (I : List Int) (l0 l : List Oper) (σ : PState) (K : PState → Prop) : Prop :=
  ∀ E : Amb, E.I = I → ∀ A a w, Sim G E A σ a w → ∀ Q : Exit → Act → World → Prop, (∀ σ' A' a' w', K σ' → Sim G E A' σ' a' w' → Q .normal a' w') → wpList P l0.toArray Q l a w

theorem WL_nil {l0 : List Oper} (h : K σ) : WL P G I l0 [] σ K := fun _ _ _ _ _ hs _ hq => hq _ _ _ _ h hs
theorem WL_op {l0 : List Oper} {o : Oper} {r : List Oper} (h : ∀ nx : PState → Prop, (∀ σ', WL P G I l0 r σ' K → nx σ') → @popG P G (l0.map (·.dst)) o false σ ⟨nx⟩) : WL P G I l0 (o :: r) σ K := by
  intro E hE A a w hs Q hq
  have h1 := h (fun σ' => WL P G I l0 r σ' K) fun _ h => h
  rw [show l0.map (·.dst) = l0.toArray.toList.map (·.dst) by simp] at h1
  unfold wpList
  rcases popG_case hs h1 with ⟨hw, σ1, hs1, h2⟩ | ⟨hw, σ1, hs1, h2⟩
  · rw [if_pos hw]
    exact .inl (pop_sound hs1 h2 fun σ' A' a' w' hk hs' _ => hk E hE A' a' w' hs' Q hq)
  · rw [if_neg (by simp [hw])]
    exact h2 E hE A _ w hs1 Q hq
theorem WL_x {l0 : List Oper} (h : Wx G I σ τ) (hw : WL P G I l0 l τ K) : WL P G I l0 l σ K := fun E hE A a w hs Q hq => by
  obtain ⟨A', h'⟩ := h E hE A a w hs
  exact hw E hE A' a w h' Q hq
theorem W_region_l {id : Nat} {K : Exit → PState → Prop} (h : WL P G I l l σ (K .normal)) : W P G I (.region id l.toArray false) σ K := by
  intro E hE A a w hs Q hq
  refine wp_region_lit ?_
  exact h E hE A a w hs Q fun σ' A' a' w' hk hs' => hq _ _ _ _ _ hk hs'

/-- A scope through which no jump goes. -/
def scopeK (K : Exit → PState → Prop) : Exit → PState → Prop
  | .goto _, _ => False
  | e, σ => K e σ
theorem W_scope {c : Code} {K : Exit → PState → Prop} (h : W P G I c σ (scopeK K)) : W P G I (.scope c) σ K := by
  intro E hE A a w hs Q hq
  refine wp_scope_straight (h E hE A a w hs _ fun e σ' a' w' A' hk hs' => ?_)
  cases e with
  | goto l => exact hk.elim
  | _ => exact hq _ _ _ _ _ hk hs'

theorem popsD_done (h : K σ) : popsD P G ds l .done σ K := h
theorem popsD_stop : popsD P G ds l .stop σ K := trivial
theorem popsD_op {i : Nat} {r : Plan} (h : ∀ nx : PState → Prop, (∀ σ', popsD P G ds l r σ' K → nx σ') → match l[i]? with | none => False | some o => @popG P G ds o q σ ⟨nx⟩) : popsD P G ds l (.op i q r) σ K := h _ fun _ h => h
theorem popsD_alt {i : Nat} {r more : Plan} (h : ∀ nx : PState → Prop, (∀ σ', popsD P G ds l r σ' K → nx σ') → match l[i]? with | none => False | some o => @popG P G ds o q σ ⟨nx⟩) (h2 : popsD P G ds l more σ K) : popsD P G ds l (.alt i q r more) σ K :=
  ⟨h _ fun _ h => h, h2⟩

theorem popG_eq {o : Oper} {c : Cont} : @popG P G ds o q σ c = match o.guard with
  | none => pop q P G o σ c.k
  | some (g, want) => match (ds[g]?).join with
    | some s => match σ.frame.getD s .junk with
      | .val (.bool b) => @pguard b want ⟨pop q P G o (σ.put (some s) (pbool want)) c.k, c.k ((σ.put (some s) (pbool (!want))).put o.dst (.val (.tuple #[])))⟩
      | .val (.tuple _) => c.k (σ.put o.dst (.val (.tuple #[])))
      | _ => False
    | none => False := rfl

/-- A nil slice as an empty list. -/
def nl : PV → PV
  | .val (.slice none 0 0) => .list 1 []
  | p => p
theorem nl_rep {w : World} {A : Nat → Prop} {p : PV} {v : Value} (h : Rep w A p v) : Rep w A (nl p) v := by
  unfold nl
  split
  · exact nil_list 1 h
  · exact h
theorem nl_one {p : PV} (h : p.one = true) : (nl p).one = true := by
  unfold nl
  split
  · rfl
  · exact h

theorem Wx.nl_obj {n : Int} {e : TypeId} {es : Nat} {g : Bool} {cells : List PV} {f : List PV} : Wx G I ⟨f, [(n, ⟨e, g, es, cells⟩)]⟩ ⟨f, [(n, ⟨e, g, es, cells.map nl⟩)]⟩ := by
  intro E hE A a w hs
  refine ⟨A, hs.ext, hs.lt, hs.a0, hs.a1, hs.globs, hs.nodup, fun m o h => ?_, fun m o h => ?_, fun m o h => ?_, hs.defers, hs.size, hs.frame⟩
  · simp only [List.mem_singleton] at h
    cases h
    rcases hs.objs n _ List.mem_cons_self with ⟨g1, g2, g3⟩ | ⟨b, cur, fz, fv, rfl, q1, q2, q3, q4⟩
    · simp only at g1 g3
      exact .inl ⟨g1, g2, by simp [g3]⟩
    · refine .inr ⟨b, cur, fz, fv, rfl, q1, q2, q3, fun j u hu => ?_⟩
      simp only [List.getElem?_map] at hu
      cases hj : cells[j]? with
      | none => rw [hj] at hu; cases hu
      | some p =>
        rw [hj] at hu
        cases hu
        obtain ⟨h1, h2, h3⟩ := q4 j p hj
        exact ⟨h1, nl_one h2, nl_rep h3⟩
  · simp only [List.mem_singleton] at h
    cases h
    exact hs.own n _ List.mem_cons_self
  · simp only [List.mem_singleton] at h
    cases h
    exact hs.neg n _ List.mem_cons_self

/-- A row that is turned no more from its birth on. -/
theorem WL_birth {l0 : List Oper} {N d : Nat} {L : List (Nat × PV)} {n : Int} {e : TypeId} {es len : Nat} {cells : List PV} (hI : n ∉ I) (hL : L.all (fun x => stab x.2) = true) (hc : len * es ≤ cells.length ∧ 0 < es) 
    (h : WL P G I l0 l ⟨fr N ((d, .list es (elemsOf es (cells.map nl) len)) :: L), []⟩ K) : WL P G I l0 l ⟨fr N ((d, .row n es len) :: L), [(n, ⟨e, true, es, cells⟩)]⟩ K := by
  refine WL_x (Wx.nl_obj.trans ?_) h
  have h1 := Wx.freeze_f (G := G) (I := I) (N := N) (l := (d, .row n es len) :: L) (H := [(n, ⟨e, true, es, cells.map nl⟩)]) n (o := ⟨e, true, es, cells.map nl⟩) hI (by simp only [look, if_true]) (by simp [frzOk, del])
  have e1 : L.map (fun x => (x.1, frz n (cells.map nl) x.2)) = L := by
    conv => rhs; rw [← List.map_id L]
    exact List.map_congr_left fun x hx => by rw [(stab_frz (List.all_eq_true.1 hL x hx) _ _).1]; rfl
  have e2 : frz n (cells.map nl) (.row n es len) = .list es (elemsOf es (cells.map nl) len) := by
    simp only [frz, frz1, if_true, List.length_map]
    rw [if_pos hc]
  rw [List.map_cons, e1] at h1
  simp only [e2] at h1
  simpa [frzH, del] using h1
end
end Go.PM
