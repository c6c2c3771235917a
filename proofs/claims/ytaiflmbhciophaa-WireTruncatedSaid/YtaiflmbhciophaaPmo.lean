/- The pure machine, part o: one operation is sound; several; a region in the text's order; functions. Conditions: none. -/
import Derived.Test.YtaiflmbhciophaaPmn
set_option linter.unusedSimpArgs false
set_option linter.unusedVariables false
namespace Go.PM
open Go.RowKit

section
variable {P : Program} {G : Globs} {E : Amb} {A : Nat → Prop} {σ : PState} {a : Act} {w : World} {o : Oper} {K : PState → Prop} {q : Bool}

theorem gives_nil {x : Operand} (ho : o.op = .nilCheck x) (hs : Sim G E A σ a w) (h : pnck (opnd G σ.frame x) fun r => K (σ.put o.dst r)) : ∃ r, K (σ.put o.dst r) ∧ Gives P w A a.eval o r := by
  have hx := hs.opnd x
  unfold pnck at h
  split at h
  · rename_i n off e
    rw [e] at hx
    obtain ⟨b, rfl, hv⟩ := hx.ptr_inv
    refine ⟨_, h, _, hx, fun w' _ => ?_⟩
    unfold execOp
    simp [ho, hv]
  · rename_i cs off e
    rw [e] at hx
    obtain ⟨b, off0, f, hA, hv, h1, h2⟩ := hx.iptr_inv
    refine ⟨_, h, _, hx, fun w' _ => ?_⟩
    unfold execOp
    simp [ho, hv]
  · rename_i f caps e
    rw [e] at hx
    refine ⟨_, h, _, hx, fun w' _ => ?_⟩
    unfold execOp
    cases hx' : a.eval x with
    | func fn first cap =>
      rw [hx'] at hx
      cases hx
      simp [ho, hx']
    | _ => rw [hx'] at hx; cases hx
  · exact h.elim

theorem pop_sound (hs : Sim G E A σ a w) (h : pop q P G o σ K) {next : Act → World → Prop} {Q : Exit → Act → World → Prop}
    (hn : ∀ σ' A' a' w', K σ' → Sim G E A' σ' a' w' → (q = true → Keeps w w') → next a' w') : o.wp P a w next Q := by
  have D : (∃ r, K (σ.put o.dst r) ∧ Gives P w A a.eval o r) → o.wp P a w next Q := fun h => wp_of_gives (p := fun _ => True) hs h hn
  have S : ∀ q', (q = true → q' = true) → Steps1 P G E q' o K a w → o.wp P a w next Q := by
    intro q' hq h
    refine wp_of_steps h fun σ' A' a' w' hk hs' hq' => hn σ' A' a' w' hk hs' (fun e => hq' (hq e))
  have F : ∀ {c : Prop}, q = false → (q = true → c) := fun h h' => by rw [h] at h'; cases h'
  have hob : ∀ n o, look σ.heap n = some o → ObjRep w A n o := fun n o h => hs.objs n o (look_mem h)
  unfold pop at h
  split at h
  · rename_i x ho
    exact D ⟨_, h, _, hs.opnd x, fun w' _ => by unfold execOp; simp [ho]⟩
  · rename_i x ho
    exact D ⟨_, h, _, hs.opnd x, fun w' _ => by unfold execOp; simp [ho]⟩
  · rename_i c x y ho
    exact D (ppick_sound ho (hs.opnd c) (hs.opnd x) (hs.opnd y) h)
  · rename_i t ho
    exact S q id (palloc_sound hs ho h)
  · rename_i t x ho
    exact S q id (pbox_sound hs ho h)
  · rename_i t ps ho
    exact D (pbuild_sound (parts := ps.toList) (by simpa using ho) hs.opnd h)
  · rename_i t n ps ho
    exact S q id (pbuildS_sound hs ho h)
  · rename_i t x ho
    exact D (pldop_sound ho (hs.opnd x) hob h)
  · rename_i t x y ho
    exact S false (F h.1) (pstore_sound hs ho h.2)
  · rename_i x ho
    exact D (gives_nil ho hs h)
  · rename_i op t x y u ho
    split at h
    · exact D (pageq_sound (neg := false) ho (hs.opnd x) (hs.opnd y) h)
    · exact D (pageq_sound (neg := true) ho (hs.opnd x) (hs.opnd y) h)
    · exact D (pageq_sound (neg := false) ho (hs.opnd x) (hs.opnd y) h)
    · exact D (pageq_sound (neg := true) ho (hs.opnd x) (hs.opnd y) h)
    · exact D (pbin_sound ho (hs.opnd x) (hs.opnd y) h)
  · rename_i op t x ho
    exact D (pun_sound ho (hs.opnd x) h)
  · rename_i s d x ho
    split at h
    · exact S q id (pbytes_sound hs ho h)
    · exact D (pconv_sound ho (hs.opnd x) hob h)
  · rename_i t x ho
    exact D (parr_sound ho (hs.opnd x) h)
  · rename_i fn first cs ho
    split at h
    · rename_i f hfirst
      have e1 : first = #[] := by simpa using hfirst
      subst e1
      exact D (pfunc_sound (cs := cs.toList) (by simpa using ho) hs.opnd h)
    · exact h.elim
  · rename_i t l c ho
    exact S q id (pmakes_sound hs ho h)
  · rename_i t x lo hi mx ho
    exact D (pslice_sound ho hs.opnd h)
  · rename_i t x k ho
    exact D (pfaddr_sound ho (hs.opnd x) h)
  · rename_i t x k ho
    exact D (pfield_sound ho (hs.opnd x) h)
  · rename_i t x i ho
    exact D (piaddr_sound ho (hs.opnd x) (hs.opnd i) h)
  · rename_i t x i ho
    exact D (pindex_sound ho (hs.opnd x) (hs.opnd i) h)
  · rename_i x k ho
    exact D (pextract_sound ho (hs.opnd x) h)
  · rename_i c ho
    obtain ⟨callee, ⟨xs⟩, ⟨ts⟩⟩ := c
    simp only at h ho
    split at h
    · rename_i b
      unfold pbuiltin at h
      split at h
      · split at h
        · exact D (plen_sound (ty := 0) ho (hs.opnd _) h)
        · exact h.elim
      · split at h
        · exact S false (F h.1) (pappend_sound hs ho h.2)
        · exact h.elim
      · split at h
        · exact S false (F h.1) (pcopy_sound hs ho h.2)
        · exact h.elim
      · exact D (pmm_sound (mn := true) (xs := xs) ho hs.opnd h)
      · exact D (pmm_sound (mn := false) (xs := xs) ho hs.opnd h)
      · exact h.elim
    · rename_i f
      split at h
      · rename_i fn caps hf
        obtain ⟨hc, h⟩ := h
        have hfv := hs.opnd f
        rw [hf] at hfv
        obtain ⟨g, hv, hg⟩ : ∃ g : Nat → Value, a.eval f = .func (.func fn) #[] ((List.range caps.length).map g).toArray ∧ ∀ (j : Nat) (u : PV), caps[j]? = some u → Rep w A u (g j) := by
          cases hq : a.eval f with
          | func fn' first cap =>
            rw [hq] at hfv
            cases hfv with
            | func fn caps g h2 => exact ⟨g, rfl, h2⟩
          | _ => rw [hq] at hfv; cases hfv
        have hrun : (execOp a.eval o).run P w = .ok (.enter fn (xs.toArray.map a.eval ++ ((List.range caps.length).map g).toArray)) w := by
          unfold execOp
          simp only [ho, resolve, Sem.run_bind, hv, Deferred.ofValue, Sem.run_pure, Result.andThen_ok, Array.empty_append, invoke, callable_run hc]
        unfold Oper.wp
        rw [hrun]
        have hcall := h E A a w (xs.toArray.map a.eval ++ ((List.range caps.length).map g).toArray) hs (by simp) (fun i p hp => by
          by_cases hi : i < xs.length
          · rw [List.getElem?_append_left (by simpa using hi)] at hp
            simp [hi] at hp
            subst hp
            exact ⟨a.eval xs[i], by rw [Array.getElem?_append_left (by simpa using hi)]; simp [hi], hs.opnd _⟩
          · rw [List.getElem?_append_right (by simp; omega)] at hp
            simp only [List.length_map] at hp
            have hlt : i - xs.length < caps.length := (List.getElem?_eq_some_iff.1 hp).1
            refine ⟨g (i - xs.length), ?_, hg _ p hp⟩
            rw [Array.getElem?_append_right (by simp; omega)]
            simp [hlt])
        refine Calls.mono hcall fun e w' he => ?_
        obtain ⟨v, σ', A', rfl, hk, hs', hq⟩ := he
        exact hn σ' A' _ _ hk hs' hq
      · exact h.elim
    · exact h.elim
  · exact h.elim

/-- operations in the text's order; ds: which slot each operation of the region writes -/
def pops (q : Bool) (P : Program) (G : Globs) (ds : List (Option Tmp)) : List Oper → PState → (PState → Prop) → Prop
  | [], σ, K => K σ
  | o :: r, σ, K => match o.guard with
    | none => pop q P G o σ fun σ' => pops q P G ds r σ' K
    | some (g, want) => match (ds[g]?).join with
      | some s => match σ.frame.getD s .junk with
        | .val (.bool b) => @pguard b want ⟨pop q P G o (σ.put (some s) (pbool want)) fun σ' => pops q P G ds r σ' K, pops q P G ds r ((σ.put (some s) (pbool (!want))).put o.dst (.val (.tuple #[]))) K⟩
        | .val (.tuple _) => pops q P G ds r (σ.put o.dst (.val (.tuple #[]))) K
        | _ => False
      | none => False

theorem yielded_of (hs : Sim G E A σ a w) {ops : Array Oper} {g : Nat} {s : Tmp} {b : Bool} (hd : ((ops.toList.map (·.dst))[g]?).join = some s) (hf : σ.frame.getD s .junk = .val (.bool b)) :
    yielded ops a.tmps g = some b ∧ ∃ x : Value, a.tmps[s]? = some x ∧ x = .bool b := by
  have hlt : s < σ.frame.length := by
    rcases Nat.lt_or_ge s σ.frame.length with h | h
    · exact h
    · rw [List.getD_eq_getElem?_getD, List.getElem?_eq_none h] at hf
      cases hf
  have hfr : σ.frame[s]? = some (.val (.bool b)) := by
    rw [List.getD_eq_getElem?_getD, List.getElem?_eq_getElem hlt] at hf
    rw [List.getElem?_eq_getElem hlt]
    simpa using hf
  obtain ⟨v, hv, hr⟩ := hs.frame s _ hfr
  have := hr.val_eq
  subst this
  refine ⟨?_, _, hv, rfl⟩
  have hds : (ops[g]?).bind (·.dst) = some s := by
    rw [List.getElem?_map] at hd
    cases hq : ops[g]? with
    | none => simp [hq] at hd
    | some o => simp [hq] at hd; simp [hd]
  simp [yielded, hds, hv]

theorem yielded_none (hs : Sim G E A σ a w) {ops : Array Oper} {g : Nat} {s : Tmp} {vs : Array Value} (hd : ((ops.toList.map (·.dst))[g]?).join = some s) (hf : σ.frame.getD s .junk = .val (.tuple vs)) :
    yielded ops a.tmps g = none := by
  have hlt : s < σ.frame.length := by
    rcases Nat.lt_or_ge s σ.frame.length with h | h
    · exact h
    · rw [List.getD_eq_getElem?_getD, List.getElem?_eq_none h] at hf
      cases hf
  have hfr : σ.frame[s]? = some (.val (.tuple vs)) := by
    rw [List.getD_eq_getElem?_getD, List.getElem?_eq_getElem hlt] at hf
    rw [List.getElem?_eq_getElem hlt]
    simpa using hf
  obtain ⟨v, hv, hr⟩ := hs.frame s _ hfr
  have := hr.val_eq
  subst this
  have hds : (ops[g]?).bind (·.dst) = some s := by
    rw [List.getElem?_map] at hd
    cases hq : ops[g]? with
    | none => simp [hq] at hd
    | some o => simp [hq] at hd; simp [hd]
  simp [yielded, hds, hv]

theorem put_same (hs : Sim G E A σ a w) {s : Tmp} {v : Value} (hv : a.tmps[s]? = some v) {p : PV} (hr : Rep w A p v) : Sim G E A (σ.put (some s) p) a w := by
  have := hs.put (some s) hr
  have e : a.put (some s) v = a := by
    obtain ⟨tmps, defers⟩ := a
    simp only [Act.put]
    congr 1
    apply Array.ext
    · simp
    · intro i h1 h2
      by_cases hi : s = i
      · subst hi
        have hv' : tmps[s]? = some v := hv
        rw [Array.getElem?_eq_getElem h2] at hv'
        cases hv'
        simp
      · rw [Array.getElem_setIfInBounds_ne h2 hi]
  rw [e] at this
  exact this

theorem pops_sound {ops : Array Oper} : ∀ (l : List Oper) (σ : PState) (A : Nat → Prop) (a : Act) (w : World), Sim G E A σ a w → pops q P G (ops.toList.map (·.dst)) l σ K →
    ∀ {Q : Exit → Act → World → Prop}, (∀ σ' A' a' w', K σ' → Sim G E A' σ' a' w' → Q .normal a' w') → wpList P ops Q l a w
  | [], σ, A, a, w, hs, h, Q, hq => hq σ A a w h hs
  | o :: r, σ, A, a, w, hs, h, Q, hq => by
    simp only [pops] at h
    split at h
    · rename_i hg
      unfold wpList
      rw [if_pos (by simp [Region.wanted, hg])]
      exact .inl (pop_sound hs h fun σ' A' a' w' hk hs' _ => pops_sound r σ' A' a' w' hs' hk hq)
    · rename_i g want hg
      split at h
      · rename_i s hd
        split at h
        · rename_i b hf
          obtain ⟨hy, x, hx, rfl⟩ := yielded_of hs hd hf
          unfold wpList
          by_cases hb : b = want
          · subst hb
            rw [if_pos (by simp [Region.wanted, hg, hy])]
            exact .inl (pop_sound (put_same hs hx (.val _)) (h.1 rfl) fun σ' A' a' w' hk hs' _ => pops_sound r σ' A' a' w' hs' hk hq)
          · have hb' : b = !want := by cases b <;> cases want <;> simp_all
            subst hb'
            rw [if_neg (by simp [Region.wanted, hg, hy])]
            exact pops_sound r _ A _ w ((put_same hs hx (.val _)).put o.dst (.val _)) (h.2 rfl) hq
        · rename_i vs hf
          have hy := yielded_none hs hd hf
          unfold wpList
          rw [if_neg (by simp [Region.wanted, hg, hy])]
          exact pops_sound r _ A _ w (hs.put o.dst (.val _)) h hq
        · exact h.elim
      · exact h.elim

theorem W_region {I : List Int} {id : Nat} {l : List Oper} {K : Exit → PState → Prop} (h : pops false P G (l.map (·.dst)) l σ (K .normal)) : W P G I (.region id l.toArray false) σ K := by
  intro E _ A a w hs Q hq
  refine wp_region_lit ?_
  exact pops_sound (ops := l.toArray) l σ A a w hs (by simpa using h) fun σ' A' a' w' hk hs' => hq _ _ _ _ _ hk hs'
end
end Go.PM
