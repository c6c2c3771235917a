/- The pure machine, part na: a call to which objects of the caller's own are handed. Conditions: none. -/
import Derived.Test.YtaiflmbhciophaaPmz
set_option linter.unusedSimpArgs false
set_option linter.unusedVariables false
namespace Go.PM
open Go.RowKit

section
variable {P : Program} {G : Globs} {E : Amb} {A : Nat → Prop} {σ : PState} {a : Act} {w : World}

/-- what comes back from a call with objects of the caller's -/
theorem Sim.calledI {w' : World} {A' : Nat → Prop} {Hin Hout rest : Heap} {F : List Int} (hs : Sim G E A σ a w) (hF : ∀ n, n ∈ names σ.heap ∨ n ∈ E.F → n ∈ F)
    (hin : ∀ x ∈ Hin, x ∈ σ.heap) (hrest : ∀ x ∈ rest, x ∈ σ.heap ∧ x.1 ∉ names Hin) (hrn : (names rest).Nodup)
    (hs' : Sim G ⟨w, A, Hin.map (·.1), F⟩ A' ⟨[], Hout⟩ ⟨#[], []⟩ w') : (∀ n ∈ names Hout, n ∉ names rest) ∧ Sim G E A' ⟨σ.frame, Hout ++ rest⟩ a w' := by
  have hmem : ∀ b : Nat, (b : Int) ∈ Hin.map (·.1) → ∃ o, ((b : Int), o) ∈ σ.heap := by
    intro b hb
    obtain ⟨⟨n, o⟩, h1, h2⟩ := List.mem_map.1 hb
    simp only at h2
    subst h2
    exact ⟨o, hin _ h1⟩
  have he := hs'.ext
  have hM : ∀ b, A b → ¬ (b : Int) ∈ Hin.map (·.1) := by
    intro b hb hm
    obtain ⟨o, ho⟩ := hmem b hm
    exact (hs.own _ o ho b rfl).2.1 hb
  have hdis : ∀ n ∈ names Hout, n ∉ names rest := by
    intro n hn hn'
    obtain ⟨⟨n1, o1⟩, h1, rfl⟩ := List.mem_map.1 hn
    obtain ⟨⟨n2, o2⟩, h2, e2⟩ := List.mem_map.1 hn'
    simp only at e2
    subst e2
    obtain ⟨h2a, h2b⟩ := hrest _ h2
    by_cases hneg : n2 < 0
    · rcases hs'.neg n2 o1 h1 hneg with h | h
      · exact h (hF _ (.inl (List.mem_map.2 ⟨_, h2a, rfl⟩)))
      · exact h2b h
    · obtain ⟨b, hb⟩ : ∃ b : Nat, n2 = b := ⟨n2.toNat, by omega⟩
      obtain ⟨q1, q2, q3⟩ := hs'.own n2 o1 h1 b hb
      have := (hs.own n2 o2 h2a b hb).1
      rcases q3 with h | h
      · simp only at h; omega
      · exact h2b (hb ▸ h)
  refine ⟨hdis, hs.ext.trans he ?_, hs'.lt, fun b hb => hs'.a0 b (hs.a0 b hb), fun b hb => ?_, hs'.globs, ?_, fun n o h => ?_, fun n o h b hb => ?_, fun n o h hn => ?_, hs.defers, hs.size, fun i p hp => ?_⟩
  · intro x hx hm
    obtain ⟨o, ho⟩ := hmem x hm
    rcases (hs.own _ o ho x rfl).2.2 with h | h
    · omega
    · exact h
  · rcases hs'.a1 b hb with h | h
    · exact hs.a1 b h
    · exact .inr (Nat.le_trans hs.ext.size h)
  · rw [List.map_append]
    exact List.nodup_append.2 ⟨hs'.nodup, hrn, fun x hx y hy e => hdis x hx (e ▸ hy)⟩
  · rcases List.mem_append.1 h with h | h
    · exact hs'.objs n o h
    · refine (hs.objs n o (hrest _ h).1).ext he hs'.a0 hM ?_
      intro b hb hm
      exact (hrest _ h).2 (hb ▸ hm)
  · rcases List.mem_append.1 h with h | h
    · obtain ⟨q1, q2, q3⟩ := hs'.own n o h b hb
      refine ⟨q1, q2, ?_⟩
      rcases q3 with h3 | h3
      · exact .inl (Nat.le_trans hs.ext.size h3)
      · obtain ⟨o', ho'⟩ := hmem b h3
        exact (hs.own _ o' ho' b rfl).2.2
    · obtain ⟨q1, q2, q3⟩ := hs.own n o (hrest _ h).1 b hb
      refine ⟨Nat.lt_of_lt_of_le q1 he.size, fun hb' => ?_, q3⟩
      rcases hs'.a1 b hb' with h | h
      · exact q2 h
      · simp only at h
        omega
  · rcases List.mem_append.1 h with h | h
    · rcases hs'.neg n o h hn with h | h
      · exact .inl fun h' => h (hF _ (.inr h'))
      · obtain ⟨⟨n2, o2⟩, h2, e2⟩ := List.mem_map.1 h
        simp only at e2
        subst e2
        exact hs.neg n2 o2 (hin _ h2) hn
    · exact hs.neg n o (hrest _ h).1 hn
  · obtain ⟨v, hv, hr⟩ := hs.frame i p hp
    exact ⟨v, hv, hr.ext he hs'.a0 hM⟩

/-- A call by contract to which the objects Hin are handed; those of 'rest' stay with the caller. -/
theorem pcall_own {fn : FuncId} {args : List PV} {R : PV → Heap → Prop} {d : Option Tmp} {K : PState → Prop} (Hin rest : Heap) (hc : PCalls P G fn args Hin R)
    (hin : ∀ x ∈ Hin, x ∈ σ.heap) (hnd : (names Hin).Nodup) (hrest : ∀ x ∈ rest, x ∈ σ.heap ∧ x.1 ∉ names Hin) (hrn : (names rest).Nodup)
    (hk : ∀ res Hout, R res Hout → (∀ n ∈ names Hout, n ∉ names rest) → K (PState.put ⟨σ.frame, Hout ++ rest⟩ d res)) : @pcallI false P G σ d fn args ⟨K⟩ := by
  intro E A a w vals hs hsz hvals
  refine (hc w A (names σ.heap ++ E.F) vals hs.lt hs.globs hnd (fun n o h => hs.objs n o (hin _ h)) (fun n o h b hb => ⟨(hs.own n o (hin _ h) b hb).1, (hs.own n o (hin _ h) b hb).2.1⟩) hsz hvals).mono ?_
  rintro e w' ⟨v, A', res, Hout, rfl, hR, hr, hs'⟩
  obtain ⟨hdis, hsim⟩ := hs.calledI (fun n h => List.mem_append.2 h) hin hrest hrn hs'
  exact ⟨v, _, A', rfl, hk res Hout hR hdis, hsim.put d hr, fun h => Bool.noConfusion h⟩

/-- A row that is turned no more from its birth on, beside other objects. -/
theorem WL_bornH {I : List Int} {l0 l : List Oper} {K : PState → Prop} {N d : Nat} {L : List (Nat × PV)} {n : Int} {e : TypeId} {es len : Nat} {cells : List PV} {H : Heap} (hI : n ∉ I) (hc : len * es ≤ cells.length ∧ 0 < es)
    (hL : ∀ x ∈ L, frz n cells x.2 = x.2) (hH : ∀ x ∈ H, x.1 ≠ n ∧ ∀ u ∈ x.2.cells, frz1 n cells u = u ∧ u.one = true)
    (h : WL P G I l0 l ⟨fr N ((d, .list es (elemsOf es cells len)) :: L), H⟩ K) : WL P G I l0 l ⟨fr N ((d, .row n es len) :: L), (n, ⟨e, true, es, cells⟩) :: H⟩ K := by
  have hdel : del ((n, (⟨e, true, es, cells⟩ : PObj)) :: H) n = H := by
    simp only [del, if_true]
  refine WL_x ?_ h
  have h1 := Wx.freeze_f (G := G) (I := I) (N := N) (l := (d, .row n es len) :: L) (H := (n, ⟨e, true, es, cells⟩) :: H) n (o := ⟨e, true, es, cells⟩) hI (by simp only [look, if_true]) (by
    intro x hx u hu
    rw [hdel] at hx
    obtain ⟨h2, h3⟩ := (hH x hx).2 u hu
    rw [h2]
    exact h3)
  have e1 : L.map (fun x => (x.1, frz n cells x.2)) = L := by
    conv => rhs; rw [← List.map_id L]
    exact List.map_congr_left fun x hx => by rw [hL x hx]; rfl
  have e2 : frz n cells (.row n es len) = .list es (elemsOf es cells len) := by
    simp only [frz, frz1, if_true]
    rw [if_pos hc]
  have e3 : frzH n cells ((n, ⟨e, true, es, cells⟩) :: H) = H := by
    unfold frzH
    rw [hdel]
    conv => rhs; rw [← List.map_id H]
    refine List.map_congr_left fun x hx => ?_
    have h4 : x.2.cells.map (frz1 n cells) = x.2.cells := by
      conv => rhs; rw [← List.map_id x.2.cells]
      exact List.map_congr_left fun u hu => ((hH x hx).2 u hu).1
    rw [h4]
    rfl
  rw [List.map_cons, e1] at h1
  simp only [e2, e3] at h1
  exact h1
end
end Go.PM
