/- Joined texts (Pna Pne Fa Va Vb Vc Vd Na Nx Ve Vf Vg Vh Vi Nb Nc Vk Vl Vm): the machine, the contracts, the laws. Conditions: none but those that each names. -/
import Derived.Test.YtmnfkfikhcjeaaaJb
import Derived.DataReads
import Derived.Deep.Slices
import Derived.Deep.Strs
import Derived.KernelRfl
import Derived.Laws.Bits64b
import Derived.Lib.Zigzag
import Derived.SliceStrings
import Derived.Test.YtmnfkfikhcjeaaaProg
import Derived.Test.YtmnfkfikhcjeaaaRows
set_option linter.unusedSimpArgs false
set_option linter.unusedVariables false
namespace Go.PM
open Go.RowKit
section
variable {P : Program} {G : Globs} {E : Amb} {A : Nat → Prop} {σ : PState} {a : Act} {w : World}
/-- what comes back from a call with objects of the caller's -/
theorem Sim.calledI {w' : World} {A' : Nat → Prop} {Hin Hout rest : Heap} {F : List Int} (hs : Sim G E A σ a w) (hF : ∀ n, n ∈ names σ.heap ∨ n ∈ E.F → n ∈ F)
    (hin : ∀ x ∈ Hin, x ∈ σ.heap) (hrest : ∀ x ∈ rest, x ∈ σ.heap ∧ x.1 ∉ names Hin) (hrn : (names rest).Nodup)
    (hs' : Sim G ⟨w, A, Hin.map (·.1), F⟩ A' ⟨[], Hout⟩ ⟨#[], []⟩ w') : (∀ n ∈ names Hout, n ∉ names rest) ∧ Sim G E A' ⟨σ.frame, Hout ++ rest⟩ a w' := by
  have hmem : ∀ b : Nat, (b : Int) ∈ Hin.map (·.1) → ∃ o, ((b : Int), o) ∈ σ.heap := by
    intro b hb
    obtain ⟨⟨n, o⟩, h1, h2⟩ := List.mem_map.1 hb
    simp only at h2
    subst h2
    exact ⟨o, hin _ h1⟩
  have he := hs'.ext
  have hM : ∀ b, A b → ¬ (b : Int) ∈ Hin.map (·.1) := by
    intro b hb hm
    obtain ⟨o, ho⟩ := hmem b hm
    exact (hs.own _ o ho b rfl).2.1 hb
  have hdis : ∀ n ∈ names Hout, n ∉ names rest := by
    intro n hn hn'
    obtain ⟨⟨n1, o1⟩, h1, rfl⟩ := List.mem_map.1 hn
    obtain ⟨⟨n2, o2⟩, h2, e2⟩ := List.mem_map.1 hn'
    simp only at e2
    subst e2
    obtain ⟨h2a, h2b⟩ := hrest _ h2
    by_cases hneg : n2 < 0
    · rcases hs'.neg n2 o1 h1 hneg with h | h
      · exact h (hF _ (.inl (List.mem_map.2 ⟨_, h2a, rfl⟩)))
      · exact h2b h
    · obtain ⟨b, hb⟩ : ∃ b : Nat, n2 = b := ⟨n2.toNat, by omega⟩
      obtain ⟨q1, q2, q3⟩ := hs'.own n2 o1 h1 b hb
      have := (hs.own n2 o2 h2a b hb).1
      rcases q3 with h | h
      · simp only at h; omega
      · exact h2b (hb ▸ h)
  refine ⟨hdis, hs.ext.trans he ?_, hs'.lt, fun b hb => hs'.a0 b (hs.a0 b hb), fun b hb => ?_, hs'.globs, ?_, fun n o h => ?_, fun n o h b hb => ?_, fun n o h hn => ?_, hs.defers, hs.size, fun i p hp => ?_⟩
  · intro x hx hm
    obtain ⟨o, ho⟩ := hmem x hm
    rcases (hs.own _ o ho x rfl).2.2 with h | h
    · omega
    · exact h
  · rcases hs'.a1 b hb with h | h
    · exact hs.a1 b h
    · exact .inr (Nat.le_trans hs.ext.size h)
  · rw [List.map_append]
    exact List.nodup_append.2 ⟨hs'.nodup, hrn, fun x hx y hy e => hdis x hx (e ▸ hy)⟩
  · rcases List.mem_append.1 h with h | h
    · exact hs'.objs n o h
    · refine (hs.objs n o (hrest _ h).1).ext he hs'.a0 hM ?_
      intro b hb hm
      exact (hrest _ h).2 (hb ▸ hm)
  · rcases List.mem_append.1 h with h | h
    · obtain ⟨q1, q2, q3⟩ := hs'.own n o h b hb
      refine ⟨q1, q2, ?_⟩
      rcases q3 with h3 | h3
      · exact .inl (Nat.le_trans hs.ext.size h3)
      · obtain ⟨o', ho'⟩ := hmem b h3
        exact (hs.own _ o' ho' b rfl).2.2
    · obtain ⟨q1, q2, q3⟩ := hs.own n o (hrest _ h).1 b hb
      refine ⟨Nat.lt_of_lt_of_le q1 he.size, fun hb' => ?_, q3⟩
      rcases hs'.a1 b hb' with h | h
      · exact q2 h
      · simp only at h
        omega
  · rcases List.mem_append.1 h with h | h
    · rcases hs'.neg n o h hn with h | h
      · exact .inl fun h' => h (hF _ (.inr h'))
      · obtain ⟨⟨n2, o2⟩, h2, e2⟩ := List.mem_map.1 h
        simp only at e2
        subst e2
        exact hs.neg n2 o2 (hin _ h2) hn
    · exact hs.neg n o (hrest _ h).1 hn
  · obtain ⟨v, hv, hr⟩ := hs.frame i p hp
    exact ⟨v, hv, hr.ext he hs'.a0 hM⟩
/-- A call by contract to which the objects Hin are handed; those of 'rest' stay with the caller. -/
theorem pcall_own {fn : FuncId} {args : List PV} {R : PV → Heap → Prop} {d : Option Tmp} {K : PState → Prop} (Hin rest : Heap) (hc : PCalls P G fn args Hin R)
    (hin : ∀ x ∈ Hin, x ∈ σ.heap) (hnd : (names Hin).Nodup) (hrest : ∀ x ∈ rest, x ∈ σ.heap ∧ x.1 ∉ names Hin) (hrn : (names rest).Nodup)
    (hk : ∀ res Hout, R res Hout → (∀ n ∈ names Hout, n ∉ names rest) → K (PState.put ⟨σ.frame, Hout ++ rest⟩ d res)) : @pcallI false P G σ d fn args ⟨K⟩ := by
  intro E A a w vals hs hsz hvals
  refine (hc w A (names σ.heap ++ E.F) vals hs.lt hs.globs hnd (fun n o h => hs.objs n o (hin _ h)) (fun n o h b hb => ⟨(hs.own n o (hin _ h) b hb).1, (hs.own n o (hin _ h) b hb).2.1⟩) hsz hvals).mono ?_
  rintro e w' ⟨v, A', res, Hout, rfl, hR, hr, hs'⟩
  obtain ⟨hdis, hsim⟩ := hs.calledI (fun n h => List.mem_append.2 h) hin hrest hrn hs'
  exact ⟨v, _, A', rfl, hk res Hout hR hdis, hsim.put d hr, fun h => Bool.noConfusion h⟩
/-- A row that is turned no more from its birth on, beside other objects. -/
theorem WL_bornH {I : List Int} {l0 l : List Oper} {K : PState → Prop} {N d : Nat} {L : List (Nat × PV)} {n : Int} {e : TypeId} {es len : Nat} {cells : List PV} {H : Heap} (hI : n ∉ I) (hc : len * es ≤ cells.length ∧ 0 < es)
    (hL : ∀ x ∈ L, frz n cells x.2 = x.2) (hH : ∀ x ∈ H, x.1 ≠ n ∧ ∀ u ∈ x.2.cells, frz1 n cells u = u ∧ u.one = true)
    (h : WL P G I l0 l ⟨fr N ((d, .list es (elemsOf es cells len)) :: L), H⟩ K) : WL P G I l0 l ⟨fr N ((d, .row n es len) :: L), (n, ⟨e, true, es, cells⟩) :: H⟩ K := by
  have hdel : del ((n, (⟨e, true, es, cells⟩ : PObj)) :: H) n = H := by
    simp only [del, if_true]
  refine WL_x ?_ h
  have h1 := Wx.freeze_f (G := G) (I := I) (N := N) (l := (d, .row n es len) :: L) (H := (n, ⟨e, true, es, cells⟩) :: H) n (o := ⟨e, true, es, cells⟩) hI (by simp only [look, if_true]) (by
    intro x hx u hu
    rw [hdel] at hx
    obtain ⟨h2, h3⟩ := (hH x hx).2 u hu
    rw [h2]
    exact h3)
  have e1 : L.map (fun x => (x.1, frz n cells x.2)) = L := by
    conv => rhs; rw [← List.map_id L]
    exact List.map_congr_left fun x hx => by rw [hL x hx]; rfl
  have e2 : frz n cells (.row n es len) = .list es (elemsOf es cells len) := by
    simp only [frz, frz1, if_true]
    rw [if_pos hc]
  have e3 : frzH n cells ((n, ⟨e, true, es, cells⟩) :: H) = H := by
    unfold frzH
    rw [hdel]
    conv => rhs; rw [← List.map_id H]
    refine List.map_congr_left fun x hx => ?_
    have h4 : x.2.cells.map (frz1 n cells) = x.2.cells := by
      conv => rhs; rw [← List.map_id x.2.cells]
      exact List.map_congr_left fun u hu => ((hH x hx).2 u hu).1
    rw [h4]
    rfl
  rw [List.map_cons, e1] at h1
  simp only [e2, e3] at h1
  exact h1
end
section
variable {P : Program} {G : Globs} {E : Amb} {A : Nat → Prop} {σ : PState} {a : Act} {w : World} {q : Bool}
/-- what comes back from a call to which the object n was lent -/
theorem Sim.lent {w' : World} {A' : Nat → Prop} {n : Int} {o : PObj} {F : List Int} (hs : Sim G E A σ a w) (hl : look σ.heap n = some o)
    (hs' : Sim G ⟨w, fun b => A b ∨ (b : Int) = n, [], F⟩ A' ⟨[], []⟩ ⟨#[], []⟩ w') : Sim G E (fun b => A' b ∧ ¬ (b : Int) = n) σ a w' := by
  have he : Ext (fun _ => False) w w' := hs'.ext.mono (fun x hx => (List.not_mem_nil hx).elim)
  have hm : ∀ b, A b → ¬ False := fun _ _ h => h
  have hA : ∀ b, A b → A' b ∧ ¬ (b : Int) = n := fun b hb => ⟨hs'.a0 b (.inl hb), fun e => (hs.own n o (look_mem hl) b e.symm).2.1 hb⟩
  have hA1 : ∀ b, A' b ∧ ¬ (b : Int) = n → A b ∨ w.heap.size ≤ b := by
    intro b ⟨hb, hn⟩
    rcases hs'.a1 b hb with (h | h) | h
    · exact .inl h
    · exact absurd h hn
    · exact .inr h
  refine ⟨hs.ext.trans he (fun _ _ h => h.elim), fun b hb => hs'.lt b hb.1, fun b hb => hA b (hs.a0 b hb), fun b hb => ?_, fun g => (hs.globs g).ext he hA hm, hs.nodup, fun m o' h => (hs.objs m o' h).ext he hA hm (fun _ _ h => h), fun m o' h b hb => ?_, hs.neg, hs.defers, hs.size, fun i p hp => ?_⟩
  · rcases hA1 b hb with h | h
    · exact hs.a1 b h
    · exact .inr (Nat.le_trans hs.ext.size h)
  · obtain ⟨q1, q2, q3⟩ := hs.own m o' h b hb
    refine ⟨Nat.lt_of_lt_of_le q1 he.size, fun hb' => ?_, q3⟩
    rcases hA1 b hb' with h | h
    · exact q2 h
    · omega
  · obtain ⟨v, hv, hr⟩ := hs.frame i p hp
    exact ⟨v, hv, hr.ext he hA hm⟩
/-- A call by contract to which the object n is lent, to be read: what comes back names no memory. -/
theorem pcall_lend {fn : FuncId} {args : List PV} {R : PV → Heap → Prop} {d : Option Tmp} {K : PState → Prop} (n : Int) (o : PObj) (hl : look σ.heap n = some o) (hc : PCalls P G fn (args.map (frz1 n o.cells)) [] R)
    (hk : ∀ res Hout, R res Hout → Hout = [] ∧ Flat res ∧ K (PState.put σ d res)) : @pcallI q P G σ d fn args ⟨K⟩ := by
  intro E A a w vals hs hsz hvals
  have hob := hs.objs n o (look_mem hl)
  have hA : ∀ b, A b → (A b ∨ (b : Int) = n) := fun b h => .inl h
  have hn : ∀ b : Nat, n = b → (A b ∨ (b : Int) = n) := fun b h => .inr h.symm
  refine (hc w (fun b => A b ∨ (b : Int) = n) (names σ.heap ++ E.F) vals ?_ (fun g => (hs.globs g).mono hA (fun _ _ _ _ h => h) (fun _ _ h => h)) (by simp) (by simp) (by simp) (by rw [List.length_map]; exact hsz) ?_).mono ?_
  · intro b hb
    rcases hb with h | h
    · exact hs.lt b h
    · exact (hs.own n o (look_mem hl) b h.symm).1
  · intro i p hp
    rw [List.getElem?_map] at hp
    cases hj : args[i]? with
    | none => rw [hj] at hp; cases hp
    | some p0 =>
      rw [hj] at hp
      cases hp
      obtain ⟨v, hv, hr⟩ := hvals i p0 hj
      exact ⟨v, hv, frz1_rep hA hn hob hr⟩
  · rintro e w' ⟨v, A', res, Hout, rfl, hR, hr, hs'⟩
    obtain ⟨rfl, hflat, hK⟩ := hk res Hout hR
    exact ⟨v, _, _, rfl, hK, (hs.lent hl hs').put d (hflat.rep hr), fun _ => keeps_of_sim hs'⟩
theorem Fin_cell {x : Tmp} {t : TypeId} {F : TF} {n : Int} {off : Nat} {o : PObj} {R : PV → Heap → Prop} {σ : PState} {res : PV} {H : Heap} (hF : tf P t = some F) (hx : σ.frame.getD x .junk = .ptr n off) (hl : look σ.heap n = some o)
    (hp : pload F o.cells off fun r => res = r) (h2 : Sub H σ.heap) (h3 : R res H) : Fin P [.cell x t] R .ret σ :=
  Fin_ret (show PResult P σ [.cell x t] res by
    show PRes P σ (.cell x t) res
    simp only [PRes, hF, hx, hl]
    exact hp) h2 h3
end
section
variable {P : Program} {G : Globs} {E : Amb} {A : Nat → Prop} {σ : PState} {a : Act} {w : World}
theorem Wx_bornH {I : List Int} {N d : Nat} {L : List (Nat × PV)} {n : Int} {e : TypeId} {es len : Nat} {cells : List PV} {H : Heap} (hI : n ∉ I) (hc : len * es ≤ cells.length ∧ 0 < es)
    (hL : ∀ x ∈ L, frz n cells x.2 = x.2) (hH : ∀ x ∈ H, x.1 ≠ n ∧ ∀ u ∈ x.2.cells, frz1 n cells u = u ∧ u.one = true) :
    Wx G I ⟨fr N ((d, .row n es len) :: L), (n, ⟨e, true, es, cells⟩) :: H⟩ ⟨fr N ((d, .list es (elemsOf es cells len)) :: L), H⟩ := by
  have hdel : del ((n, (⟨e, true, es, cells⟩ : PObj)) :: H) n = H := by
    simp only [del, if_true]
  have h1 := Wx.freeze_f (G := G) (I := I) (N := N) (l := (d, .row n es len) :: L) (H := (n, ⟨e, true, es, cells⟩) :: H) n (o := ⟨e, true, es, cells⟩) hI (by simp only [look, if_true]) (by
    intro x hx u hu
    rw [hdel] at hx
    obtain ⟨h2, h3⟩ := (hH x hx).2 u hu
    rw [h2]
    exact h3)
  have e1 : L.map (fun x => (x.1, frz n cells x.2)) = L := by
    conv => rhs; rw [← List.map_id L]
    exact List.map_congr_left fun x hx => by rw [hL x hx]; rfl
  have e2 : frz n cells (.row n es len) = .list es (elemsOf es cells len) := by
    simp only [frz, frz1, if_true]
    rw [if_pos hc]
  have e3 : frzH n cells ((n, ⟨e, true, es, cells⟩) :: H) = H := by
    unfold frzH
    rw [hdel]
    conv => rhs; rw [← List.map_id H]
    refine List.map_congr_left fun x hx => ?_
    have h4 : x.2.cells.map (frz1 n cells) = x.2.cells := by
      conv => rhs; rw [← List.map_id x.2.cells]
      exact List.map_congr_left fun u hu => ((hH x hx).2 u hu).1
    rw [h4]
    rfl
  rw [List.map_cons, e1] at h1
  simp only [e2, e3] at h1
  exact h1
end
/- What each walk rewrites by, as one conjunction: it keeps the texts short. -/
set_option maxRecDepth 10000 in
theorem evb : type_of% (And.intro @fr_set (And.intro @fr_getD_nil (And.intro @fr_same (And.intro @fr_other (And.intro @pguard_tt (And.intro @pguard_tf (And.intro @pguard_ft (And.intro @pguard_ff (And.intro @List.map_cons.{0, 0} (And.intro @List.map_nil.{0, 0} (And.intro @List.getD_cons_zero.{0} (And.intro @List.getD_cons_succ.{0} (And.intro @List.getD_nil.{0} (And.intro @List.getElem?_nil.{0} (And.intro @Option.join_some.{0} (And.intro @Option.join_none.{0} (And.intro @Option.map_some.{0, 0} (And.intro @Option.map_none.{0, 0} (And.intro @List.length_cons.{0} (And.intro @List.length_nil.{0} (And.intro @List.all_cons.{0} (And.intro @List.all_nil.{0} (And.intro @Bool.and_true (And.intro @Bool.true_and (And.intro @Bool.not_true (And.intro @Bool.not_false (And.intro @List.take_zero.{0} (And.intro @List.drop_zero.{0} (And.intro @List.nil_append.{0} (And.intro @List.cons_append.{0} (And.intro @List.append_nil.{0} (And.intro @Nat.zero_add (And.intro @Nat.add_zero (And.intro @Nat.mul_one (And.intro @Nat.zero_mul (And.intro @List.drop_succ_cons.{0} (And.intro @List.take_succ_cons.{0} (And.intro @List.drop_nil.{0} (And.intro @List.take_nil.{0} (And.intro @true_and (And.intro @and_true (And.intro @not_false_eq_true (And.intro @List.toList_toArray.{0} (And.intro @List.replicate_succ.{0} (And.intro @List.replicate_zero.{0} (And.intro @List.flatten_cons.{0} (And.intro @List.flatten_nil.{0} (And.intro @Int.toNat_natCast (And.intro @Int.toNat_zero (And.intro @Int.toNat_one (And.intro @bl_mk (And.intro @bl_lit (And.intro @wr64 (And.intro @toNat_add1 (And.intro @toNat_sub1 (And.intro @map_getD (And.intro @Int.natCast_nonneg (And.intro @List.length_map.{0, 0} (And.intro @Bool.not_not (And.intro @List.not_mem_nil.{0} (And.intro @Option.some.injEq.{0} (And.intro @Int.cast_ofNat_Int (And.intro @Int.natCast_zero (And.intro @List.size_toArray.{0} (And.intro @decide_true (And.intro @decide_false (And.intro @List.length_take.{0} (And.intro @List.length_append.{0} @List.length_drop.{0})))))))))))))))))))))))))))))))))))))))))))))))))))))))))))))))))))) := (And.intro @fr_set (And.intro @fr_getD_nil (And.intro @fr_same (And.intro @fr_other (And.intro @pguard_tt (And.intro @pguard_tf (And.intro @pguard_ft (And.intro @pguard_ff (And.intro @List.map_cons.{0, 0} (And.intro @List.map_nil.{0, 0} (And.intro @List.getD_cons_zero.{0} (And.intro @List.getD_cons_succ.{0} (And.intro @List.getD_nil.{0} (And.intro @List.getElem?_nil.{0} (And.intro @Option.join_some.{0} (And.intro @Option.join_none.{0} (And.intro @Option.map_some.{0, 0} (And.intro @Option.map_none.{0, 0} (And.intro @List.length_cons.{0} (And.intro @List.length_nil.{0} (And.intro @List.all_cons.{0} (And.intro @List.all_nil.{0} (And.intro @Bool.and_true (And.intro @Bool.true_and (And.intro @Bool.not_true (And.intro @Bool.not_false (And.intro @List.take_zero.{0} (And.intro @List.drop_zero.{0} (And.intro @List.nil_append.{0} (And.intro @List.cons_append.{0} (And.intro @List.append_nil.{0} (And.intro @Nat.zero_add (And.intro @Nat.add_zero (And.intro @Nat.mul_one (And.intro @Nat.zero_mul (And.intro @List.drop_succ_cons.{0} (And.intro @List.take_succ_cons.{0} (And.intro @List.drop_nil.{0} (And.intro @List.take_nil.{0} (And.intro @true_and (And.intro @and_true (And.intro @not_false_eq_true (And.intro @List.toList_toArray.{0} (And.intro @List.replicate_succ.{0} (And.intro @List.replicate_zero.{0} (And.intro @List.flatten_cons.{0} (And.intro @List.flatten_nil.{0} (And.intro @Int.toNat_natCast (And.intro @Int.toNat_zero (And.intro @Int.toNat_one (And.intro @bl_mk (And.intro @bl_lit (And.intro @wr64 (And.intro @toNat_add1 (And.intro @toNat_sub1 (And.intro @map_getD (And.intro @Int.natCast_nonneg (And.intro @List.length_map.{0, 0} (And.intro @Bool.not_not (And.intro @List.not_mem_nil.{0} (And.intro @Option.some.injEq.{0} (And.intro @Int.cast_ofNat_Int (And.intro @Int.natCast_zero (And.intro @List.size_toArray.{0} (And.intro @decide_true (And.intro @decide_false (And.intro @List.length_take.{0} (And.intro @List.length_append.{0} @List.length_drop.{0}))))))))))))))))))))))))))))))))))))))))))))))))))))))))))))))))))))
set_option maxRecDepth 10000 in
theorem evd : type_of% (And.intro @opnd.eq_1 (And.intro @opnd.eq_2 (And.intro @opnd.eq_3 (And.intro @opnd.eq_4 (And.intro @PState.put.eq_1 (And.intro @PState.put.eq_2 (And.intro @layFrom.eq_1 (And.intro @layFrom.eq_2 (And.intro @pldop.eq_1 (And.intro @pload.eq_1 (And.intro @pfaddr.eq_1 (And.intro @parr.eq_1 (And.intro @pbuild.eq_1 (And.intro @pfill.eq_1 (And.intro @pfill.eq_2 (And.intro @palloc.eq_1 (And.intro @pbox.eq_1 (And.intro @pbuildS.eq_1 (And.intro @pappend.eq_1 (And.intro @pcopy.eq_1 (And.intro @pmlook.eq_1 (And.intro @pmupd.eq_1 (And.intro @pmmake.eq_1 (And.intro @pmdel.eq_1 (And.intro @pmlen.eq_1 (And.intro @vcells.eq_1 (And.intro @look.eq_1 (And.intro @look.eq_2 (And.intro @upd.eq_1 (And.intro @upd.eq_2 (And.intro @del.eq_1 (And.intro @del.eq_2 (And.intro @names.eq_1 @times.eq_1))))))))))))))))))))))))))))))))) := (And.intro @opnd.eq_1 (And.intro @opnd.eq_2 (And.intro @opnd.eq_3 (And.intro @opnd.eq_4 (And.intro @PState.put.eq_1 (And.intro @PState.put.eq_2 (And.intro @layFrom.eq_1 (And.intro @layFrom.eq_2 (And.intro @pldop.eq_1 (And.intro @pload.eq_1 (And.intro @pfaddr.eq_1 (And.intro @parr.eq_1 (And.intro @pbuild.eq_1 (And.intro @pfill.eq_1 (And.intro @pfill.eq_2 (And.intro @palloc.eq_1 (And.intro @pbox.eq_1 (And.intro @pbuildS.eq_1 (And.intro @pappend.eq_1 (And.intro @pcopy.eq_1 (And.intro @pmlook.eq_1 (And.intro @pmupd.eq_1 (And.intro @pmmake.eq_1 (And.intro @pmdel.eq_1 (And.intro @pmlen.eq_1 (And.intro @vcells.eq_1 (And.intro @look.eq_1 (And.intro @look.eq_2 (And.intro @upd.eq_1 (And.intro @upd.eq_2 (And.intro @del.eq_1 (And.intro @del.eq_2 (And.intro @names.eq_1 @times.eq_1)))))))))))))))))))))))))))))))))
theorem fmb : type_of% (And.intro @List.forall_mem_cons.{0} (And.intro @List.not_mem_nil.{0} (And.intro @false_implies (And.intro @implies_true.{1} (And.intro @implies_true.{0} (And.intro @and_true (And.intro @true_and @ne_eq.{1}))))))) := (And.intro @List.forall_mem_cons.{0} (And.intro @List.not_mem_nil.{0} (And.intro @false_implies (And.intro @implies_true.{1} (And.intro @implies_true.{0} (And.intro @and_true (And.intro @true_and @ne_eq.{1})))))))
theorem prb : type_of% (And.intro @prune_cons (And.intro @prune_nil (And.intro @cond_true.{1} @cond_false.{1}))) := (And.intro @prune_cons (And.intro @prune_nil (And.intro @cond_true.{1} @cond_false.{1})))
theorem cob : type_of% (And.intro @not_true_eq_false (And.intro @not_false_eq_true (And.intro @List.getD_cons_zero.{0} (And.intro @List.getD_cons_succ.{0} (And.intro @fr_getD_cons @fr_getD_nil))))) := (And.intro @not_true_eq_false (And.intro @not_false_eq_true (And.intro @List.getD_cons_zero.{0} (And.intro @List.getD_cons_succ.{0} (And.intro @fr_getD_cons @fr_getD_nil)))))
theorem wkb : type_of% (And.intro @List.forall_mem_cons.{0} (And.intro @List.not_mem_nil.{0} (And.intro @false_implies (And.intro @implies_true.{1} (And.intro @implies_true.{0} (And.intro @and_true (And.intro @true_and (And.intro @and_self (And.intro @fr_getD_cons (And.intro @fr_getD_nil (And.intro @Int.natCast_add (And.intro @Int.cast_ofNat_Int @Int.natCast_zero)))))))))))) := (And.intro @List.forall_mem_cons.{0} (And.intro @List.not_mem_nil.{0} (And.intro @false_implies (And.intro @implies_true.{1} (And.intro @implies_true.{0} (And.intro @and_true (And.intro @true_and (And.intro @and_self (And.intro @fr_getD_cons (And.intro @fr_getD_nil (And.intro @Int.natCast_add (And.intro @Int.cast_ofNat_Int @Int.natCast_zero))))))))))))
set_option maxRecDepth 10000 in
theorem hcb : type_of% (And.intro @decide_eq_true_eq (And.intro @decide_eq_false_iff_not (And.intro @and_true (And.intro @true_and (And.intro @Bool.not_eq_true (And.intro @Bool.not_eq_false (And.intro @bne_eq_false_iff_eq.{0} (And.intro @beq_eq_false_iff_ne.{0} (And.intro @Decidable.not_not (And.intro @Bool.not_eq_eq_eq_not (And.intro @Bool.not_true (And.intro @Bool.not_false (And.intro @Bool.and_eq_true (And.intro @Bool.or_eq_true (And.intro @Int.natCast_inj (And.intro @Bool.and_eq_false_iff (And.intro @Bool.or_eq_false_iff (And.intro @false_implies (And.intro @true_implies (And.intro @bne_iff_ne.{0} @beq_iff_eq.{0})))))))))))))))))))) := (And.intro @decide_eq_true_eq (And.intro @decide_eq_false_iff_not (And.intro @and_true (And.intro @true_and (And.intro @Bool.not_eq_true (And.intro @Bool.not_eq_false (And.intro @bne_eq_false_iff_eq.{0} (And.intro @beq_eq_false_iff_ne.{0} (And.intro @Decidable.not_not (And.intro @Bool.not_eq_eq_eq_not (And.intro @Bool.not_true (And.intro @Bool.not_false (And.intro @Bool.and_eq_true (And.intro @Bool.or_eq_true (And.intro @Int.natCast_inj (And.intro @Bool.and_eq_false_iff (And.intro @Bool.or_eq_false_iff (And.intro @false_implies (And.intro @true_implies (And.intro @bne_iff_ne.{0} @beq_iff_eq.{0}))))))))))))))))))))
set_option maxRecDepth 10000 in
theorem eve : type_of% (And.intro @pbuiltin.eq_def (And.intro @pnck.eq_def (And.intro @pbin.eq_def (And.intro @pun.eq_def (And.intro @ppick.eq_def (And.intro @plen.eq_def (And.intro @piaddr.eq_def (And.intro @pindex.eq_def (And.intro @pfield.eq_def (And.intro @pslice.eq_def (And.intro @pconv.eq_def (And.intro @pextract.eq_def (And.intro @pmm.eq_def (And.intro @pageq.eq_def (And.intro @pmakes.eq_def (And.intro @pstore.eq_def (And.intro @pbytes.eq_def (And.intro @pmark.eq_def (And.intro @pusd.eq_def (And.intro @pust.eq_def (And.intro @pnile.eq_def (And.intro @pcap.eq_def (And.intro @pgrow.eq_def (And.intro @pkey.eq_def @psrc.eq_def)))))))))))))))))))))))) := (And.intro @pbuiltin.eq_def (And.intro @pnck.eq_def (And.intro @pbin.eq_def (And.intro @pun.eq_def (And.intro @ppick.eq_def (And.intro @plen.eq_def (And.intro @piaddr.eq_def (And.intro @pindex.eq_def (And.intro @pfield.eq_def (And.intro @pslice.eq_def (And.intro @pconv.eq_def (And.intro @pextract.eq_def (And.intro @pmm.eq_def (And.intro @pageq.eq_def (And.intro @pmakes.eq_def (And.intro @pstore.eq_def (And.intro @pbytes.eq_def (And.intro @pmark.eq_def (And.intro @pusd.eq_def (And.intro @pust.eq_def (And.intro @pnile.eq_def (And.intro @pcap.eq_def (And.intro @pgrow.eq_def (And.intro @pkey.eq_def @psrc.eq_def))))))))))))))))))))))))
end Go.PM

namespace Go.PM
open Go.RowKit
section
variable {P : Program} {G : Globs} {I : List Int} {K : Exit → PState → Prop} {σ : PState} {x y : Code} {o : Operand}
/-- A branch, once the condition is known. -/
def condG (p : PV) [h : Two] : Prop :=
  match p with
  | .val (.bool t) => @pguard t true h
  | _ => False
theorem wc (h : @condG (opnd G σ.frame o) ⟨W P G I x σ K, W P G I y σ K⟩) : W P G I (.cond o x y) σ K := by
  unfold condG at h
  split at h
  · rename_i t ht
    exact W_cond ht h.1 h.2
  · exact h.elim
/-- A region in the text's order: only the slots of the mask are kept. -/
theorem wr {N id : Nat} {l : List (Nat × PV)} {H : Heap} {ops : List Oper} (m : Nat) (h : WL P G I ops ops ⟨fr N (prune m l), H⟩ (K .normal)) : W P G I (.region id ops.toArray false) ⟨fr N l, H⟩ K := W_prune m (W_region_l h)
/-- A region that draws its order. -/
theorem wd {N id : Nat} {l : List (Nat × PV)} {H : Heap} {ops : List Oper} (m f : Nat) (L : Plan) (hp : planAll P ops f L = true) (h : popsD P G I (ops.map (·.dst)) ops L ⟨fr N (prune m l), H⟩ (K .normal)) : W P G I (.region id ops.toArray true) ⟨fr N l, H⟩ K := W_prune m (W_region_draw f L hp h)
end
section
variable {P : Program} {G : Globs} {σ : PState} {fn : FuncId} {args : List PV} {d : Option Tmp} {K : PState → Prop} {q : Bool}
/-- A call of a function with one result and no objects. -/
theorem pe {r : PV} (hc : PCalls P G fn args [] (fun res H => res = r ∧ H = [])) (hk : Ev (K (PState.put ⟨σ.frame, [] ++ σ.heap⟩ d r))) : @pcallI q P G σ d fn args ⟨K⟩ := by
  refine pcall_k hc ?_
  rintro _ _ ⟨rfl, rfl⟩ -
  exact hk
end
theorem pg {b want : Bool} {x y : Prop} (hx : b = want → Ev x) (hy : b = (!want) → Ev y) : @pguard b want ⟨x, y⟩ := ⟨hx, hy⟩
theorem pf {l : List Int} {k : Int → Prop} {C : Prop} (hc : C) (h : ∀ n : Int, (C ∧ ∀ x ∈ l, (n = x) = False ∧ (x = n) = False) → k n) : @pfresh l ⟨k⟩ := pfresh_k hc h
theorem pm {l : List Int} {im : Prop} {k : Int → Prop} {C : Prop} (hc : C) (h : ∀ n : Int, (C ∧ ∀ x ∈ l, (n = x) = False ∧ (x = n) = False) → k n) : @pborn l ⟨im, k⟩ := pborn_mu hc h
/- What each walk rewrites by. -/
set_option maxRecDepth 10000 in
theorem eva : (∀ (k : IntKind) (n : Int), constPV (.int k n) = .val (.int k n)) ∧ (∀ (k : IntKind) (n : Int), Value.oneCell' (.int k n) = true) ∧ (∀ (b : Bool), constPV (.bool b) = .val (.bool b)) ∧ (∀ (b : Bool), Value.oneCell' (.bool b) = true) ∧ (∀ (s : ByteArray), constPV (.string s) = .val (.string s)) ∧ (∀ (s : ByteArray), Value.oneCell' (.string s) = true) ∧ (∀ (a : Option Addr) (l c : Nat), constPV (.slice a l c) = .val (.slice a l c)) ∧ (∀ (a : Option Addr) (l c : Nat), Value.oneCell' (.slice a l c) = true) ∧ (∀ (a : Option Addr), constPV (.pointer a) = .val (.pointer a)) ∧ (∀ (a : Option Addr), Value.oneCell' (.pointer a) = true) ∧ (∀ (a : Option Nat), constPV (.map a) = .val (.map a)) ∧ (∀ (a : Option Nat), Value.oneCell' (.map a) = true) ∧ (constPV (.nilFunc ) = .val (.nilFunc )) ∧ (Value.oneCell' (.nilFunc ) = true) ∧ (constPV (.nilIface ) = .val (.nilIface )) ∧ (Value.oneCell' (.nilIface ) = true) ∧ (∀ (a : Option Nat), constPV (.chan a) = .val (.chan a)) ∧ (∀ (a : Option Nat), Value.oneCell' (.chan a) = true) ∧ (∀ (k : FloatKind) (n : Nat), constPV (.float k n) = .val (.float k n)) ∧ (∀ (k : FloatKind) (n : Nat), Value.oneCell' (.float k n) = true) ∧ (∀ (f : Fn) (x y : Array Value), constPV (.func f x y) = .val (.func f x y)) ∧ (∀ (f : Fn) (x y : Array Value), Value.oneCell' (.func f x y) = true) ∧ (∀ (t : TypeId) (v : Value), constPV (.iface t v) = .val (.iface t v)) ∧ (∀ (t : TypeId) (v : Value), Value.oneCell' (.iface t v) = true) ∧ (∀ (xs : Array Value), constPV (.tuple xs) = .val (.tuple xs)) ∧ (∀ cs : Array Value, constPV (.agg cs) = .agg (cs.toList.map .val)) := by
  refine ⟨?_, ?_, ?_, ?_, ?_, ?_, ?_, ?_, ?_, ?_, ?_, ?_, ?_, ?_, ?_, ?_, ?_, ?_, ?_, ?_, ?_, ?_, ?_, ?_, ?_, ?_⟩ <;> intros <;> rfl
set_option maxRecDepth 10000 in
theorem ev : type_of% (And.intro evb (And.intro evd (And.intro eve (And.intro eva (And.intro prb (And.intro @ne_eq.{1} (And.intro @forall_const.{1} (And.intro @exists_and_left.{1} (And.intro @exists_eq_left'.{1} (And.intro @eq_self.{1} (And.intro @List.set.eq_1.{0} (And.intro @List.set.eq_2.{0} (And.intro @List.set.eq_3.{0} (And.intro @pbound.eq_1 (And.intro @pbound.eq_2 (And.intro @condG.eq_1 (And.intro @pelems.eq_1 (And.intro @pelems.eq_2 (And.intro @pelems.eq_3 (And.intro @pelems.eq_4 (And.intro @pelems.eq_5 (And.intro @peqs.eq_1 (And.intro @peqs.eq_2 (And.intro @peq1.eq_1 (And.intro @peq1.eq_2 (And.intro @peq1.eq_3 (And.intro @pkeys.eq_1 (And.intro @pkeys.eq_2 (And.intro @pkeyt.eq_1 @pkeyt.eq_2))))))))))))))))))))))))))))) := (And.intro evb (And.intro evd (And.intro eve (And.intro eva (And.intro prb (And.intro @ne_eq.{1} (And.intro @forall_const.{1} (And.intro @exists_and_left.{1} (And.intro @exists_eq_left'.{1} (And.intro @eq_self.{1} (And.intro @List.set.eq_1.{0} (And.intro @List.set.eq_2.{0} (And.intro @List.set.eq_3.{0} (And.intro @pbound.eq_1 (And.intro @pbound.eq_2 (And.intro @condG.eq_1 (And.intro @pelems.eq_1 (And.intro @pelems.eq_2 (And.intro @pelems.eq_3 (And.intro @pelems.eq_4 (And.intro @pelems.eq_5 (And.intro @peqs.eq_1 (And.intro @peqs.eq_2 (And.intro @peq1.eq_1 (And.intro @peq1.eq_2 (And.intro @peq1.eq_3 (And.intro @pkeys.eq_1 (And.intro @pkeys.eq_2 (And.intro @pkeyt.eq_1 @pkeyt.eq_2)))))))))))))))))))))))))))))
theorem evp : type_of% (And.intro @popG_eq (And.intro @pop.eq_1 (And.intro @List.getElem?_map.{0, 0} (And.intro @List.getElem?_cons_zero.{0} @List.getElem?_cons_succ.{0})))) := (And.intro @popG_eq (And.intro @pop.eq_1 (And.intro @List.getElem?_map.{0, 0} (And.intro @List.getElem?_cons_zero.{0} @List.getElem?_cons_succ.{0}))))
set_option maxRecDepth 10000 in
theorem bir : type_of% (And.intro @List.map_cons.{0, 0} (And.intro @List.map_nil.{0, 0} (And.intro @List.take_succ_cons.{0} (And.intro @List.take_zero.{0} (And.intro @List.range_succ (And.intro @List.range_zero (And.intro @List.nil_append.{0} (And.intro @List.cons_append.{0} (And.intro @List.map_append.{0, 0} (And.intro @List.drop_succ_cons.{0} (And.intro @List.drop_zero.{0} (And.intro @Nat.zero_mul @Nat.one_mul)))))))))))) :=
  (And.intro @List.map_cons.{0, 0} (And.intro @List.map_nil.{0, 0} (And.intro @List.take_succ_cons.{0} (And.intro @List.take_zero.{0} (And.intro @List.range_succ (And.intro @List.range_zero (And.intro @List.nil_append.{0} (And.intro @List.cons_append.{0} (And.intro @List.map_append.{0, 0} (And.intro @List.drop_succ_cons.{0} (And.intro @List.drop_zero.{0} (And.intro @Nat.zero_mul @Nat.one_mul))))))))))))
/-- How a piece of code may end. -/
theorem kks : type_of% (And.intro @seqK.eq_1 (And.intro @blockK.eq_1 @scopeK.eq_1)) ∧ (∀ next K i σ, seqK next K (.exit i) σ = K (.exit i) σ) ∧ (∀ next K σ, seqK next K .ret σ = K .ret σ) ∧ (∀ next K i σ, seqK next K (.goto i) σ = K (.goto i) σ) ∧
    (∀ i K σ, blockK i K .normal σ = K .normal σ) ∧ (∀ i K σ, blockK i K .ret σ = K .ret σ) ∧ (∀ i K j σ, blockK i K (.goto j) σ = K (.goto j) σ) ∧ (∀ K σ, scopeK K .normal σ = K .normal σ) ∧ (∀ K σ, scopeK K .ret σ = K .ret σ) ∧ (∀ K j σ, scopeK K (.exit j) σ = K (.exit j) σ) :=
  ⟨And.intro @seqK.eq_1 (And.intro @blockK.eq_1 @scopeK.eq_1), by intros; rfl, by intros; rfl, by intros; rfl, by intros; rfl, by intros; rfl, by intros; rfl, by intros; rfl, by intros; rfl, by intros; rfl⟩
end Go.PM

namespace Go.PM
open Go.Proofs
theorem Try.tf0 : tf Try.prog 0 = some ⟨.other, 1, 0, false, some (.tuple #[])⟩ := by kernel_rfl
theorem Try.tf1 : tf Try.prog 1 = some ⟨.func, 1, 8, false, some (.nilFunc)⟩ := by kernel_rfl
theorem Try.tf2 : tf Try.prog 2 = some ⟨.int .i64, 1, 8, false, some (.int .i64 0)⟩ := by kernel_rfl
theorem Try.tf3 : tf Try.prog 3 = some ⟨.int .i64, 1, 8, false, some (.int .i64 0)⟩ := by kernel_rfl
theorem Try.tf4 : tf Try.prog 4 = some ⟨.bool, 1, 1, false, some (.bool false)⟩ := by kernel_rfl
theorem Try.tf5 : tf Try.prog 5 = some ⟨.int .u8, 1, 1, false, some (.int .u8 0)⟩ := by kernel_rfl
theorem Try.tf6 : tf Try.prog 6 = some ⟨.int .u8, 1, 1, false, some (.int .u8 0)⟩ := by kernel_rfl
theorem Try.tf7 : tf Try.prog 7 = some ⟨.struct [(0, 1, false), (1, 1, false), (2, 1, false), (3, 1, false)], 4, 24, true, some (.agg #[.int .i64 0, .int .i64 0, .bool false, .int .u8 0])⟩ := by kernel_rfl
theorem Try.tf9 : tf Try.prog 9 = some ⟨.string, 1, 16, false, some (.string ⟨#[]⟩)⟩ := by kernel_rfl
theorem Try.tf20 : tf Try.prog 20 = some ⟨.other, 1, 16, false, some (.nilIface)⟩ := by kernel_rfl
theorem Try.tf22 : tf Try.prog 22 = some ⟨.int .u64, 1, 8, false, some (.int .u64 0)⟩ := by kernel_rfl
theorem Try.tf23 : tf Try.prog 23 = some ⟨.slice 3 1 8, 1, 24, false, some (.slice none 0 0)⟩ := by kernel_rfl
theorem Try.tf28 : tf Try.prog 28 = some ⟨.slice 33 1 24, 1, 24, false, some (.slice none 0 0)⟩ := by kernel_rfl
theorem Try.tf33 : tf Try.prog 33 = some ⟨.slice 5 1 1, 1, 24, false, some (.slice none 0 0)⟩ := by kernel_rfl
theorem Try.tf34 : tf Try.prog 34 = some ⟨.int .i64, 1, 8, false, some (.int .i64 0)⟩ := by kernel_rfl
theorem Try.tf35 : tf Try.prog 35 = some ⟨.pointer 65, 1, 8, false, some (.pointer none)⟩ := by kernel_rfl
theorem Try.tf43 : tf Try.prog 43 = some ⟨.struct [(0, 1, false), (1, 1, false), (2, 1, false)], 3, 40, true, some (.agg #[.int .i64 0, .int .i64 0, .slice none 0 0])⟩ := by kernel_rfl
theorem Try.tf44 : tf Try.prog 44 = some ⟨.other, 1, 0, false, some (.tuple #[.slice none 0 0, .int .i64 0])⟩ := by kernel_rfl
theorem Try.tf49 : tf Try.prog 49 = some ⟨.other, 1, 0, false, some (.tuple #[.slice none 0 0, .int .i64 0])⟩ := by kernel_rfl
theorem Try.tf53 : tf Try.prog 53 = some ⟨.other, 1, 0, false, some (.tuple #[.pointer none, .int .i64 0])⟩ := by kernel_rfl
theorem Try.tf63 : tf Try.prog 63 = some ⟨.map 3 33, 1, 8, false, some (.map none)⟩ := by kernel_rfl
theorem Try.tf65 : tf Try.prog 65 = some ⟨.struct [(0, 1, false), (1, 1, false), (2, 1, false), (3, 1, false), (4, 1, false), (5, 1, false), (6, 1, false), (7, 1, false)], 8, 80, true, some (.agg #[.int .i64 0, .int .u64 0, .slice none 0 0, .int .i64 0, .int .i64 0, .map none, .bool false, .int .i64 0])⟩ := by kernel_rfl
theorem Try.tf68 : tf Try.prog 68 = some ⟨.struct [(0, 1, false), (1, 1, false), (2, 1, false)], 3, 40, true, some (.agg #[.int .i64 0, .int .i64 0, .slice none 0 0])⟩ := by kernel_rfl
theorem Try.tf70 : tf Try.prog 70 = some ⟨.other, 1, 0, false, some (.tuple #[.agg #[.int .i64 0, .int .i64 0, .slice none 0 0], .bool false])⟩ := by kernel_rfl
theorem Try.tf73 : tf Try.prog 73 = some ⟨.other, 1, 0, false, some (.tuple #[.slice none 0 0, .bool false])⟩ := by kernel_rfl
theorem Try.tf79 : tf Try.prog 79 = some ⟨.array 8 5 1 false, 8, 8, true, some (.agg #[.int .u8 0, .int .u8 0, .int .u8 0, .int .u8 0, .int .u8 0, .int .u8 0, .int .u8 0, .int .u8 0])⟩ := by kernel_rfl
theorem Try.teq79 : teq Try.prog 79 = some (List.replicate 8 (.int .u8)) := by kernel_rfl
theorem Try.tf84 : tf Try.prog 84 = some ⟨.other, 1, 0, false, some (.tuple #[.slice none 0 0, .int .i64 0, .int .i64 0])⟩ := by kernel_rfl
theorem Try.tf86 : tf Try.prog 86 = some ⟨.other, 1, 0, false, some (.tuple #[.string ⟨#[]⟩, .int .i64 0, .int .i64 0])⟩ := by kernel_rfl
theorem Try.tf88 : tf Try.prog 88 = some ⟨.other, 1, 0, false, some (.tuple #[.int .i64 0, .int .i64 0, .int .i64 0])⟩ := by kernel_rfl
theorem Try.tf90 : tf Try.prog 90 = some ⟨.func, 1, 8, false, some (.nilFunc)⟩ := by kernel_rfl
theorem Try.tf93 : tf Try.prog 93 = some ⟨.int .u64, 1, 8, false, some (.int .u64 0)⟩ := by kernel_rfl
theorem Try.call10 : callable Try.prog 10 = true := by kernel_rfl
theorem Try.call11 : callable Try.prog 11 = true := by kernel_rfl
theorem Try.call13 : callable Try.prog 13 = true := by kernel_rfl
theorem Try.call17 : callable Try.prog 17 = true := by kernel_rfl
theorem Try.call18 : callable Try.prog 18 = true := by kernel_rfl
theorem Try.call19 : callable Try.prog 19 = true := by kernel_rfl
theorem Try.call21 : callable Try.prog 21 = true := by kernel_rfl
theorem Try.call22 : callable Try.prog 22 = true := by kernel_rfl
theorem Try.call23 : callable Try.prog 23 = true := by kernel_rfl
theorem Try.call24 : callable Try.prog 24 = true := by kernel_rfl
theorem Try.call25 : callable Try.prog 25 = true := by kernel_rfl
theorem Try.call26 : callable Try.prog 26 = true := by kernel_rfl
theorem Try.call27 : callable Try.prog 27 = true := by kernel_rfl
theorem Try.call28 : callable Try.prog 28 = true := by kernel_rfl
theorem Try.call29 : callable Try.prog 29 = true := by kernel_rfl
theorem Try.call31 : callable Try.prog 31 = true := by kernel_rfl
theorem Try.call32 : callable Try.prog 32 = true := by kernel_rfl
theorem Try.call33 : callable Try.prog 33 = true := by kernel_rfl
theorem Try.call34 : callable Try.prog 34 = true := by kernel_rfl
theorem Try.call35 : callable Try.prog 35 = true := by kernel_rfl
theorem Try.call36 : callable Try.prog 36 = true := by kernel_rfl
theorem Try.call37 : callable Try.prog 37 = true := by kernel_rfl
theorem Try.call38 : callable Try.prog 38 = true := by kernel_rfl
theorem Try.call41 : callable Try.prog 41 = true := by kernel_rfl
theorem Try.call42 : callable Try.prog 42 = true := by kernel_rfl
theorem Try.call43 : callable Try.prog 43 = true := by kernel_rfl
theorem Try.call44 : callable Try.prog 44 = true := by kernel_rfl
theorem Try.call45 : callable Try.prog 45 = true := by kernel_rfl
theorem Try.call46 : callable Try.prog 46 = true := by kernel_rfl
theorem Try.call47 : callable Try.prog 47 = true := by kernel_rfl
theorem Try.call48 : callable Try.prog 48 = true := by kernel_rfl
theorem Try.call51 : callable Try.prog 51 = true := by kernel_rfl
theorem Try.call52 : callable Try.prog 52 = true := by kernel_rfl
theorem Try.call53 : callable Try.prog 53 = true := by kernel_rfl
theorem Try.call56 : callable Try.prog 56 = true := by kernel_rfl
theorem Try.call57 : callable Try.prog 57 = true := by kernel_rfl
end Go.PM

namespace Go.PM
open Go.Proofs
attribute [local irreducible] W PCalls pcall pcallI WL
theorem same_c (G : Globs) (xs ys : List UInt8) (hx : (xs.length : Int) ≤ 9223372036854775807) : PCalls Try.prog G 29 [.list 1 (xs.map pbyte), .list 1 (ys.map pbyte)] [] (fun res H => res = pbool (decide (xs = ys)) ∧ H = []) := by
  (refine PCalls_f Try.func29 rfl Try.ntmps29 Try.results29 (by simp) fun fin hfin => ?_; have hnm : True := trivial; simp only [ev, simprocAttr])
  repeat' (first
    | (with_reducible apply W_seq_k; intro nx hnx)
    | (with_reducible first | refine wr 51 ?_ | refine wd (id := 6) 51 1 (.op 0 true (.op 1 true (.op 2 true (.op 3 true (.op 4 true (.op 5 true (.op 6 true (.op 7 true (.op 8 true (.done)))))))))) (by kernel_rfl) ?_)
    | ((with_reducible first | (apply WL_op; intro nx hnx) | refine Ev_out ?_ | refine wc ?_ | (apply popsD_op; intro nx hnx) | (refine popsD_alt ?_ ?_; intro nx hnx)); try (simp (maxSteps := 2000000) (disch := omega) only [ev, ↓evp, PV.cells, PV.one, PV.mem?, Value.cells, simprocAttr, hnm, Try.tf0, Try.tf3, Try.tf4, Try.tf5, Try.tf33]))
    | ((with_reducible first | apply W_block | apply W_scope | apply WL_nil | apply W_label | apply W_skip | apply W_exit | apply W_ret | apply popsD_done | exact popsD_stop) <;> try simp only [kks, simprocAttr])
    | (with_reducible apply pg <;> (intro hc; (try simp only [hcb, simprocAttr, ne_eq, forall_const] at hc); first | (exfalso; omega) | exact absurd trivial hc | skip))
    | (with_reducible apply hnx; clear hnx nx)
    | (with_reducible refine And.intro (by omega) ?_)
    | (with_reducible refine And.intro ?_ ?_)
    | (clear hnx nx; with_reducible apply hnx; clear hnx nx)
    | (clear hnx nx; clear hnx nx; with_reducible apply hnx; clear hnx nx))
  · refine hfin _ _ (Fin_ret1 rfl (Sub_nil _) ?_); simp only [cob, simprocAttr]
    simp
    intro h
    exact hc (by rw [h])
  · refine W_loop_k (fun n τ => ∃ i : Nat, i ≤ xs.length ∧ n = xs.length - i ∧ xs.take i = ys.take i ∧ τ = ⟨fr 26 [(0, .list 1 (xs.map pbyte)), (1, .list 1 (ys.map pbyte)), (5, pint .i64 i)], []⟩) xs.length ⟨fr 26 [(0, .list 1 (xs.map pbyte)), (1, .list 1 (ys.map pbyte)), (5, pint .i64 (0 : Nat))], []⟩ (by exact Wk_fr (by simp only [wkb, simprocAttr]) (Sub_nil _)) ⟨0, by omega, by omega, by simp, rfl⟩ ?_
    rintro n τ ⟨i, hi, rfl, he, rfl⟩ lp hlp
    repeat' (first
    | (with_reducible apply W_seq_k; intro nx hnx)
    | (with_reducible first | refine wr 51 ?_ | refine wd (id := 6) 51 1 (.op 0 true (.op 1 true (.op 2 true (.op 3 true (.op 4 true (.op 5 true (.op 6 true (.op 7 true (.op 8 true (.done)))))))))) (by kernel_rfl) ?_)
    | ((with_reducible first | (apply WL_op; intro nx hnx) | refine Ev_out ?_ | refine wc ?_ | (apply popsD_op; intro nx hnx) | (refine popsD_alt ?_ ?_; intro nx hnx)); try (simp (maxSteps := 2000000) (disch := omega) only [ev, ↓evp, PV.cells, PV.one, PV.mem?, Value.cells, simprocAttr, hnm, Try.tf0, Try.tf3, Try.tf4, Try.tf5, Try.tf33]))
    | ((with_reducible first | apply W_block | apply W_scope | apply WL_nil | apply W_label | apply W_skip | apply W_exit | apply W_ret | apply popsD_done | exact popsD_stop) <;> try simp only [kks, simprocAttr])
    | (with_reducible apply pg <;> (intro hc; (try simp only [hcb, simprocAttr, ne_eq, forall_const] at hc); first | (exfalso; omega) | exact absurd trivial hc | skip))
    | (with_reducible apply hnx; clear hnx nx)
    | (with_reducible refine And.intro (by omega) ?_)
    | (with_reducible refine And.intro ?_ ?_)
    | (clear hnx nx; with_reducible apply hnx; clear hnx nx)
    | (clear hnx nx; clear hnx nx; with_reducible apply hnx; clear hnx nx))
    · refine hfin _ _ (Fin_ret1 rfl (Sub_nil _) ?_); simp only [cob, simprocAttr]
      simp
      intro h
      subst h
      exact hc rfl
    · refine hlp _ (xs.length - (i+1)) _ (by omega) ?_ ⟨i+1, by omega, rfl, ?_, rfl⟩
      · exact Wk_fr (by simp only [wkb, simprocAttr]) (Sub_nil _)
      · rw [List.take_add_one, List.take_add_one, he]
        have h1 : i < xs.length := by omega
        have h2 : i < ys.length := by omega
        rw [List.getElem?_eq_getElem h1, List.getElem?_eq_getElem h2, show xs[i] = ys[i] from UInt8.toNat_inj.1 hc]
    · refine hfin _ _ (Fin_ret1 rfl (Sub_nil _) ?_); simp only [cob, simprocAttr]
      simp
      rw [List.take_of_length_le (by omega), List.take_of_length_le (by omega)] at he
      exact he
end Go.PM

namespace Go.PM
open Go.Proofs
attribute [local irreducible] W PCalls pcall pcallI WL
/-- The digits of a number to the base 256, the least one first. -/
def digsF : Nat → Nat → List UInt8
  | 0, _ => []
  | k + 1, m => if m = 0 then [] else UInt8.ofNat (m % 256) :: digsF k (m / 256)
def digs (m : Nat) : List UInt8 := digsF 9 m
/-- What is encoded of an integer. -/
def magn (n : Int) : Nat := if n < 0 then (-1 - n).toNat else n.toNat
def flipB (n : Int) (d : UInt8) : UInt8 := if n < 0 then 255 - d else d
/-- The encoding of an integer. -/
def intB (n : Int) : List UInt8 := (if n < 0 then UInt8.ofNat (127 - (digs (magn n)).length) else UInt8.ofNat (128 + (digs (magn n)).length)) :: (digs (magn n)).reverse.map (flipB n)
theorem wr8 (x : Int) (h0 : 0 ≤ x) (h1 : x < 256) : IntKind.u8.wrap x = x := by
  simp [IntKind.wrap, IntKind.bits, IntKind.signed]
  omega
theorem byte_of (k : Nat) (h : k < 256) : pint .u8 (k : Int) = pbyte (UInt8.ofNat k) := by
  have : (UInt8.ofNat k).toNat = k := UInt8.toNat_ofNat_of_lt' (by simpa using h)
  simp only [pbyte, this]
set_option maxRecDepth 100000 in
set_option maxHeartbeats 8000000 in
theorem rint_r (G : Globs) (n : Int) (hn : -9223372036854775808 ≤ n) (hn2 : n ≤ 9223372036854775807) :
    PCalls Try.prog G 45 [pint .i64 n] [] (fun res H => ∃ N, res = .row N 1 (intB n).length ∧ H = [(N, ⟨5, true, 1, (intB n).map pbyte⟩)]) := by
  have hm0 : magn n ≤ 9223372036854775807 := by
    unfold magn
    split <;> omega
  (refine PCalls_f Try.func45 rfl Try.ntmps45 Try.results45 (by simp) fun fin hfin => ?_; have hnm : True := trivial; simp only [ev, simprocAttr])
  repeat' (first
    | (with_reducible apply W_seq_k; intro nx hnx)
    | (with_reducible first | refine wr 509 ?_)
    | ((with_reducible first | (apply WL_op; intro nx hnx) | refine Ev_out ?_ | refine wc ?_ | (refine pf hnm fun nm hnm => ?_; try simp only [fmb] at hnm) | (refine pm hnm fun nm hnm => ?_; try simp only [fmb] at hnm)); try (simp (maxSteps := 2000000) (disch := omega) only [ev, ↓evp, PV.cells, PV.one, PV.mem?, Value.cells, simprocAttr, hnm, Try.tf0, Try.tf1, Try.tf3, Try.tf4, Try.tf5, Try.tf33]))
    | ((with_reducible first | apply W_block | apply W_scope | apply WL_nil | apply W_label | apply W_skip | apply W_exit | apply W_ret) <;> try simp only [kks, simprocAttr])
    | (with_reducible apply pg <;> (intro hc; (try simp only [hcb, simprocAttr, ne_eq, forall_const] at hc); first | (exfalso; omega) | exact absurd trivial hc | skip))
    | (with_reducible apply hnx; clear hnx nx)
    | (with_reducible refine And.intro (by omega) ?_)
    | (with_reducible refine And.intro ?_ ?_)
    | (clear hnx nx; with_reducible apply hnx; clear hnx nx)
    | (clear hnx nx; clear hnx nx; with_reducible apply hnx; clear hnx nx))
  all_goals
    refine W_adopt_f 4 5 1 (by simp only [fr_getD_cons, Nat.reduceEqDiff, Nat.reduceLT, ↓reduceIte]) fun D0 _ => ?_
    refine W_loop_k (fun k τ => ∃ (mm : Nat) (D : Int) (pre : List UInt8), k = mm ∧ mm ≤ 9223372036854775807 ∧ pre.length ≤ 8 ∧ mm < 256 ^ (8 - pre.length) ∧ pre ++ digsF (9 - pre.length) mm = digs (magn n) ∧
      τ = ⟨fr 59 [(0, pint .i64 n), (3, pint .i64 mm), (4, .row D 1 pre.length)], [(D, ⟨5, true, 1, pre.map pbyte⟩)]⟩) (magn n)
      ⟨fr 59 [(0, pint .i64 n), (3, pint .i64 (magn n)), (4, .row D0 1 0)], [(D0, ⟨5, true, 1, []⟩)]⟩ ?_ ⟨magn n, D0, [], rfl, hm0, by simp, by simp; omega, rfl, rfl⟩ ?_
  all_goals first
    | (have e : ((magn n : Nat) : Int) = -1 - n := by
         unfold magn
         rw [if_pos hc]
         omega
       rw [e]
       exact Wk_fr (by simp only [List.forall_mem_cons, List.not_mem_nil, false_implies, implies_true, and_true, true_and, and_self, fr_getD_cons, fr_getD_nil, Nat.reduceEqDiff, Nat.reduceLT, ↓reduceIte, Int.natCast_add, Int.cast_ofNat_Int, Int.natCast_zero]) ⟨by simp, by simp [names]⟩)
    | (have e : ((magn n : Nat) : Int) = n := by
         unfold magn
         rw [if_neg hc]
         omega
       rw [e]
       exact Wk_fr (by simp only [List.forall_mem_cons, List.not_mem_nil, false_implies, implies_true, and_true, true_and, and_self, fr_getD_cons, fr_getD_nil, Nat.reduceEqDiff, Nat.reduceLT, ↓reduceIte, Int.natCast_add, Int.cast_ofNat_Int, Int.natCast_zero]) ⟨by simp, by simp [names]⟩)
    | skip
  all_goals
    rintro k τ ⟨mm, D, pre, rfl, hmm, hp8, hlt, hpre, rfl⟩ lp hlp
    have htm : ((k : Nat) : Int).tmod 256 = ((k % 256 : Nat) : Int) := by rw [Int.tmod_eq_emod_of_nonneg (by omega)]; omega
    have htd : ((k : Nat) : Int).tdiv 256 = ((k / 256 : Nat) : Int) := by rw [Int.tdiv_eq_ediv_of_nonneg (by omega)]; omega
    have hw8 : IntKind.u8.wrap ((k % 256 : Nat) : Int) = ((k % 256 : Nat) : Int) := wr8 _ (by omega) (by omega)
    have hw8a : IntKind.u8.wrap (127 - (pre.length : Int)) = ((127 - pre.length : Nat) : Int) := by rw [wr8 _ (by omega) (by omega)]; omega
    have hw8b : IntKind.u8.wrap (128 + (pre.length : Int)) = ((128 + pre.length : Nat) : Int) := by rw [wr8 _ (by omega) (by omega)]; omega
    repeat' (first
    | (with_reducible apply W_seq_k; intro nx hnx)
    | (with_reducible first | refine wr 509 ?_)
    | ((with_reducible first | (apply WL_op; intro nx hnx) | refine Ev_out ?_ | refine wc ?_ | (refine pf hnm fun nm hnm => ?_; try simp only [fmb] at hnm) | (refine pm hnm fun nm hnm => ?_; try simp only [fmb] at hnm)); try (simp (maxSteps := 2000000) (disch := omega) only [ev, ↓evp, PV.cells, PV.one, PV.mem?, Value.cells, simprocAttr, hnm, Try.tf0, Try.tf1, Try.tf3, Try.tf4, Try.tf5, Try.tf33, htm, htd, hw8, hw8a, hw8b]))
    | ((with_reducible first | apply W_block | apply W_scope | apply WL_nil | apply W_label | apply W_skip | apply W_exit | apply W_ret) <;> try simp only [kks, simprocAttr])
    | (with_reducible apply pg <;> (intro hc; (try simp only [hcb, simprocAttr, ne_eq, forall_const] at hc); first | (exfalso; omega) | exact absurd trivial hc | skip))
    | (with_reducible apply hnx; clear hnx nx)
    | (with_reducible refine And.intro (by omega) ?_)
    | (with_reducible refine And.intro ?_ ?_)
    | (clear hnx nx; with_reducible apply hnx; clear hnx nx)
    | (clear hnx nx; clear hnx nx; with_reducible apply hnx; clear hnx nx))
  all_goals first
    | (have hp7 : pre.length < 8 := by
         rcases Nat.lt_or_ge pre.length 8 with h | h
         · exact h
         · rw [show 8 - pre.length = 0 by omega] at hlt
           omega
       have hstep : pre ++ [UInt8.ofNat (k % 256)] ++ digsF (9 - (pre.length + 1)) (k / 256) = digs (magn n) := by
         rw [← hpre, show 9 - pre.length = (9 - (pre.length + 1)) + 1 by omega, digsF, if_neg (by omega)]
         simp
       have hlt2 : k / 256 < 256 ^ (8 - (pre.length + 1)) := by
         rw [show 8 - pre.length = (8 - (pre.length + 1)) + 1 by omega, Nat.pow_succ] at hlt
         exact Nat.div_lt_of_lt_mul (by rw [Nat.mul_comm]; exact hlt)
       rw [byte_of (k % 256) (by omega)]
       refine hlp _ (k / 256) _ (by omega) ?_ ⟨k / 256, nm, pre ++ [UInt8.ofNat (k % 256)], rfl, by omega, by simp; omega, by simpa using hlt2, by simpa using hstep, rfl⟩
       exact Wk_fr (by simp only [List.forall_mem_cons, List.not_mem_nil, false_implies, implies_true, and_true, true_and, and_self, fr_getD_cons, fr_getD_nil, Nat.reduceEqDiff, Nat.reduceLT, ↓reduceIte, Int.natCast_add, Int.cast_ofNat_Int, Int.natCast_zero, List.length_append, List.length_cons, List.length_nil, Nat.zero_add]) ⟨by simp, by simp [names]⟩)
    | skip
  all_goals
    have hk0 : k = 0 := by omega
    subst hk0
    have hds : pre = digs (magn n) := by
      rw [show 9 - pre.length = (8 - pre.length) + 1 by omega, digsF, if_pos rfl, List.append_nil] at hpre
      exact hpre
    have hOD : nm ≠ D := of_eq_false hnm.2.2.1
    obtain ⟨hd, hhd⟩ : ∃ hd : UInt8, intB n = hd :: pre.reverse.map (flipB n) ∧ (n < 0 → pint .u8 ((127 - pre.length : Nat) : Int) = pbyte hd) ∧ (¬ n < 0 → pint .u8 ((128 + pre.length : Nat) : Int) = pbyte hd) := by
      by_cases h : n < 0
      · exact ⟨UInt8.ofNat (127 - pre.length), by rw [intB, if_pos h, ← hds], fun _ => byte_of _ (by omega), fun h' => absurd h h'⟩
      · exact ⟨UInt8.ofNat (128 + pre.length), by rw [intB, if_neg h, ← hds], fun h' => absurd h' h, fun _ => byte_of _ (by omega)⟩
    obtain ⟨hint, hneg, hpos⟩ := hhd
    refine W_loop_k (fun kk τ => ∃ (q : Nat) (O : Int), q ≤ pre.length ∧ kk = pre.length - q ∧ O ≠ D ∧ τ = ⟨fr 59 [(0, pint .i64 n), (4, .row D 1 pre.length), (6, .row O 1 (q + 1)), (7, pint .i64 ((pre.length : Int) - 1 - q))], [(O, ⟨5, true, 1, (hd :: (pre.reverse.take q).map (flipB n)).map pbyte⟩), (D, ⟨5, true, 1, pre.map pbyte⟩)]⟩) pre.length
      ⟨fr 59 [(0, pint .i64 n), (4, .row D 1 pre.length), (6, .row nm 1 1), (7, pint .i64 ((pre.length : Int) - 1 - (0 : Nat)))], [(nm, ⟨5, true, 1, [pbyte hd]⟩), (D, ⟨5, true, 1, pre.map pbyte⟩)]⟩
      (Wk_fr (by simp only [List.forall_mem_cons, List.not_mem_nil, false_implies, implies_true, and_true, true_and, and_self, fr_getD_cons, fr_getD_nil, Nat.reduceEqDiff, Nat.reduceLT, ↓reduceIte, Int.natCast_add, Int.cast_ofNat_Int, Int.natCast_zero, List.length_append, List.length_cons, List.length_nil, Nat.zero_add, Int.sub_zero]) ⟨fun x hx => (by
        simp only [List.mem_cons, List.not_mem_nil, or_false] at hx ⊢
        rcases hx with rfl | rfl
        · first
          | (rw [hneg (by omega)]; exact .inl rfl)
          | (rw [hpos (by omega)]; exact .inl rfl)
        · exact .inr (.inr rfl)), by simp only [names, List.map_cons, List.map_nil]; simp [hOD]⟩) ⟨0, nm, by omega, by omega, hOD, by simp⟩ ?_
    rintro kk τ ⟨q, O, hq, rfl, hO, rfl⟩ lp2 hlp2
    have hO1 : ¬ O = D := hO
    have hO2 : ¬ D = O := fun e => hO e.symm
    have hnm : True := trivial
    by_cases hqp : q < pre.length
    · obtain ⟨j, hj⟩ : ∃ j : Nat, j = pre.length - 1 - q := ⟨_, rfl⟩
      have hz : (pre.length : Int) - 1 - q = j := by omega
      have hpj : pre[j]? = some pre[j] := List.getElem?_eq_getElem (by omega)
      have hx := (pre[j]).toNat_lt
      have hx8 : IntKind.u8.wrap (255 - ((pre[j].toNat : Nat) : Int)) = ((255 - pre[j].toNat : Nat) : Int) := by rw [wr8 _ (by omega) (by omega)]; omega
      have htk : pre.reverse.take (q + 1) = pre.reverse.take q ++ [pre[j]] := by
        rw [List.take_add_one, List.getElem?_reverse (by omega), show pre.length - 1 - q = j by omega, hpj]
        rfl
      rw [hz]
      repeat' (first
    | (with_reducible apply W_seq_k; intro nx hnx)
    | (with_reducible first | refine wr 509 ?_)
    | ((with_reducible first | (apply WL_op; intro nx hnx) | refine Ev_out ?_ | refine wc ?_ | (refine pf hnm fun nm hnm => ?_; try simp only [fmb] at hnm) | (refine pm hnm fun nm hnm => ?_; try simp only [fmb] at hnm)); try (simp (maxSteps := 2000000) (disch := omega) only [ev, ↓evp, PV.cells, PV.one, PV.mem?, Value.cells, simprocAttr, hnm, Try.tf0, Try.tf1, Try.tf3, Try.tf4, Try.tf5, Try.tf33, hpj, hO1, hO2, hx8]))
    | ((with_reducible first | apply W_block | apply W_scope | apply WL_nil | apply W_label | apply W_skip | apply W_exit | apply W_ret) <;> try simp only [kks, simprocAttr])
    | (with_reducible apply pg <;> (intro hc; (try simp only [hcb, simprocAttr, ne_eq, forall_const] at hc); first | (exfalso; omega) | exact absurd trivial hc | skip))
    | (with_reducible apply hnx; clear hnx nx)
    | (with_reducible refine And.intro (by omega) ?_)
    | (with_reducible refine And.intro ?_ ?_)
    | (clear hnx nx; with_reducible apply hnx; clear hnx nx)
    | (clear hnx nx; clear hnx nx; with_reducible apply hnx; clear hnx nx))
      all_goals first
        | (simp
           omega)
        | (have hb : (if n < 0 then pint .u8 ((255 - pre[j].toNat : Nat) : Int) else pbyte pre[j]) = pbyte (flipB n pre[j]) := by
             unfold flipB
             by_cases hneg2 : n < 0
             · rw [if_pos hneg2, if_pos hneg2]
               have : (255 - pre[j]).toNat = 255 - pre[j].toNat := UInt8.toNat_sub_of_le _ _ (UInt8.le_iff_toNat_le.2 (by simp; omega))
               simp only [pbyte, this]
             · rw [if_neg hneg2, if_neg hneg2]
           first
           | rw [if_pos (by omega)] at hb
           | rw [if_neg (by omega)] at hb
           have hz2 : (j : Int) - 1 = (pre.length : Int) - 1 - ((q + 1 : Nat) : Int) := by omega
           have hnD : nm ≠ D := by simp only [ne_eq, hnm, not_false_eq_true]
           rw [hz2]
           refine hlp2 _ (pre.length - (q + 1)) _ (by omega) ?_ ⟨q + 1, nm, by omega, rfl, hnD, rfl⟩
           refine Wk_fr (by simp only [List.forall_mem_cons, List.not_mem_nil, false_implies, implies_true, and_true, true_and, and_self, fr_getD_cons, fr_getD_nil, Nat.reduceEqDiff, Nat.reduceLT, ↓reduceIte, Int.natCast_add, Int.cast_ofNat_Int, Int.natCast_zero, List.length_append, List.length_cons, List.length_nil, Nat.zero_add, Int.sub_zero]) ⟨fun x hx => ?_, by simp only [names, List.map_cons, List.map_nil]; simp [hnD]⟩
           simp only [List.mem_cons, List.not_mem_nil, or_false] at hx ⊢
           rcases hx with rfl | rfl
           · left
             rw [htk]
             simp only [List.map_cons, List.map_append, List.map_nil, hb]
           · exact .inr (.inr rfl))
    · repeat' (first
    | (with_reducible apply W_seq_k; intro nx hnx)
    | (with_reducible first | refine wr 509 ?_)
    | ((with_reducible first | (apply WL_op; intro nx hnx) | refine Ev_out ?_ | refine wc ?_ | (refine pf hnm fun nm hnm => ?_; try simp only [fmb] at hnm) | (refine pm hnm fun nm hnm => ?_; try simp only [fmb] at hnm)); try (simp (maxSteps := 2000000) (disch := omega) only [ev, ↓evp, PV.cells, PV.one, PV.mem?, Value.cells, simprocAttr, hnm, Try.tf0, Try.tf1, Try.tf3, Try.tf4, Try.tf5, Try.tf33, hO1, hO2]))
    | ((with_reducible first | apply W_block | apply W_scope | apply WL_nil | apply W_label | apply W_skip | apply W_exit | apply W_ret) <;> try simp only [kks, simprocAttr])
    | (with_reducible apply pg <;> (intro hc; (try simp only [hcb, simprocAttr, ne_eq, forall_const] at hc); first | (exfalso; omega) | exact absurd trivial hc | skip))
    | (with_reducible apply hnx; clear hnx nx)
    | (with_reducible refine And.intro (by omega) ?_)
    | (with_reducible refine And.intro ?_ ?_)
    | (clear hnx nx; with_reducible apply hnx; clear hnx nx)
    | (clear hnx nx; clear hnx nx; with_reducible apply hnx; clear hnx nx))
      refine hfin _ _ (Fin_ret1 rfl (H := [(O, ⟨5, true, 1, (hd :: (pre.reverse.take q).map (flipB n)).map pbyte⟩)]) ⟨by simp, by simp [names]⟩ ?_)
      simp only [fr_getD_cons, fr_getD_nil, Nat.reduceEqDiff, Nat.reduceLT, ↓reduceIte]
      have hqe : q = pre.length := by omega
      rw [hint]
      refine ⟨O, ?_, ?_⟩
      · simp [hqe]
      · rw [List.take_of_length_le (by simp; omega)]
theorem rint_c (G : Globs) (n : Int) (hn : -9223372036854775808 ≤ n) (hn2 : n ≤ 9223372036854775807) :
    PCalls Try.prog G 45 [pint .i64 n] [] (fun res H => res = .list 1 ((intB n).map pbyte) ∧ H = []) := by
  have := (rint_r G n hn hn2).frz_row (xs := (intB n).map pbyte) fun res H h => by
    obtain ⟨N, h1, h2⟩ := h
    exact ⟨N, 5, by rw [List.length_map]; exact h1, h2⟩
  exact this
end Go.PM

namespace Go.PM
open Go.Proofs
attribute [local irreducible] W PCalls pcall pcallI WL
theorem digsF_pow : ∀ (k j m : Nat), j ≤ k → ((digsF k m).length ≤ j ↔ m < 256 ^ j ∨ (k = j ∧ 256 ^ j ≤ m))
  | 0, j, m, hj => by
    have : j = 0 := by omega
    subst this
    simp [digsF]
    omega
  | k + 1, 0, m, _ => by
    rw [digsF]
    split
    · rename_i h
      simp [h]
    · rename_i h
      simp
      omega
  | k + 1, j + 1, m, hj => by
    rw [digsF]
    split
    · rename_i h
      subst h
      simp
      exact Nat.pos_of_ne_zero (by simp)
    · rename_i h
      have ih := digsF_pow k j (m / 256) (by omega)
      rw [List.length_cons, Nat.pow_succ]
      have h1 : m / 256 < 256 ^ j ↔ m < 256 ^ j * 256 := by rw [Nat.div_lt_iff_lt_mul (by omega)]
      have h2 : 256 ^ j ≤ m / 256 ↔ 256 ^ j * 256 ≤ m := by rw [Nat.le_div_iff_mul_le (by omega)]
      rw [← h1, ← h2]
      constructor
      · intro hl
        rcases ih.1 (by omega) with h | ⟨h3, h4⟩
        · exact .inl h
        · exact .inr ⟨by omega, h4⟩
      · intro hl
        have := ih.2 (by
          rcases hl with h | ⟨h3, h4⟩
          · exact .inl h
          · exact .inr ⟨by omega, h4⟩)
        omega
theorem digs_pow (j m : Nat) (hj : j ≤ 8) : (digs m).length ≤ j ↔ m < 256 ^ j := by
  have := digsF_pow 9 j m (by omega)
  unfold digs
  rw [this]
  constructor
  · rintro (h | ⟨h, _⟩)
    · exact h
    · omega
  · exact .inl
theorem digsF_get : ∀ (k i m : Nat) (h : i < (digsF k m).length), (digsF k m)[i] = UInt8.ofNat (m / 256 ^ i % 256)
  | 0, i, m, h => by simp [digsF] at h
  | k + 1, i, m, h => by
    by_cases hm : m = 0
    · subst hm
      simp [digsF] at h
    · have e : digsF (k + 1) m = UInt8.ofNat (m % 256) :: digsF k (m / 256) := by rw [digsF, if_neg hm]
      cases i with
      | zero => simp [e]
      | succ i =>
        have h' : i < (digsF k (m / 256)).length := by
          rw [e, List.length_cons] at h
          omega
        have ih := digsF_get k i (m / 256) h'
        simp only [e, List.getElem_cons_succ]
        rw [ih, Nat.div_div_eq_div_mul, Nat.pow_succ, Nat.mul_comm 256]
end Go.PM

namespace Go.PM
open Go.Proofs
attribute [local irreducible] W PCalls pcall pcallI WL
theorem shr_nat (m : Nat) (x : Int) (k : Nat) (hx : x = k) (hk : k ≤ 8) : ((m : Nat) : Int).fdiv (2 ^ min (8 * x).toNat IntKind.u64.bits) = ((m / 256 ^ k : Nat) : Int) := by
  subst hx
  have h1 : min (8 * (k : Int)).toNat IntKind.u64.bits = 8 * k := by
    simp only [IntKind.bits]
    omega
  rw [h1, Int.fdiv_eq_ediv_of_nonneg _ (by exact_mod_cast Nat.zero_le _), show ((2 : Int) ^ (8 * k)) = ((256 ^ k : Nat) : Int) by
    rw [Int.pow_mul]
    norm_cast]
  rfl
theorem wrap_u64 (n : Int) (hn : -9223372036854775808 ≤ n) (hn2 : n ≤ 9223372036854775807) : IntKind.u64.wrap n = if n < 0 then 18446744073709551616 + n else n := by
  simp [IntKind.wrap, IntKind.bits, IntKind.signed]
  split <;> omega
theorem neg_magn (n : Int) (hn : -9223372036854775808 ≤ n) (h : n < 0) : bits .xor .u64 (if IntKind.u64.signed = true then -1 else IntKind.u64.max) (IntKind.u64.wrap n) = ((magn n : Nat) : Int) := by
  rw [wrap_u64 n hn (by omega), if_pos h]
  have e1 : (if IntKind.u64.signed = true then (-1 : Int) else IntKind.u64.max) = ((2 ^ 64 - 1 : Nat) : Int) := by decide
  have e2 : (18446744073709551616 + n) = ((18446744073709551616 + n).toNat : Int) := by omega
  rw [e1, e2, bits_xor_u64_nat _ _ (by decide) (by omega), Go.Lib.xor_ones64 _ (by omega)]
  unfold magn
  rw [if_pos h]
  omega
theorem pos_magn (n : Int) (hn2 : n ≤ 9223372036854775807) (h : ¬ n < 0) : IntKind.u64.wrap n = ((magn n : Nat) : Int) := by
  rw [wrap_u64 n (by omega) hn2, if_neg h]
  unfold magn
  rw [if_neg h]
  omega
theorem xor255 : ∀ b : _root_.Fin 256, bits .xor .u8 ((b.val : Nat) : Int) 255 = ((255 - b.val : Nat) : Int) := by decide +kernel
theorem xor000 : ∀ b : _root_.Fin 256, bits .xor .u8 ((b.val : Nat) : Int) 0 = ((b.val : Nat) : Int) := by decide +kernel
theorem wr8mod (m : Nat) : IntKind.u8.wrap (m : Int) = ((m % 256 : Nat) : Int) := by
  simp [IntKind.wrap, IntKind.bits, IntKind.signed]
/-- What flips the digits. -/
def flipI (n : Int) : Int := if n < 0 then 255 else 0
theorem flip_xor (n : Int) (b : Nat) (h : b < 256) : pint .u8 (bits .xor .u8 ((b : Nat) : Int) (flipI n)) = pbyte (flipB n (UInt8.ofNat b)) := by
  unfold flipI flipB
  split
  · rw [xor255 ⟨b, h⟩, byte_of _ (by simp only; omega)]
    congr 1
    apply UInt8.toNat_inj.1
    rw [UInt8.toNat_sub_of_le _ _ (UInt8.le_iff_toNat_le.2 (by simp; omega))]
    simp
    omega
  · rw [xor000 ⟨b, h⟩, byte_of _ h]
theorem head_xor (n : Int) (k : Nat) (h : k ≤ 8) : pint .u8 (bits .xor .u8 (IntKind.u8.wrap (128 + (k : Int))) (flipI n)) = pbyte (if n < 0 then UInt8.ofNat (127 - k) else UInt8.ofNat (128 + k)) := by
  have e : (128 + (k : Int)) = ((128 + k : Nat) : Int) := by omega
  rw [e, wr8mod, Nat.mod_eq_of_lt (by omega)]
  unfold flipI
  split
  · rw [xor255 ⟨128 + k, by omega⟩, byte_of _ (by simp only; omega)]
    congr 2
    simp only
    omega
  · rw [xor000 ⟨128 + k, by omega⟩, byte_of _ (by omega)]
set_option maxRecDepth 100000 in
set_option maxHeartbeats 8000000 in
theorem wint_r (G : Globs) (n : Int) (hn : -9223372036854775808 ≤ n) (hn2 : n ≤ 9223372036854775807) :
    PCalls Try.prog G 43 [pint .i64 n] [] (fun res H => ∃ N, res = .row N 1 (intB n).length ∧ H = [(N, ⟨5, true, 1, (intB n).map pbyte⟩)]) := by
  have hm0 : magn n ≤ 9223372036854775807 := by
    unfold magn
    split <;> omega
  have hx0 : ((magn n : Nat) : Int) ≤ 9223372036854775807 := by omega
  (refine PCalls_f Try.func43 rfl Try.ntmps43 Try.results43 (by simp) fun fin hfin => ?_; have hnm : True := trivial; simp only [ev, simprocAttr])
  repeat' (first
    | (with_reducible apply W_seq_k; intro nx hnx)
    | (with_reducible first | refine wr 253 ?_)
    | ((with_reducible first | (apply WL_op; intro nx hnx) | refine Ev_out ?_ | refine wc ?_ | (refine pf hnm fun nm hnm => ?_; try simp only [fmb] at hnm) | (refine pm hnm fun nm hnm => ?_; try simp only [fmb] at hnm)); try (simp (maxSteps := 2000000) (disch := omega) only [ev, ↓evp, PV.cells, PV.one, PV.mem?, Value.cells, simprocAttr, hnm, Try.tf1, Try.tf3, Try.tf4, Try.tf5, Try.tf22, Try.tf33]))
    | ((with_reducible first | apply W_block | apply W_scope | apply WL_nil | apply W_label | apply W_skip | apply W_exit | apply W_ret) <;> try simp only [kks, simprocAttr])
    | (with_reducible apply pg <;> (intro hc; (try simp only [hcb, simprocAttr, ne_eq, forall_const] at hc); first | (exfalso; omega) | exact absurd trivial hc | skip))
    | (with_reducible apply hnx; clear hnx nx)
    | (with_reducible refine And.intro (by omega) ?_)
    | (with_reducible refine And.intro ?_ ?_)
    | (clear hnx nx; with_reducible apply hnx; clear hnx nx)
    | (clear hnx nx; clear hnx nx; with_reducible apply hnx; clear hnx nx))
  all_goals
    refine W_loop_k (fun kk τ => ∃ k : Nat, k ≤ 8 ∧ kk = k ∧ magn n < 256 ^ k ∧ τ = ⟨fr 47 [(0, pint .i64 n), (3, pint .u64 (magn n)), (4, pint .u8 (flipI n)), (5, pint .i64 k)], []⟩) 8 ⟨fr 47 [(0, pint .i64 n), (3, pint .u64 (magn n)), (4, pint .u8 (flipI n)), (5, pint .i64 (8 : Nat))], []⟩ ?_ ⟨8, by omega, rfl, by omega, rfl⟩ ?_
  all_goals first
    | (rw [show flipI n = 255 from if_pos hc, ← neg_magn n hn hc]
       exact Wk_fr (by simp only [wkb, simprocAttr]) (Sub_nil _))
    | (rw [show flipI n = 0 from if_neg hc, ← pos_magn n hn2 hc]
       exact Wk_fr (by simp only [wkb, simprocAttr]) (Sub_nil _))
    | skip
  all_goals
    rintro kk τ ⟨k, hk, rfl, hlt, rfl⟩ lp hlp
    have hs := shr_nat (magn n) ((kk : Int) - 1) (kk - 1)
    have hs2 : 0 < kk → ((magn n : Nat) : Int).fdiv (2 ^ min (8 * ((kk : Int) - 1)).toNat IntKind.u64.bits) = ((magn n / 256 ^ (kk - 1) : Nat) : Int) := fun h => hs (by omega) (by omega)
    clear hs
    repeat' (first
    | (with_reducible apply W_seq_k; intro nx hnx)
    | (with_reducible first | refine wr 253 ?_)
    | ((with_reducible first | (apply WL_op; intro nx hnx) | refine Ev_out ?_ | refine wc ?_ | (refine pf hnm fun nm hnm => ?_; try simp only [fmb] at hnm) | (refine pm hnm fun nm hnm => ?_; try simp only [fmb] at hnm)); try (simp (maxSteps := 2000000) (disch := omega) only [ev, ↓evp, PV.cells, PV.one, PV.mem?, Value.cells, simprocAttr, hnm, Try.tf1, Try.tf3, Try.tf4, Try.tf5, Try.tf22, Try.tf33, hs2, head_xor]))
    | ((with_reducible first | apply W_block | apply W_scope | apply WL_nil | apply W_label | apply W_skip | apply W_exit | apply W_ret) <;> try simp only [kks, simprocAttr])
    | (with_reducible apply pg <;> (intro hc; (try simp only [hcb, simprocAttr, ne_eq, forall_const] at hc); first | (exfalso; omega) | exact absurd trivial hc | skip))
    | (with_reducible apply hnx; clear hnx nx)
    | (with_reducible refine And.intro (by omega) ?_)
    | (with_reducible refine And.intro ?_ ?_)
    | (clear hnx nx; with_reducible apply hnx; clear hnx nx)
    | (clear hnx nx; clear hnx nx; with_reducible apply hnx; clear hnx nx))
  all_goals first
    | (refine hlp _ (kk - 1) _ (by omega) ?_ ⟨kk - 1, by omega, rfl, ?_, rfl⟩
       · rw [show ((kk - 1 : Nat) : Int) = (kk : Int) - 1 by omega]
         exact Wk_fr (by simp only [wkb, simprocAttr]) (Sub_nil _)
       · have h2 : magn n / 256 ^ (kk - 1) = 0 := Nat.eq_zero_of_not_pos fun h => hc (Int.natCast_pos.2 h)
         exact (Nat.div_eq_zero_iff_lt (Nat.pow_pos (by omega))).1 h2)
    | skip
  all_goals
    have hkl : (digs (magn n)).length = kk := by
      have h1 := (digs_pow kk (magn n) hk).2 hlt
      rcases Nat.eq_zero_or_pos kk with h | h
      · omega
      · rcases Nat.lt_or_ge (digs (magn n)).length kk with h3 | h3
        · exfalso
          have h2 := (digs_pow (kk - 1) (magn n) (by omega)).1 (by omega)
          have h4 := Nat.div_eq_of_lt h2
          first
          | (have h5 : 0 < ((magn n / 256 ^ (kk - 1) : Nat) : Int) := by assumption
             rw [h4] at h5
             exact absurd h5 (by decide))
          | (have h5 : ¬ 0 < (kk : Int) := by assumption
             omega)
        · omega
    obtain ⟨ds, hds⟩ : ∃ ds, ds = digs (magn n) := ⟨_, rfl⟩
    obtain ⟨hd, hhd⟩ : ∃ hd : UInt8, hd = (if n < 0 then UInt8.ofNat (127 - kk) else UInt8.ofNat (128 + kk)) := ⟨_, rfl⟩
    rw [← hds] at hkl
    have hint : intB n = hd :: ds.reverse.map (flipB n) := by
      unfold intB
      rw [← hds, hkl, hhd]
    rw [← hhd]
    clear hhd hs2 hlp lp
    refine W_loop_k (fun z τ => ∃ (q : Nat) (O : Int), q ≤ kk ∧ z = kk - q ∧ τ = ⟨fr 47 [(3, pint .u64 (magn n)), (4, pint .u8 (flipI n)), (6, .row O 1 (q + 1)), (7, pint .i64 ((kk : Int) - 1 - q))], [(O, ⟨5, true, 1, (hd :: (ds.reverse.take q).map (flipB n)).map pbyte⟩)]⟩) kk
      ⟨fr 47 [(3, pint .u64 (magn n)), (4, pint .u8 (flipI n)), (6, .row nm 1 1), (7, pint .i64 ((kk : Int) - 1 - (0 : Nat)))], [(nm, ⟨5, true, 1, [pbyte hd]⟩)]⟩
      (by exact Wk_fr (by simp only [wkb, simprocAttr, Int.sub_zero]) ⟨by simp, by simp [names]⟩) ⟨0, nm, by omega, by omega, by simp⟩ ?_
    rintro z τ ⟨q, O, hq, rfl, rfl⟩ lp2 hlp2
    by_cases hqp : q < kk
    · obtain ⟨j, hj⟩ : ∃ j : Nat, j = kk - 1 - q := ⟨_, rfl⟩
      have hz : (kk : Int) - 1 - q = j := by omega
      have hdj : j < ds.length := by omega
      have hs := shr_nat (magn n) (j : Int) j rfl (by omega)
      have hw := wr8mod (magn n / 256 ^ j)
      have hx := flip_xor n (magn n / 256 ^ j % 256) (Nat.mod_lt _ (by omega))
      have hdg : UInt8.ofNat (magn n / 256 ^ j % 256) = ds[j] := by
        subst hds
        exact (digsF_get 9 j (magn n) hdj).symm
      have htk : ds.reverse.take (q + 1) = ds.reverse.take q ++ [ds[j]] := by
        rw [List.take_add_one, List.getElem?_reverse (by omega), show ds.length - 1 - q = j by omega, List.getElem?_eq_getElem hdj]
        rfl
      rw [hdg] at hx
      rw [hz]
      repeat' (first
    | (with_reducible apply W_seq_k; intro nx hnx)
    | (with_reducible first | refine wr 253 ?_)
    | ((with_reducible first | (apply WL_op; intro nx hnx) | refine Ev_out ?_ | refine wc ?_ | (refine pf hnm fun nm hnm => ?_; try simp only [fmb] at hnm) | (refine pm hnm fun nm hnm => ?_; try simp only [fmb] at hnm)); try (simp (maxSteps := 2000000) (disch := omega) only [ev, ↓evp, PV.cells, PV.one, PV.mem?, Value.cells, simprocAttr, hnm, Try.tf1, Try.tf3, Try.tf4, Try.tf5, Try.tf22, Try.tf33, hs, hw, hx]))
    | ((with_reducible first | apply W_block | apply W_scope | apply WL_nil | apply W_label | apply W_skip | apply W_exit | apply W_ret) <;> try simp only [kks, simprocAttr])
    | (with_reducible apply pg <;> (intro hc; (try simp only [hcb, simprocAttr, ne_eq, forall_const] at hc); first | (exfalso; omega) | exact absurd trivial hc | skip))
    | (with_reducible apply hnx; clear hnx nx)
    | (with_reducible refine And.intro (by omega) ?_)
    | (with_reducible refine And.intro ?_ ?_)
    | (clear hnx nx; with_reducible apply hnx; clear hnx nx)
    | (clear hnx nx; clear hnx nx; with_reducible apply hnx; clear hnx nx))
      all_goals first
        | (exfalso
           omega)
        | (simp
           omega)
        | (have hz2 : (j : Int) - 1 = (kk : Int) - 1 - ((q + 1 : Nat) : Int) := by omega
           rw [hz2]
           refine hlp2 _ (kk - (q + 1)) _ (by omega) ?_ ⟨q + 1, nm, by omega, rfl, rfl⟩
           refine Wk_fr (by simp only [wkb, simprocAttr, List.length_append, List.length_cons, List.length_nil, Nat.zero_add]) ?_
           refine ⟨fun x hx => ?_, by simp [names]⟩
           simp only [List.mem_cons, List.not_mem_nil, or_false] at hx ⊢
           subst hx
           left
           rw [htk]
           simp only [List.map_cons, List.map_append, List.map_nil, List.cons_append])
    · repeat' (first
    | (with_reducible apply W_seq_k; intro nx hnx)
    | (with_reducible first | refine wr 253 ?_)
    | ((with_reducible first | (apply WL_op; intro nx hnx) | refine Ev_out ?_ | refine wc ?_ | (refine pf hnm fun nm hnm => ?_; try simp only [fmb] at hnm) | (refine pm hnm fun nm hnm => ?_; try simp only [fmb] at hnm)); try (simp (maxSteps := 2000000) (disch := omega) only [ev, ↓evp, PV.cells, PV.one, PV.mem?, Value.cells, simprocAttr, hnm, Try.tf1, Try.tf3, Try.tf4, Try.tf5, Try.tf22, Try.tf33]))
    | ((with_reducible first | apply W_block | apply W_scope | apply WL_nil | apply W_label | apply W_skip | apply W_exit | apply W_ret) <;> try simp only [kks, simprocAttr])
    | (with_reducible apply pg <;> (intro hc; (try simp only [hcb, simprocAttr, ne_eq, forall_const] at hc); first | (exfalso; omega) | exact absurd trivial hc | skip))
    | (with_reducible apply hnx; clear hnx nx)
    | (with_reducible refine And.intro (by omega) ?_)
    | (with_reducible refine And.intro ?_ ?_)
    | (clear hnx nx; with_reducible apply hnx; clear hnx nx)
    | (clear hnx nx; clear hnx nx; with_reducible apply hnx; clear hnx nx))
      refine hfin _ _ (Fin_ret1 rfl (Sub_refl (by simp [names])) ?_); simp only [cob, simprocAttr]
      have hqe : q = kk := by omega
      rw [hint]
      refine ⟨O, ?_, ?_⟩
      · simp [hqe, hkl]
      · rw [List.take_of_length_le (by simp; omega)]
        rfl
theorem wint_c (G : Globs) (n : Int) (hn : -9223372036854775808 ≤ n) (hn2 : n ≤ 9223372036854775807) :
    PCalls Try.prog G 43 [pint .i64 n] [] (fun res H => res = .list 1 ((intB n).map pbyte) ∧ H = []) := by
  have := (wint_r G n hn hn2).frz_row (xs := (intB n).map pbyte) fun res H h => by
    obtain ⟨N, h1, h2⟩ := h
    exact ⟨N, 5, by rw [List.length_map]; exact h1, h2⟩
  exact this
end Go.PM

namespace Go.PM
open Go.Proofs
attribute [local irreducible] W PCalls pcall pcallI WL
@[reducible] def pq (x : UInt64) : PV := pint .u64 x.toNat
theorem wrap_q (n : Int) : IntKind.u64.wrap n = n % 18446744073709551616 := by
  simp [IntKind.wrap, IntKind.bits, IntKind.signed]
theorem q_xor (x y : UInt64) : bits .xor .u64 (x.toNat : Int) (y.toNat : Int) = ((x ^^^ y).toNat : Int) := by
  have e : ∀ z : UInt64, BitVec.ofInt 64 (z.toNat : Int) = z.toBitVec := fun z => by
    rw [BitVec.ofInt_natCast]
    apply BitVec.eq_of_toNat_eq
    have := z.toNat_lt
    simp
  have h : bits .xor .u64 (x.toNat : Int) (y.toNat : Int) = IntKind.u64.wrap (((BitVec.ofInt 64 (x.toNat : Int)) ^^^ (BitVec.ofInt 64 (y.toNat : Int))).toNat : Int) := rfl
  rw [h, e, e, wrap_q]
  have := (x.toBitVec ^^^ y.toBitVec).isLt
  have e2 : (x ^^^ y).toNat = (x.toBitVec ^^^ y.toBitVec).toNat := rfl
  rw [e2]
  omega
theorem q_mul (x y : UInt64) : IntKind.u64.wrap ((x.toNat : Int) * (y.toNat : Int)) = ((x * y).toNat : Int) := by
  rw [wrap_q, UInt64.toNat_mul, ← Int.natCast_mul]
  generalize x.toNat * y.toNat = z
  omega
theorem q_byte (c : UInt8) : IntKind.u64.wrap (c.toNat : Int) = ((c.toUInt64.toNat : Nat) : Int) := by
  have := c.toNat_lt
  rw [wrap_q, UInt8.toNat_toUInt64]
  omega
/-- A byte is taken into a seal. -/
def fnvS (h : UInt64) (c : UInt8) : UInt64 := (h ^^^ c.toUInt64) * 1099511628211
def fnv0 (key : UInt64) : UInt64 := 14695981039346656037 ^^^ key
def fnv (key : UInt64) (b : List UInt8) : UInt64 := b.foldl fnvS (fnv0 key)
def le1 (h : UInt64) (i : Nat) : UInt8 := UInt8.ofNat (h.toNat / 256 ^ i % 256)
def le8 (h : UInt64) : List UInt8 := (List.range 8).map (le1 h)
/-- The seal of bytes. -/
def sealB (key : UInt64) (b : List UInt8) : List UInt8 := le8 (fnv key b)
theorem le8_len (h : UInt64) : (le8 h).length = 8 := by simp [le8]
theorem sealB_len (key : UInt64) (b : List UInt8) : (sealB key b).length = 8 := le8_len _
theorem fnv_take (key : UInt64) (b : List UInt8) (i : Nat) (h : i < b.length) : fnv key (b.take (i + 1)) = fnvS (fnv key (b.take i)) b[i] := by
  rw [List.take_add_one, List.getElem?_eq_getElem h]
  unfold fnv
  rw [List.foldl_append]
  rfl
theorem q_first (key : UInt64) : bits .xor .u64 14695981039346656037 (key.toNat : Int) = ((fnv0 key).toNat : Int) := q_xor 14695981039346656037 key
theorem q_step (h : UInt64) (c : UInt8) : IntKind.u64.wrap (bits .xor .u64 (h.toNat : Int) (IntKind.u64.wrap (c.toNat : Int)) * 1099511628211) = ((fnvS h c).toNat : Int) := by
  rw [q_byte, q_xor]
  exact q_mul (h ^^^ c.toUInt64) 1099511628211
theorem q_out (h : UInt64) (i : Nat) (hi : i ≤ 8) : pint .u8 (IntKind.u8.wrap (((h.toNat : Nat) : Int).fdiv (2 ^ min (8 * (i : Int)).toNat IntKind.u64.bits))) = pbyte (le1 h i) := by
  rw [shr_nat h.toNat i i rfl hi, wr8mod]
  have h2 : (UInt8.ofNat (h.toNat / 256 ^ i % 256)).toNat = h.toNat / 256 ^ i % 256 := UInt8.toNat_ofNat_of_lt' (Nat.mod_lt _ (by decide))
  show pint .u8 _ = pint .u8 ((le1 h i).toNat : Int)
  rw [le1, h2]
/-- The first bytes of a seal are laid. -/
def sB (h : UInt64) (i : Nat) : List PV := tab 8 fun m => if m < i then pbyte (le1 h m) else pint .u8 0
theorem sB_zero (h : UInt64) : sB h 0 = List.replicate 8 (pint .u8 0) := by simp [sB, tab, List.range_succ, List.replicate_succ]
theorem sB_step (h : UInt64) (i : Nat) (hi : i < 8) : List.take i (sB h i) ++ [pbyte (le1 h i)] ++ List.drop (i + 1) (sB h i) = sB h (i + 1) := by
  rw [sB, sB, List.append_assoc, List.cons_append, List.nil_append, tab_set1 hi]
  refine tab_congr fun m hm => ?_
  split
  · rename_i e
    subst e
    rw [if_pos (by omega)]
  · rename_i e
    split
    · rw [if_pos (by omega)]
    · rw [if_neg (by omega)]
theorem sB_full (h : UInt64) : sB h 8 = (le8 h).map pbyte := by
  simp [sB, tab, le8, List.range_succ]
theorem sB_len (h : UInt64) (i : Nat) : (sB h i).length = 8 := tab_len _ _
theorem all_one_b (d : List UInt8) : (d.map pbyte).all PV.one = true := by
  rw [List.all_eq_true]
  intro p hp
  obtain ⟨x, _, rfl⟩ := List.mem_map.1 hp
  rfl
/-- Eight bytes that are zero. -/
def Z8 : List PV := [pint .u8 0, pint .u8 0, pint .u8 0, pint .u8 0, pint .u8 0, pint .u8 0, pint .u8 0, pint .u8 0]
set_option maxRecDepth 100000 in
set_option maxHeartbeats 8000000 in
theorem seal_c (G : Globs) (key : UInt64) (b : List UInt8) (hb : (b.length : Int) ≤ 9223372036854775807) : PCalls Try.prog G 41 [pq key, .list 1 (b.map pbyte)] [] (fun res H => res = .agg ((sealB key b).map pbyte) ∧ H = []) := by
  have h0 := q_first key
  (refine PCalls_f Try.func41 rfl Try.ntmps41 Try.results41 (by simp) fun fin hfin => ?_; have hnm : True := trivial; simp only [ev, Nat.reduceAdd, Nat.reduceMul, Nat.reduceSub, Nat.reduceLeDiff, Nat.reduceEqDiff, ↓reduceIte, reduceCtorEq, Nat.reduceLT, Nat.reducePow, Nat.reduceDiv, Nat.reduceMod, Nat.reduceBEq, Int.reduceLT, Int.reduceLE, Int.reduceToNat, Int.reduceAdd, Int.reduceSub, Int.reduceNeg])
  repeat' (first
    | (with_reducible apply W_seq_k; intro nx hnx)
    | (with_reducible first | refine wr 16806835 ?_)
    | ((with_reducible first | (apply WL_op; intro nx hnx) | refine Ev_out ?_ | refine wc ?_ | (refine pf hnm fun nm hnm => ?_; try simp only [fmb] at hnm) | (refine pm hnm fun nm hnm => ?_; try simp only [fmb] at hnm)); try (simp (maxSteps := 2000000) (disch := omega) only [ev, ↓evp, PV.cells, PV.one, PV.mem?, Value.cells, Nat.reduceAdd, Nat.reduceMul, Nat.reduceSub, Nat.reduceLeDiff, Nat.reduceEqDiff, ↓reduceIte, reduceCtorEq, Nat.reduceLT, Nat.reducePow, Nat.reduceDiv, Nat.reduceMod, Nat.reduceBEq, Int.reduceLT, Int.reduceLE, Int.reduceToNat, Int.reduceAdd, Int.reduceSub, Int.reduceNeg, hnm, Try.tf0, Try.tf3, Try.tf5, Try.tf22, Try.tf33, Try.tf79, h0]))
    | ((with_reducible first | apply W_block | apply W_scope | apply WL_nil | apply W_label | apply W_skip | apply W_exit | apply W_ret) <;> try simp only [kks, Nat.reduceAdd, Nat.reduceMul, Nat.reduceSub, Nat.reduceLeDiff, Nat.reduceEqDiff, ↓reduceIte, reduceCtorEq, Nat.reduceLT, Nat.reducePow, Nat.reduceDiv, Nat.reduceMod, Nat.reduceBEq, Int.reduceLT, Int.reduceLE, Int.reduceToNat, Int.reduceAdd, Int.reduceSub, Int.reduceNeg])
    | (with_reducible apply pg <;> (intro hc; (try simp only [hcb, Nat.reduceAdd, Nat.reduceMul, Nat.reduceSub, Nat.reduceLeDiff, Nat.reduceEqDiff, ↓reduceIte, reduceCtorEq, Nat.reduceLT, Nat.reducePow, Nat.reduceDiv, Nat.reduceMod, Nat.reduceBEq, Int.reduceLT, Int.reduceLE, Int.reduceToNat, Int.reduceAdd, Int.reduceSub, Int.reduceNeg, ne_eq, forall_const] at hc); first | (exfalso; omega) | exact absurd trivial hc | skip))
    | (with_reducible apply hnx; clear hnx nx)
    | (with_reducible refine And.intro (by omega) ?_)
    | (with_reducible refine And.intro ?_ ?_)
    | (clear hnx nx; with_reducible apply hnx; clear hnx nx)
    | (clear hnx nx; clear hnx nx; with_reducible apply hnx; clear hnx nx))
  obtain ⟨N, hN⟩ : ∃ N, N = nm := ⟨_, rfl⟩
  subst hN
  clear hnm
  have hnm : True := trivial
  refine W_loop_k (fun z τ => ∃ (i : Nat), i ≤ b.length ∧ z = b.length - i ∧ τ = ⟨fr 36 [(12, .list 1 (b.map pbyte)), (13, pint .i64 b.length), (14, pint .i64 i), (5, pq (fnv key (b.take i))), (4, .ptr N 0)], [(N, ⟨79, false, 0, Z8⟩)]⟩) b.length
    ⟨fr 36 [(12, .list 1 (b.map pbyte)), (13, pint .i64 b.length), (14, pint .i64 (0 : Nat)), (5, pq (fnv0 key)), (4, .ptr N 0)], [(N, ⟨79, false, 0, Z8⟩)]⟩ (by
    refine Wk_fr (by simp only [wkb, Nat.reduceAdd, Nat.reduceMul, Nat.reduceSub, Nat.reduceLeDiff, Nat.reduceEqDiff, ↓reduceIte, reduceCtorEq, Nat.reduceLT, Nat.reducePow, Nat.reduceDiv, Nat.reduceMod, Nat.reduceBEq, Int.reduceLT, Int.reduceLE, Int.reduceToNat, Int.reduceAdd, Int.reduceSub, Int.reduceNeg]) ?_
    exact ⟨by simp [Z8], by simp [names]⟩) ⟨0, by omega, by omega, rfl⟩ ?_
  rintro z τ ⟨i, hi, rfl, rfl⟩ lp hlp
  by_cases hik : i < b.length
  · have hs := q_step (fnv key (b.take i)) b[i]
    rw [← fnv_take key b i hik] at hs
    repeat' (first
    | (with_reducible apply W_seq_k; intro nx hnx)
    | (with_reducible first | refine wr 16806835 ?_)
    | ((with_reducible first | (apply WL_op; intro nx hnx) | refine Ev_out ?_ | refine wc ?_ | (refine pf hnm fun nm hnm => ?_; try simp only [fmb] at hnm) | (refine pm hnm fun nm hnm => ?_; try simp only [fmb] at hnm)); try (simp (maxSteps := 2000000) (disch := omega) only [ev, ↓evp, PV.cells, PV.one, PV.mem?, Value.cells, Nat.reduceAdd, Nat.reduceMul, Nat.reduceSub, Nat.reduceLeDiff, Nat.reduceEqDiff, ↓reduceIte, reduceCtorEq, Nat.reduceLT, Nat.reducePow, Nat.reduceDiv, Nat.reduceMod, Nat.reduceBEq, Int.reduceLT, Int.reduceLE, Int.reduceToNat, Int.reduceAdd, Int.reduceSub, Int.reduceNeg, hnm, Try.tf0, Try.tf3, Try.tf5, Try.tf22, Try.tf33, Try.tf79, hs]))
    | ((with_reducible first | apply W_block | apply W_scope | apply WL_nil | apply W_label | apply W_skip | apply W_exit | apply W_ret) <;> try simp only [kks, Nat.reduceAdd, Nat.reduceMul, Nat.reduceSub, Nat.reduceLeDiff, Nat.reduceEqDiff, ↓reduceIte, reduceCtorEq, Nat.reduceLT, Nat.reducePow, Nat.reduceDiv, Nat.reduceMod, Nat.reduceBEq, Int.reduceLT, Int.reduceLE, Int.reduceToNat, Int.reduceAdd, Int.reduceSub, Int.reduceNeg])
    | (with_reducible apply pg <;> (intro hc; (try simp only [hcb, Nat.reduceAdd, Nat.reduceMul, Nat.reduceSub, Nat.reduceLeDiff, Nat.reduceEqDiff, ↓reduceIte, reduceCtorEq, Nat.reduceLT, Nat.reducePow, Nat.reduceDiv, Nat.reduceMod, Nat.reduceBEq, Int.reduceLT, Int.reduceLE, Int.reduceToNat, Int.reduceAdd, Int.reduceSub, Int.reduceNeg, ne_eq, forall_const] at hc); first | (exfalso; omega) | exact absurd trivial hc | skip))
    | (with_reducible apply hnx; clear hnx nx)
    | (with_reducible refine And.intro (by omega) ?_)
    | (with_reducible refine And.intro ?_ ?_)
    | (clear hnx nx; with_reducible apply hnx; clear hnx nx)
    | (clear hnx nx; clear hnx nx; with_reducible apply hnx; clear hnx nx))
    all_goals first
      | (exfalso
         omega)
      | (refine hlp _ (b.length - (i + 1)) _ (by omega) ?_ ⟨i + 1, by omega, rfl, rfl⟩
         refine Wk_fr (by simp only [wkb, Nat.reduceAdd, Nat.reduceMul, Nat.reduceSub, Nat.reduceLeDiff, Nat.reduceEqDiff, ↓reduceIte, reduceCtorEq, Nat.reduceLT, Nat.reducePow, Nat.reduceDiv, Nat.reduceMod, Nat.reduceBEq, Int.reduceLT, Int.reduceLE, Int.reduceToNat, Int.reduceAdd, Int.reduceSub, Int.reduceNeg]) ?_
         exact ⟨by simp, by simp [names]⟩)
  · rw [List.take_of_length_le (by omega)]
    obtain ⟨h, hh⟩ : ∃ h, h = fnv key b := ⟨_, rfl⟩
    have hS : sealB key b = le8 h := by rw [sealB, hh]
    rw [hS] at hfin
    rw [← hh]
    clear hlp h0 hh hS
    repeat' (first
    | (with_reducible apply W_seq_k; intro nx hnx)
    | (with_reducible first | refine wr 16806835 ?_)
    | ((with_reducible first | (apply WL_op; intro nx hnx) | refine Ev_out ?_ | refine wc ?_ | (refine pf hnm fun nm hnm => ?_; try simp only [fmb] at hnm) | (refine pm hnm fun nm hnm => ?_; try simp only [fmb] at hnm)); try (simp (maxSteps := 2000000) (disch := omega) only [ev, ↓evp, PV.cells, PV.one, PV.mem?, Value.cells, Nat.reduceAdd, Nat.reduceMul, Nat.reduceSub, Nat.reduceLeDiff, Nat.reduceEqDiff, ↓reduceIte, reduceCtorEq, Nat.reduceLT, Nat.reducePow, Nat.reduceDiv, Nat.reduceMod, Nat.reduceBEq, Int.reduceLT, Int.reduceLE, Int.reduceToNat, Int.reduceAdd, Int.reduceSub, Int.reduceNeg, hnm, Try.tf0, Try.tf3, Try.tf5, Try.tf22, Try.tf33, Try.tf79]))
    | ((with_reducible first | apply W_block | apply W_scope | apply WL_nil | apply W_label | apply W_skip | apply W_exit | apply W_ret) <;> try simp only [kks, Nat.reduceAdd, Nat.reduceMul, Nat.reduceSub, Nat.reduceLeDiff, Nat.reduceEqDiff, ↓reduceIte, reduceCtorEq, Nat.reduceLT, Nat.reducePow, Nat.reduceDiv, Nat.reduceMod, Nat.reduceBEq, Int.reduceLT, Int.reduceLE, Int.reduceToNat, Int.reduceAdd, Int.reduceSub, Int.reduceNeg])
    | (with_reducible apply pg <;> (intro hc; (try simp only [hcb, Nat.reduceAdd, Nat.reduceMul, Nat.reduceSub, Nat.reduceLeDiff, Nat.reduceEqDiff, ↓reduceIte, reduceCtorEq, Nat.reduceLT, Nat.reducePow, Nat.reduceDiv, Nat.reduceMod, Nat.reduceBEq, Int.reduceLT, Int.reduceLE, Int.reduceToNat, Int.reduceAdd, Int.reduceSub, Int.reduceNeg, ne_eq, forall_const] at hc); first | (exfalso; omega) | exact absurd trivial hc | skip))
    | (with_reducible apply hnx; clear hnx nx)
    | (with_reducible refine And.intro (by omega) ?_)
    | (with_reducible refine And.intro ?_ ?_)
    | (clear hnx nx; with_reducible apply hnx; clear hnx nx)
    | (clear hnx nx; clear hnx nx; with_reducible apply hnx; clear hnx nx))
    all_goals first
      | (exfalso
         omega)
      | skip
    obtain ⟨M, hM⟩ : ∃ M, M = nm := ⟨_, rfl⟩
    subst hM
    have hMN := hnm
    have e0 : [(PV.val (.int .u8 0)), .val (.int .u8 0), .val (.int .u8 0), .val (.int .u8 0), .val (.int .u8 0), .val (.int .u8 0), .val (.int .u8 0), .val (.int .u8 0)] = sB h 0 := by rw [sB_zero]; rfl
    rw [e0]
    have hz : Z8.length = 8 := rfl
    refine W_loop_k (fun z τ => ∃ (j : Nat), j ≤ 8 ∧ z = 8 - j ∧ τ = ⟨fr 36 [(24, pint .i64 j), (8, .ptr M 0), (5, pq h), (4, .ptr N 0)], [(M, ⟨79, false, 0, sB h j⟩), (N, ⟨79, false, 0, Z8⟩)]⟩) 8
      ⟨fr 36 [(24, pint .i64 (0 : Nat)), (8, .ptr M 0), (5, pq h), (4, .ptr N 0)], [(M, ⟨79, false, 0, sB h 0⟩), (N, ⟨79, false, 0, Z8⟩)]⟩ (by
      refine Wk_fr (by simp only [wkb, Nat.reduceAdd, Nat.reduceMul, Nat.reduceSub, Nat.reduceLeDiff, Nat.reduceEqDiff, ↓reduceIte, reduceCtorEq, Nat.reduceLT, Nat.reducePow, Nat.reduceDiv, Nat.reduceMod, Nat.reduceBEq, Int.reduceLT, Int.reduceLE, Int.reduceToNat, Int.reduceAdd, Int.reduceSub, Int.reduceNeg]) ?_
      exact ⟨by simp, by simp [names, hMN]⟩) ⟨0, by omega, by omega, rfl⟩ ?_
    rintro z τ ⟨j, hj, rfl, rfl⟩ lp hlp
    by_cases hjk : j < 8
    · have ho := q_out h j (by omega)
      have hst := sB_step h j hjk
      have hl := sB_len h j
      repeat' (first
    | (with_reducible apply W_seq_k; intro nx hnx)
    | (with_reducible first | refine wr 16806835 ?_)
    | ((with_reducible first | (apply WL_op; intro nx hnx) | refine Ev_out ?_ | refine wc ?_ | (refine pf hnm fun nm hnm => ?_; try simp only [fmb] at hnm) | (refine pm hnm fun nm hnm => ?_; try simp only [fmb] at hnm)); try (simp (maxSteps := 2000000) (disch := omega) only [ev, ↓evp, PV.cells, PV.one, PV.mem?, Value.cells, Nat.reduceAdd, Nat.reduceMul, Nat.reduceSub, Nat.reduceLeDiff, Nat.reduceEqDiff, ↓reduceIte, reduceCtorEq, Nat.reduceLT, Nat.reducePow, Nat.reduceDiv, Nat.reduceMod, Nat.reduceBEq, Int.reduceLT, Int.reduceLE, Int.reduceToNat, Int.reduceAdd, Int.reduceSub, Int.reduceNeg, hnm, Try.tf0, Try.tf3, Try.tf5, Try.tf22, Try.tf33, Try.tf79, ho, hst, hl]))
    | ((with_reducible first | apply W_block | apply W_scope | apply WL_nil | apply W_label | apply W_skip | apply W_exit | apply W_ret) <;> try simp only [kks, Nat.reduceAdd, Nat.reduceMul, Nat.reduceSub, Nat.reduceLeDiff, Nat.reduceEqDiff, ↓reduceIte, reduceCtorEq, Nat.reduceLT, Nat.reducePow, Nat.reduceDiv, Nat.reduceMod, Nat.reduceBEq, Int.reduceLT, Int.reduceLE, Int.reduceToNat, Int.reduceAdd, Int.reduceSub, Int.reduceNeg])
    | (with_reducible apply pg <;> (intro hc; (try simp only [hcb, Nat.reduceAdd, Nat.reduceMul, Nat.reduceSub, Nat.reduceLeDiff, Nat.reduceEqDiff, ↓reduceIte, reduceCtorEq, Nat.reduceLT, Nat.reducePow, Nat.reduceDiv, Nat.reduceMod, Nat.reduceBEq, Int.reduceLT, Int.reduceLE, Int.reduceToNat, Int.reduceAdd, Int.reduceSub, Int.reduceNeg, ne_eq, forall_const] at hc); first | (exfalso; omega) | exact absurd trivial hc | skip))
    | (with_reducible apply hnx; clear hnx nx)
    | (with_reducible refine And.intro (by omega) ?_)
    | (with_reducible refine And.intro ?_ ?_)
    | (clear hnx nx; with_reducible apply hnx; clear hnx nx)
    | (clear hnx nx; clear hnx nx; with_reducible apply hnx; clear hnx nx))
      all_goals first
        | (exfalso
           omega)
        | (refine hlp _ (8 - (j + 1)) _ (by omega) ?_ ⟨j + 1, by omega, rfl, rfl⟩
           refine Wk_fr (by simp only [wkb, Nat.reduceAdd, Nat.reduceMul, Nat.reduceSub, Nat.reduceLeDiff, Nat.reduceEqDiff, ↓reduceIte, reduceCtorEq, Nat.reduceLT, Nat.reducePow, Nat.reduceDiv, Nat.reduceMod, Nat.reduceBEq, Int.reduceLT, Int.reduceLE, Int.reduceToNat, Int.reduceAdd, Int.reduceSub, Int.reduceNeg]) ?_
           exact ⟨by simp, by simp [names, hMN]⟩)
    · have hj8 : j = 8 := by omega
      subst hj8
      have hl := le8_len h
      have ho := all_one_b (le8 h)
      have ht : List.take 8 ((le8 h).map pbyte) = (le8 h).map pbyte := List.take_of_length_le (by simp [hl])
      have hd : List.drop 8 Z8 = [] := rfl
      rw [sB_full]
      repeat' (first
    | (with_reducible apply W_seq_k; intro nx hnx)
    | (with_reducible first | refine wr 16806835 ?_)
    | ((with_reducible first | (apply WL_op; intro nx hnx) | refine Ev_out ?_ | refine wc ?_ | (refine pf hnm fun nm hnm => ?_; try simp only [fmb] at hnm) | (refine pm hnm fun nm hnm => ?_; try simp only [fmb] at hnm)); try (simp (maxSteps := 2000000) (disch := omega) only [ev, ↓evp, PV.cells, PV.one, PV.mem?, Value.cells, Nat.reduceAdd, Nat.reduceMul, Nat.reduceSub, Nat.reduceLeDiff, Nat.reduceEqDiff, ↓reduceIte, reduceCtorEq, Nat.reduceLT, Nat.reducePow, Nat.reduceDiv, Nat.reduceMod, Nat.reduceBEq, Int.reduceLT, Int.reduceLE, Int.reduceToNat, Int.reduceAdd, Int.reduceSub, Int.reduceNeg, hnm, Try.tf0, Try.tf3, Try.tf5, Try.tf22, Try.tf33, Try.tf79, hl, ho, hz, ht, hd, List.length_map, List.append_nil]))
    | ((with_reducible first | apply W_block | apply W_scope | apply WL_nil | apply W_label | apply W_skip | apply W_exit | apply W_ret) <;> try simp only [kks, Nat.reduceAdd, Nat.reduceMul, Nat.reduceSub, Nat.reduceLeDiff, Nat.reduceEqDiff, ↓reduceIte, reduceCtorEq, Nat.reduceLT, Nat.reducePow, Nat.reduceDiv, Nat.reduceMod, Nat.reduceBEq, Int.reduceLT, Int.reduceLE, Int.reduceToNat, Int.reduceAdd, Int.reduceSub, Int.reduceNeg])
    | (with_reducible apply pg <;> (intro hc; (try simp only [hcb, Nat.reduceAdd, Nat.reduceMul, Nat.reduceSub, Nat.reduceLeDiff, Nat.reduceEqDiff, ↓reduceIte, reduceCtorEq, Nat.reduceLT, Nat.reducePow, Nat.reduceDiv, Nat.reduceMod, Nat.reduceBEq, Int.reduceLT, Int.reduceLE, Int.reduceToNat, Int.reduceAdd, Int.reduceSub, Int.reduceNeg, ne_eq, forall_const] at hc); first | (exfalso; omega) | exact absurd trivial hc | skip))
    | (with_reducible apply hnx; clear hnx nx)
    | (with_reducible refine And.intro (by omega) ?_)
    | (with_reducible refine And.intro ?_ ?_)
    | (clear hnx nx; with_reducible apply hnx; clear hnx nx)
    | (clear hnx nx; clear hnx nx; with_reducible apply hnx; clear hnx nx))
      all_goals first
        | (exfalso
           omega)
        | exact ho
        | (refine hfin _ _ (Fin_cell (res := .agg ((le8 h).map pbyte)) Try.tf79 (n := N) (off := 0) (o := ⟨79, false, 0, (le8 h).map pbyte⟩) (by simp only [fr_getD_cons, Nat.reduceEqDiff, Nat.reduceLT, ↓reduceIte]) (by simp [look, hnm, ht, hd]) ?_ (Sub_nil _) ⟨rfl, rfl⟩)
           simp [pload, hl, ht, ho])
end Go.PM

namespace Go.PM
open Go.Proofs Go.RowKit Go.ChangeShapes Go.WideShapes
theorem bounds_u64 {a : Int} (h : (Lit.int .u64 a).wf = true) : 0 ≤ a ∧ a < 18446744073709551616 := by
  simp [Lit.wf, IntKind.min, IntKind.max, IntKind.signed, IntKind.bits] at h
  omega
theorem pq_of {a : Int} (h : (Lit.int .u64 a).wf = true) : pq (UInt64.ofNat a.toNat) = .val (.int .u64 a) := by
  have h2 := bounds_u64 h
  unfold pq pint
  rw [UInt64.toNat_ofNat_of_lt' (show _ < 18446744073709551616 by omega)]
  congr 2
  omega
end Go.PM

namespace Go.PM
open Go.Proofs
attribute [local irreducible] W PCalls pcall pcallI WL
/-- The number of digits that a first byte tells of. -/
def kOf (h : UInt8) : Nat := if h.toNat < 128 then 127 - h.toNat else h.toNat - 128
def flD (h d : UInt8) : UInt8 := if h.toNat < 128 then 255 - d else d
def valB (ds : List UInt8) : Nat := ds.foldl (fun m d => 256 * m + d.toNat) 0
def flI (h : UInt8) : Int := if h.toNat < 128 then 255 else 0
/-- What is decoded: the integer, the number of bytes, the error. -/
def gI : List UInt8 → Int × Nat × Int
  | [] => (0, 0, 3)
  | h :: t =>
    if 8 < kOf h then (0, 0, 2)
    else if t.length < kOf h then (0, 0, 3)
    else if ((t.take (kOf h)).map (flD h)).head? = some 0 ∨ 9223372036854775808 ≤ valB ((t.take (kOf h)).map (flD h)) then (0, 0, 2)
    else (if h.toNat < 128 then -1 - (valB ((t.take (kOf h)).map (flD h)) : Int) else valB ((t.take (kOf h)).map (flD h)), kOf h + 1, 0)
@[reducible] def t3 (x : Int × Nat × Int) : PV := .tuple [pint .i64 x.1, pint .i64 x.2.1, pint .i64 x.2.2]
theorem xor255u (b : UInt8) : bits .xor .u8 ((b.toNat : Nat) : Int) 255 = (((255 - b).toNat : Nat) : Int) := by
  have h := b.toNat_lt
  rw [xor255 ⟨b.toNat, h⟩, UInt8.toNat_sub_of_le _ _ (UInt8.le_iff_toNat_le.2 (by simp; omega))]
  rfl
theorem xor000u (b : UInt8) : bits .xor .u8 ((b.toNat : Nat) : Int) 0 = ((b.toNat : Nat) : Int) := xor000 ⟨b.toNat, b.toNat_lt⟩
theorem sub255 (b : UInt8) : (255 - b).toNat = 255 - b.toNat := by
  have h := b.toNat_lt
  exact UInt8.toNat_sub_of_le _ _ (UInt8.le_iff_toNat_le.2 (by simp; omega))
theorem or_shift (m d : Nat) (hm : m < 2 ^ 56) (hd : d < 256) : bits .or .u64 (IntKind.u64.wrap (((m : Nat) : Int) * 2 ^ min 8 IntKind.u64.bits)) (IntKind.u64.wrap (d : Int)) = ((256 * m + d : Nat) : Int) := by
  have e1 : IntKind.u64.wrap (((m : Nat) : Int) * 2 ^ min 8 IntKind.u64.bits) = ((2 ^ 8 * m : Nat) : Int) := by
    simp [IntKind.wrap, IntKind.bits, IntKind.signed]
    omega
  have e2 : IntKind.u64.wrap (d : Int) = (d : Int) := by
    simp [IntKind.wrap, IntKind.bits, IntKind.signed]
    omega
  rw [e1, e2, bits_or_u64_nat _ _ (by omega) (by omega), ← Nat.two_pow_add_eq_or_of_lt (by omega)]
theorem wrap_not (m : Nat) (h : m < 9223372036854775808) : IntKind.i64.wrap (bits .xor .u64 (if IntKind.u64.signed = true then -1 else IntKind.u64.max) (m : Int)) = -1 - (m : Int) := by
  have e1 : (if IntKind.u64.signed = true then (-1 : Int) else IntKind.u64.max) = ((2 ^ 64 - 1 : Nat) : Int) := by decide
  rw [e1, bits_xor_u64_nat _ _ (by decide) (by omega), Go.Lib.xor_ones64 _ (by omega)]
  simp [IntKind.wrap, IntKind.bits, IntKind.signed]
  omega
theorem flx (h d : UInt8) : bits .xor .u8 ((d.toNat : Nat) : Int) (flI h) = (((flD h d).toNat : Nat) : Int) := by
  unfold flI flD
  split
  · exact xor255u d
  · exact xor000u d
theorem valB_snoc (l : List UInt8) (d : UInt8) : valB (l ++ [d]) = 256 * valB l + d.toNat := by simp [valB]
theorem valR_lt : ∀ l : List UInt8, valB l.reverse < 256 ^ l.length
  | [] => by simp [valB]
  | d :: l => by
    have := d.toNat_lt
    have := valR_lt l
    rw [List.reverse_cons, valB_snoc, List.length_cons, Nat.pow_succ]
    omega
theorem valB_lt (l : List UInt8) : valB l < 256 ^ l.length := by
  have := valR_lt l.reverse
  rwa [List.reverse_reverse, List.length_reverse] at this
theorem gI_form {h : UInt8} {t : List UInt8} (hk : 8 < kOf h) : gI (h :: t) = (0, 0, 2) := by rw [gI, if_pos hk]
theorem gI_more {h : UInt8} {t : List UInt8} (hk : ¬ 8 < kOf h) (ht : t.length < kOf h) : gI (h :: t) = (0, 0, 3) := by rw [gI, if_neg hk, if_pos ht]
theorem gI_bad {h : UInt8} {t : List UInt8} (hk : ¬ 8 < kOf h) (ht : ¬ t.length < kOf h) (hb : ((t.take (kOf h)).map (flD h)).head? = some 0 ∨ 9223372036854775808 ≤ valB ((t.take (kOf h)).map (flD h))) : gI (h :: t) = (0, 0, 2) := by rw [gI, if_neg hk, if_neg ht, if_pos hb]
theorem gI_good {h : UInt8} {t : List UInt8} (hk : ¬ 8 < kOf h) (ht : ¬ t.length < kOf h) (hb : ¬ (((t.take (kOf h)).map (flD h)).head? = some 0 ∨ 9223372036854775808 ≤ valB ((t.take (kOf h)).map (flD h)))) :
    gI (h :: t) = (if h.toNat < 128 then -1 - (valB ((t.take (kOf h)).map (flD h)) : Int) else valB ((t.take (kOf h)).map (flD h)), kOf h + 1, 0) := by rw [gI, if_neg hk, if_neg ht, if_neg hb]
set_option maxRecDepth 100000 in
set_option maxHeartbeats 8000000 in
theorem getInt_c (G : Globs) (b : List UInt8) (hb : (b.length : Int) ≤ 4611686018427387904) :
    PCalls Try.prog G 56 [.list 1 (b.map pbyte)] [] (fun res H => res = t3 (gI b) ∧ H = []) := by
  cases b with
  | nil =>
    (refine PCalls_f Try.func56 rfl Try.ntmps56 Try.results56 (by simp) fun fin hfin => ?_; have hnm : True := trivial; simp only [ev, simprocAttr])
    repeat' (first
    | (with_reducible apply W_seq_k; intro nx hnx)
    | (with_reducible first | refine wr 492581209244413 ?_)
    | ((with_reducible first | (apply WL_op; intro nx hnx) | refine Ev_out ?_ | refine wc ?_ | (refine pf hnm fun nm hnm => ?_; try simp only [fmb] at hnm) | (refine pm hnm fun nm hnm => ?_; try simp only [fmb] at hnm)); try (simp (maxSteps := 2000000) (disch := omega) only [ev, ↓evp, PV.cells, PV.one, PV.mem?, Value.cells, simprocAttr, hnm, Try.tf0, Try.tf3, Try.tf4, Try.tf5, Try.tf22, Try.tf33, Try.tf34, Try.tf93]))
    | ((with_reducible first | apply W_block | apply W_scope | apply WL_nil | apply W_label | apply W_skip | apply W_exit | apply W_ret) <;> try simp only [kks, simprocAttr])
    | (with_reducible apply pg <;> (intro hc; (try simp only [hcb, simprocAttr, ne_eq, forall_const] at hc); first | (exfalso; omega) | exact absurd trivial hc | skip))
    | (with_reducible apply hnx; clear hnx nx)
    | (with_reducible refine And.intro (by omega) ?_)
    | (with_reducible refine And.intro ?_ ?_)
    | (clear hnx nx; with_reducible apply hnx; clear hnx nx)
    | (clear hnx nx; clear hnx nx; with_reducible apply hnx; clear hnx nx))
    refine hfin _ _ (Fin_ret3 rfl rfl rfl (Sub_nil _) ?_); simp only [cob, simprocAttr]
    simp [gI]
  | cons h t =>
    have hh := h.toNat_lt
    rw [List.length_cons] at hb
    have hk1 : h.toNat < 128 → ((255 - h.toNat : Nat) : Int) - 128 = (kOf h : Int) := fun h1 => by
      unfold kOf
      rw [if_pos h1]
      omega
    have hk2 : ¬ h.toNat < 128 → (h.toNat : Int) - 128 = (kOf h : Int) := fun h1 => by
      unfold kOf
      rw [if_neg h1]
      omega
    have hk3 : h.toNat < 128 → kOf h ≤ 127 := fun h1 => by omega
    obtain ⟨k, hk⟩ : ∃ k, k = kOf h := ⟨_, rfl⟩
    rw [← hk] at hk1 hk2
    have hkb : k ≤ 128 := by
      rcases Nat.lt_or_ge h.toNat 128 with h1 | h1
      · have := hk1 h1
        omega
      · have := hk2 (by omega)
        omega
    (refine PCalls_f Try.func56 rfl Try.ntmps56 Try.results56 (by simp) fun fin hfin => ?_; have hnm : True := trivial; simp only [ev, simprocAttr])
    repeat' (first
    | (with_reducible apply W_seq_k; intro nx hnx)
    | (with_reducible first | refine wr 492581209244413 ?_)
    | ((with_reducible first | (apply WL_op; intro nx hnx) | refine Ev_out ?_ | refine wc ?_ | (refine pf hnm fun nm hnm => ?_; try simp only [fmb] at hnm) | (refine pm hnm fun nm hnm => ?_; try simp only [fmb] at hnm)); try (simp (maxSteps := 2000000) (disch := omega) only [ev, ↓evp, PV.cells, PV.one, PV.mem?, Value.cells, simprocAttr, hnm, Try.tf0, Try.tf3, Try.tf4, Try.tf5, Try.tf22, Try.tf33, Try.tf34, Try.tf93, xor255u, xor000u, sub255, hk1, hk2, List.take_succ_cons, List.drop_succ_cons]))
    | ((with_reducible first | apply W_block | apply W_scope | apply WL_nil | apply W_label | apply W_skip | apply W_exit | apply W_ret) <;> try simp only [kks, simprocAttr])
    | (with_reducible apply pg <;> (intro hc; (try simp only [hcb, simprocAttr, ne_eq, forall_const] at hc); first | (exfalso; omega) | exact absurd trivial hc | skip))
    | (with_reducible apply hnx; clear hnx nx)
    | (with_reducible refine And.intro (by omega) ?_)
    | (with_reducible refine And.intro ?_ ?_)
    | (clear hnx nx; with_reducible apply hnx; clear hnx nx)
    | (clear hnx nx; clear hnx nx; with_reducible apply hnx; clear hnx nx))
    all_goals first
      | (refine hfin _ _ (Fin_ret3 rfl rfl rfl (Sub_nil _) ?_); simp only [cob, simprocAttr]
         rw [gI_form (h := h) (t := t) (by omega)]
         exact ⟨rfl, by trivial⟩)
      | (refine hfin _ _ (Fin_ret3 rfl rfl rfl (Sub_nil _) ?_); simp only [cob, simprocAttr]
         rw [gI_more (h := h) (t := t) (by omega) (by omega)]
         exact ⟨rfl, by trivial⟩)
      | (refine hfin _ _ (Fin_ret3 rfl rfl rfl (Sub_nil _) ?_); simp only [cob, simprocAttr]
         rw [gI_bad (h := h) (t := t) (by omega) (by omega) (.inl (by
           have htl : 0 < t.length := by omega
           obtain ⟨d, t', rfl⟩ : ∃ d t', t = d :: t' := by
             cases t with
             | nil => exact absurd htl (by simp)
             | cons d t' => exact ⟨d, t', rfl⟩
           obtain ⟨k', hk'⟩ : ∃ k', kOf h = k' + 1 := ⟨kOf h - 1, by omega⟩
           rw [hk', List.take_succ_cons, List.map_cons, List.head?_cons]
           congr 1
           apply UInt8.toNat_inj.1
           simp only [List.getElem_cons_zero] at hc
           unfold flD
           first
           | (rw [if_pos (by omega), sub255]
              simp
              omega)
           | (rw [if_neg (by omega)]
              simp
              omega)))]
         exact ⟨rfl, by trivial⟩)
      | skip
    all_goals
      have hfl : flI h = 255 ∧ h.toNat < 128 ∨ flI h = 0 ∧ ¬ h.toNat < 128 := by
        unfold flI
        by_cases h1 : h.toNat < 128
        · exact .inl ⟨if_pos h1, h1⟩
        · exact .inr ⟨if_neg h1, h1⟩
      have hkt : min k t.length = k := by omega
      have hz : ¬ (((t.take (kOf h)).map (flD h)).head? = some 0) := by
        cases t with
        | nil => simp
        | cons d t' =>
          rcases Nat.eq_zero_or_pos (kOf h) with h0 | h0
          · simp [h0]
          · obtain ⟨k', hk'⟩ : ∃ k', kOf h = k' + 1 := ⟨kOf h - 1, by omega⟩
            rw [hk', List.take_succ_cons, List.map_cons, List.head?_cons]
            intro he
            have he := congrArg UInt8.toNat (Option.some.inj he)
            try simp only [List.getElem_cons_zero] at hc
            unfold flD at he
            first
            | omega
            | (rw [if_pos (by omega), sub255] at he
               exact hc (by simpa using he))
            | (rw [if_neg (by omega)] at he
               exact hc (by simpa using he))
      obtain ⟨raw, hraw⟩ : ∃ raw, raw = t.take k := ⟨_, rfl⟩
      have hrl : raw.length = k := by rw [hraw, List.length_take, hkt]
      have hgood := gI_good (h := h) (t := t) (by omega) (by omega)
      have hbad := gI_bad (h := h) (t := t) (by omega) (by omega)
      rw [← hk, ← hraw] at hgood hbad hz
      obtain ⟨ds, hds⟩ : ∃ ds, ds = raw.map (flD h) := ⟨_, rfl⟩
      have hdl : ds.length = k := by rw [hds, List.length_map, hrl]
      rw [← hds] at hgood hbad hz
      have hvl := valB_lt ds
      have hpw : 256 ^ ds.length ≤ 256 ^ 8 := Nat.pow_le_pow_right (by omega) (by omega)
      refine W_loop_k (fun z τ => ∃ i : Nat, i ≤ k ∧ z = k - i ∧ τ = ⟨fr 71 [(5, pint .u8 (flI h)), (6, pint .i64 k), (7, pint .u64 (valB (ds.take i))), (46, .list 1 (raw.map pbyte)), (47, pint .i64 k), (48, pint .i64 i)], []⟩) k ⟨fr 71 [(5, pint .u8 (flI h)), (6, pint .i64 k), (7, pint .u64 (valB (ds.take 0))), (46, .list 1 (raw.map pbyte)), (47, pint .i64 k), (48, pint .i64 (0 : Nat))], []⟩ ?_ ⟨0, by omega, by omega, rfl⟩ ?_
    all_goals first
      | (rcases hfl with ⟨h1, h2⟩ | ⟨h1, h2⟩
         all_goals first
           | (exfalso
              omega)
           | (rw [h1, hraw, List.map_take]
              exact Wk_fr (by simp only [wkb, simprocAttr, hkt, List.take_zero, valB, List.foldl_nil]) (Sub_nil _)))
      | skip
    all_goals
      rintro z τ ⟨i, hi, rfl, rfl⟩ lp hlp
      have hs63 : ((valB ds : Nat) : Int).fdiv (2 ^ min 63 IntKind.u64.bits) = ((valB ds / 2 ^ 63 : Nat) : Int) := by
        rw [show min 63 IntKind.u64.bits = 63 by decide, Int.fdiv_eq_ediv_of_nonneg _ (by decide)]
        rfl
      by_cases hik : i < k
      · have hri : i < raw.length := by omega
        have hdi : i < ds.length := by omega
        have hor : bits .or .u64 (IntKind.u64.wrap (((valB (ds.take i) : Nat) : Int) * 2 ^ min 8 IntKind.u64.bits)) (IntKind.u64.wrap (((flD h raw[i]).toNat : Nat) : Int)) = ((valB (ds.take (i + 1)) : Nat) : Int) := by
          have h1 := valB_lt (ds.take i)
          have h2 : 256 ^ (ds.take i).length ≤ 256 ^ 7 := Nat.pow_le_pow_right (by omega) (by rw [List.length_take]; omega)
          rw [or_shift _ _ (by omega) (flD h raw[i]).toNat_lt, List.take_add_one, List.getElem?_eq_getElem hdi, Option.toList_some, valB_snoc]
          have : ds[i] = flD h raw[i] := by simp [hds]
          rw [this]
        repeat' (first
    | (with_reducible apply W_seq_k; intro nx hnx)
    | (with_reducible first | refine wr 492581209244413 ?_)
    | ((with_reducible first | (apply WL_op; intro nx hnx) | refine Ev_out ?_ | refine wc ?_ | (refine pf hnm fun nm hnm => ?_; try simp only [fmb] at hnm) | (refine pm hnm fun nm hnm => ?_; try simp only [fmb] at hnm)); try (simp (maxSteps := 2000000) (disch := omega) only [ev, ↓evp, PV.cells, PV.one, PV.mem?, Value.cells, simprocAttr, hnm, Try.tf0, Try.tf3, Try.tf4, Try.tf5, Try.tf22, Try.tf33, Try.tf34, Try.tf93, flx, hor]))
    | ((with_reducible first | apply W_block | apply W_scope | apply WL_nil | apply W_label | apply W_skip | apply W_exit | apply W_ret) <;> try simp only [kks, simprocAttr])
    | (with_reducible apply pg <;> (intro hc; (try simp only [hcb, simprocAttr, ne_eq, forall_const] at hc); first | (exfalso; omega) | exact absurd trivial hc | skip))
    | (with_reducible apply hnx; clear hnx nx)
    | (with_reducible refine And.intro (by omega) ?_)
    | (with_reducible refine And.intro ?_ ?_)
    | (clear hnx nx; with_reducible apply hnx; clear hnx nx)
    | (clear hnx nx; clear hnx nx; with_reducible apply hnx; clear hnx nx))
        all_goals first
          | (exfalso
             omega)
          | (refine hlp _ (k - (i + 1)) _ (by omega) ?_ ⟨i + 1, by omega, rfl, rfl⟩
             exact Wk_fr (by simp only [wkb, simprocAttr]) (Sub_nil _))
      · have hik2 : i = k := by omega
        subst hik2
        rw [List.take_of_length_le (by omega)]
        repeat' (first
    | (with_reducible apply W_seq_k; intro nx hnx)
    | (with_reducible first | refine wr 492581209244413 ?_)
    | ((with_reducible first | (apply WL_op; intro nx hnx) | refine Ev_out ?_ | refine wc ?_ | (refine pf hnm fun nm hnm => ?_; try simp only [fmb] at hnm) | (refine pm hnm fun nm hnm => ?_; try simp only [fmb] at hnm)); try (simp (maxSteps := 2000000) (disch := omega) only [ev, ↓evp, PV.cells, PV.one, PV.mem?, Value.cells, simprocAttr, hnm, Try.tf0, Try.tf3, Try.tf4, Try.tf5, Try.tf22, Try.tf33, Try.tf34, Try.tf93, hs63]))
    | ((with_reducible first | apply W_block | apply W_scope | apply WL_nil | apply W_label | apply W_skip | apply W_exit | apply W_ret) <;> try simp only [kks, simprocAttr])
    | (with_reducible apply pg <;> (intro hc; (try simp only [hcb, simprocAttr, ne_eq, forall_const] at hc); first | (exfalso; omega) | exact absurd trivial hc | skip))
    | (with_reducible apply hnx; clear hnx nx)
    | (with_reducible refine And.intro (by omega) ?_)
    | (with_reducible refine And.intro ?_ ?_)
    | (clear hnx nx; with_reducible apply hnx; clear hnx nx)
    | (clear hnx nx; clear hnx nx; with_reducible apply hnx; clear hnx nx))
        all_goals first
          | (exfalso
             omega)
          | (refine hfin _ _ (Fin_ret3 rfl rfl rfl (Sub_nil _) ?_); simp only [cob, simprocAttr]
             rw [hbad (.inr (by omega))]
             exact ⟨rfl, by trivial⟩)
          | skip
        all_goals
          have hv : valB ds < 9223372036854775808 := by omega
          have hgd := hgood (by
               rintro (h1 | h1)
               · exact hz h1
               · omega)
          refine hfin _ _ (Fin_ret3 rfl rfl rfl (Sub_nil _) ?_); simp only [cob, simprocAttr]
          rw [hgd]
        all_goals first
          | (rw [if_neg (show ¬ h.toNat < 128 by omega)]
             exact ⟨rfl, by trivial⟩)
          | (rw [if_pos (show h.toNat < 128 by omega), wrap_not _ hv]
             exact ⟨rfl, by trivial⟩)
end Go.PM

namespace Go.PM
open Go.Proofs
def valL : List UInt8 → Nat
  | [] => 0
  | d :: l => 256 * valL l + d.toNat
theorem valB_rev : ∀ l : List UInt8, valB l.reverse = valL l
  | [] => rfl
  | d :: l => by rw [List.reverse_cons, valB_snoc, valB_rev l, valL]
theorem valB_eq (l : List UInt8) : valB l = valL l.reverse := by rw [← valB_rev, List.reverse_reverse]
theorem valL_pos : ∀ (l : List UInt8) (h : l ≠ []), l.getLast h ≠ 0 → 0 < valL l
  | [d], _, h => by
    simp only [valL, List.getLast_singleton] at h ⊢
    have : d.toNat ≠ 0 := fun e => h (UInt8.toNat_inj.1 e)
    omega
  | d :: e :: l, _, h => by
    have := valL_pos (e :: l) (by simp) (by simpa using h)
    rw [valL]
    omega
theorem digsF_valL : ∀ (k : Nat) (l : List UInt8), l.length ≤ k → (∀ h : l ≠ [], l.getLast h ≠ 0) → digsF k (valL l) = l
  | 0, l, h, _ => by
    have : l = [] := List.length_eq_zero_iff.1 (by omega)
    subst this
    rfl
  | k + 1, [], _, _ => by rw [digsF]; rfl
  | k + 1, d :: l, h, hz => by
    have hp := valL_pos (d :: l) (by simp) (hz (by simp))
    have hd := d.toNat_lt
    have h2 : digsF k (valL l) = l := digsF_valL k l (by simp at h; omega) fun hl => by
      have := hz (by simp)
      rwa [List.getLast_cons hl] at this
    rw [digsF, if_neg (by omega), valL, show (256 * valL l + d.toNat) / 256 = valL l by omega, h2, show (256 * valL l + d.toNat) % 256 = d.toNat by omega]
    simp
theorem valL_digsF : ∀ (k m : Nat), m < 256 ^ k → valL (digsF k m) = m
  | 0, m, h => by
    rw [digsF, valL]
    simp at h
    omega
  | k + 1, m, h => by
    rw [digsF]
    split
    · rename_i h0
      rw [h0]
      rfl
    · have h1 : m / 256 < 256 ^ k := by
        rw [Nat.pow_succ] at h
        exact Nat.div_lt_of_lt_mul (by rw [Nat.mul_comm]; exact h)
      rw [valL, valL_digsF k _ h1]
      have : (UInt8.ofNat (m % 256)).toNat = m % 256 := UInt8.toNat_ofNat_of_lt' (show _ < 256 by omega)
      rw [this]
      omega
theorem digsF_last : ∀ (k m : Nat), m < 256 ^ k → ∀ h : digsF k m ≠ [], (digsF k m).getLast h ≠ 0
  | 0, m, _, h => absurd rfl h
  | k + 1, m, hm, h => by
    by_cases h0 : m = 0
    · subst h0
      exact absurd (by rw [digsF]; rfl) h
    · have e : digsF (k + 1) m = UInt8.ofNat (m % 256) :: digsF k (m / 256) := by rw [digsF, if_neg h0]
      have h1 : m / 256 < 256 ^ k := by
        rw [Nat.pow_succ] at hm
        exact Nat.div_lt_of_lt_mul (by rw [Nat.mul_comm]; exact hm)
      simp only [e]
      by_cases hn : digsF k (m / 256) = []
      · have hv := valL_digsF k _ h1
        rw [hn] at hv
        simp only [valL] at hv
        simp only [hn, List.getLast_singleton]
        intro e2
        have := congrArg UInt8.toNat e2
        rw [UInt8.toNat_ofNat_of_lt' (show _ < 256 by omega)] at this
        simp at this
        omega
      · rw [List.getLast_cons hn]
        exact digsF_last k _ h1 hn
theorem digs_len (m : Nat) (h : m < 9223372036854775808) : (digs m).length ≤ 8 := (digs_pow 8 m (by omega)).2 (by omega)
theorem digs_val (m : Nat) (h : m < 9223372036854775808) : valB (digs m).reverse = m := by
  rw [valB_rev]
  exact valL_digsF 9 m (by omega)
theorem head_ne (l : List UInt8) (h : ∀ h : l ≠ [], l.getLast h ≠ 0) : l.reverse.head? ≠ some 0 := by
  rw [List.head?_reverse]
  intro e
  obtain ⟨h1, h2⟩ := List.getLast?_eq_some_iff.1 e
  subst h2
  exact h (by simp) (by simp)
theorem digs_head (m : Nat) (h : m < 9223372036854775808) : (digs m).reverse.head? ≠ some 0 := head_ne _ (digsF_last 9 m (by omega))
/-- Digits without a zero ahead are those of their number. -/
theorem digs_of (l : List UInt8) (hl : l.length ≤ 8) (h : l.head? ≠ some 0) : digs (valB l) = l.reverse := by
  rw [valB_eq]
  refine digsF_valL 9 _ (by simp; omega) fun hn e => h ?_
  rw [← List.reverse_reverse l, List.head?_reverse, List.getLast?_eq_some_getLast hn, e]
def hdB (n : Int) (k : Nat) : UInt8 := if n < 0 then UInt8.ofNat (127 - k) else UInt8.ofNat (128 + k)
theorem intB_eq (n : Int) : intB n = hdB n (digs (magn n)).length :: (digs (magn n)).reverse.map (flipB n) := rfl
theorem hdB_nat (n : Int) (k : Nat) (h : k ≤ 8) : (hdB n k).toNat = if n < 0 then 127 - k else 128 + k := by
  unfold hdB
  split
  · rw [UInt8.toNat_ofNat_of_lt' (show _ < 256 by omega)]
  · rw [UInt8.toNat_ofNat_of_lt' (show _ < 256 by omega)]
theorem hdB_kOf (n : Int) (k : Nat) (h : k ≤ 8) : kOf (hdB n k) = k := by
  unfold kOf
  rw [hdB_nat n k h]
  split <;> split <;> omega
theorem hdB_neg (n : Int) (k : Nat) (h : k ≤ 8) : (hdB n k).toNat < 128 ↔ n < 0 := by
  rw [hdB_nat n k h]
  split
  · exact ⟨fun _ => by assumption, fun _ => by omega⟩
  · exact ⟨fun _ => by omega, fun _ => by omega⟩
theorem sub_sub_u8 (d : UInt8) : 255 - (255 - d) = d := by
  apply UInt8.toNat_inj.1
  have := d.toNat_lt
  rw [sub255, sub255]
  omega
theorem flD_flip (n : Int) (k : Nat) (h : k ≤ 8) (d : UInt8) : flD (hdB n k) (flipB n d) = d := by
  unfold flD flipB
  by_cases hn : n < 0
  · rw [if_pos ((hdB_neg n k h).2 hn), if_pos hn, sub_sub_u8]
  · rw [if_neg (fun e => hn ((hdB_neg n k h).1 e)), if_neg hn]
abbrev inR (n : Int) : Prop := -9223372036854775808 ≤ n ∧ n ≤ 9223372036854775807
theorem magn_lt {n : Int} (h : inR n) : magn n < 9223372036854775808 := by
  unfold magn
  split <;> omega
theorem magn_of (n : Int) : n = if n < 0 then -1 - (magn n : Int) else magn n := by
  unfold magn
  split <;> omega
theorem intB_len (n : Int) : (intB n).length = (digs (magn n)).length + 1 := by simp [intB_eq]
theorem intB_len9 {n : Int} (h : inR n) : 1 ≤ (intB n).length ∧ (intB n).length ≤ 9 := by
  have := digs_len _ (magn_lt h)
  rw [intB_len]
  omega
theorem gI_intB {n : Int} (h : inR n) (t : List UInt8) : gI (intB n ++ t) = (n, (intB n).length, 0) := by
  have hk := digs_len _ (magn_lt h)
  have hm := magn_lt h
  rw [intB_eq, List.cons_append]
  have hko := hdB_kOf n _ hk
  have hds : ((((digs (magn n)).reverse.map (flipB n) ++ t).take (digs (magn n)).length).map (flD (hdB n (digs (magn n)).length))) = (digs (magn n)).reverse := by
    rw [List.take_append_of_le_length (by simp), List.take_of_length_le (by simp), List.map_map]
    conv => rhs; rw [← List.map_id (digs (magn n)).reverse]
    exact List.map_congr_left fun d _ => flD_flip n _ hk d
  rw [gI_good (by omega) (by rw [hko]; simp), hko, hds, digs_val _ hm]
  · have := magn_of n
    by_cases hn : n < 0
    · rw [if_pos ((hdB_neg n _ hk).2 hn)]
      rw [if_pos hn] at this
      rw [← this]
      simp
    · rw [if_neg (fun e => hn ((hdB_neg n _ hk).1 e))]
      rw [if_neg hn] at this
      rw [← this]
      simp
  · rw [hko, hds, digs_val _ hm]
    rintro (h1 | h1)
    · exact digs_head _ hm h1
    · omega
theorem kOf_hd (h : UInt8) (n : Int) (hk : kOf h ≤ 8) (hn : n < 0 ↔ h.toNat < 128) : hdB n (kOf h) = h := by
  apply UInt8.toNat_inj.1
  rw [hdB_nat n _ hk]
  have := h.toNat_lt
  unfold kOf
  by_cases h1 : h.toNat < 128
  · rw [if_pos (hn.2 h1), if_pos h1]
    omega
  · rw [if_neg (fun e => h1 (hn.1 e)), if_neg h1]
    omega
theorem flip_flD (n : Int) (h d : UInt8) (hn : n < 0 ↔ h.toNat < 128) : flipB n (flD h d) = d := by
  unfold flD flipB
  by_cases h1 : h.toNat < 128
  · rw [if_pos (hn.2 h1), if_pos h1, sub_sub_u8]
  · rw [if_neg (fun e => h1 (hn.1 e)), if_neg h1]
theorem magn_sgn (m : Nat) (b : Prop) [Decidable b] : magn (if b then -1 - (m : Int) else m) = m ∧ ((if b then -1 - (m : Int) else m) < 0 ↔ b) := by
  by_cases hb : b
  · rw [if_pos hb]
    unfold magn
    rw [if_pos (by omega)]
    exact ⟨by omega, fun _ => hb, fun _ => by omega⟩
  · rw [if_neg hb]
    unfold magn
    rw [if_neg (by omega)]
    exact ⟨by omega, fun _ => by omega, fun h => absurd h hb⟩
/-- What is encoded of digits. -/
theorem intB_of (h : UInt8) (ds : List UInt8) (hk : kOf h = ds.length) (hl : ds.length ≤ 8) (hz : ds.head? ≠ some 0) :
    intB (if h.toNat < 128 then -1 - (valB ds : Int) else valB ds) = h :: ds.map (fun d => flipB (if h.toNat < 128 then -1 - (valB ds : Int) else valB ds) d) := by
  obtain ⟨h1, h2⟩ := magn_sgn (valB ds) (h.toNat < 128)
  rw [intB_eq, h1, digs_of ds hl hz, List.reverse_reverse, List.length_reverse, ← hk, kOf_hd h _ (by omega) h2]
theorem gI_ok {b : List UInt8} {n : Int} {u : Nat} (hg : gI b = (n, u, 0)) : u ≤ b.length ∧ b.take u = intB n ∧ inR n := by
  cases b with
  | nil => simp [gI] at hg
  | cons h t =>
    by_cases h1 : 8 < kOf h
    · rw [gI_form h1] at hg
      simp at hg
    · by_cases h2 : t.length < kOf h
      · rw [gI_more h1 h2] at hg
        simp at hg
      · by_cases h3 : ((t.take (kOf h)).map (flD h)).head? = some 0 ∨ 9223372036854775808 ≤ valB ((t.take (kOf h)).map (flD h))
        · rw [gI_bad h1 h2 h3] at hg
          simp at hg
        · rw [gI_good h1 h2 h3] at hg
          simp only [Prod.mk.injEq, and_true] at hg
          obtain ⟨rfl, rfl⟩ := hg
          have hdl : ((t.take (kOf h)).map (flD h)).length = kOf h := by simp; omega
          obtain ⟨ds, hds⟩ : ∃ ds, ds = (t.take (kOf h)).map (flD h) := ⟨_, rfl⟩
          rw [← hds] at h3 hdl ⊢
          obtain ⟨m1, m2⟩ := magn_sgn (valB ds) (h.toNat < 128)
          refine ⟨by simp; omega, ?_, ?_⟩
          · rw [intB_of h ds hdl.symm (by omega) (fun e => h3 (.inl e)), List.take_succ_cons, hds, List.map_map]
            rw [← hds]
            congr 1
            conv => lhs; rw [← List.map_id (t.take (kOf h))]
            exact List.map_congr_left fun d _ => (flip_flD _ h d m2).symm
          · constructor <;> split <;> omega
theorem gI_err {b : List UInt8} {n : Int} {u : Nat} {e : Int} (hg : gI b = (n, u, e)) : e = 0 ∨ (n = 0 ∧ u = 0 ∧ (e = 2 ∨ e = 3)) := by
  cases b with
  | nil =>
    simp [gI] at hg
    right
    omega
  | cons h t =>
    rw [gI] at hg
    split at hg
    · simp at hg
      right
      omega
    · split at hg
      · simp at hg
        right
        omega
      · split at hg
        · simp at hg
          right
          omega
        · simp only [Prod.mk.injEq] at hg
          exact .inl hg.2.2.symm
theorem gI_le (b : List UInt8) : (gI b).2.1 ≤ b.length := by
  obtain ⟨⟨n, u, e⟩, hg⟩ : ∃ x, x = gI b := ⟨_, rfl⟩
  rw [← hg]
  rcases gI_err hg.symm with h | h
  · subst h
    exact (gI_ok hg.symm).1
  · simp [h.2.1]
end Go.PM

namespace Go.PM
open Go.Proofs
attribute [local irreducible] W PCalls pcall pcallI WL
end Go.PM

namespace Go.PM
open Go.Proofs
attribute [local irreducible] W PCalls pcall pcallI WL
/-- The number of elements, the position, the error. -/
def gC (size : Nat) (b : List UInt8) : Int × Nat × Int :=
  if (gI b).2.2 ≠ 0 then (0, 0, (gI b).2.2)
  else if (gI b).1 < 0 then (0, 0, 2)
  else if ((b.length - (gI b).2.1 : Nat) : Int) / size < (gI b).1 then (0, 0, 3)
  else gI b
/-- What comes back: with an error the others do not matter. -/
def CRes (x : Int × Nat × Int) (res : PV) : Prop := ∃ n u : Int, res = .tuple [pint .i64 n, pint .i64 u, pint .i64 x.2.2] ∧ (x.2.2 = 0 → n = x.1 ∧ u = x.2.1)
theorem gI_vals (b : List UInt8) (hb : (b.length : Int) ≤ 4611686018427387904) : inR (gI b).1 ∧ (gI b).2.1 ≤ b.length ∧ 0 ≤ (gI b).2.2 ∧ (gI b).2.2 ≤ 3 := by
  have h1 := gI_le b
  obtain ⟨⟨n, u, e⟩, hg⟩ : ∃ x, x = gI b := ⟨_, rfl⟩
  rw [← hg] at h1 ⊢
  rcases gI_err hg.symm with h | h
  · subst h
    exact ⟨(gI_ok hg.symm).2.2, h1, by simp, by simp⟩
  · obtain ⟨rfl, rfl, h⟩ := h
    refine ⟨⟨by simp, by simp⟩, h1, ?_, ?_⟩ <;> simp only <;> omega
set_option maxRecDepth 100000 in
set_option maxHeartbeats 8000000 in
theorem count_c (G : Globs) (b : List UInt8) (size : Nat) (hs : 1 ≤ size) (hs2 : size ≤ 16) (hb : (b.length : Int) ≤ 4611686018427387904) :
    PCalls Try.prog G 52 [.list 1 (b.map pbyte), pint .i64 size] [] (fun res H => CRes (gC size b) res ∧ H = []) := by
  obtain ⟨hn, hu, he0, he3⟩ := gI_vals b hb
  (refine PCalls_f Try.func52 rfl Try.ntmps52 Try.results52 (by simp) fun fin hfin => ?_; have hnm : True := trivial; simp only [ev, simprocAttr])
  repeat' (first
    | (with_reducible apply W_seq_k; intro nx hnx)
    | (with_reducible first | refine wr 115 ?_)
    | ((with_reducible first | (apply WL_op; intro nx hnx) | refine Ev_out ?_ | refine wc ?_); try (simp (maxSteps := 2000000) (disch := omega) only [ev, ↓evp, PV.cells, PV.one, PV.mem?, Value.cells, simprocAttr, hnm, Try.tf0, Try.tf1, Try.tf2, Try.tf3, Try.tf4, Try.tf5, Try.tf33, Try.tf34, Try.tf88, Try.call56]))
    | ((with_reducible first | apply W_block | apply W_scope | apply WL_nil | apply W_label | apply W_skip | apply W_exit | apply W_ret) <;> try simp only [kks, simprocAttr])
    | (with_reducible apply pg <;> (intro hc; (try simp only [hcb, simprocAttr, ne_eq, forall_const] at hc); first | (exfalso; omega) | exact absurd trivial hc | skip))
    | (with_reducible apply hnx; clear hnx nx)
    | (with_reducible refine And.intro (by omega) ?_)
    | (with_reducible refine And.intro ?_ ?_)
    | (clear hnx nx; with_reducible apply hnx; clear hnx nx)
    | (clear hnx nx; clear hnx nx; with_reducible apply hnx; clear hnx nx))
  refine pcall_k (getInt_c G b hb) ?_
  rintro _ _ ⟨rfl, rfl⟩ -
  obtain ⟨⟨n, u, e⟩, hg⟩ : ∃ x, x = gI b := ⟨_, rfl⟩
  rw [← hg] at hn hu he0 he3
  simp only at hn hu he0 he3
  have hq : ((b.length : Int) - u).tdiv size = ((b.length - u : Nat) : Int) / size := by
    rw [Int.tdiv_eq_ediv_of_nonneg (by omega)]
    congr 1
    omega
  have hq2 : 0 ≤ ((b.length - u : Nat) : Int) / size := Int.ediv_nonneg (by omega) (by omega)
  have hq3 : ((b.length - u : Nat) : Int) / size ≤ ((b.length - u : Nat) : Int) := Int.ediv_le_self _ (by omega)
  simp only [t3]
  rw [← hg]
  refine Ev_in ?_
  repeat' (first
    | (with_reducible apply W_seq_k; intro nx hnx)
    | (with_reducible first | refine wr 115 ?_)
    | ((with_reducible first | (apply WL_op; intro nx hnx) | refine Ev_out ?_ | refine wc ?_); try (simp (maxSteps := 2000000) (disch := omega) only [ev, ↓evp, PV.cells, PV.one, PV.mem?, Value.cells, simprocAttr, hnm, Try.tf0, Try.tf1, Try.tf2, Try.tf3, Try.tf4, Try.tf5, Try.tf33, Try.tf34, Try.tf88, Try.call56, hq]))
    | ((with_reducible first | apply W_block | apply W_scope | apply WL_nil | apply W_label | apply W_skip | apply W_exit | apply W_ret) <;> try simp only [kks, simprocAttr])
    | (with_reducible apply pg <;> (intro hc; (try simp only [hcb, simprocAttr, ne_eq, forall_const] at hc); first | (exfalso; omega) | exact absurd trivial hc | skip))
    | (with_reducible apply hnx; clear hnx nx)
    | (with_reducible refine And.intro (by omega) ?_)
    | (with_reducible refine And.intro ?_ ?_)
    | (clear hnx nx; with_reducible apply hnx; clear hnx nx)
    | (clear hnx nx; clear hnx nx; with_reducible apply hnx; clear hnx nx))
  all_goals
    refine hfin _ _ (Fin_ret3 rfl rfl rfl (Sub_nil _) ?_); simp only [cob, simprocAttr]
    refine ⟨⟨n, u, ?_⟩, by trivial⟩
    unfold gC
    rw [← hg]
    simp only
  · rw [if_pos hc]
    exact ⟨rfl, fun h => absurd h hc⟩
  · rw [if_neg (by omega), if_pos hc]
    exact ⟨rfl, fun h => absurd h (by decide)⟩
  · rw [if_neg (by omega), if_neg (by omega), if_pos hc]
    exact ⟨rfl, fun h => absurd h (by decide)⟩
  · rw [if_neg (by omega), if_neg (by omega), if_neg (by omega)]
    exact ⟨rfl, fun _ => ⟨rfl, rfl⟩⟩
end Go.PM

namespace Go.PM
open Go.Proofs
attribute [local irreducible] W PCalls pcall pcallI WL
def bytesB (s : List UInt8) : List UInt8 := intB s.length ++ s
/-- The encoding of a list, given that of an element. -/
def encL {α : Type} (enc : α → List UInt8) (l : List α) : List UInt8 := intB l.length ++ l.flatMap enc
abbrev RowB (x : List UInt8) (res : PV) (H : Heap) : Prop := ∃ N, res = .row N 1 x.length ∧ H = [(N, ⟨5, true, 1, x.map pbyte⟩)]
theorem RowB.frz {G : Globs} {f : FuncId} {args : List PV} {x : List UInt8} (h : PCalls Try.prog G f args [] (RowB x)) : PCalls Try.prog G f args [] (fun res H => res = .list 1 (x.map pbyte) ∧ H = []) :=
  h.frz_row (xs := x.map pbyte) fun res H h => by
    obtain ⟨N, h1, h2⟩ := h
    exact ⟨N, 5, by rw [List.length_map]; exact h1, h2⟩
theorem flat_pb (l : List UInt8) : flat (l.map pbyte) = l.map pbyte := by
  induction l with
  | nil => rfl
  | cons x l ih =>
    simp only [flat, List.map_cons, List.flatMap_cons] at ih ⊢
    rw [ih]
    rfl
def preE {α : Type} (enc : α → List UInt8) (l : List α) (i : Nat) : List UInt8 := intB l.length ++ (l.take i).flatMap enc
theorem preE_zero {α : Type} (enc : α → List UInt8) (l : List α) : preE enc l 0 = intB l.length := by simp [preE]
theorem preE_succ {α : Type} (enc : α → List UInt8) (l : List α) (i : Nat) (h : i < l.length) : preE enc l (i + 1) = preE enc l i ++ enc l[i] := by
  rw [preE, List.take_add_one, List.getElem?_eq_getElem h, Option.toList_some, List.flatMap_append, ← List.append_assoc, List.flatMap_singleton]
  rfl
theorem preE_all {α : Type} (enc : α → List UInt8) (l : List α) (i : Nat) (h : l.length ≤ i) : preE enc l i = encL enc l := by
  rw [preE, List.take_of_length_le h]
  rfl
theorem preE_le {α : Type} (enc : α → List UInt8) (l : List α) (i : Nat) : (preE enc l i).length ≤ (encL enc l).length := by
  have h : encL enc l = preE enc l i ++ (l.drop i).flatMap enc := by
    rw [encL, preE, List.append_assoc, ← List.flatMap_append, List.take_append_drop]
  rw [h, List.length_append]
  omega
set_option maxRecDepth 100000 in
set_option maxHeartbeats 8000000 in
theorem wbytes_r (G : Globs) (s : List UInt8) (hs : s.length ≤ 4294967296) : PCalls Try.prog G 27 [pstr s] [] (RowB (bytesB s)) := by
  have h9 := intB_len9 (n := s.length) ⟨by omega, by omega⟩
  (refine PCalls_f Try.func27 rfl Try.ntmps27 Try.results27 (by simp) fun fin hfin => ?_; have hnm : True := trivial; simp only [ev, simprocAttr])
  repeat' (first
    | (with_reducible apply W_seq_k; intro nx hnx)
    | (with_reducible first | refine wr 5 ?_)
    | ((with_reducible first | (apply WL_op; intro nx hnx) | refine Ev_out ?_ | refine wc ?_ | (refine pf hnm fun nm hnm => ?_; try simp only [fmb] at hnm) | (refine pm hnm fun nm hnm => ?_; try simp only [fmb] at hnm)); try (simp (maxSteps := 2000000) (disch := omega) only [ev, ↓evp, PV.cells, PV.one, PV.mem?, Value.cells, simprocAttr, hnm, Try.tf3, Try.tf5, Try.tf9, Try.tf33, Try.call43]))
    | ((with_reducible first | apply W_block | apply W_scope | apply WL_nil | apply W_label | apply W_skip | apply W_exit | apply W_ret) <;> try simp only [kks, simprocAttr])
    | (with_reducible apply hnx; clear hnx nx)
    | (with_reducible refine And.intro (by omega) ?_)
    | (with_reducible refine And.intro ?_ ?_)
    | (clear hnx nx; with_reducible apply hnx; clear hnx nx)
    | (clear hnx nx; clear hnx nx; with_reducible apply hnx; clear hnx nx))
  refine pcall_k (wint_r G s.length (by omega) (by omega)) ?_
  rintro _ _ ⟨N, rfl, rfl⟩ -
  refine Ev_in ?_
  repeat' (first
    | (with_reducible apply W_seq_k; intro nx hnx)
    | (with_reducible first | refine wr 5 ?_)
    | ((with_reducible first | (apply WL_op; intro nx hnx) | refine Ev_out ?_ | refine wc ?_ | (refine pf hnm fun nm hnm => ?_; try simp only [fmb] at hnm) | (refine pm hnm fun nm hnm => ?_; try simp only [fmb] at hnm)); try (simp (maxSteps := 2000000) (disch := omega) only [ev, ↓evp, PV.cells, PV.one, PV.mem?, Value.cells, simprocAttr, hnm, Try.tf3, Try.tf5, Try.tf9, Try.tf33, Try.call43]))
    | ((with_reducible first | apply W_block | apply W_scope | apply WL_nil | apply W_label | apply W_skip | apply W_exit | apply W_ret) <;> try simp only [kks, simprocAttr])
    | (with_reducible apply hnx; clear hnx nx)
    | (with_reducible refine And.intro (by omega) ?_)
    | (with_reducible refine And.intro ?_ ?_)
    | (clear hnx nx; with_reducible apply hnx; clear hnx nx)
    | (clear hnx nx; clear hnx nx; with_reducible apply hnx; clear hnx nx))
  all_goals first
    | exact rfl
    | (rw [bytes_length]
       omega)
    | (refine hfin _ _ (Fin_ret1 rfl (Sub_refl (by simp [names])) ?_); simp only [cob, simprocAttr]
       refine ⟨nm, ?_, ?_⟩
       · simp [bytesB, bytes_length]
       · simp only [bytesB, bytes, flat_pb, List.map_append])
theorem wbytes_c (G : Globs) (s : List UInt8) (hs : s.length ≤ 4294967296) : PCalls Try.prog G 27 [pstr s] [] (fun res H => res = .list 1 ((bytesB s).map pbyte) ∧ H = []) := RowB.frz (wbytes_r G s hs)
set_option maxRecDepth 100000 in
set_option maxHeartbeats 8000000 in
theorem rbytes_r (G : Globs) (s : List UInt8) (hs : s.length ≤ 4294967296) : PCalls Try.prog G 35 [pstr s] [] (RowB (bytesB s)) := by
  have h9 := intB_len9 (n := s.length) ⟨by omega, by omega⟩
  (refine PCalls_f Try.func35 rfl Try.ntmps35 Try.results35 (by simp) fun fin hfin => ?_; have hnm : True := trivial; simp only [ev, simprocAttr])
  repeat' (first
    | (with_reducible apply W_seq_k; intro nx hnx)
    | (with_reducible first | refine wr 5 ?_)
    | ((with_reducible first | (apply WL_op; intro nx hnx) | refine Ev_out ?_ | refine wc ?_ | (refine pf hnm fun nm hnm => ?_; try simp only [fmb] at hnm) | (refine pm hnm fun nm hnm => ?_; try simp only [fmb] at hnm)); try (simp (maxSteps := 2000000) (disch := omega) only [ev, ↓evp, PV.cells, PV.one, PV.mem?, Value.cells, simprocAttr, hnm, Try.tf3, Try.tf5, Try.tf9, Try.tf33, Try.call45]))
    | ((with_reducible first | apply W_block | apply W_scope | apply WL_nil | apply W_label | apply W_skip | apply W_exit | apply W_ret) <;> try simp only [kks, simprocAttr])
    | (with_reducible apply hnx; clear hnx nx)
    | (with_reducible refine And.intro (by omega) ?_)
    | (with_reducible refine And.intro ?_ ?_)
    | (clear hnx nx; with_reducible apply hnx; clear hnx nx)
    | (clear hnx nx; clear hnx nx; with_reducible apply hnx; clear hnx nx))
  refine pcall_k (rint_r G s.length (by omega) (by omega)) ?_
  rintro _ _ ⟨N, rfl, rfl⟩ -
  refine Ev_in ?_
  repeat' (first
    | (with_reducible apply W_seq_k; intro nx hnx)
    | (with_reducible first | refine wr 5 ?_)
    | ((with_reducible first | (apply WL_op; intro nx hnx) | refine Ev_out ?_ | refine wc ?_ | (refine pf hnm fun nm hnm => ?_; try simp only [fmb] at hnm) | (refine pm hnm fun nm hnm => ?_; try simp only [fmb] at hnm)); try (simp (maxSteps := 2000000) (disch := omega) only [ev, ↓evp, PV.cells, PV.one, PV.mem?, Value.cells, simprocAttr, hnm, Try.tf3, Try.tf5, Try.tf9, Try.tf33, Try.call45]))
    | ((with_reducible first | apply W_block | apply W_scope | apply WL_nil | apply W_label | apply W_skip | apply W_exit | apply W_ret) <;> try simp only [kks, simprocAttr])
    | (with_reducible apply hnx; clear hnx nx)
    | (with_reducible refine And.intro (by omega) ?_)
    | (with_reducible refine And.intro ?_ ?_)
    | (clear hnx nx; with_reducible apply hnx; clear hnx nx)
    | (clear hnx nx; clear hnx nx; with_reducible apply hnx; clear hnx nx))
  all_goals first
    | exact rfl
    | (rw [bytes_length]
       omega)
    | (refine hfin _ _ (Fin_ret1 rfl (Sub_refl (by simp [names])) ?_); simp only [cob, simprocAttr]
       refine ⟨nm, ?_, ?_⟩
       · simp [bytesB, bytes_length]
       · simp only [bytesB, bytes, flat_pb, List.map_append])
theorem rbytes_c (G : Globs) (s : List UInt8) (hs : s.length ≤ 4294967296) : PCalls Try.prog G 35 [pstr s] [] (fun res H => res = .list 1 ((bytesB s).map pbyte) ∧ H = []) := RowB.frz (rbytes_r G s hs)
set_option maxRecDepth 100000 in
set_option maxHeartbeats 8000000 in
theorem wints_r (G : Globs) (l : List (Int)) (hv : ∀ n ∈ l, inR n) (hl : (encL intB l).length ≤ 4294967296) (hl2 : l.length ≤ 4294967296) : PCalls Try.prog G 26 [.list 1 (l.map (pint .i64))] [] (RowB (encL intB l)) := by
  (refine PCalls_f Try.func26 rfl Try.ntmps26 Try.results26 (by simp) fun fin hfin => ?_; have hnm : True := trivial; simp only [ev, simprocAttr])
  repeat' (first
    | (with_reducible apply W_seq_k; intro nx hnx)
    | (with_reducible first | refine wr 3629 ?_)
    | ((with_reducible first | (apply WL_op; intro nx hnx) | refine Ev_out ?_ | refine wc ?_ | (refine pf hnm fun nm hnm => ?_; try simp only [fmb] at hnm) | (refine pm hnm fun nm hnm => ?_; try simp only [fmb] at hnm)); try (simp (maxSteps := 2000000) (disch := omega) only [ev, ↓evp, PV.cells, PV.one, PV.mem?, Value.cells, simprocAttr, hnm, Try.tf0, Try.tf3, Try.tf5, Try.tf23, Try.tf33, Try.call43]))
    | ((with_reducible first | apply W_block | apply W_scope | apply WL_nil | apply W_label | apply W_skip | apply W_exit | apply W_ret) <;> try simp only [kks, simprocAttr])
    | (with_reducible apply pg <;> (intro hc; (try simp only [hcb, simprocAttr, ne_eq, forall_const] at hc); first | (exfalso; omega) | exact absurd trivial hc | skip))
    | (with_reducible apply hnx; clear hnx nx)
    | (with_reducible refine And.intro (by omega) ?_)
    | (with_reducible refine And.intro ?_ ?_)
    | (clear hnx nx; with_reducible apply hnx; clear hnx nx)
    | (clear hnx nx; clear hnx nx; with_reducible apply hnx; clear hnx nx))
  refine pcall_k (wint_r G l.length (by omega) (by omega)) ?_
  rintro _ _ ⟨N0, rfl, rfl⟩ -
  refine Ev_in ?_
  repeat' (first
    | (with_reducible apply W_seq_k; intro nx hnx)
    | (with_reducible first | refine wr 3629 ?_)
    | ((with_reducible first | (apply WL_op; intro nx hnx) | refine Ev_out ?_ | refine wc ?_ | (refine pf hnm fun nm hnm => ?_; try simp only [fmb] at hnm) | (refine pm hnm fun nm hnm => ?_; try simp only [fmb] at hnm)); try (simp (maxSteps := 2000000) (disch := omega) only [ev, ↓evp, PV.cells, PV.one, PV.mem?, Value.cells, simprocAttr, hnm, Try.tf0, Try.tf3, Try.tf5, Try.tf23, Try.tf33, Try.call43]))
    | ((with_reducible first | apply W_block | apply W_scope | apply WL_nil | apply W_label | apply W_skip | apply W_exit | apply W_ret) <;> try simp only [kks, simprocAttr])
    | (with_reducible apply pg <;> (intro hc; (try simp only [hcb, simprocAttr, ne_eq, forall_const] at hc); first | (exfalso; omega) | exact absurd trivial hc | skip))
    | (with_reducible apply hnx; clear hnx nx)
    | (with_reducible refine And.intro (by omega) ?_)
    | (with_reducible refine And.intro ?_ ?_)
    | (clear hnx nx; with_reducible apply hnx; clear hnx nx)
    | (clear hnx nx; clear hnx nx; with_reducible apply hnx; clear hnx nx))
  refine W_loop_k (fun z τ => ∃ (i : Nat) (N : Int), i ≤ l.length ∧ z = l.length - i ∧ τ = ⟨fr 21 [(3, .row N 1 (preE intB l i).length), (9, .list 1 (l.map (pint .i64))), (10, pint .i64 l.length), (11, pint .i64 i)], [(N, ⟨5, true, 1, (preE intB l i).map pbyte⟩)]⟩) l.length ⟨fr 21 [(3, .row N0 1 (preE intB l 0).length), (9, .list 1 (l.map (pint .i64))), (10, pint .i64 l.length), (11, pint .i64 (0 : Nat))], [(N0, ⟨5, true, 1, (preE intB l 0).map pbyte⟩)]⟩ (by
    rw [preE_zero]
    exact Wk_fr (by simp only [wkb, simprocAttr]) ⟨by simp, by simp [names]⟩) ⟨0, N0, by omega, by omega, rfl⟩ ?_
  rintro z τ ⟨i, N, hi', rfl, rfl⟩ lp hlp
  have hle := preE_le intB l (i + 1)
  by_cases hi : i < l.length
  · rw [preE_succ intB l i hi, List.length_append] at hle
    repeat' (first
    | (with_reducible apply W_seq_k; intro nx hnx)
    | (with_reducible first | refine wr 3629 ?_)
    | ((with_reducible first | (apply WL_op; intro nx hnx) | refine Ev_out ?_ | refine wc ?_ | (refine pf hnm fun nm hnm => ?_; try simp only [fmb] at hnm) | (refine pm hnm fun nm hnm => ?_; try simp only [fmb] at hnm)); try (simp (maxSteps := 2000000) (disch := omega) only [ev, ↓evp, PV.cells, PV.one, PV.mem?, Value.cells, simprocAttr, hnm, Try.tf0, Try.tf3, Try.tf5, Try.tf23, Try.tf33, Try.call43]))
    | ((with_reducible first | apply W_block | apply W_scope | apply WL_nil | apply W_label | apply W_skip | apply W_exit | apply W_ret) <;> try simp only [kks, simprocAttr])
    | (with_reducible apply pg <;> (intro hc; (try simp only [hcb, simprocAttr, ne_eq, forall_const] at hc); first | (exfalso; omega) | exact absurd trivial hc | skip))
    | (with_reducible apply hnx; clear hnx nx)
    | (with_reducible refine And.intro (by omega) ?_)
    | (with_reducible refine And.intro ?_ ?_)
    | (clear hnx nx; with_reducible apply hnx; clear hnx nx)
    | (clear hnx nx; clear hnx nx; with_reducible apply hnx; clear hnx nx))
    all_goals first
      | (exfalso
         omega)
      | skip
    refine pcall_k (wint_c G l[i] (hv _ (List.getElem_mem hi)).1 (hv _ (List.getElem_mem hi)).2) ?_
    rintro _ _ ⟨rfl, rfl⟩ -
    refine Ev_in ?_
    repeat' (first
    | (with_reducible apply W_seq_k; intro nx hnx)
    | (with_reducible first | refine wr 3629 ?_)
    | ((with_reducible first | (apply WL_op; intro nx hnx) | refine Ev_out ?_ | refine wc ?_ | (refine pf hnm fun nm hnm => ?_; try simp only [fmb] at hnm) | (refine pm hnm fun nm hnm => ?_; try simp only [fmb] at hnm)); try (simp (maxSteps := 2000000) (disch := omega) only [ev, ↓evp, PV.cells, PV.one, PV.mem?, Value.cells, simprocAttr, hnm, Try.tf0, Try.tf3, Try.tf5, Try.tf23, Try.tf33, Try.call43, flat_pb]))
    | ((with_reducible first | apply W_block | apply W_scope | apply WL_nil | apply W_label | apply W_skip | apply W_exit | apply W_ret) <;> try simp only [kks, simprocAttr])
    | (with_reducible apply pg <;> (intro hc; (try simp only [hcb, simprocAttr, ne_eq, forall_const] at hc); first | (exfalso; omega) | exact absurd trivial hc | skip))
    | (with_reducible apply hnx; clear hnx nx)
    | (with_reducible refine And.intro (by omega) ?_)
    | (with_reducible refine And.intro ?_ ?_)
    | (clear hnx nx; with_reducible apply hnx; clear hnx nx)
    | (clear hnx nx; clear hnx nx; with_reducible apply hnx; clear hnx nx))
    all_goals first
      | (refine hlp _ (l.length - (i + 1)) _ (by omega) ?_ ⟨i + 1, nm, by omega, rfl, rfl⟩
         rw [preE_succ intB l i hi, List.length_append, List.map_append]
         exact Wk_fr (by simp only [wkb, simprocAttr]) ⟨by simp, by simp [names]⟩)
  · repeat' (first
    | (with_reducible apply W_seq_k; intro nx hnx)
    | (with_reducible first | refine wr 3629 ?_)
    | ((with_reducible first | (apply WL_op; intro nx hnx) | refine Ev_out ?_ | refine wc ?_ | (refine pf hnm fun nm hnm => ?_; try simp only [fmb] at hnm) | (refine pm hnm fun nm hnm => ?_; try simp only [fmb] at hnm)); try (simp (maxSteps := 2000000) (disch := omega) only [ev, ↓evp, PV.cells, PV.one, PV.mem?, Value.cells, simprocAttr, hnm, Try.tf0, Try.tf3, Try.tf5, Try.tf23, Try.tf33, Try.call43]))
    | ((with_reducible first | apply W_block | apply W_scope | apply WL_nil | apply W_label | apply W_skip | apply W_exit | apply W_ret) <;> try simp only [kks, simprocAttr])
    | (with_reducible apply pg <;> (intro hc; (try simp only [hcb, simprocAttr, ne_eq, forall_const] at hc); first | (exfalso; omega) | exact absurd trivial hc | skip))
    | (with_reducible apply hnx; clear hnx nx)
    | (with_reducible refine And.intro (by omega) ?_)
    | (with_reducible refine And.intro ?_ ?_)
    | (clear hnx nx; with_reducible apply hnx; clear hnx nx)
    | (clear hnx nx; clear hnx nx; with_reducible apply hnx; clear hnx nx))
    all_goals first
      | (exfalso
         omega)
      | (refine hfin _ _ (Fin_ret1 rfl (Sub_refl (by simp [names])) ?_); simp only [cob, simprocAttr]
         rw [preE_all intB l i (by omega)]
         exact ⟨N, rfl, rfl⟩)
theorem wints_c (G : Globs) (l : List (Int)) (hv : ∀ n ∈ l, inR n) (hl : (encL intB l).length ≤ 4294967296) (hl2 : l.length ≤ 4294967296) : PCalls Try.prog G 26 [.list 1 (l.map (pint .i64))] [] (fun res H => res = .list 1 ((encL intB l).map pbyte) ∧ H = []) := RowB.frz (wints_r G l hv hl hl2)
set_option maxRecDepth 100000 in
set_option maxHeartbeats 8000000 in
theorem rints_r (G : Globs) (l : List (Int)) (hv : ∀ n ∈ l, inR n) (hl : (encL intB l).length ≤ 4294967296) (hl2 : l.length ≤ 4294967296) : PCalls Try.prog G 34 [.list 1 (l.map (pint .i64))] [] (RowB (encL intB l)) := by
  (refine PCalls_f Try.func34 rfl Try.ntmps34 Try.results34 (by simp) fun fin hfin => ?_; have hnm : True := trivial; simp only [ev, simprocAttr])
  repeat' (first
    | (with_reducible apply W_seq_k; intro nx hnx)
    | (with_reducible first | refine wr 29 ?_)
    | ((with_reducible first | (apply WL_op; intro nx hnx) | refine Ev_out ?_ | refine wc ?_ | (refine pf hnm fun nm hnm => ?_; try simp only [fmb] at hnm) | (refine pm hnm fun nm hnm => ?_; try simp only [fmb] at hnm)); try (simp (maxSteps := 2000000) (disch := omega) only [ev, ↓evp, PV.cells, PV.one, PV.mem?, Value.cells, simprocAttr, hnm, Try.tf0, Try.tf3, Try.tf4, Try.tf5, Try.tf23, Try.tf33, Try.call45]))
    | ((with_reducible first | apply W_block | apply W_scope | apply WL_nil | apply W_label | apply W_skip | apply W_exit | apply W_ret) <;> try simp only [kks, simprocAttr])
    | (with_reducible apply pg <;> (intro hc; (try simp only [hcb, simprocAttr, ne_eq, forall_const] at hc); first | (exfalso; omega) | exact absurd trivial hc | skip))
    | (with_reducible apply hnx; clear hnx nx)
    | (with_reducible refine And.intro (by omega) ?_)
    | (with_reducible refine And.intro ?_ ?_)
    | (clear hnx nx; with_reducible apply hnx; clear hnx nx)
    | (clear hnx nx; clear hnx nx; with_reducible apply hnx; clear hnx nx))
  refine pcall_k (rint_r G l.length (by omega) (by omega)) ?_
  rintro _ _ ⟨N0, rfl, rfl⟩ -
  refine Ev_in ?_
  repeat' (first
    | (with_reducible apply W_seq_k; intro nx hnx)
    | (with_reducible first | refine wr 29 ?_)
    | ((with_reducible first | (apply WL_op; intro nx hnx) | refine Ev_out ?_ | refine wc ?_ | (refine pf hnm fun nm hnm => ?_; try simp only [fmb] at hnm) | (refine pm hnm fun nm hnm => ?_; try simp only [fmb] at hnm)); try (simp (maxSteps := 2000000) (disch := omega) only [ev, ↓evp, PV.cells, PV.one, PV.mem?, Value.cells, simprocAttr, hnm, Try.tf0, Try.tf3, Try.tf4, Try.tf5, Try.tf23, Try.tf33, Try.call45]))
    | ((with_reducible first | apply W_block | apply W_scope | apply WL_nil | apply W_label | apply W_skip | apply W_exit | apply W_ret) <;> try simp only [kks, simprocAttr])
    | (with_reducible apply pg <;> (intro hc; (try simp only [hcb, simprocAttr, ne_eq, forall_const] at hc); first | (exfalso; omega) | exact absurd trivial hc | skip))
    | (with_reducible apply hnx; clear hnx nx)
    | (with_reducible refine And.intro (by omega) ?_)
    | (with_reducible refine And.intro ?_ ?_)
    | (clear hnx nx; with_reducible apply hnx; clear hnx nx)
    | (clear hnx nx; clear hnx nx; with_reducible apply hnx; clear hnx nx))
  refine W_loop_k (fun z τ => ∃ (i : Nat) (N : Int), i ≤ l.length ∧ z = l.length - i ∧ τ = ⟨fr 22 [(3, .row N 1 (preE intB l i).length), (0, .list 1 (l.map (pint .i64))), (4, pint .i64 i)], [(N, ⟨5, true, 1, (preE intB l i).map pbyte⟩)]⟩) l.length ⟨fr 22 [(3, .row N0 1 (preE intB l 0).length), (0, .list 1 (l.map (pint .i64))), (4, pint .i64 (0 : Nat))], [(N0, ⟨5, true, 1, (preE intB l 0).map pbyte⟩)]⟩ (by
    rw [preE_zero]
    exact Wk_fr (by simp only [wkb, simprocAttr]) ⟨by simp, by simp [names]⟩) ⟨0, N0, by omega, by omega, rfl⟩ ?_
  rintro z τ ⟨i, N, hi', rfl, rfl⟩ lp hlp
  have hle := preE_le intB l (i + 1)
  by_cases hi : i < l.length
  · rw [preE_succ intB l i hi, List.length_append] at hle
    repeat' (first
    | (with_reducible apply W_seq_k; intro nx hnx)
    | (with_reducible first | refine wr 29 ?_)
    | ((with_reducible first | (apply WL_op; intro nx hnx) | refine Ev_out ?_ | refine wc ?_ | (refine pf hnm fun nm hnm => ?_; try simp only [fmb] at hnm) | (refine pm hnm fun nm hnm => ?_; try simp only [fmb] at hnm)); try (simp (maxSteps := 2000000) (disch := omega) only [ev, ↓evp, PV.cells, PV.one, PV.mem?, Value.cells, simprocAttr, hnm, Try.tf0, Try.tf3, Try.tf4, Try.tf5, Try.tf23, Try.tf33, Try.call45]))
    | ((with_reducible first | apply W_block | apply W_scope | apply WL_nil | apply W_label | apply W_skip | apply W_exit | apply W_ret) <;> try simp only [kks, simprocAttr])
    | (with_reducible apply pg <;> (intro hc; (try simp only [hcb, simprocAttr, ne_eq, forall_const] at hc); first | (exfalso; omega) | exact absurd trivial hc | skip))
    | (with_reducible apply hnx; clear hnx nx)
    | (with_reducible refine And.intro (by omega) ?_)
    | (with_reducible refine And.intro ?_ ?_)
    | (clear hnx nx; with_reducible apply hnx; clear hnx nx)
    | (clear hnx nx; clear hnx nx; with_reducible apply hnx; clear hnx nx))
    all_goals first
      | (exfalso
         omega)
      | skip
    refine pcall_k (rint_c G l[i] (hv _ (List.getElem_mem hi)).1 (hv _ (List.getElem_mem hi)).2) ?_
    rintro _ _ ⟨rfl, rfl⟩ -
    refine Ev_in ?_
    repeat' (first
    | (with_reducible apply W_seq_k; intro nx hnx)
    | (with_reducible first | refine wr 29 ?_)
    | ((with_reducible first | (apply WL_op; intro nx hnx) | refine Ev_out ?_ | refine wc ?_ | (refine pf hnm fun nm hnm => ?_; try simp only [fmb] at hnm) | (refine pm hnm fun nm hnm => ?_; try simp only [fmb] at hnm)); try (simp (maxSteps := 2000000) (disch := omega) only [ev, ↓evp, PV.cells, PV.one, PV.mem?, Value.cells, simprocAttr, hnm, Try.tf0, Try.tf3, Try.tf4, Try.tf5, Try.tf23, Try.tf33, Try.call45, flat_pb]))
    | ((with_reducible first | apply W_block | apply W_scope | apply WL_nil | apply W_label | apply W_skip | apply W_exit | apply W_ret) <;> try simp only [kks, simprocAttr])
    | (with_reducible apply pg <;> (intro hc; (try simp only [hcb, simprocAttr, ne_eq, forall_const] at hc); first | (exfalso; omega) | exact absurd trivial hc | skip))
    | (with_reducible apply hnx; clear hnx nx)
    | (with_reducible refine And.intro (by omega) ?_)
    | (with_reducible refine And.intro ?_ ?_)
    | (clear hnx nx; with_reducible apply hnx; clear hnx nx)
    | (clear hnx nx; clear hnx nx; with_reducible apply hnx; clear hnx nx))
    all_goals first
      | (refine hlp _ (l.length - (i + 1)) _ (by omega) ?_ ⟨i + 1, nm, by omega, rfl, rfl⟩
         rw [preE_succ intB l i hi, List.length_append, List.map_append]
         exact Wk_fr (by simp only [wkb, simprocAttr]) ⟨by simp, by simp [names]⟩)
  · repeat' (first
    | (with_reducible apply W_seq_k; intro nx hnx)
    | (with_reducible first | refine wr 29 ?_)
    | ((with_reducible first | (apply WL_op; intro nx hnx) | refine Ev_out ?_ | refine wc ?_ | (refine pf hnm fun nm hnm => ?_; try simp only [fmb] at hnm) | (refine pm hnm fun nm hnm => ?_; try simp only [fmb] at hnm)); try (simp (maxSteps := 2000000) (disch := omega) only [ev, ↓evp, PV.cells, PV.one, PV.mem?, Value.cells, simprocAttr, hnm, Try.tf0, Try.tf3, Try.tf4, Try.tf5, Try.tf23, Try.tf33, Try.call45]))
    | ((with_reducible first | apply W_block | apply W_scope | apply WL_nil | apply W_label | apply W_skip | apply W_exit | apply W_ret) <;> try simp only [kks, simprocAttr])
    | (with_reducible apply pg <;> (intro hc; (try simp only [hcb, simprocAttr, ne_eq, forall_const] at hc); first | (exfalso; omega) | exact absurd trivial hc | skip))
    | (with_reducible apply hnx; clear hnx nx)
    | (with_reducible refine And.intro (by omega) ?_)
    | (with_reducible refine And.intro ?_ ?_)
    | (clear hnx nx; with_reducible apply hnx; clear hnx nx)
    | (clear hnx nx; clear hnx nx; with_reducible apply hnx; clear hnx nx))
    all_goals first
      | (exfalso
         omega)
      | (refine hfin _ _ (Fin_ret1 rfl (Sub_refl (by simp [names])) ?_); simp only [cob, simprocAttr]
         rw [preE_all intB l i (by omega)]
         exact ⟨N, rfl, rfl⟩)
end Go.PM

namespace Go.PM
open Go.Proofs
attribute [local irreducible] W PCalls pcall pcallI WL
theorem q_low (m j : Nat) : IntKind.u8.wrap (((m / 256 ^ j : Nat) : Int).tmod 256) = ((m / 256 ^ j % 256 : Nat) : Int) := by
  generalize m / 256 ^ j = y
  rw [Int.tmod_eq_emod_of_nonneg (Int.natCast_nonneg _)]
  rw [show (y : Int) % 256 = ((y % 256 : Nat) : Int) by omega, wr8mod]
  omega
theorem le1_pb (h : UInt64) (j : Nat) : pint .u8 ((h.toNat / 256 ^ j % 256 : Nat) : Int) = pbyte (le1 h j) := by
  have h2 : (UInt8.ofNat (h.toNat / 256 ^ j % 256)).toNat = h.toNat / 256 ^ j % 256 := UInt8.toNat_ofNat_of_lt' (Nat.mod_lt _ (by decide))
  show pint .u8 _ = pint .u8 ((le1 h j).toNat : Int)
  rw [le1, h2]
theorem q_next (m j : Nat) (hm : m < 18446744073709551616) : IntKind.u64.wrap (((m / 256 ^ j : Nat) : Int).tdiv 256) = ((m / 256 ^ (j + 1) : Nat) : Int) := by
  have h1 : m / 256 ^ j ≤ m := Nat.div_le_self _ _
  rw [Int.tdiv_eq_ediv_of_nonneg (Int.natCast_nonneg _), wrap_q]
  rw [Nat.pow_succ, ← Nat.div_div_eq_div_mul]
  generalize m / 256 ^ j = y at *
  omega
theorem le8_take (h : UInt64) (j : Nat) (hj : j < 8) : (le8 h).take (j + 1) = (le8 h).take j ++ [le1 h j] := by
  have : (le8 h)[j]? = some (le1 h j) := by simp [le8, hj]
  rw [List.take_add_one, this]
  rfl
set_option maxRecDepth 100000 in
set_option maxHeartbeats 8000000 in
theorem rseal_r (G : Globs) (key : UInt64) (b : List UInt8) (hb : b.length ≤ 4294967296) : PCalls Try.prog G 17 [pq key, .list 1 (b.map pbyte)] [] (RowB (b ++ sealB key b)) := by
  have h0 := q_first key
  (refine PCalls_f Try.func17 rfl Try.ntmps17 Try.results17 (by simp) fun fin hfin => ?_; have hnm : True := trivial; simp only [ev, Nat.reduceAdd, Nat.reduceMul, Nat.reduceSub, Nat.reduceLeDiff, Nat.reduceEqDiff, ↓reduceIte, reduceCtorEq, Nat.reduceLT, Nat.reducePow, Nat.reduceDiv, Nat.reduceMod, Nat.reduceBEq, Int.reduceLT, Int.reduceLE, Int.reduceToNat, Int.reduceAdd, Int.reduceSub, Int.reduceNeg])
  repeat' (first
    | (with_reducible apply W_seq_k; intro nx hnx)
    | (with_reducible first | refine wr 499 ?_)
    | ((with_reducible first | (apply WL_op; intro nx hnx) | refine Ev_out ?_ | refine wc ?_ | (refine pf hnm fun nm hnm => ?_; try simp only [fmb] at hnm) | (refine pm hnm fun nm hnm => ?_; try simp only [fmb] at hnm)); try (simp (maxSteps := 2000000) (disch := omega) only [ev, ↓evp, PV.cells, PV.one, PV.mem?, Value.cells, Nat.reduceAdd, Nat.reduceMul, Nat.reduceSub, Nat.reduceLeDiff, Nat.reduceEqDiff, ↓reduceIte, reduceCtorEq, Nat.reduceLT, Nat.reducePow, Nat.reduceDiv, Nat.reduceMod, Nat.reduceBEq, Int.reduceLT, Int.reduceLE, Int.reduceToNat, Int.reduceAdd, Int.reduceSub, Int.reduceNeg, hnm, Try.tf0, Try.tf1, Try.tf3, Try.tf4, Try.tf5, Try.tf22, Try.tf33, h0]))
    | ((with_reducible first | apply W_block | apply W_scope | apply WL_nil | apply W_label | apply W_skip | apply W_exit | apply W_ret) <;> try simp only [kks, Nat.reduceAdd, Nat.reduceMul, Nat.reduceSub, Nat.reduceLeDiff, Nat.reduceEqDiff, ↓reduceIte, reduceCtorEq, Nat.reduceLT, Nat.reducePow, Nat.reduceDiv, Nat.reduceMod, Nat.reduceBEq, Int.reduceLT, Int.reduceLE, Int.reduceToNat, Int.reduceAdd, Int.reduceSub, Int.reduceNeg])
    | (with_reducible apply pg <;> (intro hc; (try simp only [hcb, Nat.reduceAdd, Nat.reduceMul, Nat.reduceSub, Nat.reduceLeDiff, Nat.reduceEqDiff, ↓reduceIte, reduceCtorEq, Nat.reduceLT, Nat.reducePow, Nat.reduceDiv, Nat.reduceMod, Nat.reduceBEq, Int.reduceLT, Int.reduceLE, Int.reduceToNat, Int.reduceAdd, Int.reduceSub, Int.reduceNeg, ne_eq, forall_const] at hc); first | (exfalso; omega) | exact absurd trivial hc | skip))
    | (with_reducible apply hnx; clear hnx nx)
    | (with_reducible refine And.intro (by omega) ?_)
    | (with_reducible refine And.intro ?_ ?_)
    | (clear hnx nx; with_reducible apply hnx; clear hnx nx)
    | (clear hnx nx; clear hnx nx; with_reducible apply hnx; clear hnx nx))
  refine W_loop_k (fun z τ => ∃ (i : Nat), i ≤ b.length ∧ z = b.length - i ∧ τ = ⟨fr 41 [(1, .list 1 (b.map pbyte)), (6, pint .i64 i), (5, pq (fnv key (b.take i)))], []⟩) b.length
    ⟨fr 41 [(1, .list 1 (b.map pbyte)), (6, pint .i64 (0 : Nat)), (5, pq (fnv0 key))], []⟩ (by
    refine Wk_fr (by simp only [wkb, Nat.reduceAdd, Nat.reduceMul, Nat.reduceSub, Nat.reduceLeDiff, Nat.reduceEqDiff, ↓reduceIte, reduceCtorEq, Nat.reduceLT, Nat.reducePow, Nat.reduceDiv, Nat.reduceMod, Nat.reduceBEq, Int.reduceLT, Int.reduceLE, Int.reduceToNat, Int.reduceAdd, Int.reduceSub, Int.reduceNeg]) ?_
    exact ⟨by simp, by simp [names]⟩) ⟨0, by omega, by omega, rfl⟩ ?_
  rintro z τ ⟨i, hi, rfl, rfl⟩ lp hlp
  by_cases hik : i < b.length
  · have hs := q_step (fnv key (b.take i)) b[i]
    rw [← fnv_take key b i hik] at hs
    repeat' (first
    | (with_reducible apply W_seq_k; intro nx hnx)
    | (with_reducible first | refine wr 499 ?_)
    | ((with_reducible first | (apply WL_op; intro nx hnx) | refine Ev_out ?_ | refine wc ?_ | (refine pf hnm fun nm hnm => ?_; try simp only [fmb] at hnm) | (refine pm hnm fun nm hnm => ?_; try simp only [fmb] at hnm)); try (simp (maxSteps := 2000000) (disch := omega) only [ev, ↓evp, PV.cells, PV.one, PV.mem?, Value.cells, Nat.reduceAdd, Nat.reduceMul, Nat.reduceSub, Nat.reduceLeDiff, Nat.reduceEqDiff, ↓reduceIte, reduceCtorEq, Nat.reduceLT, Nat.reducePow, Nat.reduceDiv, Nat.reduceMod, Nat.reduceBEq, Int.reduceLT, Int.reduceLE, Int.reduceToNat, Int.reduceAdd, Int.reduceSub, Int.reduceNeg, hnm, Try.tf0, Try.tf1, Try.tf3, Try.tf4, Try.tf5, Try.tf22, Try.tf33, hs]))
    | ((with_reducible first | apply W_block | apply W_scope | apply WL_nil | apply W_label | apply W_skip | apply W_exit | apply W_ret) <;> try simp only [kks, Nat.reduceAdd, Nat.reduceMul, Nat.reduceSub, Nat.reduceLeDiff, Nat.reduceEqDiff, ↓reduceIte, reduceCtorEq, Nat.reduceLT, Nat.reducePow, Nat.reduceDiv, Nat.reduceMod, Nat.reduceBEq, Int.reduceLT, Int.reduceLE, Int.reduceToNat, Int.reduceAdd, Int.reduceSub, Int.reduceNeg])
    | (with_reducible apply pg <;> (intro hc; (try simp only [hcb, Nat.reduceAdd, Nat.reduceMul, Nat.reduceSub, Nat.reduceLeDiff, Nat.reduceEqDiff, ↓reduceIte, reduceCtorEq, Nat.reduceLT, Nat.reducePow, Nat.reduceDiv, Nat.reduceMod, Nat.reduceBEq, Int.reduceLT, Int.reduceLE, Int.reduceToNat, Int.reduceAdd, Int.reduceSub, Int.reduceNeg, ne_eq, forall_const] at hc); first | (exfalso; omega) | exact absurd trivial hc | skip))
    | (with_reducible apply hnx; clear hnx nx)
    | (with_reducible refine And.intro (by omega) ?_)
    | (with_reducible refine And.intro ?_ ?_)
    | (clear hnx nx; with_reducible apply hnx; clear hnx nx)
    | (clear hnx nx; clear hnx nx; with_reducible apply hnx; clear hnx nx))
    all_goals first
      | (exfalso
         omega)
      | (refine hlp _ (b.length - (i + 1)) _ (by omega) ?_ ⟨i + 1, by omega, rfl, rfl⟩
         refine Wk_fr (by simp only [wkb, Nat.reduceAdd, Nat.reduceMul, Nat.reduceSub, Nat.reduceLeDiff, Nat.reduceEqDiff, ↓reduceIte, reduceCtorEq, Nat.reduceLT, Nat.reducePow, Nat.reduceDiv, Nat.reduceMod, Nat.reduceBEq, Int.reduceLT, Int.reduceLE, Int.reduceToNat, Int.reduceAdd, Int.reduceSub, Int.reduceNeg]) ?_
         exact ⟨by simp, by simp [names]⟩)
  · rw [List.take_of_length_le (by omega)]
    obtain ⟨h, hh⟩ : ∃ h, h = fnv key b := ⟨_, rfl⟩
    have hS : sealB key b = le8 h := by rw [sealB, hh]
    rw [hS] at hfin
    rw [← hh]
    clear hlp h0 hh hS
    repeat' (first
    | (with_reducible apply W_seq_k; intro nx hnx)
    | (with_reducible first | refine wr 499 ?_)
    | ((with_reducible first | (apply WL_op; intro nx hnx) | refine Ev_out ?_ | refine wc ?_ | (refine pf hnm fun nm hnm => ?_; try simp only [fmb] at hnm) | (refine pm hnm fun nm hnm => ?_; try simp only [fmb] at hnm)); try (simp (maxSteps := 2000000) (disch := omega) only [ev, ↓evp, PV.cells, PV.one, PV.mem?, Value.cells, Nat.reduceAdd, Nat.reduceMul, Nat.reduceSub, Nat.reduceLeDiff, Nat.reduceEqDiff, ↓reduceIte, reduceCtorEq, Nat.reduceLT, Nat.reducePow, Nat.reduceDiv, Nat.reduceMod, Nat.reduceBEq, Int.reduceLT, Int.reduceLE, Int.reduceToNat, Int.reduceAdd, Int.reduceSub, Int.reduceNeg, hnm, Try.tf0, Try.tf1, Try.tf3, Try.tf4, Try.tf5, Try.tf22, Try.tf33, flat_pb]))
    | ((with_reducible first | apply W_block | apply W_scope | apply WL_nil | apply W_label | apply W_skip | apply W_exit | apply W_ret) <;> try simp only [kks, Nat.reduceAdd, Nat.reduceMul, Nat.reduceSub, Nat.reduceLeDiff, Nat.reduceEqDiff, ↓reduceIte, reduceCtorEq, Nat.reduceLT, Nat.reducePow, Nat.reduceDiv, Nat.reduceMod, Nat.reduceBEq, Int.reduceLT, Int.reduceLE, Int.reduceToNat, Int.reduceAdd, Int.reduceSub, Int.reduceNeg])
    | (with_reducible apply pg <;> (intro hc; (try simp only [hcb, Nat.reduceAdd, Nat.reduceMul, Nat.reduceSub, Nat.reduceLeDiff, Nat.reduceEqDiff, ↓reduceIte, reduceCtorEq, Nat.reduceLT, Nat.reducePow, Nat.reduceDiv, Nat.reduceMod, Nat.reduceBEq, Int.reduceLT, Int.reduceLE, Int.reduceToNat, Int.reduceAdd, Int.reduceSub, Int.reduceNeg, ne_eq, forall_const] at hc); first | (exfalso; omega) | exact absurd trivial hc | skip))
    | (with_reducible apply hnx; clear hnx nx)
    | (with_reducible refine And.intro (by omega) ?_)
    | (with_reducible refine And.intro ?_ ?_)
    | (clear hnx nx; with_reducible apply hnx; clear hnx nx)
    | (clear hnx nx; clear hnx nx; with_reducible apply hnx; clear hnx nx))
    all_goals first
      | (exfalso
         omega)
      | skip
    obtain ⟨N, hN⟩ : ∃ N, N = nm := ⟨_, rfl⟩
    subst hN
    clear hnm
    have hnm : True := trivial
    have e0 : (h.toNat : Int) = ((h.toNat / 256 ^ 0 : Nat) : Int) := by simp
    refine W_loop_k (fun z τ => ∃ (j : Nat) (N : Int) (o : List UInt8), j ≤ 8 ∧ z = 8 - j ∧ o = b ++ (le8 h).take j ∧ τ = ⟨fr 41 [(7, .row N 1 o.length), (5, pint .u64 ((h.toNat / 256 ^ j : Nat) : Int)), (8, pint .i64 j)], [(N, ⟨5, true, 1, o.map pbyte⟩)]⟩) 8
      ⟨fr 41 [(7, .row N 1 b.length), (5, pint .u64 ((h.toNat / 256 ^ 0 : Nat) : Int)), (8, pint .i64 (0 : Nat))], [(N, ⟨5, true, 1, b.map pbyte⟩)]⟩ (by
      rw [← e0]
      refine Wk_fr (by simp only [wkb, Nat.reduceAdd, Nat.reduceMul, Nat.reduceSub, Nat.reduceLeDiff, Nat.reduceEqDiff, ↓reduceIte, reduceCtorEq, Nat.reduceLT, Nat.reducePow, Nat.reduceDiv, Nat.reduceMod, Nat.reduceBEq, Int.reduceLT, Int.reduceLE, Int.reduceToNat, Int.reduceAdd, Int.reduceSub, Int.reduceNeg]) ?_
      exact ⟨by simp, by simp [names]⟩) ⟨0, N, b, by omega, by omega, by simp, rfl⟩ ?_
    rintro z τ ⟨j, M, o, hj, rfl, ho, rfl⟩ lp hlp
    have hol : o.length ≤ b.length + 8 := by rw [ho, List.length_append, List.length_take, le8_len]; omega
    by_cases hjk : j < 8
    · have h1 := q_low h.toNat j
      have h2 := le1_pb h j
      have h3 := q_next h.toNat j h.toNat_lt
      have h4 := le8_take h j hjk
      repeat' (first
    | (with_reducible apply W_seq_k; intro nx hnx)
    | (with_reducible first | refine wr 499 ?_)
    | ((with_reducible first | (apply WL_op; intro nx hnx) | refine Ev_out ?_ | refine wc ?_ | (refine pf hnm fun nm hnm => ?_; try simp only [fmb] at hnm) | (refine pm hnm fun nm hnm => ?_; try simp only [fmb] at hnm)); try (simp (maxSteps := 2000000) (disch := omega) only [ev, ↓evp, PV.cells, PV.one, PV.mem?, Value.cells, Nat.reduceAdd, Nat.reduceMul, Nat.reduceSub, Nat.reduceLeDiff, Nat.reduceEqDiff, ↓reduceIte, reduceCtorEq, Nat.reduceLT, Nat.reducePow, Nat.reduceDiv, Nat.reduceMod, Nat.reduceBEq, Int.reduceLT, Int.reduceLE, Int.reduceToNat, Int.reduceAdd, Int.reduceSub, Int.reduceNeg, hnm, Try.tf0, Try.tf1, Try.tf3, Try.tf4, Try.tf5, Try.tf22, Try.tf33, h1, h2, h3]))
    | ((with_reducible first | apply W_block | apply W_scope | apply WL_nil | apply W_label | apply W_skip | apply W_exit | apply W_ret) <;> try simp only [kks, Nat.reduceAdd, Nat.reduceMul, Nat.reduceSub, Nat.reduceLeDiff, Nat.reduceEqDiff, ↓reduceIte, reduceCtorEq, Nat.reduceLT, Nat.reducePow, Nat.reduceDiv, Nat.reduceMod, Nat.reduceBEq, Int.reduceLT, Int.reduceLE, Int.reduceToNat, Int.reduceAdd, Int.reduceSub, Int.reduceNeg])
    | (with_reducible apply pg <;> (intro hc; (try simp only [hcb, Nat.reduceAdd, Nat.reduceMul, Nat.reduceSub, Nat.reduceLeDiff, Nat.reduceEqDiff, ↓reduceIte, reduceCtorEq, Nat.reduceLT, Nat.reducePow, Nat.reduceDiv, Nat.reduceMod, Nat.reduceBEq, Int.reduceLT, Int.reduceLE, Int.reduceToNat, Int.reduceAdd, Int.reduceSub, Int.reduceNeg, ne_eq, forall_const] at hc); first | (exfalso; omega) | exact absurd trivial hc | skip))
    | (with_reducible apply hnx; clear hnx nx)
    | (with_reducible refine And.intro (by omega) ?_)
    | (with_reducible refine And.intro ?_ ?_)
    | (clear hnx nx; with_reducible apply hnx; clear hnx nx)
    | (clear hnx nx; clear hnx nx; with_reducible apply hnx; clear hnx nx))
      all_goals first
        | (exfalso
           omega)
        | (refine hlp _ (8 - (j + 1)) _ (by omega) ?_ ⟨j + 1, nm, o ++ [le1 h j], by omega, rfl, by rw [h4, ho, List.append_assoc], rfl⟩
           rw [List.length_append, List.map_append]
           refine Wk_fr (by simp only [wkb, Nat.reduceAdd, Nat.reduceMul, Nat.reduceSub, Nat.reduceLeDiff, Nat.reduceEqDiff, ↓reduceIte, reduceCtorEq, Nat.reduceLT, Nat.reducePow, Nat.reduceDiv, Nat.reduceMod, Nat.reduceBEq, Int.reduceLT, Int.reduceLE, Int.reduceToNat, Int.reduceAdd, Int.reduceSub, Int.reduceNeg, List.length_cons, List.length_nil, Nat.zero_add]) ?_
           exact ⟨by simp, by simp [names]⟩)
    · have hoh : o = b ++ le8 h := by rw [ho, List.take_of_length_le (by rw [le8_len]; omega)]
      rw [← hoh] at hfin
      repeat' (first
    | (with_reducible apply W_seq_k; intro nx hnx)
    | (with_reducible first | refine wr 499 ?_)
    | ((with_reducible first | (apply WL_op; intro nx hnx) | refine Ev_out ?_ | refine wc ?_ | (refine pf hnm fun nm hnm => ?_; try simp only [fmb] at hnm) | (refine pm hnm fun nm hnm => ?_; try simp only [fmb] at hnm)); try (simp (maxSteps := 2000000) (disch := omega) only [ev, ↓evp, PV.cells, PV.one, PV.mem?, Value.cells, Nat.reduceAdd, Nat.reduceMul, Nat.reduceSub, Nat.reduceLeDiff, Nat.reduceEqDiff, ↓reduceIte, reduceCtorEq, Nat.reduceLT, Nat.reducePow, Nat.reduceDiv, Nat.reduceMod, Nat.reduceBEq, Int.reduceLT, Int.reduceLE, Int.reduceToNat, Int.reduceAdd, Int.reduceSub, Int.reduceNeg, hnm, Try.tf0, Try.tf1, Try.tf3, Try.tf4, Try.tf5, Try.tf22, Try.tf33]))
    | ((with_reducible first | apply W_block | apply W_scope | apply WL_nil | apply W_label | apply W_skip | apply W_exit | apply W_ret) <;> try simp only [kks, Nat.reduceAdd, Nat.reduceMul, Nat.reduceSub, Nat.reduceLeDiff, Nat.reduceEqDiff, ↓reduceIte, reduceCtorEq, Nat.reduceLT, Nat.reducePow, Nat.reduceDiv, Nat.reduceMod, Nat.reduceBEq, Int.reduceLT, Int.reduceLE, Int.reduceToNat, Int.reduceAdd, Int.reduceSub, Int.reduceNeg])
    | (with_reducible apply pg <;> (intro hc; (try simp only [hcb, Nat.reduceAdd, Nat.reduceMul, Nat.reduceSub, Nat.reduceLeDiff, Nat.reduceEqDiff, ↓reduceIte, reduceCtorEq, Nat.reduceLT, Nat.reducePow, Nat.reduceDiv, Nat.reduceMod, Nat.reduceBEq, Int.reduceLT, Int.reduceLE, Int.reduceToNat, Int.reduceAdd, Int.reduceSub, Int.reduceNeg, ne_eq, forall_const] at hc); first | (exfalso; omega) | exact absurd trivial hc | skip))
    | (with_reducible apply hnx; clear hnx nx)
    | (with_reducible refine And.intro (by omega) ?_)
    | (with_reducible refine And.intro ?_ ?_)
    | (clear hnx nx; with_reducible apply hnx; clear hnx nx)
    | (clear hnx nx; clear hnx nx; with_reducible apply hnx; clear hnx nx))
      all_goals first
        | (exfalso
           omega)
        | (refine hfin _ _ (Fin_ret1 rfl (Sub_refl (by simp [names])) ?_); simp only [cob, Nat.reduceAdd, Nat.reduceMul, Nat.reduceSub, Nat.reduceLeDiff, Nat.reduceEqDiff, ↓reduceIte, reduceCtorEq, Nat.reduceLT, Nat.reducePow, Nat.reduceDiv, Nat.reduceMod, Nat.reduceBEq, Int.reduceLT, Int.reduceLE, Int.reduceToNat, Int.reduceAdd, Int.reduceSub, Int.reduceNeg]
           exact ⟨M, rfl, rfl⟩)
theorem rseal_c (G : Globs) (key : UInt64) (b : List UInt8) (hb : b.length ≤ 4294967296) : PCalls Try.prog G 17 [pq key, .list 1 (b.map pbyte)] [] (fun res H => res = .list 1 ((b ++ sealB key b).map pbyte) ∧ H = []) := RowB.frz (rseal_r G key b hb)
/-- A copy: a row, or none. -/
def CR (b : List UInt8) (res : PV) (H : Heap) : Prop := (b = [] ∧ res = pnil ∧ H = []) ∨ RowB b res H
set_option maxRecDepth 100000 in
set_option maxHeartbeats 8000000 in
theorem clone_r (G : Globs) (b : List UInt8) (hb : b.length ≤ 4294967296) : PCalls Try.prog G 32 [.list 1 (b.map pbyte)] [] (CR b) := by
  (refine PCalls_f Try.func32 rfl Try.ntmps32 Try.results32 (by simp) fun fin hfin => ?_; have hnm : True := trivial; simp only [ev, Nat.reduceAdd, Nat.reduceMul, Nat.reduceSub, Nat.reduceLeDiff, Nat.reduceEqDiff, ↓reduceIte, reduceCtorEq, Nat.reduceLT, Nat.reducePow, Nat.reduceDiv, Nat.reduceMod, Nat.reduceBEq, Int.reduceLT, Int.reduceLE, Int.reduceToNat, Int.reduceAdd, Int.reduceSub, Int.reduceNeg])
  repeat' (first
    | (with_reducible apply W_seq_k; intro nx hnx)
    | (with_reducible first | refine wr 5 ?_)
    | ((with_reducible first | (apply WL_op; intro nx hnx) | refine Ev_out ?_ | refine wc ?_ | (refine pf hnm fun nm hnm => ?_; try simp only [fmb] at hnm) | (refine pm hnm fun nm hnm => ?_; try simp only [fmb] at hnm) | (refine pmaybe_k ?_; intro bn hbn)); try (simp (maxSteps := 2000000) (disch := omega) only [ev, ↓evp, PV.cells, PV.one, PV.mem?, Value.cells, Nat.reduceAdd, Nat.reduceMul, Nat.reduceSub, Nat.reduceLeDiff, Nat.reduceEqDiff, ↓reduceIte, reduceCtorEq, Nat.reduceLT, Nat.reducePow, Nat.reduceDiv, Nat.reduceMod, Nat.reduceBEq, Int.reduceLT, Int.reduceLE, Int.reduceToNat, Int.reduceAdd, Int.reduceSub, Int.reduceNeg, hnm, Try.tf0, Try.tf4, Try.tf5, Try.tf33, flat_pb]))
    | ((with_reducible first | apply W_block | apply W_scope | apply WL_nil | apply W_label | apply W_skip | apply W_exit | apply W_ret) <;> try simp only [kks, Nat.reduceAdd, Nat.reduceMul, Nat.reduceSub, Nat.reduceLeDiff, Nat.reduceEqDiff, ↓reduceIte, reduceCtorEq, Nat.reduceLT, Nat.reducePow, Nat.reduceDiv, Nat.reduceMod, Nat.reduceBEq, Int.reduceLT, Int.reduceLE, Int.reduceToNat, Int.reduceAdd, Int.reduceSub, Int.reduceNeg])
    | (with_reducible apply pg <;> (intro hc; (try simp only [hcb, Nat.reduceAdd, Nat.reduceMul, Nat.reduceSub, Nat.reduceLeDiff, Nat.reduceEqDiff, ↓reduceIte, reduceCtorEq, Nat.reduceLT, Nat.reducePow, Nat.reduceDiv, Nat.reduceMod, Nat.reduceBEq, Int.reduceLT, Int.reduceLE, Int.reduceToNat, Int.reduceAdd, Int.reduceSub, Int.reduceNeg, ne_eq, forall_const] at hc); first | (exfalso; omega) | exact absurd trivial hc | skip))
    | (with_reducible apply hnx; clear hnx nx)
    | (with_reducible refine And.intro (by omega) ?_)
    | (with_reducible refine And.intro ?_ ?_)
    | (clear hnx nx; with_reducible apply hnx; clear hnx nx)
    | (clear hnx nx; clear hnx nx; with_reducible apply hnx; clear hnx nx))
  all_goals first
    | (exfalso
       omega)
    | skip
  · refine hfin _ _ (Fin_ret1 rfl (Sub_nil _) ?_); simp only [cob, Nat.reduceAdd, Nat.reduceMul, Nat.reduceSub, Nat.reduceLeDiff, Nat.reduceEqDiff, ↓reduceIte, reduceCtorEq, Nat.reduceLT, Nat.reducePow, Nat.reduceDiv, Nat.reduceMod, Nat.reduceBEq, Int.reduceLT, Int.reduceLE, Int.reduceToNat, Int.reduceAdd, Int.reduceSub, Int.reduceNeg]
    refine .inl ⟨?_, rfl, rfl⟩
    subst hc
    cases b with
    | nil => rfl
    | cons x b => exact absurd (hbn (by simp)) (by simp)
  · refine hfin _ _ (Fin_ret1 rfl (Sub_refl (by simp [names])) ?_); simp only [cob, Nat.reduceAdd, Nat.reduceMul, Nat.reduceSub, Nat.reduceLeDiff, Nat.reduceEqDiff, ↓reduceIte, reduceCtorEq, Nat.reduceLT, Nat.reducePow, Nat.reduceDiv, Nat.reduceMod, Nat.reduceBEq, Int.reduceLT, Int.reduceLE, Int.reduceToNat, Int.reduceAdd, Int.reduceSub, Int.reduceNeg]
    exact .inr ⟨nm, rfl, rfl⟩
theorem CR.frz {G : Globs} {f : FuncId} {args : List PV} {b : List UInt8} (h : PCalls Try.prog G f args [] (CR b)) : PCalls Try.prog G f args [] (fun res H => res = .list 1 (b.map pbyte) ∧ H = []) := by
  refine h.px fun res H hR => ?_
  rcases hR with ⟨rfl, rfl, rfl⟩ | ⟨N, rfl, rfl⟩
  · exact ⟨_, _, Px.nil 1 _, rfl, rfl⟩
  · have h2 := Px.freeze (G := G) (.row N 1 b.length) [(N, ⟨5, true, 1, b.map pbyte⟩)] N (o := ⟨5, true, 1, b.map pbyte⟩) (by simp only [look, if_true]) (by simp [frzOk, del])
    refine ⟨_, _, h2, ?_, by simp [frzH, del]⟩
    simp only [PM.frz, frz1, if_true]
    rw [if_pos ⟨by simp, by omega⟩, elemsOf, if_pos rfl, List.take_of_length_le (by simp)]
theorem clone_c (G : Globs) (b : List UInt8) (hb : b.length ≤ 4294967296) : PCalls Try.prog G 32 [.list 1 (b.map pbyte)] [] (fun res H => res = .list 1 (b.map pbyte) ∧ H = []) := CR.frz (clone_r G b hb)
set_option maxRecDepth 100000 in
set_option maxHeartbeats 8000000 in
/-- An empty row with room, or none. -/
theorem grow_c (G : Globs) (n : Nat) (hn : n ≤ 4294967296) : PCalls Try.prog G 51 [pnil, pint .i64 n] [] (CR []) := by
  (refine PCalls_f Try.func51 rfl Try.ntmps51 Try.results51 (by simp) fun fin hfin => ?_; have hnm : True := trivial; simp only [ev, Nat.reduceAdd, Nat.reduceMul, Nat.reduceSub, Nat.reduceLeDiff, Nat.reduceEqDiff, ↓reduceIte, reduceCtorEq, Nat.reduceLT, Nat.reducePow, Nat.reduceDiv, Nat.reduceMod, Nat.reduceBEq, Int.reduceLT, Int.reduceLE, Int.reduceToNat, Int.reduceAdd, Int.reduceSub, Int.reduceNeg])
  repeat' (first
    | (with_reducible apply W_seq_k; intro nx hnx)
    | (with_reducible first | refine wr 19 ?_)
    | ((with_reducible first | (apply WL_op; intro nx hnx) | refine Ev_out ?_ | refine wc ?_ | (refine pf hnm fun nm hnm => ?_; try simp only [fmb] at hnm) | (refine pm hnm fun nm hnm => ?_; try simp only [fmb] at hnm)); try (simp (maxSteps := 2000000) (disch := omega) only [ev, ↓evp, PV.cells, PV.one, PV.mem?, Value.cells, Nat.reduceAdd, Nat.reduceMul, Nat.reduceSub, Nat.reduceLeDiff, Nat.reduceEqDiff, ↓reduceIte, reduceCtorEq, Nat.reduceLT, Nat.reducePow, Nat.reduceDiv, Nat.reduceMod, Nat.reduceBEq, Int.reduceLT, Int.reduceLE, Int.reduceToNat, Int.reduceAdd, Int.reduceSub, Int.reduceNeg, hnm, Try.tf0, Try.tf3, Try.tf4, Try.tf5, Try.tf9, Try.tf20, Try.tf33]))
    | ((with_reducible first | apply W_block | apply W_scope | apply WL_nil | apply W_label | apply W_skip | apply W_exit | apply W_ret) <;> try simp only [kks, Nat.reduceAdd, Nat.reduceMul, Nat.reduceSub, Nat.reduceLeDiff, Nat.reduceEqDiff, ↓reduceIte, reduceCtorEq, Nat.reduceLT, Nat.reducePow, Nat.reduceDiv, Nat.reduceMod, Nat.reduceBEq, Int.reduceLT, Int.reduceLE, Int.reduceToNat, Int.reduceAdd, Int.reduceSub, Int.reduceNeg])
    | (with_reducible apply pg <;> (intro hc; (try simp only [hcb, Nat.reduceAdd, Nat.reduceMul, Nat.reduceSub, Nat.reduceLeDiff, Nat.reduceEqDiff, ↓reduceIte, reduceCtorEq, Nat.reduceLT, Nat.reducePow, Nat.reduceDiv, Nat.reduceMod, Nat.reduceBEq, Int.reduceLT, Int.reduceLE, Int.reduceToNat, Int.reduceAdd, Int.reduceSub, Int.reduceNeg, ne_eq, forall_const] at hc); first | (exfalso; omega) | exact absurd trivial hc | skip))
    | (with_reducible apply hnx; clear hnx nx)
    | (with_reducible refine And.intro (by omega) ?_)
    | (with_reducible refine And.intro ?_ ?_)
    | (clear hnx nx; with_reducible apply hnx; clear hnx nx)
    | (clear hnx nx; clear hnx nx; with_reducible apply hnx; clear hnx nx))
  all_goals first
    | (exfalso
       omega)
    | skip
  · refine hfin _ _ (Fin_ret1 rfl (Sub_refl (by simp [names])) ?_); simp only [cob, Nat.reduceAdd, Nat.reduceMul, Nat.reduceSub, Nat.reduceLeDiff, Nat.reduceEqDiff, ↓reduceIte, reduceCtorEq, Nat.reduceLT, Nat.reducePow, Nat.reduceDiv, Nat.reduceMod, Nat.reduceBEq, Int.reduceLT, Int.reduceLE, Int.reduceToNat, Int.reduceAdd, Int.reduceSub, Int.reduceNeg]
    exact .inr ⟨nm, rfl, rfl⟩
  · refine hfin _ _ (Fin_ret1 rfl (Sub_nil _) ?_); simp only [cob, Nat.reduceAdd, Nat.reduceMul, Nat.reduceSub, Nat.reduceLeDiff, Nat.reduceEqDiff, ↓reduceIte, reduceCtorEq, Nat.reduceLT, Nat.reducePow, Nat.reduceDiv, Nat.reduceMod, Nat.reduceBEq, Int.reduceLT, Int.reduceLE, Int.reduceToNat, Int.reduceAdd, Int.reduceSub, Int.reduceNeg]
    exact .inl ⟨rfl, rfl, rfl⟩
/-- Bytes that nobody turns. -/
@[reducible] def pl (x : List UInt8) : PV := .list 1 (x.map pbyte)
def lenS (xs : List (List UInt8)) : Nat := (xs.map List.length).sum
theorem lenS_take (xs : List (List UInt8)) (i : Nat) (h : i < xs.length) : lenS (xs.take (i + 1)) = lenS (xs.take i) + xs[i].length := by
  rw [List.take_add_one, List.getElem?_eq_getElem h]
  unfold lenS
  rw [List.map_append, List.sum_append]
  rfl
theorem lenS_le (xs : List (List UInt8)) (i : Nat) : lenS (xs.take i) ≤ lenS xs := by
  have h : lenS xs = lenS (xs.take i) + lenS (xs.drop i) := by
    conv => lhs; rw [← List.take_append_drop i xs]
    unfold lenS
    rw [List.map_append, List.sum_append]
  omega
theorem lenS_flat (xs : List (List UInt8)) : xs.flatten.length = lenS xs := by simp [lenS, List.length_flatten]
theorem flat_take (xs : List (List UInt8)) (i : Nat) (h : i < xs.length) : (xs.take (i + 1)).flatten = (xs.take i).flatten ++ xs[i] := by
  rw [List.take_add_one, List.getElem?_eq_getElem h, List.flatten_append]
  congr 1
  show [xs[i]].flatten = _
  simp
set_option maxRecDepth 100000 in
set_option maxHeartbeats 8000000 in
theorem concat_r (G : Globs) (xs : List (List UInt8)) (hx : xs.length ≤ 1000) (hb : lenS xs ≤ 4294967296) : PCalls Try.prog G 42 [.list 1 (xs.map pl)] [] (CR xs.flatten) := by
  (refine PCalls_f Try.func42 rfl Try.ntmps42 Try.results42 (by simp) fun fin hfin => ?_; have hnm : True := trivial; simp only [ev, Nat.reduceAdd, Nat.reduceMul, Nat.reduceSub, Nat.reduceLeDiff, Nat.reduceEqDiff, ↓reduceIte, reduceCtorEq, Nat.reduceLT, Nat.reducePow, Nat.reduceDiv, Nat.reduceMod, Nat.reduceBEq, Int.reduceLT, Int.reduceLE, Int.reduceToNat, Int.reduceAdd, Int.reduceSub, Int.reduceNeg])
  repeat' (first
    | (with_reducible apply W_seq_k; intro nx hnx)
    | (with_reducible first | refine wr 234884973 ?_)
    | ((with_reducible first | (apply WL_op; intro nx hnx) | refine Ev_out ?_ | refine wc ?_ | (refine pf hnm fun nm hnm => ?_; try simp only [fmb] at hnm) | (refine pm hnm fun nm hnm => ?_; try simp only [fmb] at hnm)); try (simp (maxSteps := 2000000) (disch := omega) only [ev, ↓evp, PV.cells, PV.one, PV.mem?, Value.cells, Nat.reduceAdd, Nat.reduceMul, Nat.reduceSub, Nat.reduceLeDiff, Nat.reduceEqDiff, ↓reduceIte, reduceCtorEq, Nat.reduceLT, Nat.reducePow, Nat.reduceDiv, Nat.reduceMod, Nat.reduceBEq, Int.reduceLT, Int.reduceLE, Int.reduceToNat, Int.reduceAdd, Int.reduceSub, Int.reduceNeg, hnm, Try.tf0, Try.tf3, Try.tf4, Try.tf5, Try.tf9, Try.tf20, Try.tf28, Try.tf33, Try.call51]))
    | ((with_reducible first | apply W_block | apply W_scope | apply WL_nil | apply W_label | apply W_skip | apply W_exit | apply W_ret) <;> try simp only [kks, Nat.reduceAdd, Nat.reduceMul, Nat.reduceSub, Nat.reduceLeDiff, Nat.reduceEqDiff, ↓reduceIte, reduceCtorEq, Nat.reduceLT, Nat.reducePow, Nat.reduceDiv, Nat.reduceMod, Nat.reduceBEq, Int.reduceLT, Int.reduceLE, Int.reduceToNat, Int.reduceAdd, Int.reduceSub, Int.reduceNeg])
    | (with_reducible apply pg <;> (intro hc; (try simp only [hcb, Nat.reduceAdd, Nat.reduceMul, Nat.reduceSub, Nat.reduceLeDiff, Nat.reduceEqDiff, ↓reduceIte, reduceCtorEq, Nat.reduceLT, Nat.reducePow, Nat.reduceDiv, Nat.reduceMod, Nat.reduceBEq, Int.reduceLT, Int.reduceLE, Int.reduceToNat, Int.reduceAdd, Int.reduceSub, Int.reduceNeg, ne_eq, forall_const] at hc); first | (exfalso; omega) | exact absurd trivial hc | skip))
    | (with_reducible apply hnx; clear hnx nx)
    | (with_reducible refine And.intro (by omega) ?_)
    | (with_reducible refine And.intro ?_ ?_)
    | (clear hnx nx; with_reducible apply hnx; clear hnx nx)
    | (clear hnx nx; clear hnx nx; with_reducible apply hnx; clear hnx nx))
  refine W_loop_k (fun z τ => ∃ (i : Nat), i ≤ xs.length ∧ z = xs.length - i ∧ τ = ⟨fr 36 [(0, .list 1 (xs.map pl)), (9, .list 1 (xs.map pl)), (10, pint .i64 xs.length), (11, pint .i64 i), (3, pint .i64 (lenS (xs.take i)))], []⟩) xs.length
    ⟨fr 36 [(0, .list 1 (xs.map pl)), (9, .list 1 (xs.map pl)), (10, pint .i64 xs.length), (11, pint .i64 (0 : Nat)), (3, pint .i64 (0 : Nat))], []⟩ (by
    refine Wk_fr (by simp only [wkb, Nat.reduceAdd, Nat.reduceMul, Nat.reduceSub, Nat.reduceLeDiff, Nat.reduceEqDiff, ↓reduceIte, reduceCtorEq, Nat.reduceLT, Nat.reducePow, Nat.reduceDiv, Nat.reduceMod, Nat.reduceBEq, Int.reduceLT, Int.reduceLE, Int.reduceToNat, Int.reduceAdd, Int.reduceSub, Int.reduceNeg]) ?_
    exact ⟨by simp, by simp [names]⟩) ⟨0, by omega, by omega, rfl⟩ ?_
  rintro z τ ⟨i, hi, rfl, rfl⟩ lp hlp
  have hle := lenS_le xs (i + 1)
  by_cases hik : i < xs.length
  · have ht := lenS_take xs i hik
    repeat' (first
    | (with_reducible apply W_seq_k; intro nx hnx)
    | (with_reducible first | refine wr 234884973 ?_)
    | ((with_reducible first | (apply WL_op; intro nx hnx) | refine Ev_out ?_ | refine wc ?_ | (refine pf hnm fun nm hnm => ?_; try simp only [fmb] at hnm) | (refine pm hnm fun nm hnm => ?_; try simp only [fmb] at hnm)); try (simp (maxSteps := 2000000) (disch := omega) only [ev, ↓evp, PV.cells, PV.one, PV.mem?, Value.cells, Nat.reduceAdd, Nat.reduceMul, Nat.reduceSub, Nat.reduceLeDiff, Nat.reduceEqDiff, ↓reduceIte, reduceCtorEq, Nat.reduceLT, Nat.reducePow, Nat.reduceDiv, Nat.reduceMod, Nat.reduceBEq, Int.reduceLT, Int.reduceLE, Int.reduceToNat, Int.reduceAdd, Int.reduceSub, Int.reduceNeg, hnm, Try.tf0, Try.tf3, Try.tf4, Try.tf5, Try.tf9, Try.tf20, Try.tf28, Try.tf33, Try.call51]))
    | ((with_reducible first | apply W_block | apply W_scope | apply WL_nil | apply W_label | apply W_skip | apply W_exit | apply W_ret) <;> try simp only [kks, Nat.reduceAdd, Nat.reduceMul, Nat.reduceSub, Nat.reduceLeDiff, Nat.reduceEqDiff, ↓reduceIte, reduceCtorEq, Nat.reduceLT, Nat.reducePow, Nat.reduceDiv, Nat.reduceMod, Nat.reduceBEq, Int.reduceLT, Int.reduceLE, Int.reduceToNat, Int.reduceAdd, Int.reduceSub, Int.reduceNeg])
    | (with_reducible apply pg <;> (intro hc; (try simp only [hcb, Nat.reduceAdd, Nat.reduceMul, Nat.reduceSub, Nat.reduceLeDiff, Nat.reduceEqDiff, ↓reduceIte, reduceCtorEq, Nat.reduceLT, Nat.reducePow, Nat.reduceDiv, Nat.reduceMod, Nat.reduceBEq, Int.reduceLT, Int.reduceLE, Int.reduceToNat, Int.reduceAdd, Int.reduceSub, Int.reduceNeg, ne_eq, forall_const] at hc); first | (exfalso; omega) | exact absurd trivial hc | skip))
    | (with_reducible apply hnx; clear hnx nx)
    | (with_reducible refine And.intro (by omega) ?_)
    | (with_reducible refine And.intro ?_ ?_)
    | (clear hnx nx; with_reducible apply hnx; clear hnx nx)
    | (clear hnx nx; clear hnx nx; with_reducible apply hnx; clear hnx nx))
    all_goals first
      | (exfalso
         omega)
      | (refine hlp _ (xs.length - (i + 1)) _ (by omega) ?_ ⟨i + 1, by omega, rfl, rfl⟩
         rw [ht]
         refine Wk_fr (by simp only [wkb, Nat.reduceAdd, Nat.reduceMul, Nat.reduceSub, Nat.reduceLeDiff, Nat.reduceEqDiff, ↓reduceIte, reduceCtorEq, Nat.reduceLT, Nat.reducePow, Nat.reduceDiv, Nat.reduceMod, Nat.reduceBEq, Int.reduceLT, Int.reduceLE, Int.reduceToNat, Int.reduceAdd, Int.reduceSub, Int.reduceNeg]) ?_
         exact ⟨by simp, by simp [names]⟩)
  · rw [List.take_of_length_le (by omega)]
    clear hlp hle
    repeat' (first
    | (with_reducible apply W_seq_k; intro nx hnx)
    | (with_reducible first | refine wr 234884973 ?_)
    | ((with_reducible first | (apply WL_op; intro nx hnx) | refine Ev_out ?_ | refine wc ?_ | (refine pf hnm fun nm hnm => ?_; try simp only [fmb] at hnm) | (refine pm hnm fun nm hnm => ?_; try simp only [fmb] at hnm)); try (simp (maxSteps := 2000000) (disch := omega) only [ev, ↓evp, PV.cells, PV.one, PV.mem?, Value.cells, Nat.reduceAdd, Nat.reduceMul, Nat.reduceSub, Nat.reduceLeDiff, Nat.reduceEqDiff, ↓reduceIte, reduceCtorEq, Nat.reduceLT, Nat.reducePow, Nat.reduceDiv, Nat.reduceMod, Nat.reduceBEq, Int.reduceLT, Int.reduceLE, Int.reduceToNat, Int.reduceAdd, Int.reduceSub, Int.reduceNeg, hnm, Try.tf0, Try.tf3, Try.tf4, Try.tf5, Try.tf9, Try.tf20, Try.tf28, Try.tf33, Try.call51]))
    | ((with_reducible first | apply W_block | apply W_scope | apply WL_nil | apply W_label | apply W_skip | apply W_exit | apply W_ret) <;> try simp only [kks, Nat.reduceAdd, Nat.reduceMul, Nat.reduceSub, Nat.reduceLeDiff, Nat.reduceEqDiff, ↓reduceIte, reduceCtorEq, Nat.reduceLT, Nat.reducePow, Nat.reduceDiv, Nat.reduceMod, Nat.reduceBEq, Int.reduceLT, Int.reduceLE, Int.reduceToNat, Int.reduceAdd, Int.reduceSub, Int.reduceNeg])
    | (with_reducible apply pg <;> (intro hc; (try simp only [hcb, Nat.reduceAdd, Nat.reduceMul, Nat.reduceSub, Nat.reduceLeDiff, Nat.reduceEqDiff, ↓reduceIte, reduceCtorEq, Nat.reduceLT, Nat.reducePow, Nat.reduceDiv, Nat.reduceMod, Nat.reduceBEq, Int.reduceLT, Int.reduceLE, Int.reduceToNat, Int.reduceAdd, Int.reduceSub, Int.reduceNeg, ne_eq, forall_const] at hc); first | (exfalso; omega) | exact absurd trivial hc | skip))
    | (with_reducible apply hnx; clear hnx nx)
    | (with_reducible refine And.intro (by omega) ?_)
    | (with_reducible refine And.intro ?_ ?_)
    | (clear hnx nx; with_reducible apply hnx; clear hnx nx)
    | (clear hnx nx; clear hnx nx; with_reducible apply hnx; clear hnx nx))
    all_goals first
      | (exfalso
         omega)
      | skip
    refine pcall_k (grow_c G (lenS xs) hb) ?_
    intro res Hout hR hnew
    have two : (res = pnil ∧ Hout = []) ∨ ∃ N0, res = .row N0 1 0 ∧ Hout = [(N0, ⟨5, true, 1, []⟩)] := by
      rcases hR with ⟨_, h1, h2⟩ | ⟨N0, h1, h2⟩
      · exact .inl ⟨h1, h2⟩
      · exact .inr ⟨N0, h1, h2⟩
    clear hR hnew
    rcases two with ⟨rfl, rfl⟩ | ⟨N0, rfl, rfl⟩
    · refine Ev_in ?_
      repeat' (first
    | (with_reducible apply W_seq_k; intro nx hnx)
    | (with_reducible first | refine wr 234884973 ?_)
    | ((with_reducible first | (apply WL_op; intro nx hnx) | refine Ev_out ?_ | refine wc ?_ | (refine pf hnm fun nm hnm => ?_; try simp only [fmb] at hnm) | (refine pm hnm fun nm hnm => ?_; try simp only [fmb] at hnm)); try (simp (maxSteps := 2000000) (disch := omega) only [ev, ↓evp, PV.cells, PV.one, PV.mem?, Value.cells, Nat.reduceAdd, Nat.reduceMul, Nat.reduceSub, Nat.reduceLeDiff, Nat.reduceEqDiff, ↓reduceIte, reduceCtorEq, Nat.reduceLT, Nat.reducePow, Nat.reduceDiv, Nat.reduceMod, Nat.reduceBEq, Int.reduceLT, Int.reduceLE, Int.reduceToNat, Int.reduceAdd, Int.reduceSub, Int.reduceNeg, hnm, Try.tf0, Try.tf3, Try.tf4, Try.tf5, Try.tf9, Try.tf20, Try.tf28, Try.tf33, Try.call51]))
    | ((with_reducible first | apply W_block | apply W_scope | apply WL_nil | apply W_label | apply W_skip | apply W_exit | apply W_ret) <;> try simp only [kks, Nat.reduceAdd, Nat.reduceMul, Nat.reduceSub, Nat.reduceLeDiff, Nat.reduceEqDiff, ↓reduceIte, reduceCtorEq, Nat.reduceLT, Nat.reducePow, Nat.reduceDiv, Nat.reduceMod, Nat.reduceBEq, Int.reduceLT, Int.reduceLE, Int.reduceToNat, Int.reduceAdd, Int.reduceSub, Int.reduceNeg])
    | (with_reducible apply pg <;> (intro hc; (try simp only [hcb, Nat.reduceAdd, Nat.reduceMul, Nat.reduceSub, Nat.reduceLeDiff, Nat.reduceEqDiff, ↓reduceIte, reduceCtorEq, Nat.reduceLT, Nat.reducePow, Nat.reduceDiv, Nat.reduceMod, Nat.reduceBEq, Int.reduceLT, Int.reduceLE, Int.reduceToNat, Int.reduceAdd, Int.reduceSub, Int.reduceNeg, ne_eq, forall_const] at hc); first | (exfalso; omega) | exact absurd trivial hc | skip))
    | (with_reducible apply hnx; clear hnx nx)
    | (with_reducible refine And.intro (by omega) ?_)
    | (with_reducible refine And.intro ?_ ?_)
    | (clear hnx nx; with_reducible apply hnx; clear hnx nx)
    | (clear hnx nx; clear hnx nx; with_reducible apply hnx; clear hnx nx))
      refine W_adopt_f 6 5 1 (by simp only [fr_getD_cons, Nat.reduceEqDiff, Nat.reduceLT, ↓reduceIte]) fun N0 hN0 => ?_
      refine W_loop_k (fun z τ => ∃ (i : Nat) (N : Int) (o : List UInt8), i ≤ xs.length ∧ z = xs.length - i ∧ o = (xs.take i).flatten ∧ τ = ⟨fr 36 [(25, .list 1 (xs.map pl)), (26, pint .i64 xs.length), (27, pint .i64 i), (6, .row N 1 o.length)], [(N, ⟨5, true, 1, o.map pbyte⟩)]⟩) xs.length
        ⟨fr 36 [(25, .list 1 (xs.map pl)), (26, pint .i64 xs.length), (27, pint .i64 (0 : Nat)), (6, .row N0 1 0)], [(N0, ⟨5, true, 1, []⟩)]⟩ (by
        refine Wk_fr (by simp only [wkb, Nat.reduceAdd, Nat.reduceMul, Nat.reduceSub, Nat.reduceLeDiff, Nat.reduceEqDiff, ↓reduceIte, reduceCtorEq, Nat.reduceLT, Nat.reducePow, Nat.reduceDiv, Nat.reduceMod, Nat.reduceBEq, Int.reduceLT, Int.reduceLE, Int.reduceToNat, Int.reduceAdd, Int.reduceSub, Int.reduceNeg]) ?_
        exact ⟨by simp, by simp [names]⟩) ⟨0, N0, [], by omega, by omega, by simp, rfl⟩ ?_
      rintro z τ ⟨k, N, o, hk, rfl, ho, rfl⟩ lp hlp
      have hol : o.length = lenS (xs.take k) := by rw [ho, lenS_flat]
      have hle := lenS_le xs (k + 1)
      by_cases hkk : k < xs.length
      · have ht := lenS_take xs k hkk
        have hf := flat_take xs k hkk
        repeat' (first
    | (with_reducible apply W_seq_k; intro nx hnx)
    | (with_reducible first | refine wr 234884973 ?_)
    | ((with_reducible first | (apply WL_op; intro nx hnx) | refine Ev_out ?_ | refine wc ?_ | (refine pf hnm fun nm hnm => ?_; try simp only [fmb] at hnm) | (refine pm hnm fun nm hnm => ?_; try simp only [fmb] at hnm)); try (simp (maxSteps := 2000000) (disch := omega) only [ev, ↓evp, PV.cells, PV.one, PV.mem?, Value.cells, Nat.reduceAdd, Nat.reduceMul, Nat.reduceSub, Nat.reduceLeDiff, Nat.reduceEqDiff, ↓reduceIte, reduceCtorEq, Nat.reduceLT, Nat.reducePow, Nat.reduceDiv, Nat.reduceMod, Nat.reduceBEq, Int.reduceLT, Int.reduceLE, Int.reduceToNat, Int.reduceAdd, Int.reduceSub, Int.reduceNeg, hnm, Try.tf0, Try.tf3, Try.tf4, Try.tf5, Try.tf9, Try.tf20, Try.tf28, Try.tf33, Try.call51, flat_pb]))
    | ((with_reducible first | apply W_block | apply W_scope | apply WL_nil | apply W_label | apply W_skip | apply W_exit | apply W_ret) <;> try simp only [kks, Nat.reduceAdd, Nat.reduceMul, Nat.reduceSub, Nat.reduceLeDiff, Nat.reduceEqDiff, ↓reduceIte, reduceCtorEq, Nat.reduceLT, Nat.reducePow, Nat.reduceDiv, Nat.reduceMod, Nat.reduceBEq, Int.reduceLT, Int.reduceLE, Int.reduceToNat, Int.reduceAdd, Int.reduceSub, Int.reduceNeg])
    | (with_reducible apply pg <;> (intro hc; (try simp only [hcb, Nat.reduceAdd, Nat.reduceMul, Nat.reduceSub, Nat.reduceLeDiff, Nat.reduceEqDiff, ↓reduceIte, reduceCtorEq, Nat.reduceLT, Nat.reducePow, Nat.reduceDiv, Nat.reduceMod, Nat.reduceBEq, Int.reduceLT, Int.reduceLE, Int.reduceToNat, Int.reduceAdd, Int.reduceSub, Int.reduceNeg, ne_eq, forall_const] at hc); first | (exfalso; omega) | exact absurd trivial hc | skip))
    | (with_reducible apply hnx; clear hnx nx)
    | (with_reducible refine And.intro (by omega) ?_)
    | (with_reducible refine And.intro ?_ ?_)
    | (clear hnx nx; with_reducible apply hnx; clear hnx nx)
    | (clear hnx nx; clear hnx nx; with_reducible apply hnx; clear hnx nx))
        all_goals first
          | (exfalso
             omega)
          | (refine hlp _ (xs.length - (k + 1)) _ (by omega) ?_ ⟨k + 1, nm, o ++ xs[k], by omega, rfl, by rw [hf, ho], rfl⟩
             rw [List.length_append, List.map_append]
             refine Wk_fr (by simp only [wkb, Nat.reduceAdd, Nat.reduceMul, Nat.reduceSub, Nat.reduceLeDiff, Nat.reduceEqDiff, ↓reduceIte, reduceCtorEq, Nat.reduceLT, Nat.reducePow, Nat.reduceDiv, Nat.reduceMod, Nat.reduceBEq, Int.reduceLT, Int.reduceLE, Int.reduceToNat, Int.reduceAdd, Int.reduceSub, Int.reduceNeg]) ?_
             exact ⟨by simp, by simp [names]⟩)
      · have hox : o = xs.flatten := by rw [ho, List.take_of_length_le (by omega)]
        rw [← hox] at hfin
        repeat' (first
    | (with_reducible apply W_seq_k; intro nx hnx)
    | (with_reducible first | refine wr 234884973 ?_)
    | ((with_reducible first | (apply WL_op; intro nx hnx) | refine Ev_out ?_ | refine wc ?_ | (refine pf hnm fun nm hnm => ?_; try simp only [fmb] at hnm) | (refine pm hnm fun nm hnm => ?_; try simp only [fmb] at hnm)); try (simp (maxSteps := 2000000) (disch := omega) only [ev, ↓evp, PV.cells, PV.one, PV.mem?, Value.cells, Nat.reduceAdd, Nat.reduceMul, Nat.reduceSub, Nat.reduceLeDiff, Nat.reduceEqDiff, ↓reduceIte, reduceCtorEq, Nat.reduceLT, Nat.reducePow, Nat.reduceDiv, Nat.reduceMod, Nat.reduceBEq, Int.reduceLT, Int.reduceLE, Int.reduceToNat, Int.reduceAdd, Int.reduceSub, Int.reduceNeg, hnm, Try.tf0, Try.tf3, Try.tf4, Try.tf5, Try.tf9, Try.tf20, Try.tf28, Try.tf33, Try.call51]))
    | ((with_reducible first | apply W_block | apply W_scope | apply WL_nil | apply W_label | apply W_skip | apply W_exit | apply W_ret) <;> try simp only [kks, Nat.reduceAdd, Nat.reduceMul, Nat.reduceSub, Nat.reduceLeDiff, Nat.reduceEqDiff, ↓reduceIte, reduceCtorEq, Nat.reduceLT, Nat.reducePow, Nat.reduceDiv, Nat.reduceMod, Nat.reduceBEq, Int.reduceLT, Int.reduceLE, Int.reduceToNat, Int.reduceAdd, Int.reduceSub, Int.reduceNeg])
    | (with_reducible apply pg <;> (intro hc; (try simp only [hcb, Nat.reduceAdd, Nat.reduceMul, Nat.reduceSub, Nat.reduceLeDiff, Nat.reduceEqDiff, ↓reduceIte, reduceCtorEq, Nat.reduceLT, Nat.reducePow, Nat.reduceDiv, Nat.reduceMod, Nat.reduceBEq, Int.reduceLT, Int.reduceLE, Int.reduceToNat, Int.reduceAdd, Int.reduceSub, Int.reduceNeg, ne_eq, forall_const] at hc); first | (exfalso; omega) | exact absurd trivial hc | skip))
    | (with_reducible apply hnx; clear hnx nx)
    | (with_reducible refine And.intro (by omega) ?_)
    | (with_reducible refine And.intro ?_ ?_)
    | (clear hnx nx; with_reducible apply hnx; clear hnx nx)
    | (clear hnx nx; clear hnx nx; with_reducible apply hnx; clear hnx nx))
        all_goals first
          | (exfalso
             omega)
          | (refine hfin _ _ (Fin_ret1 rfl (Sub_refl (by simp [names])) ?_); simp only [cob, Nat.reduceAdd, Nat.reduceMul, Nat.reduceSub, Nat.reduceLeDiff, Nat.reduceEqDiff, ↓reduceIte, reduceCtorEq, Nat.reduceLT, Nat.reducePow, Nat.reduceDiv, Nat.reduceMod, Nat.reduceBEq, Int.reduceLT, Int.reduceLE, Int.reduceToNat, Int.reduceAdd, Int.reduceSub, Int.reduceNeg]
             exact .inr ⟨N, rfl, rfl⟩)
    · refine Ev_in ?_
      repeat' (first
    | (with_reducible apply W_seq_k; intro nx hnx)
    | (with_reducible first | refine wr 234884973 ?_)
    | ((with_reducible first | (apply WL_op; intro nx hnx) | refine Ev_out ?_ | refine wc ?_ | (refine pf hnm fun nm hnm => ?_; try simp only [fmb] at hnm) | (refine pm hnm fun nm hnm => ?_; try simp only [fmb] at hnm)); try (simp (maxSteps := 2000000) (disch := omega) only [ev, ↓evp, PV.cells, PV.one, PV.mem?, Value.cells, Nat.reduceAdd, Nat.reduceMul, Nat.reduceSub, Nat.reduceLeDiff, Nat.reduceEqDiff, ↓reduceIte, reduceCtorEq, Nat.reduceLT, Nat.reducePow, Nat.reduceDiv, Nat.reduceMod, Nat.reduceBEq, Int.reduceLT, Int.reduceLE, Int.reduceToNat, Int.reduceAdd, Int.reduceSub, Int.reduceNeg, hnm, Try.tf0, Try.tf3, Try.tf4, Try.tf5, Try.tf9, Try.tf20, Try.tf28, Try.tf33, Try.call51]))
    | ((with_reducible first | apply W_block | apply W_scope | apply WL_nil | apply W_label | apply W_skip | apply W_exit | apply W_ret) <;> try simp only [kks, Nat.reduceAdd, Nat.reduceMul, Nat.reduceSub, Nat.reduceLeDiff, Nat.reduceEqDiff, ↓reduceIte, reduceCtorEq, Nat.reduceLT, Nat.reducePow, Nat.reduceDiv, Nat.reduceMod, Nat.reduceBEq, Int.reduceLT, Int.reduceLE, Int.reduceToNat, Int.reduceAdd, Int.reduceSub, Int.reduceNeg])
    | (with_reducible apply pg <;> (intro hc; (try simp only [hcb, Nat.reduceAdd, Nat.reduceMul, Nat.reduceSub, Nat.reduceLeDiff, Nat.reduceEqDiff, ↓reduceIte, reduceCtorEq, Nat.reduceLT, Nat.reducePow, Nat.reduceDiv, Nat.reduceMod, Nat.reduceBEq, Int.reduceLT, Int.reduceLE, Int.reduceToNat, Int.reduceAdd, Int.reduceSub, Int.reduceNeg, ne_eq, forall_const] at hc); first | (exfalso; omega) | exact absurd trivial hc | skip))
    | (with_reducible apply hnx; clear hnx nx)
    | (with_reducible refine And.intro (by omega) ?_)
    | (with_reducible refine And.intro ?_ ?_)
    | (clear hnx nx; with_reducible apply hnx; clear hnx nx)
    | (clear hnx nx; clear hnx nx; with_reducible apply hnx; clear hnx nx))
      refine W_loop_k (fun z τ => ∃ (i : Nat) (N : Int) (o : List UInt8), i ≤ xs.length ∧ z = xs.length - i ∧ o = (xs.take i).flatten ∧ τ = ⟨fr 36 [(25, .list 1 (xs.map pl)), (26, pint .i64 xs.length), (27, pint .i64 i), (6, .row N 1 o.length)], [(N, ⟨5, true, 1, o.map pbyte⟩)]⟩) xs.length
        ⟨fr 36 [(25, .list 1 (xs.map pl)), (26, pint .i64 xs.length), (27, pint .i64 (0 : Nat)), (6, .row N0 1 0)], [(N0, ⟨5, true, 1, []⟩)]⟩ (by
        refine Wk_fr (by simp only [wkb, Nat.reduceAdd, Nat.reduceMul, Nat.reduceSub, Nat.reduceLeDiff, Nat.reduceEqDiff, ↓reduceIte, reduceCtorEq, Nat.reduceLT, Nat.reducePow, Nat.reduceDiv, Nat.reduceMod, Nat.reduceBEq, Int.reduceLT, Int.reduceLE, Int.reduceToNat, Int.reduceAdd, Int.reduceSub, Int.reduceNeg]) ?_
        exact ⟨by simp, by simp [names]⟩) ⟨0, N0, [], by omega, by omega, by simp, rfl⟩ ?_
      rintro z τ ⟨k, N, o, hk, rfl, ho, rfl⟩ lp hlp
      have hol : o.length = lenS (xs.take k) := by rw [ho, lenS_flat]
      have hle := lenS_le xs (k + 1)
      by_cases hkk : k < xs.length
      · have ht := lenS_take xs k hkk
        have hf := flat_take xs k hkk
        repeat' (first
    | (with_reducible apply W_seq_k; intro nx hnx)
    | (with_reducible first | refine wr 234884973 ?_)
    | ((with_reducible first | (apply WL_op; intro nx hnx) | refine Ev_out ?_ | refine wc ?_ | (refine pf hnm fun nm hnm => ?_; try simp only [fmb] at hnm) | (refine pm hnm fun nm hnm => ?_; try simp only [fmb] at hnm)); try (simp (maxSteps := 2000000) (disch := omega) only [ev, ↓evp, PV.cells, PV.one, PV.mem?, Value.cells, Nat.reduceAdd, Nat.reduceMul, Nat.reduceSub, Nat.reduceLeDiff, Nat.reduceEqDiff, ↓reduceIte, reduceCtorEq, Nat.reduceLT, Nat.reducePow, Nat.reduceDiv, Nat.reduceMod, Nat.reduceBEq, Int.reduceLT, Int.reduceLE, Int.reduceToNat, Int.reduceAdd, Int.reduceSub, Int.reduceNeg, hnm, Try.tf0, Try.tf3, Try.tf4, Try.tf5, Try.tf9, Try.tf20, Try.tf28, Try.tf33, Try.call51, flat_pb]))
    | ((with_reducible first | apply W_block | apply W_scope | apply WL_nil | apply W_label | apply W_skip | apply W_exit | apply W_ret) <;> try simp only [kks, Nat.reduceAdd, Nat.reduceMul, Nat.reduceSub, Nat.reduceLeDiff, Nat.reduceEqDiff, ↓reduceIte, reduceCtorEq, Nat.reduceLT, Nat.reducePow, Nat.reduceDiv, Nat.reduceMod, Nat.reduceBEq, Int.reduceLT, Int.reduceLE, Int.reduceToNat, Int.reduceAdd, Int.reduceSub, Int.reduceNeg])
    | (with_reducible apply pg <;> (intro hc; (try simp only [hcb, Nat.reduceAdd, Nat.reduceMul, Nat.reduceSub, Nat.reduceLeDiff, Nat.reduceEqDiff, ↓reduceIte, reduceCtorEq, Nat.reduceLT, Nat.reducePow, Nat.reduceDiv, Nat.reduceMod, Nat.reduceBEq, Int.reduceLT, Int.reduceLE, Int.reduceToNat, Int.reduceAdd, Int.reduceSub, Int.reduceNeg, ne_eq, forall_const] at hc); first | (exfalso; omega) | exact absurd trivial hc | skip))
    | (with_reducible apply hnx; clear hnx nx)
    | (with_reducible refine And.intro (by omega) ?_)
    | (with_reducible refine And.intro ?_ ?_)
    | (clear hnx nx; with_reducible apply hnx; clear hnx nx)
    | (clear hnx nx; clear hnx nx; with_reducible apply hnx; clear hnx nx))
        all_goals first
          | (exfalso
             omega)
          | (refine hlp _ (xs.length - (k + 1)) _ (by omega) ?_ ⟨k + 1, nm, o ++ xs[k], by omega, rfl, by rw [hf, ho], rfl⟩
             rw [List.length_append, List.map_append]
             refine Wk_fr (by simp only [wkb, Nat.reduceAdd, Nat.reduceMul, Nat.reduceSub, Nat.reduceLeDiff, Nat.reduceEqDiff, ↓reduceIte, reduceCtorEq, Nat.reduceLT, Nat.reducePow, Nat.reduceDiv, Nat.reduceMod, Nat.reduceBEq, Int.reduceLT, Int.reduceLE, Int.reduceToNat, Int.reduceAdd, Int.reduceSub, Int.reduceNeg]) ?_
             exact ⟨by simp, by simp [names]⟩)
      · have hox : o = xs.flatten := by rw [ho, List.take_of_length_le (by omega)]
        rw [← hox] at hfin
        repeat' (first
    | (with_reducible apply W_seq_k; intro nx hnx)
    | (with_reducible first | refine wr 234884973 ?_)
    | ((with_reducible first | (apply WL_op; intro nx hnx) | refine Ev_out ?_ | refine wc ?_ | (refine pf hnm fun nm hnm => ?_; try simp only [fmb] at hnm) | (refine pm hnm fun nm hnm => ?_; try simp only [fmb] at hnm)); try (simp (maxSteps := 2000000) (disch := omega) only [ev, ↓evp, PV.cells, PV.one, PV.mem?, Value.cells, Nat.reduceAdd, Nat.reduceMul, Nat.reduceSub, Nat.reduceLeDiff, Nat.reduceEqDiff, ↓reduceIte, reduceCtorEq, Nat.reduceLT, Nat.reducePow, Nat.reduceDiv, Nat.reduceMod, Nat.reduceBEq, Int.reduceLT, Int.reduceLE, Int.reduceToNat, Int.reduceAdd, Int.reduceSub, Int.reduceNeg, hnm, Try.tf0, Try.tf3, Try.tf4, Try.tf5, Try.tf9, Try.tf20, Try.tf28, Try.tf33, Try.call51]))
    | ((with_reducible first | apply W_block | apply W_scope | apply WL_nil | apply W_label | apply W_skip | apply W_exit | apply W_ret) <;> try simp only [kks, Nat.reduceAdd, Nat.reduceMul, Nat.reduceSub, Nat.reduceLeDiff, Nat.reduceEqDiff, ↓reduceIte, reduceCtorEq, Nat.reduceLT, Nat.reducePow, Nat.reduceDiv, Nat.reduceMod, Nat.reduceBEq, Int.reduceLT, Int.reduceLE, Int.reduceToNat, Int.reduceAdd, Int.reduceSub, Int.reduceNeg])
    | (with_reducible apply pg <;> (intro hc; (try simp only [hcb, Nat.reduceAdd, Nat.reduceMul, Nat.reduceSub, Nat.reduceLeDiff, Nat.reduceEqDiff, ↓reduceIte, reduceCtorEq, Nat.reduceLT, Nat.reducePow, Nat.reduceDiv, Nat.reduceMod, Nat.reduceBEq, Int.reduceLT, Int.reduceLE, Int.reduceToNat, Int.reduceAdd, Int.reduceSub, Int.reduceNeg, ne_eq, forall_const] at hc); first | (exfalso; omega) | exact absurd trivial hc | skip))
    | (with_reducible apply hnx; clear hnx nx)
    | (with_reducible refine And.intro (by omega) ?_)
    | (with_reducible refine And.intro ?_ ?_)
    | (clear hnx nx; with_reducible apply hnx; clear hnx nx)
    | (clear hnx nx; clear hnx nx; with_reducible apply hnx; clear hnx nx))
        all_goals first
          | (exfalso
             omega)
          | (refine hfin _ _ (Fin_ret1 rfl (Sub_refl (by simp [names])) ?_); simp only [cob, Nat.reduceAdd, Nat.reduceMul, Nat.reduceSub, Nat.reduceLeDiff, Nat.reduceEqDiff, ↓reduceIte, reduceCtorEq, Nat.reduceLT, Nat.reducePow, Nat.reduceDiv, Nat.reduceMod, Nat.reduceBEq, Int.reduceLT, Int.reduceLE, Int.reduceToNat, Int.reduceAdd, Int.reduceSub, Int.reduceNeg]
             exact .inr ⟨N, rfl, rfl⟩)
theorem concat_c (G : Globs) (xs : List (List UInt8)) (hx : xs.length ≤ 1000) (hb : lenS xs ≤ 4294967296) : PCalls Try.prog G 42 [.list 1 (xs.map pl)] [] (fun res H => res = pl xs.flatten ∧ H = []) := CR.frz (concat_r G xs hx hb)
end Go.PM

namespace Go.PM
open Go.Proofs
attribute [local irreducible] W PCalls pcall pcallI WL
/-- An object of one's own is turned no more. -/
theorem freeze_arr {G : Globs} {I : List Int} {N : Nat} {L : List (Nat × PV)} {d : Nat} {n : Int} {t : TypeId} {cells : List PV} (hI : n ∉ I) (hL : ∀ x ∈ L, frz n cells x.2 = x.2) :
    Wx G I ⟨fr N ((d, .ptr n 0) :: L), [(n, ⟨t, false, 0, cells⟩)]⟩ ⟨fr N ((d, .iptr cells 0) :: L), []⟩ := by
  have h1 := Wx.freeze_f (G := G) (I := I) (N := N) (l := (d, .ptr n 0) :: L) (H := [(n, ⟨t, false, 0, cells⟩)]) n (o := ⟨t, false, 0, cells⟩) hI (by simp only [look, if_true]) (by simp [frzOk, del])
  have e1 : L.map (fun x => (x.1, frz n cells x.2)) = L := by
    conv => rhs; rw [← List.map_id L]
    exact List.map_congr_left fun x hx => by rw [hL x hx]; rfl
  rw [List.map_cons, e1] at h1
  simpa [frz, frz1, frzH, del] using h1
set_option maxRecDepth 100000 in
set_option maxHeartbeats 8000000 in
theorem Seal_c (G : Globs) (key : UInt64) (b : List UInt8) (hb : b.length ≤ 4294900000) : PCalls Try.prog G 24 [pq key, pl b] [] (fun res H => res = pl (b ++ sealB key b) ∧ H = []) := by
  have hl := sealB_len key b
  have ho := all_one_b (sealB key b)
  have c1 := seal_c G key b (by omega)
  have c2 := concat_c G [b, sealB key b] (by simp) (by simp [lenS, hl]; omega)
  simp only [List.map_cons, List.map_nil, List.flatten_cons, List.flatten_nil, List.append_nil] at c2
  generalize sealB key b = s at *
  (refine PCalls_f Try.func24 rfl Try.ntmps24 Try.results24 (by simp) fun fin hfin => ?_; have hnm : True := trivial; simp only [ev, Nat.reduceAdd, Nat.reduceMul, Nat.reduceSub, Nat.reduceLeDiff, Nat.reduceEqDiff, ↓reduceIte, reduceCtorEq, Nat.reduceLT, Nat.reducePow, Nat.reduceDiv, Nat.reduceMod, Nat.reduceBEq, Int.reduceLT, Int.reduceLE, Int.reduceToNat, Int.reduceAdd, Int.reduceSub, Int.reduceNeg])
  with_reducible apply W_seq_k
  intro nx hnx
  repeat' (first
    | (with_reducible first | refine wr 51 ?_)
    | ((with_reducible first | (apply WL_op; intro nx hnx) | refine Ev_out ?_ | refine wc ?_ | (refine pf hnm fun nm hnm => ?_; try simp only [fmb] at hnm) | (refine pm hnm fun nm hnm => ?_; try simp only [fmb] at hnm)); try (simp (maxSteps := 2000000) (disch := omega) only [ev, ↓evp, PV.cells, PV.one, PV.mem?, Value.cells, Nat.reduceAdd, Nat.reduceMul, Nat.reduceSub, Nat.reduceLeDiff, Nat.reduceEqDiff, ↓reduceIte, reduceCtorEq, Nat.reduceLT, Nat.reducePow, Nat.reduceDiv, Nat.reduceMod, Nat.reduceBEq, Int.reduceLT, Int.reduceLE, Int.reduceToNat, Int.reduceAdd, Int.reduceSub, Int.reduceNeg, hnm, Try.tf0, Try.tf2, Try.tf5, Try.tf22, Try.tf28, Try.tf33, Try.tf79, Try.call41, Try.call42]))
    | ((with_reducible first | apply W_block | apply W_scope | apply WL_nil | apply W_label | apply W_skip | apply W_exit | apply W_ret) <;> try simp only [kks, Nat.reduceAdd, Nat.reduceMul, Nat.reduceSub, Nat.reduceLeDiff, Nat.reduceEqDiff, ↓reduceIte, reduceCtorEq, Nat.reduceLT, Nat.reducePow, Nat.reduceDiv, Nat.reduceMod, Nat.reduceBEq, Int.reduceLT, Int.reduceLE, Int.reduceToNat, Int.reduceAdd, Int.reduceSub, Int.reduceNeg])
    | (with_reducible apply hnx; clear hnx nx)
    | (with_reducible refine And.intro (by omega) ?_)
    | (with_reducible refine And.intro ?_ ?_)
    | (clear hnx nx; with_reducible apply hnx; clear hnx nx)
    | (clear hnx nx; clear hnx nx; with_reducible apply hnx; clear hnx nx))
  with_reducible apply W_seq_k
  intro nx hnx
  repeat' (first
    | (with_reducible first | refine wr 51 ?_)
    | ((with_reducible first | (apply WL_op; intro nx hnx) | refine Ev_out ?_ | refine wc ?_ | (refine pf hnm fun nm hnm => ?_; try simp only [fmb] at hnm) | (refine pm hnm fun nm hnm => ?_; try simp only [fmb] at hnm)); try (simp (maxSteps := 2000000) (disch := omega) only [ev, ↓evp, PV.cells, PV.one, PV.mem?, Value.cells, Nat.reduceAdd, Nat.reduceMul, Nat.reduceSub, Nat.reduceLeDiff, Nat.reduceEqDiff, ↓reduceIte, reduceCtorEq, Nat.reduceLT, Nat.reducePow, Nat.reduceDiv, Nat.reduceMod, Nat.reduceBEq, Int.reduceLT, Int.reduceLE, Int.reduceToNat, Int.reduceAdd, Int.reduceSub, Int.reduceNeg, hnm, Try.tf0, Try.tf2, Try.tf5, Try.tf22, Try.tf28, Try.tf33, Try.tf79, Try.call41, Try.call42, hl, ho, List.length_map]))
    | ((with_reducible first | apply W_block | apply W_scope | apply WL_nil | apply W_label | apply W_skip | apply W_exit | apply W_ret) <;> try simp only [kks, Nat.reduceAdd, Nat.reduceMul, Nat.reduceSub, Nat.reduceLeDiff, Nat.reduceEqDiff, ↓reduceIte, reduceCtorEq, Nat.reduceLT, Nat.reducePow, Nat.reduceDiv, Nat.reduceMod, Nat.reduceBEq, Int.reduceLT, Int.reduceLE, Int.reduceToNat, Int.reduceAdd, Int.reduceSub, Int.reduceNeg])
    | (with_reducible apply hnx; clear hnx nx)
    | (with_reducible refine And.intro (by omega) ?_)
    | (with_reducible refine And.intro ?_ ?_)
    | (with_reducible refine pe (c1) ?_)
    | (clear hnx nx; with_reducible apply hnx; clear hnx nx)
    | (clear hnx nx; clear hnx nx; with_reducible apply hnx; clear hnx nx))
  refine W_wk (τ := ⟨fr 13 [(5, .ptr nm 0), (1, pl b)], [(nm, ⟨79, false, 0, s.map pbyte⟩)]⟩) (by
    refine Wk_fr (by simp only [wkb, Nat.reduceAdd, Nat.reduceMul, Nat.reduceSub, Nat.reduceLeDiff, Nat.reduceEqDiff, ↓reduceIte, reduceCtorEq, Nat.reduceLT, Nat.reducePow, Nat.reduceDiv, Nat.reduceMod, Nat.reduceBEq, Int.reduceLT, Int.reduceLE, Int.reduceToNat, Int.reduceAdd, Int.reduceSub, Int.reduceNeg]) ?_
    exact ⟨by simp, by simp [names]⟩) ?_
  refine W_x (τ := ⟨fr 13 [(5, .iptr (s.map pbyte) 0), (1, pl b)], []⟩) (freeze_arr (by simp) (by simp [frz, frz1])) ?_
  have ht : List.take 8 (s.map pbyte) = s.map pbyte := List.take_of_length_le (by simp [hl])
  repeat' (first
    | (with_reducible apply W_seq_k; intro nx hnx)
    | (with_reducible first | refine wr 51 ?_)
    | (with_reducible refine WL_born (by simp) rfl (by simp) ?_; simp only [elemsOf, nl, bir, Nat.reduceAdd, Nat.reduceMul, Nat.reduceSub, Nat.reduceLeDiff, Nat.reduceEqDiff, ↓reduceIte, reduceCtorEq, Nat.reduceLT, Nat.reducePow, Nat.reduceDiv, Nat.reduceMod, Nat.reduceBEq, Int.reduceLT, Int.reduceLE, Int.reduceToNat, Int.reduceAdd, Int.reduceSub, Int.reduceNeg])
    | ((with_reducible first | (apply WL_op; intro nx hnx) | refine Ev_out ?_ | refine wc ?_ | (refine pf hnm fun nm hnm => ?_; try simp only [fmb] at hnm) | (refine pborn_im ?_; simp only [elemsOf, nl, bir, Nat.reduceAdd, Nat.reduceMul, Nat.reduceSub, Nat.reduceLeDiff, Nat.reduceEqDiff, ↓reduceIte, reduceCtorEq, Nat.reduceLT, Nat.reducePow, Nat.reduceDiv, Nat.reduceMod, Nat.reduceBEq, Int.reduceLT, Int.reduceLE, Int.reduceToNat, Int.reduceAdd, Int.reduceSub, Int.reduceNeg])); try (simp (maxSteps := 2000000) (disch := omega) only [ev, ↓evp, PV.cells, PV.one, PV.mem?, Value.cells, Nat.reduceAdd, Nat.reduceMul, Nat.reduceSub, Nat.reduceLeDiff, Nat.reduceEqDiff, ↓reduceIte, reduceCtorEq, Nat.reduceLT, Nat.reducePow, Nat.reduceDiv, Nat.reduceMod, Nat.reduceBEq, Int.reduceLT, Int.reduceLE, Int.reduceToNat, Int.reduceAdd, Int.reduceSub, Int.reduceNeg, hnm, Try.tf0, Try.tf2, Try.tf5, Try.tf22, Try.tf28, Try.tf33, Try.tf79, Try.call41, Try.call42, hl, ho, ht, List.length_map, List.drop_zero]))
    | ((with_reducible first | apply W_block | apply W_scope | apply WL_nil | apply W_label | apply W_skip | apply W_exit | apply W_ret) <;> try simp only [kks, Nat.reduceAdd, Nat.reduceMul, Nat.reduceSub, Nat.reduceLeDiff, Nat.reduceEqDiff, ↓reduceIte, reduceCtorEq, Nat.reduceLT, Nat.reducePow, Nat.reduceDiv, Nat.reduceMod, Nat.reduceBEq, Int.reduceLT, Int.reduceLE, Int.reduceToNat, Int.reduceAdd, Int.reduceSub, Int.reduceNeg])
    | (with_reducible apply hnx; clear hnx nx)
    | (with_reducible refine And.intro (by omega) ?_)
    | (with_reducible refine And.intro ?_ ?_)
    | (with_reducible refine pe (c2) ?_)
    | (clear hnx nx; with_reducible apply hnx; clear hnx nx)
    | (clear hnx nx; clear hnx nx; with_reducible apply hnx; clear hnx nx))
  all_goals first
    | exact ho
    | exact rfl
    | (refine hfin _ _ (Fin_ret1 rfl (Sub_nil _) ?_); simp only [cob, Nat.reduceAdd, Nat.reduceMul, Nat.reduceSub, Nat.reduceLeDiff, Nat.reduceEqDiff, ↓reduceIte, reduceCtorEq, Nat.reduceLT, Nat.reducePow, Nat.reduceDiv, Nat.reduceMod, Nat.reduceBEq, Int.reduceLT, Int.reduceLE, Int.reduceToNat, Int.reduceAdd, Int.reduceSub, Int.reduceNeg]; first | trivial | exact ⟨rfl, by trivial⟩ | (simp; done) | (simp; omega))
theorem peqs_bytes : ∀ (n : Nat) (d e : List UInt8), d.length = n → e.length = n → peqs (List.replicate n (.int .u8)) (d.map pbyte) (e.map pbyte) = some (decide (d = e))
  | 0, [], [], _, _ => by simp [peqs]
  | n + 1, a :: d, b :: e, h1, h2 => by
    have ih := peqs_bytes n d e (by simpa using h1) (by simpa using h2)
    simp only [List.replicate_succ, List.map_cons, peqs, ih, peq1, if_true]
    congr 1
    have : ((a.toNat : Int) == (b.toNat : Int)) = decide (a = b) := by
      rw [Bool.eq_iff_iff]
      simp only [beq_iff_eq, decide_eq_true_eq]
      exact ⟨fun h => UInt8.toNat_inj.1 (Int.ofNat_inj.1 h), fun h => by rw [h]⟩
    rw [this]
    simp
theorem q8 (a b : List UInt8) (h1 : a.length = 8) (h2 : b.length = 8) : peqs [.int .u8, .int .u8, .int .u8, .int .u8, .int .u8, .int .u8, .int .u8, .int .u8] (a.map pbyte) (b.map pbyte) = some (decide (a = b)) := peqs_bytes 8 a b h1 h2
/-- What is opened of bytes: what was sealed, and the error. -/
def openF (key : UInt64) (b : List UInt8) : List UInt8 × Int :=
  if b.length < 8 then ([], 2)
  else if sealB key (b.take (b.length - 8)) = b.drop (b.length - 8) then (b.take (b.length - 8), 0)
  else ([], 9)
/-- Bytes and an error come back: memory that nobody turns, or none. -/
def OR (x : List UInt8 × Int) (res : PV) (H : Heap) : Prop := (x.1 = [] ∧ res = .tuple [pnil, pint .i64 x.2] ∧ H = []) ∨ (res = .tuple [pl x.1, pint .i64 x.2] ∧ H = [])
theorem OR.frz {G : Globs} {f : FuncId} {args : List PV} {x : List UInt8 × Int} (h : PCalls Try.prog G f args [] (OR x)) : PCalls Try.prog G f args [] (fun res H => res = .tuple [pl x.1, pint .i64 x.2] ∧ H = []) := by
  refine h.px fun res H hR => ?_
  rcases hR with ⟨h1, rfl, rfl⟩ | ⟨rfl, rfl⟩
  · refine ⟨_, _, Px.nil2 1 _ _, ?_, rfl⟩
    rw [h1]
    rfl
  · exact ⟨_, _, Px.refl _ _, rfl, rfl⟩
set_option maxRecDepth 100000 in
set_option maxHeartbeats 8000000 in
theorem Open_r (G : Globs) (key : UInt64) (b : List UInt8) (hb : b.length ≤ 4294900000) : PCalls Try.prog G 25 [pq key, pl b] [] (OR (openF key b)) := by
  by_cases h8 : b.length < 8
  · have hX : openF key b = ([], 2) := by rw [openF, if_pos h8]
    rw [hX]
    (refine PCalls_f Try.func25 rfl Try.ntmps25 Try.results25 (by simp) fun fin hfin => ?_; have hnm : True := trivial; simp only [ev, Nat.reduceAdd, Nat.reduceMul, Nat.reduceSub, Nat.reduceLeDiff, Nat.reduceEqDiff, ↓reduceIte, reduceCtorEq, Nat.reduceLT, Nat.reducePow, Nat.reduceDiv, Nat.reduceMod, Nat.reduceBEq, Int.reduceLT, Int.reduceLE, Int.reduceToNat, Int.reduceAdd, Int.reduceSub, Int.reduceNeg])
    repeat' (first
    | (with_reducible apply W_seq_k; intro nx hnx)
    | (with_reducible first | refine wr 115 ?_ | refine wd (id := 4) 115 1 (.op 0 true (.op 1 true (.op 2 true (.op 3 true (.op 5 true (.op 6 true (.op 7 true (.op 8 true (.op 9 true (.op 4 true (.op 10 true (.done)))))))))))) (by kernel_rfl) ?_)
    | ((with_reducible first | (apply WL_op; intro nx hnx) | refine Ev_out ?_ | refine wc ?_ | (apply popsD_op; intro nx hnx) | (refine popsD_alt ?_ ?_; intro nx hnx) | (refine pmaybe_k ?_; intro bn hbn)); try (simp (maxSteps := 2000000) (disch := omega) only [ev, ↓evp, PV.cells, PV.one, PV.mem?, Value.cells, Nat.reduceAdd, Nat.reduceMul, Nat.reduceSub, Nat.reduceLeDiff, Nat.reduceEqDiff, ↓reduceIte, reduceCtorEq, Nat.reduceLT, Nat.reducePow, Nat.reduceDiv, Nat.reduceMod, Nat.reduceBEq, Int.reduceLT, Int.reduceLE, Int.reduceToNat, Int.reduceAdd, Int.reduceSub, Int.reduceNeg, hnm, Try.tf0, Try.tf3, Try.tf4, Try.tf5, Try.tf22, Try.tf33, Try.tf34, Try.tf79, Try.teq79, Try.call32, Try.call41]))
    | ((with_reducible first | apply W_block | apply W_scope | apply WL_nil | apply W_label | apply W_skip | apply W_exit | apply W_ret | apply popsD_done | exact popsD_stop) <;> try simp only [kks, Nat.reduceAdd, Nat.reduceMul, Nat.reduceSub, Nat.reduceLeDiff, Nat.reduceEqDiff, ↓reduceIte, reduceCtorEq, Nat.reduceLT, Nat.reducePow, Nat.reduceDiv, Nat.reduceMod, Nat.reduceBEq, Int.reduceLT, Int.reduceLE, Int.reduceToNat, Int.reduceAdd, Int.reduceSub, Int.reduceNeg])
    | (with_reducible apply pg <;> (intro hc; (try simp only [hcb, Nat.reduceAdd, Nat.reduceMul, Nat.reduceSub, Nat.reduceLeDiff, Nat.reduceEqDiff, ↓reduceIte, reduceCtorEq, Nat.reduceLT, Nat.reducePow, Nat.reduceDiv, Nat.reduceMod, Nat.reduceBEq, Int.reduceLT, Int.reduceLE, Int.reduceToNat, Int.reduceAdd, Int.reduceSub, Int.reduceNeg, ne_eq, forall_const] at hc); first | (exfalso; omega) | exact absurd trivial hc | skip))
    | (with_reducible apply hnx; clear hnx nx)
    | (with_reducible refine And.intro (by omega) ?_)
    | (with_reducible refine And.intro ?_ ?_)
    | (clear hnx nx; with_reducible apply hnx; clear hnx nx)
    | (clear hnx nx; clear hnx nx; with_reducible apply hnx; clear hnx nx))
    all_goals first
      | (exfalso
         omega)
      | skip
    refine hfin _ _ (Fin_ret2 rfl rfl (Sub_nil _) ?_); simp only [cob, Nat.reduceAdd, Nat.reduceMul, Nat.reduceSub, Nat.reduceLeDiff, Nat.reduceEqDiff, ↓reduceIte, reduceCtorEq, Nat.reduceLT, Nat.reducePow, Nat.reduceDiv, Nat.reduceMod, Nat.reduceBEq, Int.reduceLT, Int.reduceLE, Int.reduceToNat, Int.reduceAdd, Int.reduceSub, Int.reduceNeg]
    exact .inl ⟨rfl, rfl, rfl⟩
  · have hX : openF key b = if sealB key (b.take (b.length - 8)) = b.drop (b.length - 8) then (b.take (b.length - 8), 0) else ([], 9) := by rw [openF, if_neg h8]
    rw [hX]
    obtain ⟨c, hc⟩ : ∃ c, c = b.take (b.length - 8) := ⟨_, rfl⟩
    obtain ⟨d, hd⟩ : ∃ d, d = b.drop (b.length - 8) := ⟨_, rfl⟩
    have hdl : d.length = 8 := by rw [hd, List.length_drop]; omega
    have hcl : c.length + 8 = b.length := by rw [hc, List.length_take]; omega
    have hsl := sealB_len key c
    have c1 := seal_c G key c (by omega)
    have c2 := clone_c G c (by omega)
    have hc2 : List.take (b.length - 8) (b.map pbyte) = c.map pbyte := by rw [hc, List.map_take]
    have hd2 : List.drop (b.length - 8) (b.map pbyte) = d.map pbyte := by rw [hd, List.map_drop]
    have hk : ((b.length : Int) - 8).toNat = b.length - 8 := by omega
    have htb : List.take b.length (b.map pbyte) = b.map pbyte := List.take_of_length_le (by simp)
    have hdt : List.take 8 (d.map pbyte) = d.map pbyte := List.take_of_length_le (by simp [hdl])
    have h1 := all_one_b d
    have hq := q8 (sealB key c) d hsl hdl
    rw [← hc, ← hd]
    generalize sealB key c = s at *
    clear hX
    (refine PCalls_f Try.func25 rfl Try.ntmps25 Try.results25 (by simp) fun fin hfin => ?_; have hnm : True := trivial; simp only [ev, Nat.reduceAdd, Nat.reduceMul, Nat.reduceSub, Nat.reduceLeDiff, Nat.reduceEqDiff, ↓reduceIte, reduceCtorEq, Nat.reduceLT, Nat.reducePow, Nat.reduceDiv, Nat.reduceMod, Nat.reduceBEq, Int.reduceLT, Int.reduceLE, Int.reduceToNat, Int.reduceAdd, Int.reduceSub, Int.reduceNeg])
    repeat' (first
    | (with_reducible apply W_seq_k; intro nx hnx)
    | (with_reducible first | refine wr 115 ?_ | refine wd (id := 4) 115 1 (.op 0 true (.op 1 true (.op 2 true (.op 3 true (.op 5 true (.op 6 true (.op 7 true (.op 8 true (.op 9 true (.op 4 true (.op 10 true (.done)))))))))))) (by kernel_rfl) ?_)
    | ((with_reducible first | (apply WL_op; intro nx hnx) | refine Ev_out ?_ | refine wc ?_ | (apply popsD_op; intro nx hnx) | (refine popsD_alt ?_ ?_; intro nx hnx) | (refine pmaybe_k ?_; intro bn hbn)); try (simp (maxSteps := 2000000) (disch := omega) only [ev, ↓evp, PV.cells, PV.one, PV.mem?, Value.cells, Nat.reduceAdd, Nat.reduceMul, Nat.reduceSub, Nat.reduceLeDiff, Nat.reduceEqDiff, ↓reduceIte, reduceCtorEq, Nat.reduceLT, Nat.reducePow, Nat.reduceDiv, Nat.reduceMod, Nat.reduceBEq, Int.reduceLT, Int.reduceLE, Int.reduceToNat, Int.reduceAdd, Int.reduceSub, Int.reduceNeg, hnm, Try.tf0, Try.tf3, Try.tf4, Try.tf5, Try.tf22, Try.tf33, Try.tf34, Try.tf79, Try.teq79, Try.call32, Try.call41, hk, htb, hc2, hd2, hdt, hq, hdl, h1, flat_pb, List.length_map, List.drop_zero]))
    | ((with_reducible first | apply W_block | apply W_scope | apply WL_nil | apply W_label | apply W_skip | apply W_exit | apply W_ret | apply popsD_done | exact popsD_stop) <;> try simp only [kks, Nat.reduceAdd, Nat.reduceMul, Nat.reduceSub, Nat.reduceLeDiff, Nat.reduceEqDiff, ↓reduceIte, reduceCtorEq, Nat.reduceLT, Nat.reducePow, Nat.reduceDiv, Nat.reduceMod, Nat.reduceBEq, Int.reduceLT, Int.reduceLE, Int.reduceToNat, Int.reduceAdd, Int.reduceSub, Int.reduceNeg])
    | (with_reducible apply pg <;> (intro hc; (try simp only [hcb, Nat.reduceAdd, Nat.reduceMul, Nat.reduceSub, Nat.reduceLeDiff, Nat.reduceEqDiff, ↓reduceIte, reduceCtorEq, Nat.reduceLT, Nat.reducePow, Nat.reduceDiv, Nat.reduceMod, Nat.reduceBEq, Int.reduceLT, Int.reduceLE, Int.reduceToNat, Int.reduceAdd, Int.reduceSub, Int.reduceNeg, ne_eq, forall_const] at hc); first | (exfalso; omega) | exact absurd trivial hc | skip))
    | (with_reducible apply hnx; clear hnx nx)
    | (with_reducible refine And.intro (by omega) ?_)
    | (with_reducible refine And.intro ?_ ?_)
    | (with_reducible refine pe (c1) ?_)
    | (with_reducible refine pe (c2) ?_)
    | (clear hnx nx; with_reducible apply hnx; clear hnx nx)
    | (clear hnx nx; clear hnx nx; with_reducible apply hnx; clear hnx nx))
    all_goals first
      | (exfalso
         omega)
      | skip
    · rw [if_neg hc] at hfin
      refine hfin _ _ (Fin_ret2 rfl rfl (Sub_nil _) ?_); simp only [cob, Nat.reduceAdd, Nat.reduceMul, Nat.reduceSub, Nat.reduceLeDiff, Nat.reduceEqDiff, ↓reduceIte, reduceCtorEq, Nat.reduceLT, Nat.reducePow, Nat.reduceDiv, Nat.reduceMod, Nat.reduceBEq, Int.reduceLT, Int.reduceLE, Int.reduceToNat, Int.reduceAdd, Int.reduceSub, Int.reduceNeg]
      exact .inl ⟨rfl, rfl, rfl⟩
    · rw [if_pos hc] at hfin
      refine hfin _ _ (Fin_ret2 rfl rfl (Sub_nil _) ?_); simp only [cob, Nat.reduceAdd, Nat.reduceMul, Nat.reduceSub, Nat.reduceLeDiff, Nat.reduceEqDiff, ↓reduceIte, reduceCtorEq, Nat.reduceLT, Nat.reducePow, Nat.reduceDiv, Nat.reduceMod, Nat.reduceBEq, Int.reduceLT, Int.reduceLE, Int.reduceToNat, Int.reduceAdd, Int.reduceSub, Int.reduceNeg]
      exact .inr ⟨rfl, rfl⟩
theorem Open_c (G : Globs) (key : UInt64) (b : List UInt8) (hb : b.length ≤ 4294900000) : PCalls Try.prog G 25 [pq key, pl b] [] (fun res H => res = .tuple [pl (openF key b).1, pint .i64 (openF key b).2] ∧ H = []) := OR.frz (Open_r G key b hb)
end Go.PM

namespace Go.PM
open Go.Proofs
attribute [local irreducible] W PCalls pcall pcallI WL
/-- What is decoded as a byte string. -/
def gS (b : List UInt8) : List UInt8 × Nat × Int :=
  if (gC 1 b).2.2 ≠ 0 then ([], 0, (gC 1 b).2.2) else ((b.drop (gC 1 b).2.1).take (gC 1 b).1.toNat, (gC 1 b).2.1 + (gC 1 b).1.toNat, 0)
@[reducible] def s3 (x : List UInt8 × Nat × Int) : PV := .tuple [pstr x.1, pint .i64 x.2.1, pint .i64 x.2.2]
theorem gC_ok {size : Nat} (hs : 1 ≤ size) {b : List UInt8} (h : (gC size b).2.2 = 0) :
    gI b = gC size b ∧ 0 ≤ (gC size b).1 ∧ (gC size b).2.1 ≤ b.length ∧ (gC size b).1 ≤ ((b.length - (gC size b).2.1 : Nat) : Int) / size ∧ (gC size b).1 * size ≤ (b.length : Int) - (gC size b).2.1 := by
  have hle := gI_le b
  unfold gC at h ⊢
  split at h
  · rename_i h1
    exact absurd h h1
  · rename_i h1
    rw [if_neg h1]
    split at h
    · simp at h
    · rename_i h2
      rw [if_neg h2]
      split at h
      · simp at h
      · rename_i h3
        rw [if_neg h3]
        refine ⟨rfl, by omega, hle, by omega, ?_⟩
        have h4 : (gI b).1 ≤ ((b.length - (gI b).2.1 : Nat) : Int) / size := by omega
        have h5 := Int.mul_le_mul_of_nonneg_right h4 (show (0 : Int) ≤ size by omega)
        have h6 := Int.ediv_mul_le ((b.length - (gI b).2.1 : Nat) : Int) (show (size : Int) ≠ 0 by omega)
        omega
theorem gC_e (size : Nat) (b : List UInt8) (hb : (b.length : Int) ≤ 4611686018427387904) : 0 ≤ (gC size b).2.2 ∧ (gC size b).2.2 ≤ 3 := by
  have := gI_vals b hb
  unfold gC
  split
  · exact ⟨this.2.2.1, this.2.2.2⟩
  · split
    · exact ⟨by simp, by simp⟩
    · split
      · exact ⟨by simp, by simp⟩
      · exact ⟨this.2.2.1, this.2.2.2⟩
theorem map_unb (l : List UInt8) : List.map unb (List.map pbyte l) = l := bytes_unb l
theorem all_isByte (l : List UInt8) : (List.map pbyte l).all isByte = true := bytes_isByte l
set_option maxRecDepth 100000 in
set_option maxHeartbeats 8000000 in
theorem getBytes_c (G : Globs) (b : List UInt8) (hb : (b.length : Int) ≤ 4294967296) :
    PCalls Try.prog G 47 [.list 1 (b.map pbyte)] [] (fun res H => res = s3 (gS b) ∧ H = []) := by
  (refine PCalls_f Try.func47 rfl Try.ntmps47 Try.results47 (by simp) fun fin hfin => ?_; have hnm : True := trivial; simp only [ev, simprocAttr])
  repeat' (first
    | (with_reducible apply W_seq_k; intro nx hnx)
    | (with_reducible first | refine wr 253 ?_)
    | ((with_reducible first | (apply WL_op; intro nx hnx) | refine Ev_out ?_ | refine wc ?_ | (refine pf hnm fun nm hnm => ?_; try simp only [fmb] at hnm) | (refine pm hnm fun nm hnm => ?_; try simp only [fmb] at hnm)); try (simp (maxSteps := 2000000) (disch := omega) only [ev, ↓evp, PV.cells, PV.one, PV.mem?, Value.cells, simprocAttr, hnm, Try.tf0, Try.tf1, Try.tf2, Try.tf3, Try.tf4, Try.tf5, Try.tf9, Try.tf33, Try.tf34, Try.tf88, Try.call52]))
    | ((with_reducible first | apply W_block | apply W_scope | apply WL_nil | apply W_label | apply W_skip | apply W_exit | apply W_ret) <;> try simp only [kks, simprocAttr])
    | (with_reducible apply pg <;> (intro hc; (try simp only [hcb, simprocAttr, ne_eq, forall_const] at hc); first | (exfalso; omega) | exact absurd trivial hc | skip))
    | (with_reducible apply hnx; clear hnx nx)
    | (with_reducible refine And.intro (by omega) ?_)
    | (with_reducible refine And.intro ?_ ?_)
    | (clear hnx nx; with_reducible apply hnx; clear hnx nx)
    | (clear hnx nx; clear hnx nx; with_reducible apply hnx; clear hnx nx))
  refine pcall_k (count_c G b 1 (by omega) (by omega) (by omega)) ?_
  rintro _ _ ⟨⟨n, u, rfl, hok⟩, rfl⟩ -
  have he := gC_e 1 b (by omega)
  have hgok := gC_ok (size := 1) (by omega) (b := b)
  have hgS : gS b = if (gC 1 b).2.2 ≠ 0 then ([], 0, (gC 1 b).2.2) else ((b.drop (gC 1 b).2.1).take (gC 1 b).1.toNat, (gC 1 b).2.1 + (gC 1 b).1.toNat, 0) := rfl
  generalize gC 1 b = x at hok he hgok hgS ⊢
  obtain ⟨k, a, e⟩ := x
  simp only at hok he hgok hgS ⊢
  by_cases hez : e = 0
  · subst hez
    obtain ⟨h1, h2⟩ := hok rfl
    obtain ⟨h3, h4, h5, h6, h7⟩ := hgok rfl
    obtain ⟨k', rfl⟩ : ∃ k' : Nat, k = k' := ⟨k.toNat, by omega⟩
    subst h1
    subst h2
    have hmid : List.drop a (List.take (a + k') (b.map pbyte)) = ((b.drop a).take k').map pbyte := by
      rw [List.drop_take, List.map_take, List.map_drop, show a + k' - a = k' by omega]
    have ht : ((a : Int) + (k' : Int)).toNat = a + k' := by omega
    refine Ev_in ?_
    repeat' (first
    | (with_reducible apply W_seq_k; intro nx hnx)
    | (with_reducible first | refine wr 253 ?_)
    | ((with_reducible first | (apply WL_op; intro nx hnx) | refine Ev_out ?_ | refine wc ?_ | (refine pf hnm fun nm hnm => ?_; try simp only [fmb] at hnm) | (refine pm hnm fun nm hnm => ?_; try simp only [fmb] at hnm)); try (simp (maxSteps := 2000000) (disch := omega) only [ev, ↓evp, PV.cells, PV.one, PV.mem?, Value.cells, simprocAttr, hnm, Try.tf0, Try.tf1, Try.tf2, Try.tf3, Try.tf4, Try.tf5, Try.tf9, Try.tf33, Try.tf34, Try.tf88, Try.call52, ht, hmid, all_isByte, map_unb]))
    | ((with_reducible first | apply W_block | apply W_scope | apply WL_nil | apply W_label | apply W_skip | apply W_exit | apply W_ret) <;> try simp only [kks, simprocAttr])
    | (with_reducible apply pg <;> (intro hc; (try simp only [hcb, simprocAttr, ne_eq, forall_const] at hc); first | (exfalso; omega) | exact absurd trivial hc | skip))
    | (with_reducible apply hnx; clear hnx nx)
    | (with_reducible refine And.intro (by omega) ?_)
    | (with_reducible refine And.intro ?_ ?_)
    | (clear hnx nx; with_reducible apply hnx; clear hnx nx)
    | (clear hnx nx; clear hnx nx; with_reducible apply hnx; clear hnx nx))
    all_goals first
      | exact rfl
      | (exfalso
         omega)
      | skip
    refine hfin _ _ (Fin_ret3 rfl rfl rfl (Sub_nil _) ?_); simp only [cob, simprocAttr]
    refine ⟨?_, by trivial⟩
    rw [hgS, if_neg (by simp)]
    simp
  · (simp only [PState.put, fr_set, List.nil_append, List.append_nil]; try simp (maxSteps := 2000000) (disch := omega) only [ev, ↓evp, PV.cells, PV.one, PV.mem?, Value.cells, simprocAttr, hnm, Try.tf0, Try.tf1, Try.tf2, Try.tf3, Try.tf4, Try.tf5, Try.tf9, Try.tf33, Try.tf34, Try.tf88, Try.call52])
    repeat' (first
    | (with_reducible apply W_seq_k; intro nx hnx)
    | (with_reducible first | refine wr 253 ?_)
    | ((with_reducible first | (apply WL_op; intro nx hnx) | refine Ev_out ?_ | refine wc ?_ | (refine pf hnm fun nm hnm => ?_; try simp only [fmb] at hnm) | (refine pm hnm fun nm hnm => ?_; try simp only [fmb] at hnm)); try (simp (maxSteps := 2000000) (disch := omega) only [ev, ↓evp, PV.cells, PV.one, PV.mem?, Value.cells, simprocAttr, hnm, Try.tf0, Try.tf1, Try.tf2, Try.tf3, Try.tf4, Try.tf5, Try.tf9, Try.tf33, Try.tf34, Try.tf88, Try.call52]))
    | ((with_reducible first | apply W_block | apply W_scope | apply WL_nil | apply W_label | apply W_skip | apply W_exit | apply W_ret) <;> try simp only [kks, simprocAttr])
    | (with_reducible apply pg <;> (intro hc; (try simp only [hcb, simprocAttr, ne_eq, forall_const] at hc); first | (exfalso; omega) | exact absurd trivial hc | skip))
    | (with_reducible apply hnx; clear hnx nx)
    | (with_reducible refine And.intro (by omega) ?_)
    | (with_reducible refine And.intro ?_ ?_)
    | (clear hnx nx; with_reducible apply hnx; clear hnx nx)
    | (clear hnx nx; clear hnx nx; with_reducible apply hnx; clear hnx nx))
    all_goals first
      | (exfalso
         omega)
      | skip
    refine hfin _ _ (Fin_ret3 rfl rfl rfl (Sub_nil _) ?_); simp only [cob, simprocAttr]
    refine ⟨?_, by trivial⟩
    rw [hgS, if_pos hez]
    rfl
end Go.PM

namespace Go.PM
open Go.Proofs
attribute [local irreducible] W PCalls pcall pcallI WL
section
variable {α : Type}
/-- What is decoded of so many elements, one after the other. -/
def gL (g : List UInt8 → α × Nat × Int) : Nat → List UInt8 → List α × Nat × Int
  | 0, _ => ([], 0, 0)
  | k + 1, b => if (g b).2.2 ≠ 0 then ([], 0, (g b).2.2)
    else if (gL g k (b.drop (g b).2.1)).2.2 ≠ 0 then ([], 0, (gL g k (b.drop (g b).2.1)).2.2)
    else ((g b).1 :: (gL g k (b.drop (g b).2.1)).1, (g b).2.1 + (gL g k (b.drop (g b).2.1)).2.1, 0)
def comb (pre : List α) (a : Nat) (r : List α × Nat × Int) : List α × Nat × Int := if r.2.2 ≠ 0 then ([], 0, r.2.2) else (pre ++ r.1, a + r.2.1, 0)
/-- What is decoded of a list. -/
def gLs (g : List UInt8 → α × Nat × Int) (size : Nat) (b : List UInt8) : List α × Nat × Int :=
  if (gC size b).2.2 ≠ 0 then ([], 0, (gC size b).2.2) else comb [] (gC size b).2.1 (gL g (gC size b).1.toNat (b.drop (gC size b).2.1))
theorem comb_nil (g : List UInt8 → α × Nat × Int) (pre : List α) (a : Nat) (b : List UInt8) : comb pre a (gL g 0 b) = (pre, a, 0) := by simp [comb, gL]
theorem comb_err (g : List UInt8 → α × Nat × Int) (pre : List α) (a m : Nat) (b : List UInt8) (h : (g b).2.2 ≠ 0) : comb pre a (gL g (m + 1) b) = ([], 0, (g b).2.2) := by
  rw [gL, if_pos h, comb, if_pos h]
theorem comb_ok (g : List UInt8 → α × Nat × Int) (pre : List α) (a m : Nat) (b : List UInt8) (h : (g b).2.2 = 0) : comb pre a (gL g (m + 1) b) = comb (pre ++ [(g b).1]) (a + (g b).2.1) (gL g m (b.drop (g b).2.1)) := by
  rw [gL, if_neg (by rw [h]; simp)]
  by_cases h2 : (gL g m (b.drop (g b).2.1)).2.2 = 0
  · rw [if_neg (by rw [h2]; simp)]
    unfold comb
    rw [if_neg (by simp), if_neg (by rw [h2]; simp)]
    simp [Nat.add_assoc]
  · rw [if_pos h2]
    unfold comb
    rw [if_pos h2, if_pos h2]
theorem comb_norm (pre : List α) (a : Nat) (r : List α × Nat × Int) (h : (comb pre a r).2.2 ≠ 0) : (comb pre a r).1 = [] ∧ (comb pre a r).2.1 = 0 := by
  unfold comb at h ⊢
  split at h
  · rename_i h1
    rw [if_pos h1]
    exact ⟨rfl, rfl⟩
  · simp at h
theorem gLs_norm (g : List UInt8 → α × Nat × Int) (size : Nat) (b : List UInt8) (h : (gLs g size b).2.2 ≠ 0) : (gLs g size b).1 = [] ∧ (gLs g size b).2.1 = 0 := by
  unfold gLs at h ⊢
  split at h
  · rename_i h1
    rw [if_pos h1]
    exact ⟨rfl, rfl⟩
  · rename_i h1
    rw [if_neg h1]
    exact comb_norm _ _ _ h
/-- A list that was built, or none. -/
def LR (cf : List α → List PV) (ty : TypeId) (es : Nat) (x : List α × Nat × Int) (res : PV) (H : Heap) : Prop :=
  (x.2.2 ≠ 0 ∧ res = .tuple [pnil, pint .i64 (0 : Nat), pint .i64 x.2.2] ∧ H = []) ∨
  (x.2.2 = 0 ∧ ∃ N, res = .tuple [.row N es x.1.length, pint .i64 x.2.1, pint .i64 0] ∧ H = [(N, ⟨ty, true, es, cf x.1⟩)])
theorem Px.nil3 {G : Globs} (es : Nat) (q r : PV) (H : Heap) : Px G (.tuple [pnil, q, r]) H (.tuple [.list es [], q, r]) H := fun _ _ A _ w v hs hr => by
  refine ⟨A, hs, ?_⟩
  cases hr with
  | tuple cs f h2 =>
    refine .tuple [.list es [], q, r] f fun j u hu => ?_
    cases j with
    | zero =>
      cases hu
      exact nil_list es (h2 0 pnil rfl)
    | succ j => exact h2 (j + 1) u hu
theorem LR.frz {G : Globs} {f : FuncId} {args : List PV} {cf : List α → List PV} {pv : α → PV} {ty : TypeId} {es : Nat} {x : List α × Nat × Int}
    (h : PCalls Try.prog G f args [] (LR cf ty es x)) (hes : 0 < es) (hn : x.2.2 ≠ 0 → x.1 = [] ∧ x.2.1 = 0) (hlen : x.1.length * es ≤ (cf x.1).length) (hel : elemsOf es (cf x.1) x.1.length = x.1.map pv) :
    PCalls Try.prog G f args [] (fun res H => res = .tuple [.list es (x.1.map pv), pint .i64 x.2.1, pint .i64 x.2.2] ∧ H = []) := by
  refine h.px fun res H hR => ?_
  rcases hR with ⟨he, rfl, rfl⟩ | ⟨he, N, rfl, rfl⟩
  · obtain ⟨h1, h2⟩ := hn he
    refine ⟨_, _, Px.nil3 es _ _ _, ?_, rfl⟩
    rw [h1, h2]
    rfl
  · have h2 := Px.freeze (G := G) (.tuple [.row N es x.1.length, pint .i64 x.2.1, pint .i64 0]) [(N, ⟨ty, true, es, cf x.1⟩)] N (o := ⟨ty, true, es, cf x.1⟩) (by simp only [look, if_true]) (by simp [frzOk, del])
    refine ⟨_, _, h2, ?_, by simp [frzH, del]⟩
    simp only [PM.frz, frz1, if_true, List.map_cons, List.map_nil]
    rw [if_pos ⟨hlen, hes⟩, hel, he]
end
theorem elems_one {α : Type} (f : α → PV) (l : List α) : elemsOf 1 (l.map f) l.length = l.map f := by
  rw [elemsOf, if_pos rfl, List.take_of_length_le (by simp)]
end Go.PM

namespace Go.PM
open Go.Proofs
attribute [local irreducible] W PCalls pcall pcallI WL
theorem gS_le (b : List UInt8) (hb : (b.length : Int) ≤ 4611686018427387904) : (gS b).2.1 ≤ b.length := by
  have h := gC_ok (size := 1) (by omega) (b := b)
  unfold gS
  split
  · simp
  · rename_i h1
    have h2 := h (by omega)
    simp only
    omega
end Go.PM
