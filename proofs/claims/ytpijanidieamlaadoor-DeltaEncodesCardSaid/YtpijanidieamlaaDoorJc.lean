/- Joined texts (Pna Pne Fa HEa HEb HEc HYx HDa HDs HDi HDt HDj): the machine, the contracts, the laws. Conditions: none but those that each names. -/
import Derived.Test.YtpijanidieamlaaDoorJb
import Derived.KernelRfl
import Derived.Lib.LaidTab
import Derived.MakeChecks
import Derived.OpenShut
import Derived.SliceStrings
import Derived.Test.YtpijanidieamlaaDoorProg
import Derived.Test.YtpijanidieamlaaDoorRows
set_option linter.unusedSimpArgs false
set_option linter.unusedVariables false
namespace Go.PM
open Go.RowKit
section
variable {P : Program} {G : Globs} {E : Amb} {A : Nat → Prop} {σ : PState} {a : Act} {w : World}
/-- what comes back from a call with objects of the caller's -/
theorem Sim.calledI {w' : World} {A' : Nat → Prop} {Hin Hout rest : Heap} {F : List Int} (hs : Sim G E A σ a w) (hF : ∀ n, n ∈ names σ.heap ∨ n ∈ E.F → n ∈ F)
    (hin : ∀ x ∈ Hin, x ∈ σ.heap) (hrest : ∀ x ∈ rest, x ∈ σ.heap ∧ x.1 ∉ names Hin) (hrn : (names rest).Nodup)
    (hs' : Sim G ⟨w, A, Hin.map (·.1), F⟩ A' ⟨[], Hout⟩ ⟨#[], []⟩ w') : (∀ n ∈ names Hout, n ∉ names rest) ∧ Sim G E A' ⟨σ.frame, Hout ++ rest⟩ a w' := by
  have hmem : ∀ b : Nat, (b : Int) ∈ Hin.map (·.1) → ∃ o, ((b : Int), o) ∈ σ.heap := by
    intro b hb
    obtain ⟨⟨n, o⟩, h1, h2⟩ := List.mem_map.1 hb
    simp only at h2
    subst h2
    exact ⟨o, hin _ h1⟩
  have he := hs'.ext
  have hM : ∀ b, A b → ¬ (b : Int) ∈ Hin.map (·.1) := by
    intro b hb hm
    obtain ⟨o, ho⟩ := hmem b hm
    exact (hs.own _ o ho b rfl).2.1 hb
  have hdis : ∀ n ∈ names Hout, n ∉ names rest := by
    intro n hn hn'
    obtain ⟨⟨n1, o1⟩, h1, rfl⟩ := List.mem_map.1 hn
    obtain ⟨⟨n2, o2⟩, h2, e2⟩ := List.mem_map.1 hn'
    simp only at e2
    subst e2
    obtain ⟨h2a, h2b⟩ := hrest _ h2
    by_cases hneg : n2 < 0
    · rcases hs'.neg n2 o1 h1 hneg with h | h
      · exact h (hF _ (.inl (List.mem_map.2 ⟨_, h2a, rfl⟩)))
      · exact h2b h
    · obtain ⟨b, hb⟩ : ∃ b : Nat, n2 = b := ⟨n2.toNat, by omega⟩
      obtain ⟨q1, q2, q3⟩ := hs'.own n2 o1 h1 b hb
      have := (hs.own n2 o2 h2a b hb).1
      rcases q3 with h | h
      · simp only at h; omega
      · exact h2b (hb ▸ h)
  refine ⟨hdis, hs.ext.trans he ?_, hs'.lt, fun b hb => hs'.a0 b (hs.a0 b hb), fun b hb => ?_, hs'.globs, ?_, fun n o h => ?_, fun n o h b hb => ?_, fun n o h hn => ?_, hs.defers, hs.size, fun i p hp => ?_⟩
  · intro x hx hm
    obtain ⟨o, ho⟩ := hmem x hm
    rcases (hs.own _ o ho x rfl).2.2 with h | h
    · omega
    · exact h
  · rcases hs'.a1 b hb with h | h
    · exact hs.a1 b h
    · exact .inr (Nat.le_trans hs.ext.size h)
  · rw [List.map_append]
    exact List.nodup_append.2 ⟨hs'.nodup, hrn, fun x hx y hy e => hdis x hx (e ▸ hy)⟩
  · rcases List.mem_append.1 h with h | h
    · exact hs'.objs n o h
    · refine (hs.objs n o (hrest _ h).1).ext he hs'.a0 hM ?_
      intro b hb hm
      exact (hrest _ h).2 (hb ▸ hm)
  · rcases List.mem_append.1 h with h | h
    · obtain ⟨q1, q2, q3⟩ := hs'.own n o h b hb
      refine ⟨q1, q2, ?_⟩
      rcases q3 with h3 | h3
      · exact .inl (Nat.le_trans hs.ext.size h3)
      · obtain ⟨o', ho'⟩ := hmem b h3
        exact (hs.own _ o' ho' b rfl).2.2
    · obtain ⟨q1, q2, q3⟩ := hs.own n o (hrest _ h).1 b hb
      refine ⟨Nat.lt_of_lt_of_le q1 he.size, fun hb' => ?_, q3⟩
      rcases hs'.a1 b hb' with h | h
      · exact q2 h
      · simp only at h
        omega
  · rcases List.mem_append.1 h with h | h
    · rcases hs'.neg n o h hn with h | h
      · exact .inl fun h' => h (hF _ (.inr h'))
      · obtain ⟨⟨n2, o2⟩, h2, e2⟩ := List.mem_map.1 h
        simp only at e2
        subst e2
        exact hs.neg n2 o2 (hin _ h2) hn
    · exact hs.neg n o (hrest _ h).1 hn
  · obtain ⟨v, hv, hr⟩ := hs.frame i p hp
    exact ⟨v, hv, hr.ext he hs'.a0 hM⟩
/-- A row that is turned no more from its birth on, beside other objects. -/
theorem WL_bornH {I : List Int} {l0 l : List Oper} {K : PState → Prop} {N d : Nat} {L : List (Nat × PV)} {n : Int} {e : TypeId} {es len : Nat} {cells : List PV} {H : Heap} (hI : n ∉ I) (hc : len * es ≤ cells.length ∧ 0 < es)
    (hL : ∀ x ∈ L, frz n cells x.2 = x.2) (hH : ∀ x ∈ H, x.1 ≠ n ∧ ∀ u ∈ x.2.cells, frz1 n cells u = u ∧ u.one = true)
    (h : WL P G I l0 l ⟨fr N ((d, .list es (elemsOf es cells len)) :: L), H⟩ K) : WL P G I l0 l ⟨fr N ((d, .row n es len) :: L), (n, ⟨e, true, es, cells⟩) :: H⟩ K := by
  have hdel : del ((n, (⟨e, true, es, cells⟩ : PObj)) :: H) n = H := by
    simp only [del, if_true]
  refine WL_x ?_ h
  have h1 := Wx.freeze_f (G := G) (I := I) (N := N) (l := (d, .row n es len) :: L) (H := (n, ⟨e, true, es, cells⟩) :: H) n (o := ⟨e, true, es, cells⟩) hI (by simp only [look, if_true]) (by
    intro x hx u hu
    rw [hdel] at hx
    obtain ⟨h2, h3⟩ := (hH x hx).2 u hu
    rw [h2]
    exact h3)
  have e1 : L.map (fun x => (x.1, frz n cells x.2)) = L := by
    conv => rhs; rw [← List.map_id L]
    exact List.map_congr_left fun x hx => by rw [hL x hx]; rfl
  have e2 : frz n cells (.row n es len) = .list es (elemsOf es cells len) := by
    simp only [frz, frz1, if_true]
    rw [if_pos hc]
  have e3 : frzH n cells ((n, ⟨e, true, es, cells⟩) :: H) = H := by
    unfold frzH
    rw [hdel]
    conv => rhs; rw [← List.map_id H]
    refine List.map_congr_left fun x hx => ?_
    have h4 : x.2.cells.map (frz1 n cells) = x.2.cells := by
      conv => rhs; rw [← List.map_id x.2.cells]
      exact List.map_congr_left fun u hu => ((hH x hx).2 u hu).1
    rw [h4]
    rfl
  rw [List.map_cons, e1] at h1
  simp only [e2, e3] at h1
  exact h1
end
section
variable {P : Program} {G : Globs} {E : Amb} {A : Nat → Prop} {σ : PState} {a : Act} {w : World} {q : Bool}
/-- what comes back from a call to which the object n was lent -/
theorem Sim.lent {w' : World} {A' : Nat → Prop} {n : Int} {o : PObj} {F : List Int} (hs : Sim G E A σ a w) (hl : look σ.heap n = some o)
    (hs' : Sim G ⟨w, fun b => A b ∨ (b : Int) = n, [], F⟩ A' ⟨[], []⟩ ⟨#[], []⟩ w') : Sim G E (fun b => A' b ∧ ¬ (b : Int) = n) σ a w' := by
  have he : Ext (fun _ => False) w w' := hs'.ext.mono (fun x hx => (List.not_mem_nil hx).elim)
  have hm : ∀ b, A b → ¬ False := fun _ _ h => h
  have hA : ∀ b, A b → A' b ∧ ¬ (b : Int) = n := fun b hb => ⟨hs'.a0 b (.inl hb), fun e => (hs.own n o (look_mem hl) b e.symm).2.1 hb⟩
  have hA1 : ∀ b, A' b ∧ ¬ (b : Int) = n → A b ∨ w.heap.size ≤ b := by
    intro b ⟨hb, hn⟩
    rcases hs'.a1 b hb with (h | h) | h
    · exact .inl h
    · exact absurd h hn
    · exact .inr h
  refine ⟨hs.ext.trans he (fun _ _ h => h.elim), fun b hb => hs'.lt b hb.1, fun b hb => hA b (hs.a0 b hb), fun b hb => ?_, fun g => (hs.globs g).ext he hA hm, hs.nodup, fun m o' h => (hs.objs m o' h).ext he hA hm (fun _ _ h => h), fun m o' h b hb => ?_, hs.neg, hs.defers, hs.size, fun i p hp => ?_⟩
  · rcases hA1 b hb with h | h
    · exact hs.a1 b h
    · exact .inr (Nat.le_trans hs.ext.size h)
  · obtain ⟨q1, q2, q3⟩ := hs.own m o' h b hb
    refine ⟨Nat.lt_of_lt_of_le q1 he.size, fun hb' => ?_, q3⟩
    rcases hA1 b hb' with h | h
    · exact q2 h
    · omega
  · obtain ⟨v, hv, hr⟩ := hs.frame i p hp
    exact ⟨v, hv, hr.ext he hA hm⟩
/-- A call by contract to which the object n is lent, to be read: what comes back names no memory. -/
theorem pcall_lend {fn : FuncId} {args : List PV} {R : PV → Heap → Prop} {d : Option Tmp} {K : PState → Prop} (n : Int) (o : PObj) (hl : look σ.heap n = some o) (hc : PCalls P G fn (args.map (frz1 n o.cells)) [] R)
    (hk : ∀ res Hout, R res Hout → Hout = [] ∧ Flat res ∧ K (PState.put σ d res)) : @pcallI q P G σ d fn args ⟨K⟩ := by
  intro E A a w vals hs hsz hvals
  have hob := hs.objs n o (look_mem hl)
  have hA : ∀ b, A b → (A b ∨ (b : Int) = n) := fun b h => .inl h
  have hn : ∀ b : Nat, n = b → (A b ∨ (b : Int) = n) := fun b h => .inr h.symm
  refine (hc w (fun b => A b ∨ (b : Int) = n) (names σ.heap ++ E.F) vals ?_ (fun g => (hs.globs g).mono hA (fun _ _ _ _ h => h) (fun _ _ h => h)) (by simp) (by simp) (by simp) (by rw [List.length_map]; exact hsz) ?_).mono ?_
  · intro b hb
    rcases hb with h | h
    · exact hs.lt b h
    · exact (hs.own n o (look_mem hl) b h.symm).1
  · intro i p hp
    rw [List.getElem?_map] at hp
    cases hj : args[i]? with
    | none => rw [hj] at hp; cases hp
    | some p0 =>
      rw [hj] at hp
      cases hp
      obtain ⟨v, hv, hr⟩ := hvals i p0 hj
      exact ⟨v, hv, frz1_rep hA hn hob hr⟩
  · rintro e w' ⟨v, A', res, Hout, rfl, hR, hr, hs'⟩
    obtain ⟨rfl, hflat, hK⟩ := hk res Hout hR
    exact ⟨v, _, _, rfl, hK, (hs.lent hl hs').put d (hflat.rep hr), fun _ => keeps_of_sim hs'⟩
theorem Flat_all {cs : List PV} (h : ∀ c ∈ cs, ∃ v, c = .val v) : Flat (.agg cs) := .agg cs fun c hc => by
  obtain ⟨v, rfl⟩ := h c hc
  exact .val v
theorem Fin_cell {x : Tmp} {t : TypeId} {F : TF} {n : Int} {off : Nat} {o : PObj} {R : PV → Heap → Prop} {σ : PState} {res : PV} {H : Heap} (hF : tf P t = some F) (hx : σ.frame.getD x .junk = .ptr n off) (hl : look σ.heap n = some o)
    (hp : pload F o.cells off fun r => res = r) (h2 : Sub H σ.heap) (h3 : R res H) : Fin P [.cell x t] R .ret σ :=
  Fin_ret (show PResult P σ [.cell x t] res by
    show PRes P σ (.cell x t) res
    simp only [PRes, hF, hx, hl]
    exact hp) h2 h3
/-- Several roads come together: what follows is shown once, from a state that is less told. -/
theorem W_join {c : Code} {I : List Int} {K : Exit → PState → Prop} {nx : PState → Prop} (hnx : ∀ σ', W P G I c σ' K → nx σ') (T : PState → Prop) (hT : ∀ τ, T τ → W P G I c τ K) : ∀ σ', (∃ τ, T τ ∧ Wk σ' τ) → nx σ' :=
  fun σ' ⟨τ, h1, h2⟩ => hnx σ' (W_wk h2 (hT τ h1))
end
section
variable {P : Program} {G : Globs} {E : Amb} {A : Nat → Prop} {σ : PState} {a : Act} {w : World}
theorem Wx_bornH {I : List Int} {N d : Nat} {L : List (Nat × PV)} {n : Int} {e : TypeId} {es len : Nat} {cells : List PV} {H : Heap} (hI : n ∉ I) (hc : len * es ≤ cells.length ∧ 0 < es)
    (hL : ∀ x ∈ L, frz n cells x.2 = x.2) (hH : ∀ x ∈ H, x.1 ≠ n ∧ ∀ u ∈ x.2.cells, frz1 n cells u = u ∧ u.one = true) :
    Wx G I ⟨fr N ((d, .row n es len) :: L), (n, ⟨e, true, es, cells⟩) :: H⟩ ⟨fr N ((d, .list es (elemsOf es cells len)) :: L), H⟩ := by
  have hdel : del ((n, (⟨e, true, es, cells⟩ : PObj)) :: H) n = H := by
    simp only [del, if_true]
  have h1 := Wx.freeze_f (G := G) (I := I) (N := N) (l := (d, .row n es len) :: L) (H := (n, ⟨e, true, es, cells⟩) :: H) n (o := ⟨e, true, es, cells⟩) hI (by simp only [look, if_true]) (by
    intro x hx u hu
    rw [hdel] at hx
    obtain ⟨h2, h3⟩ := (hH x hx).2 u hu
    rw [h2]
    exact h3)
  have e1 : L.map (fun x => (x.1, frz n cells x.2)) = L := by
    conv => rhs; rw [← List.map_id L]
    exact List.map_congr_left fun x hx => by rw [hL x hx]; rfl
  have e2 : frz n cells (.row n es len) = .list es (elemsOf es cells len) := by
    simp only [frz, frz1, if_true]
    rw [if_pos hc]
  have e3 : frzH n cells ((n, ⟨e, true, es, cells⟩) :: H) = H := by
    unfold frzH
    rw [hdel]
    conv => rhs; rw [← List.map_id H]
    refine List.map_congr_left fun x hx => ?_
    have h4 : x.2.cells.map (frz1 n cells) = x.2.cells := by
      conv => rhs; rw [← List.map_id x.2.cells]
      exact List.map_congr_left fun u hu => ((hH x hx).2 u hu).1
    rw [h4]
    rfl
  rw [List.map_cons, e1] at h1
  simp only [e2, e3] at h1
  exact h1
end
/- What each walk rewrites by, as one conjunction: it keeps the texts short. -/
set_option maxRecDepth 10000 in
theorem evb : type_of% (And.intro @fr_set (And.intro @fr_getD_nil (And.intro @fr_same (And.intro @fr_other (And.intro @pguard_tt (And.intro @pguard_tf (And.intro @pguard_ft (And.intro @pguard_ff (And.intro @List.map_cons.{0, 0} (And.intro @List.map_nil.{0, 0} (And.intro @List.getD_cons_zero.{0} (And.intro @List.getD_cons_succ.{0} (And.intro @List.getD_nil.{0} (And.intro @List.getElem?_nil.{0} (And.intro @Option.join_some.{0} (And.intro @Option.join_none.{0} (And.intro @Option.map_some.{0, 0} (And.intro @Option.map_none.{0, 0} (And.intro @List.length_cons.{0} (And.intro @List.length_nil.{0} (And.intro @List.all_cons.{0} (And.intro @List.all_nil.{0} (And.intro @Bool.and_true (And.intro @Bool.true_and (And.intro @Bool.not_true (And.intro @Bool.not_false (And.intro @List.take_zero.{0} (And.intro @List.drop_zero.{0} (And.intro @List.nil_append.{0} (And.intro @List.cons_append.{0} (And.intro @List.append_nil.{0} (And.intro @Nat.zero_add (And.intro @Nat.add_zero (And.intro @Nat.mul_one (And.intro @Nat.zero_mul (And.intro @List.drop_succ_cons.{0} (And.intro @List.take_succ_cons.{0} (And.intro @List.drop_nil.{0} (And.intro @List.take_nil.{0} (And.intro @true_and (And.intro @and_true (And.intro @not_false_eq_true (And.intro @List.toList_toArray.{0} (And.intro @List.replicate_succ.{0} (And.intro @List.replicate_zero.{0} (And.intro @List.flatten_cons.{0} (And.intro @List.flatten_nil.{0} (And.intro @Int.toNat_natCast (And.intro @Int.toNat_zero (And.intro @Int.toNat_one (And.intro @bl_mk (And.intro @bl_lit (And.intro @wr64 (And.intro @toNat_add1 (And.intro @toNat_sub1 (And.intro @map_getD (And.intro @Int.natCast_nonneg (And.intro @List.length_map.{0, 0} (And.intro @Bool.not_not (And.intro @List.not_mem_nil.{0} (And.intro @Option.some.injEq.{0} (And.intro @Int.cast_ofNat_Int (And.intro @Int.natCast_zero (And.intro @List.size_toArray.{0} (And.intro @decide_true (And.intro @decide_false (And.intro @List.length_take.{0} (And.intro @List.length_append.{0} @List.length_drop.{0})))))))))))))))))))))))))))))))))))))))))))))))))))))))))))))))))))) := (And.intro @fr_set (And.intro @fr_getD_nil (And.intro @fr_same (And.intro @fr_other (And.intro @pguard_tt (And.intro @pguard_tf (And.intro @pguard_ft (And.intro @pguard_ff (And.intro @List.map_cons.{0, 0} (And.intro @List.map_nil.{0, 0} (And.intro @List.getD_cons_zero.{0} (And.intro @List.getD_cons_succ.{0} (And.intro @List.getD_nil.{0} (And.intro @List.getElem?_nil.{0} (And.intro @Option.join_some.{0} (And.intro @Option.join_none.{0} (And.intro @Option.map_some.{0, 0} (And.intro @Option.map_none.{0, 0} (And.intro @List.length_cons.{0} (And.intro @List.length_nil.{0} (And.intro @List.all_cons.{0} (And.intro @List.all_nil.{0} (And.intro @Bool.and_true (And.intro @Bool.true_and (And.intro @Bool.not_true (And.intro @Bool.not_false (And.intro @List.take_zero.{0} (And.intro @List.drop_zero.{0} (And.intro @List.nil_append.{0} (And.intro @List.cons_append.{0} (And.intro @List.append_nil.{0} (And.intro @Nat.zero_add (And.intro @Nat.add_zero (And.intro @Nat.mul_one (And.intro @Nat.zero_mul (And.intro @List.drop_succ_cons.{0} (And.intro @List.take_succ_cons.{0} (And.intro @List.drop_nil.{0} (And.intro @List.take_nil.{0} (And.intro @true_and (And.intro @and_true (And.intro @not_false_eq_true (And.intro @List.toList_toArray.{0} (And.intro @List.replicate_succ.{0} (And.intro @List.replicate_zero.{0} (And.intro @List.flatten_cons.{0} (And.intro @List.flatten_nil.{0} (And.intro @Int.toNat_natCast (And.intro @Int.toNat_zero (And.intro @Int.toNat_one (And.intro @bl_mk (And.intro @bl_lit (And.intro @wr64 (And.intro @toNat_add1 (And.intro @toNat_sub1 (And.intro @map_getD (And.intro @Int.natCast_nonneg (And.intro @List.length_map.{0, 0} (And.intro @Bool.not_not (And.intro @List.not_mem_nil.{0} (And.intro @Option.some.injEq.{0} (And.intro @Int.cast_ofNat_Int (And.intro @Int.natCast_zero (And.intro @List.size_toArray.{0} (And.intro @decide_true (And.intro @decide_false (And.intro @List.length_take.{0} (And.intro @List.length_append.{0} @List.length_drop.{0}))))))))))))))))))))))))))))))))))))))))))))))))))))))))))))))))))))
set_option maxRecDepth 10000 in
theorem evd : type_of% (And.intro @opnd.eq_1 (And.intro @opnd.eq_2 (And.intro @opnd.eq_3 (And.intro @opnd.eq_4 (And.intro @PState.put.eq_1 (And.intro @PState.put.eq_2 (And.intro @layFrom.eq_1 (And.intro @layFrom.eq_2 (And.intro @pldop.eq_1 (And.intro @pload.eq_1 (And.intro @pfaddr.eq_1 (And.intro @parr.eq_1 (And.intro @pbuild.eq_1 (And.intro @pfill.eq_1 (And.intro @pfill.eq_2 (And.intro @palloc.eq_1 (And.intro @pbox.eq_1 (And.intro @pbuildS.eq_1 (And.intro @pappend.eq_1 (And.intro @pcopy.eq_1 (And.intro @pmlook.eq_1 (And.intro @pmupd.eq_1 (And.intro @pmmake.eq_1 (And.intro @pmdel.eq_1 (And.intro @pmlen.eq_1 (And.intro @vcells.eq_1 (And.intro @look.eq_1 (And.intro @look.eq_2 (And.intro @upd.eq_1 (And.intro @upd.eq_2 (And.intro @del.eq_1 (And.intro @del.eq_2 (And.intro @names.eq_1 @times.eq_1))))))))))))))))))))))))))))))))) := (And.intro @opnd.eq_1 (And.intro @opnd.eq_2 (And.intro @opnd.eq_3 (And.intro @opnd.eq_4 (And.intro @PState.put.eq_1 (And.intro @PState.put.eq_2 (And.intro @layFrom.eq_1 (And.intro @layFrom.eq_2 (And.intro @pldop.eq_1 (And.intro @pload.eq_1 (And.intro @pfaddr.eq_1 (And.intro @parr.eq_1 (And.intro @pbuild.eq_1 (And.intro @pfill.eq_1 (And.intro @pfill.eq_2 (And.intro @palloc.eq_1 (And.intro @pbox.eq_1 (And.intro @pbuildS.eq_1 (And.intro @pappend.eq_1 (And.intro @pcopy.eq_1 (And.intro @pmlook.eq_1 (And.intro @pmupd.eq_1 (And.intro @pmmake.eq_1 (And.intro @pmdel.eq_1 (And.intro @pmlen.eq_1 (And.intro @vcells.eq_1 (And.intro @look.eq_1 (And.intro @look.eq_2 (And.intro @upd.eq_1 (And.intro @upd.eq_2 (And.intro @del.eq_1 (And.intro @del.eq_2 (And.intro @names.eq_1 @times.eq_1)))))))))))))))))))))))))))))))))
theorem fmb : type_of% (And.intro @List.forall_mem_cons.{0} (And.intro @List.not_mem_nil.{0} (And.intro @false_implies (And.intro @implies_true.{1} (And.intro @implies_true.{0} (And.intro @and_true (And.intro @true_and @ne_eq.{1}))))))) := (And.intro @List.forall_mem_cons.{0} (And.intro @List.not_mem_nil.{0} (And.intro @false_implies (And.intro @implies_true.{1} (And.intro @implies_true.{0} (And.intro @and_true (And.intro @true_and @ne_eq.{1})))))))
theorem prb : type_of% (And.intro @prune_cons (And.intro @prune_nil (And.intro @cond_true.{1} @cond_false.{1}))) := (And.intro @prune_cons (And.intro @prune_nil (And.intro @cond_true.{1} @cond_false.{1})))
theorem cob : type_of% (And.intro @not_true_eq_false (And.intro @not_false_eq_true (And.intro @List.getD_cons_zero.{0} (And.intro @List.getD_cons_succ.{0} (And.intro @fr_getD_cons @fr_getD_nil))))) := (And.intro @not_true_eq_false (And.intro @not_false_eq_true (And.intro @List.getD_cons_zero.{0} (And.intro @List.getD_cons_succ.{0} (And.intro @fr_getD_cons @fr_getD_nil)))))
theorem wkb : type_of% (And.intro @List.forall_mem_cons.{0} (And.intro @List.not_mem_nil.{0} (And.intro @false_implies (And.intro @implies_true.{1} (And.intro @implies_true.{0} (And.intro @and_true (And.intro @true_and (And.intro @and_self (And.intro @fr_getD_cons (And.intro @fr_getD_nil (And.intro @Int.natCast_add (And.intro @Int.cast_ofNat_Int @Int.natCast_zero)))))))))))) := (And.intro @List.forall_mem_cons.{0} (And.intro @List.not_mem_nil.{0} (And.intro @false_implies (And.intro @implies_true.{1} (And.intro @implies_true.{0} (And.intro @and_true (And.intro @true_and (And.intro @and_self (And.intro @fr_getD_cons (And.intro @fr_getD_nil (And.intro @Int.natCast_add (And.intro @Int.cast_ofNat_Int @Int.natCast_zero))))))))))))
set_option maxRecDepth 10000 in
theorem hcb : type_of% (And.intro @decide_eq_true_eq (And.intro @decide_eq_false_iff_not (And.intro @and_true (And.intro @true_and (And.intro @Bool.not_eq_true (And.intro @Bool.not_eq_false (And.intro @bne_eq_false_iff_eq.{0} (And.intro @beq_eq_false_iff_ne.{0} (And.intro @Decidable.not_not (And.intro @Bool.not_eq_eq_eq_not (And.intro @Bool.not_true (And.intro @Bool.not_false (And.intro @Bool.and_eq_true (And.intro @Bool.or_eq_true (And.intro @Int.natCast_inj (And.intro @Bool.and_eq_false_iff (And.intro @Bool.or_eq_false_iff (And.intro @false_implies (And.intro @true_implies (And.intro @bne_iff_ne.{0} @beq_iff_eq.{0})))))))))))))))))))) := (And.intro @decide_eq_true_eq (And.intro @decide_eq_false_iff_not (And.intro @and_true (And.intro @true_and (And.intro @Bool.not_eq_true (And.intro @Bool.not_eq_false (And.intro @bne_eq_false_iff_eq.{0} (And.intro @beq_eq_false_iff_ne.{0} (And.intro @Decidable.not_not (And.intro @Bool.not_eq_eq_eq_not (And.intro @Bool.not_true (And.intro @Bool.not_false (And.intro @Bool.and_eq_true (And.intro @Bool.or_eq_true (And.intro @Int.natCast_inj (And.intro @Bool.and_eq_false_iff (And.intro @Bool.or_eq_false_iff (And.intro @false_implies (And.intro @true_implies (And.intro @bne_iff_ne.{0} @beq_iff_eq.{0}))))))))))))))))))))
set_option maxRecDepth 10000 in
theorem eve : type_of% (And.intro @pbuiltin.eq_def (And.intro @pnck.eq_def (And.intro @pbin.eq_def (And.intro @pun.eq_def (And.intro @ppick.eq_def (And.intro @plen.eq_def (And.intro @piaddr.eq_def (And.intro @pindex.eq_def (And.intro @pfield.eq_def (And.intro @pslice.eq_def (And.intro @pconv.eq_def (And.intro @pextract.eq_def (And.intro @pmm.eq_def (And.intro @pageq.eq_def (And.intro @pmakes.eq_def (And.intro @pstore.eq_def (And.intro @pbytes.eq_def (And.intro @pmark.eq_def (And.intro @pusd.eq_def (And.intro @pust.eq_def (And.intro @pnile.eq_def (And.intro @pcap.eq_def (And.intro @pgrow.eq_def (And.intro @pkey.eq_def @psrc.eq_def)))))))))))))))))))))))) := (And.intro @pbuiltin.eq_def (And.intro @pnck.eq_def (And.intro @pbin.eq_def (And.intro @pun.eq_def (And.intro @ppick.eq_def (And.intro @plen.eq_def (And.intro @piaddr.eq_def (And.intro @pindex.eq_def (And.intro @pfield.eq_def (And.intro @pslice.eq_def (And.intro @pconv.eq_def (And.intro @pextract.eq_def (And.intro @pmm.eq_def (And.intro @pageq.eq_def (And.intro @pmakes.eq_def (And.intro @pstore.eq_def (And.intro @pbytes.eq_def (And.intro @pmark.eq_def (And.intro @pusd.eq_def (And.intro @pust.eq_def (And.intro @pnile.eq_def (And.intro @pcap.eq_def (And.intro @pgrow.eq_def (And.intro @pkey.eq_def @psrc.eq_def))))))))))))))))))))))))
end Go.PM

namespace Go.PM
open Go.RowKit
section
variable {P : Program} {G : Globs} {I : List Int} {K : Exit → PState → Prop} {σ : PState} {x y : Code} {o : Operand}
/-- A branch, once the condition is known. -/
def condG (p : PV) [h : Two] : Prop :=
  match p with
  | .val (.bool t) => @pguard t true h
  | _ => False
theorem wc (h : @condG (opnd G σ.frame o) ⟨W P G I x σ K, W P G I y σ K⟩) : W P G I (.cond o x y) σ K := by
  unfold condG at h
  split at h
  · rename_i t ht
    exact W_cond ht h.1 h.2
  · exact h.elim
/-- A region in the text's order: only the slots of the mask are kept. -/
theorem wr {N id : Nat} {l : List (Nat × PV)} {H : Heap} {ops : List Oper} (m : Nat) (h : WL P G I ops ops ⟨fr N (prune m l), H⟩ (K .normal)) : W P G I (.region id ops.toArray false) ⟨fr N l, H⟩ K := W_prune m (W_region_l h)
/-- A region that draws its order. -/
theorem wd {N id : Nat} {l : List (Nat × PV)} {H : Heap} {ops : List Oper} (m f : Nat) (L : Plan) (hp : planAll P ops f L = true) (h : popsD P G I (ops.map (·.dst)) ops L ⟨fr N (prune m l), H⟩ (K .normal)) : W P G I (.region id ops.toArray true) ⟨fr N l, H⟩ K := W_prune m (W_region_draw f L hp h)
end
section
variable {P : Program} {G : Globs} {σ : PState} {fn : FuncId} {args : List PV} {d : Option Tmp} {K : PState → Prop} {q : Bool}
/-- A call of a function with one result and no objects. -/
theorem pe {r : PV} (hc : PCalls P G fn args [] (fun res H => res = r ∧ H = [])) (hk : Ev (K (PState.put ⟨σ.frame, [] ++ σ.heap⟩ d r))) : @pcallI q P G σ d fn args ⟨K⟩ := by
  refine pcall_k hc ?_
  rintro _ _ ⟨rfl, rfl⟩ -
  exact hk
end
theorem pg {b want : Bool} {x y : Prop} (hx : b = want → Ev x) (hy : b = (!want) → Ev y) : @pguard b want ⟨x, y⟩ := ⟨hx, hy⟩
theorem pf {l : List Int} {k : Int → Prop} {C : Prop} (hc : C) (h : ∀ n : Int, (C ∧ ∀ x ∈ l, (n = x) = False ∧ (x = n) = False) → k n) : @pfresh l ⟨k⟩ := pfresh_k hc h
theorem pm {l : List Int} {im : Prop} {k : Int → Prop} {C : Prop} (hc : C) (h : ∀ n : Int, (C ∧ ∀ x ∈ l, (n = x) = False ∧ (x = n) = False) → k n) : @pborn l ⟨im, k⟩ := pborn_mu hc h
/- What each walk rewrites by. -/
set_option maxRecDepth 10000 in
theorem eva : (∀ (k : IntKind) (n : Int), constPV (.int k n) = .val (.int k n)) ∧ (∀ (k : IntKind) (n : Int), Value.oneCell' (.int k n) = true) ∧ (∀ (b : Bool), constPV (.bool b) = .val (.bool b)) ∧ (∀ (b : Bool), Value.oneCell' (.bool b) = true) ∧ (∀ (s : ByteArray), constPV (.string s) = .val (.string s)) ∧ (∀ (s : ByteArray), Value.oneCell' (.string s) = true) ∧ (∀ (a : Option Addr) (l c : Nat), constPV (.slice a l c) = .val (.slice a l c)) ∧ (∀ (a : Option Addr) (l c : Nat), Value.oneCell' (.slice a l c) = true) ∧ (∀ (a : Option Addr), constPV (.pointer a) = .val (.pointer a)) ∧ (∀ (a : Option Addr), Value.oneCell' (.pointer a) = true) ∧ (∀ (a : Option Nat), constPV (.map a) = .val (.map a)) ∧ (∀ (a : Option Nat), Value.oneCell' (.map a) = true) ∧ (constPV (.nilFunc ) = .val (.nilFunc )) ∧ (Value.oneCell' (.nilFunc ) = true) ∧ (constPV (.nilIface ) = .val (.nilIface )) ∧ (Value.oneCell' (.nilIface ) = true) ∧ (∀ (a : Option Nat), constPV (.chan a) = .val (.chan a)) ∧ (∀ (a : Option Nat), Value.oneCell' (.chan a) = true) ∧ (∀ (k : FloatKind) (n : Nat), constPV (.float k n) = .val (.float k n)) ∧ (∀ (k : FloatKind) (n : Nat), Value.oneCell' (.float k n) = true) ∧ (∀ (f : Fn) (x y : Array Value), constPV (.func f x y) = .val (.func f x y)) ∧ (∀ (f : Fn) (x y : Array Value), Value.oneCell' (.func f x y) = true) ∧ (∀ (t : TypeId) (v : Value), constPV (.iface t v) = .val (.iface t v)) ∧ (∀ (t : TypeId) (v : Value), Value.oneCell' (.iface t v) = true) ∧ (∀ (xs : Array Value), constPV (.tuple xs) = .val (.tuple xs)) ∧ (∀ cs : Array Value, constPV (.agg cs) = .agg (cs.toList.map .val)) := by
  refine ⟨?_, ?_, ?_, ?_, ?_, ?_, ?_, ?_, ?_, ?_, ?_, ?_, ?_, ?_, ?_, ?_, ?_, ?_, ?_, ?_, ?_, ?_, ?_, ?_, ?_, ?_⟩ <;> intros <;> rfl
set_option maxRecDepth 10000 in
theorem ev : type_of% (And.intro evb (And.intro evd (And.intro eve (And.intro eva (And.intro prb (And.intro @ne_eq.{1} (And.intro @forall_const.{1} (And.intro @exists_and_left.{1} (And.intro @exists_eq_left'.{1} (And.intro @eq_self.{1} (And.intro @List.set.eq_1.{0} (And.intro @List.set.eq_2.{0} (And.intro @List.set.eq_3.{0} (And.intro @pbound.eq_1 (And.intro @pbound.eq_2 (And.intro @condG.eq_1 (And.intro @pelems.eq_1 (And.intro @pelems.eq_2 (And.intro @pelems.eq_3 (And.intro @pelems.eq_4 (And.intro @pelems.eq_5 (And.intro @peqs.eq_1 (And.intro @peqs.eq_2 (And.intro @peq1.eq_1 (And.intro @peq1.eq_2 (And.intro @peq1.eq_3 (And.intro @pkeys.eq_1 (And.intro @pkeys.eq_2 (And.intro @pkeyt.eq_1 @pkeyt.eq_2))))))))))))))))))))))))))))) := (And.intro evb (And.intro evd (And.intro eve (And.intro eva (And.intro prb (And.intro @ne_eq.{1} (And.intro @forall_const.{1} (And.intro @exists_and_left.{1} (And.intro @exists_eq_left'.{1} (And.intro @eq_self.{1} (And.intro @List.set.eq_1.{0} (And.intro @List.set.eq_2.{0} (And.intro @List.set.eq_3.{0} (And.intro @pbound.eq_1 (And.intro @pbound.eq_2 (And.intro @condG.eq_1 (And.intro @pelems.eq_1 (And.intro @pelems.eq_2 (And.intro @pelems.eq_3 (And.intro @pelems.eq_4 (And.intro @pelems.eq_5 (And.intro @peqs.eq_1 (And.intro @peqs.eq_2 (And.intro @peq1.eq_1 (And.intro @peq1.eq_2 (And.intro @peq1.eq_3 (And.intro @pkeys.eq_1 (And.intro @pkeys.eq_2 (And.intro @pkeyt.eq_1 @pkeyt.eq_2)))))))))))))))))))))))))))))
theorem evp : type_of% (And.intro @popG_eq (And.intro @pop.eq_1 (And.intro @List.getElem?_map.{0, 0} (And.intro @List.getElem?_cons_zero.{0} @List.getElem?_cons_succ.{0})))) := (And.intro @popG_eq (And.intro @pop.eq_1 (And.intro @List.getElem?_map.{0, 0} (And.intro @List.getElem?_cons_zero.{0} @List.getElem?_cons_succ.{0}))))
set_option maxRecDepth 10000 in
theorem bir : type_of% (And.intro @List.map_cons.{0, 0} (And.intro @List.map_nil.{0, 0} (And.intro @List.take_succ_cons.{0} (And.intro @List.take_zero.{0} (And.intro @List.range_succ (And.intro @List.range_zero (And.intro @List.nil_append.{0} (And.intro @List.cons_append.{0} (And.intro @List.map_append.{0, 0} (And.intro @List.drop_succ_cons.{0} (And.intro @List.drop_zero.{0} (And.intro @Nat.zero_mul @Nat.one_mul)))))))))))) :=
  (And.intro @List.map_cons.{0, 0} (And.intro @List.map_nil.{0, 0} (And.intro @List.take_succ_cons.{0} (And.intro @List.take_zero.{0} (And.intro @List.range_succ (And.intro @List.range_zero (And.intro @List.nil_append.{0} (And.intro @List.cons_append.{0} (And.intro @List.map_append.{0, 0} (And.intro @List.drop_succ_cons.{0} (And.intro @List.drop_zero.{0} (And.intro @Nat.zero_mul @Nat.one_mul))))))))))))
/-- How a piece of code may end. -/
theorem kks : type_of% (And.intro @seqK.eq_1 (And.intro @blockK.eq_1 @scopeK.eq_1)) ∧ (∀ next K i σ, seqK next K (.exit i) σ = K (.exit i) σ) ∧ (∀ next K σ, seqK next K .ret σ = K .ret σ) ∧ (∀ next K i σ, seqK next K (.goto i) σ = K (.goto i) σ) ∧
    (∀ i K σ, blockK i K .normal σ = K .normal σ) ∧ (∀ i K σ, blockK i K .ret σ = K .ret σ) ∧ (∀ i K j σ, blockK i K (.goto j) σ = K (.goto j) σ) ∧ (∀ K σ, scopeK K .normal σ = K .normal σ) ∧ (∀ K σ, scopeK K .ret σ = K .ret σ) ∧ (∀ K j σ, scopeK K (.exit j) σ = K (.exit j) σ) :=
  ⟨And.intro @seqK.eq_1 (And.intro @blockK.eq_1 @scopeK.eq_1), by intros; rfl, by intros; rfl, by intros; rfl, by intros; rfl, by intros; rfl, by intros; rfl, by intros; rfl, by intros; rfl, by intros; rfl⟩
end Go.PM

namespace Go.PM
open Go.Proofs
theorem Tryd.tf0 : tf Tryd.prog 0 = some ⟨.other, 1, 0, false, some (.tuple #[])⟩ := by kernel_rfl
theorem Tryd.tf1 : tf Tryd.prog 1 = some ⟨.func, 1, 8, false, some (.nilFunc)⟩ := by kernel_rfl
theorem Tryd.tf2 : tf Tryd.prog 2 = some ⟨.int .i64, 1, 8, false, some (.int .i64 0)⟩ := by kernel_rfl
theorem Tryd.tf3 : tf Tryd.prog 3 = some ⟨.int .i64, 1, 8, false, some (.int .i64 0)⟩ := by kernel_rfl
theorem Tryd.tf4 : tf Tryd.prog 4 = some ⟨.bool, 1, 1, false, some (.bool false)⟩ := by kernel_rfl
theorem Tryd.tf5 : tf Tryd.prog 5 = some ⟨.int .u8, 1, 1, false, some (.int .u8 0)⟩ := by kernel_rfl
theorem Tryd.tf9 : tf Tryd.prog 9 = some ⟨.string, 1, 16, false, some (.string ⟨#[]⟩)⟩ := by kernel_rfl
theorem Tryd.tf20 : tf Tryd.prog 20 = some ⟨.other, 1, 16, false, some (.nilIface)⟩ := by kernel_rfl
theorem Tryd.tf22 : tf Tryd.prog 22 = some ⟨.slice 3 1 8, 1, 24, false, some (.slice none 0 0)⟩ := by kernel_rfl
theorem Tryd.tf24 : tf Tryd.prog 24 = some ⟨.slice 9 1 16, 1, 24, false, some (.slice none 0 0)⟩ := by kernel_rfl
theorem Tryd.tf27 : tf Tryd.prog 27 = some ⟨.slice 5 1 1, 1, 24, false, some (.slice none 0 0)⟩ := by kernel_rfl
theorem Tryd.tf28 : tf Tryd.prog 28 = some ⟨.int .i64, 1, 8, false, some (.int .i64 0)⟩ := by kernel_rfl
theorem Tryd.tf29 : tf Tryd.prog 29 = some ⟨.other, 1, 0, false, some (.tuple #[.slice none 0 0, .int .i64 0])⟩ := by kernel_rfl
theorem Tryd.tf32 : tf Tryd.prog 32 = some ⟨.struct [(0, 1, false), (1, 1, false)], 2, 24, true, some (.agg #[.string ⟨#[]⟩, .int .i64 0])⟩ := by kernel_rfl
theorem Tryd.tf34 : tf Tryd.prog 34 = some ⟨.func, 1, 8, false, some (.nilFunc)⟩ := by kernel_rfl
theorem Tryd.tf37 : tf Tryd.prog 37 = some ⟨.array 16 5 1 false, 16, 16, true, some (.agg #[.int .u8 0, .int .u8 0, .int .u8 0, .int .u8 0, .int .u8 0, .int .u8 0, .int .u8 0, .int .u8 0, .int .u8 0, .int .u8 0, .int .u8 0, .int .u8 0, .int .u8 0, .int .u8 0, .int .u8 0, .int .u8 0])⟩ := by kernel_rfl
theorem Tryd.tf42 : tf Tryd.prog 42 = some ⟨.other, 1, 0, false, some (.tuple #[.slice none 0 0, .int .i64 0])⟩ := by kernel_rfl
theorem Tryd.tf48 : tf Tryd.prog 48 = some ⟨.slice 52 3 40, 1, 24, false, some (.slice none 0 0)⟩ := by kernel_rfl
theorem Tryd.tf52 : tf Tryd.prog 52 = some ⟨.struct [(0, 1, false), (1, 1, false), (2, 1, false)], 3, 40, true, some (.agg #[.int .i64 0, .int .i64 0, .slice none 0 0])⟩ := by kernel_rfl
theorem Tryd.tf58 : tf Tryd.prog 58 = some ⟨.slice 37 16 16, 1, 24, false, some (.slice none 0 0)⟩ := by kernel_rfl
theorem Tryd.tf61 : tf Tryd.prog 61 = some ⟨.other, 1, 0, false, some (.tuple #[.string ⟨#[]⟩, .int .i64 0])⟩ := by kernel_rfl
theorem Tryd.tf74 : tf Tryd.prog 74 = some ⟨.int .u32, 1, 4, false, some (.int .u32 0)⟩ := by kernel_rfl
theorem Tryd.tf75 : tf Tryd.prog 75 = some ⟨.array 8 74 1 false, 8, 32, true, some (.agg #[.int .u32 0, .int .u32 0, .int .u32 0, .int .u32 0, .int .u32 0, .int .u32 0, .int .u32 0, .int .u32 0])⟩ := by kernel_rfl
theorem Tryd.tf76 : tf Tryd.prog 76 = some ⟨.array 64 5 1 false, 64, 64, true, some (.agg #[.int .u8 0, .int .u8 0, .int .u8 0, .int .u8 0, .int .u8 0, .int .u8 0, .int .u8 0, .int .u8 0, .int .u8 0, .int .u8 0, .int .u8 0, .int .u8 0, .int .u8 0, .int .u8 0, .int .u8 0, .int .u8 0, .int .u8 0, .int .u8 0, .int .u8 0, .int .u8 0, .int .u8 0, .int .u8 0, .int .u8 0, .int .u8 0, .int .u8 0, .int .u8 0, .int .u8 0, .int .u8 0, .int .u8 0, .int .u8 0, .int .u8 0, .int .u8 0, .int .u8 0, .int .u8 0, .int .u8 0, .int .u8 0, .int .u8 0, .int .u8 0, .int .u8 0, .int .u8 0, .int .u8 0, .int .u8 0, .int .u8 0, .int .u8 0, .int .u8 0, .int .u8 0, .int .u8 0, .int .u8 0, .int .u8 0, .int .u8 0, .int .u8 0, .int .u8 0, .int .u8 0, .int .u8 0, .int .u8 0, .int .u8 0, .int .u8 0, .int .u8 0, .int .u8 0, .int .u8 0, .int .u8 0, .int .u8 0, .int .u8 0, .int .u8 0])⟩ := by kernel_rfl
theorem Tryd.tf77 : tf Tryd.prog 77 = some ⟨.int .u64, 1, 8, false, some (.int .u64 0)⟩ := by kernel_rfl
theorem Tryd.tf79 : tf Tryd.prog 79 = some ⟨.struct [(0, 8, true), (8, 64, true), (72, 1, false)], 73, 104, true, some (.agg #[.int .u32 0, .int .u32 0, .int .u32 0, .int .u32 0, .int .u32 0, .int .u32 0, .int .u32 0, .int .u32 0, .int .u8 0, .int .u8 0, .int .u8 0, .int .u8 0, .int .u8 0, .int .u8 0, .int .u8 0, .int .u8 0, .int .u8 0, .int .u8 0, .int .u8 0, .int .u8 0, .int .u8 0, .int .u8 0, .int .u8 0, .int .u8 0, .int .u8 0, .int .u8 0, .int .u8 0, .int .u8 0, .int .u8 0, .int .u8 0, .int .u8 0, .int .u8 0, .int .u8 0, .int .u8 0, .int .u8 0, .int .u8 0, .int .u8 0, .int .u8 0, .int .u8 0, .int .u8 0, .int .u8 0, .int .u8 0, .int .u8 0, .int .u8 0, .int .u8 0, .int .u8 0, .int .u8 0, .int .u8 0, .int .u8 0, .int .u8 0, .int .u8 0, .int .u8 0, .int .u8 0, .int .u8 0, .int .u8 0, .int .u8 0, .int .u8 0, .int .u8 0, .int .u8 0, .int .u8 0, .int .u8 0, .int .u8 0, .int .u8 0, .int .u8 0, .int .u8 0, .int .u8 0, .int .u8 0, .int .u8 0, .int .u8 0, .int .u8 0, .int .u8 0, .int .u8 0, .int .u64 0])⟩ := by kernel_rfl
theorem Tryd.tf82 : tf Tryd.prog 82 = some ⟨.array 32 5 1 false, 32, 32, true, some (.agg #[.int .u8 0, .int .u8 0, .int .u8 0, .int .u8 0, .int .u8 0, .int .u8 0, .int .u8 0, .int .u8 0, .int .u8 0, .int .u8 0, .int .u8 0, .int .u8 0, .int .u8 0, .int .u8 0, .int .u8 0, .int .u8 0, .int .u8 0, .int .u8 0, .int .u8 0, .int .u8 0, .int .u8 0, .int .u8 0, .int .u8 0, .int .u8 0, .int .u8 0, .int .u8 0, .int .u8 0, .int .u8 0, .int .u8 0, .int .u8 0, .int .u8 0, .int .u8 0])⟩ := by kernel_rfl
theorem Tryd.tf84 : tf Tryd.prog 84 = some ⟨.slice 22 1 24, 1, 24, false, some (.slice none 0 0)⟩ := by kernel_rfl
theorem Tryd.tf85 : tf Tryd.prog 85 = some ⟨.pointer 52, 1, 8, false, some (.pointer none)⟩ := by kernel_rfl
theorem Tryd.tf87 : tf Tryd.prog 87 = some ⟨.slice 27 1 24, 1, 24, false, some (.slice none 0 0)⟩ := by kernel_rfl
theorem Tryd.tf90 : tf Tryd.prog 90 = some ⟨.func, 1, 8, false, some (.nilFunc)⟩ := by kernel_rfl
theorem Tryd.tf92 : tf Tryd.prog 92 = some ⟨.pointer 94, 1, 8, false, some (.pointer none)⟩ := by kernel_rfl
theorem Tryd.tf94 : tf Tryd.prog 94 = some ⟨.struct [(0, 1, false), (1, 1, false)], 2, 32, true, some (.agg #[.pointer none, .slice none 0 0])⟩ := by kernel_rfl
theorem Tryd.tf96 : tf Tryd.prog 96 = some ⟨.other, 1, 16, false, some (.nilIface)⟩ := by kernel_rfl
theorem Tryd.tf97 : tf Tryd.prog 97 = some ⟨.other, 1, 0, false, some (.tuple #[.int .i64 0, .nilIface])⟩ := by kernel_rfl
theorem Tryd.tf109 : tf Tryd.prog 109 = some ⟨.func, 1, 8, false, some (.nilFunc)⟩ := by kernel_rfl
theorem Tryd.tf118 : tf Tryd.prog 118 = some ⟨.map 120 37, 1, 8, false, some (.map none)⟩ := by kernel_rfl
theorem Tryd.tf119 : tf Tryd.prog 119 = some ⟨.other, 1, 0, false, some (.tuple #[.agg #[.int .u8 0, .int .u8 0, .int .u8 0, .int .u8 0, .int .u8 0, .int .u8 0, .int .u8 0, .int .u8 0, .int .u8 0, .int .u8 0, .int .u8 0, .int .u8 0, .int .u8 0, .int .u8 0, .int .u8 0, .int .u8 0], .bool false])⟩ := by kernel_rfl
theorem Tryd.tf120 : tf Tryd.prog 120 = some ⟨.array 2 3 1 false, 2, 16, true, some (.agg #[.int .i64 0, .int .i64 0])⟩ := by kernel_rfl
theorem Tryd.tf121 : tf Tryd.prog 121 = some ⟨.array 68 3 1 false, 68, 544, true, some (.agg #[.int .i64 0, .int .i64 0, .int .i64 0, .int .i64 0, .int .i64 0, .int .i64 0, .int .i64 0, .int .i64 0, .int .i64 0, .int .i64 0, .int .i64 0, .int .i64 0, .int .i64 0, .int .i64 0, .int .i64 0, .int .i64 0, .int .i64 0, .int .i64 0, .int .i64 0, .int .i64 0, .int .i64 0, .int .i64 0, .int .i64 0, .int .i64 0, .int .i64 0, .int .i64 0, .int .i64 0, .int .i64 0, .int .i64 0, .int .i64 0, .int .i64 0, .int .i64 0, .int .i64 0, .int .i64 0, .int .i64 0, .int .i64 0, .int .i64 0, .int .i64 0, .int .i64 0, .int .i64 0, .int .i64 0, .int .i64 0, .int .i64 0, .int .i64 0, .int .i64 0, .int .i64 0, .int .i64 0, .int .i64 0, .int .i64 0, .int .i64 0, .int .i64 0, .int .i64 0, .int .i64 0, .int .i64 0, .int .i64 0, .int .i64 0, .int .i64 0, .int .i64 0, .int .i64 0, .int .i64 0, .int .i64 0, .int .i64 0, .int .i64 0, .int .i64 0, .int .i64 0, .int .i64 0, .int .i64 0, .int .i64 0])⟩ := by kernel_rfl
theorem Tryd.tf124 : tf Tryd.prog 124 = some ⟨.pointer 5, 1, 8, false, some (.pointer none)⟩ := by kernel_rfl
theorem Tryd.tf126 : tf Tryd.prog 126 = some ⟨.slice 58 1 24, 1, 24, false, some (.slice none 0 0)⟩ := by kernel_rfl
theorem Tryd.tf131 : tf Tryd.prog 131 = some ⟨.int .u64, 1, 8, false, some (.int .u64 0)⟩ := by kernel_rfl
theorem Tryd.tf132 : tf Tryd.prog 132 = some ⟨.array 64 74 1 false, 64, 256, true, some (.agg #[.int .u32 0, .int .u32 0, .int .u32 0, .int .u32 0, .int .u32 0, .int .u32 0, .int .u32 0, .int .u32 0, .int .u32 0, .int .u32 0, .int .u32 0, .int .u32 0, .int .u32 0, .int .u32 0, .int .u32 0, .int .u32 0, .int .u32 0, .int .u32 0, .int .u32 0, .int .u32 0, .int .u32 0, .int .u32 0, .int .u32 0, .int .u32 0, .int .u32 0, .int .u32 0, .int .u32 0, .int .u32 0, .int .u32 0, .int .u32 0, .int .u32 0, .int .u32 0, .int .u32 0, .int .u32 0, .int .u32 0, .int .u32 0, .int .u32 0, .int .u32 0, .int .u32 0, .int .u32 0, .int .u32 0, .int .u32 0, .int .u32 0, .int .u32 0, .int .u32 0, .int .u32 0, .int .u32 0, .int .u32 0, .int .u32 0, .int .u32 0, .int .u32 0, .int .u32 0, .int .u32 0, .int .u32 0, .int .u32 0, .int .u32 0, .int .u32 0, .int .u32 0, .int .u32 0, .int .u32 0, .int .u32 0, .int .u32 0, .int .u32 0, .int .u32 0])⟩ := by kernel_rfl
theorem Tryd.tf134 : tf Tryd.prog 134 = some ⟨.array 4 74 1 false, 4, 16, true, some (.agg #[.int .u32 0, .int .u32 0, .int .u32 0, .int .u32 0])⟩ := by kernel_rfl
theorem Tryd.tf135 : tf Tryd.prog 135 = some ⟨.slice 74 1 4, 1, 24, false, some (.slice none 0 0)⟩ := by kernel_rfl
theorem Tryd.call5 : callable Tryd.prog 5 = true := by kernel_rfl
theorem Tryd.call6 : callable Tryd.prog 6 = true := by kernel_rfl
theorem Tryd.call7 : callable Tryd.prog 7 = true := by kernel_rfl
theorem Tryd.call8 : callable Tryd.prog 8 = true := by kernel_rfl
theorem Tryd.call9 : callable Tryd.prog 9 = true := by kernel_rfl
theorem Tryd.call10 : callable Tryd.prog 10 = true := by kernel_rfl
theorem Tryd.call13 : callable Tryd.prog 13 = true := by kernel_rfl
theorem Tryd.call14 : callable Tryd.prog 14 = true := by kernel_rfl
theorem Tryd.call15 : callable Tryd.prog 15 = true := by kernel_rfl
theorem Tryd.call16 : callable Tryd.prog 16 = true := by kernel_rfl
theorem Tryd.call17 : callable Tryd.prog 17 = true := by kernel_rfl
theorem Tryd.call18 : callable Tryd.prog 18 = true := by kernel_rfl
theorem Tryd.call19 : callable Tryd.prog 19 = true := by kernel_rfl
theorem Tryd.call20 : callable Tryd.prog 20 = true := by kernel_rfl
theorem Tryd.call21 : callable Tryd.prog 21 = true := by kernel_rfl
theorem Tryd.call22 : callable Tryd.prog 22 = true := by kernel_rfl
theorem Tryd.call23 : callable Tryd.prog 23 = true := by kernel_rfl
theorem Tryd.call24 : callable Tryd.prog 24 = true := by kernel_rfl
theorem Tryd.call25 : callable Tryd.prog 25 = true := by kernel_rfl
theorem Tryd.call26 : callable Tryd.prog 26 = true := by kernel_rfl
theorem Tryd.call27 : callable Tryd.prog 27 = true := by kernel_rfl
theorem Tryd.call28 : callable Tryd.prog 28 = true := by kernel_rfl
theorem Tryd.call29 : callable Tryd.prog 29 = true := by kernel_rfl
theorem Tryd.call30 : callable Tryd.prog 30 = true := by kernel_rfl
theorem Tryd.call35 : callable Tryd.prog 35 = true := by kernel_rfl
theorem Tryd.call36 : callable Tryd.prog 36 = true := by kernel_rfl
theorem Tryd.call37 : callable Tryd.prog 37 = true := by kernel_rfl
theorem Tryd.call38 : callable Tryd.prog 38 = true := by kernel_rfl
theorem Tryd.call39 : callable Tryd.prog 39 = true := by kernel_rfl
theorem Tryd.call40 : callable Tryd.prog 40 = true := by kernel_rfl
theorem Tryd.call41 : callable Tryd.prog 41 = true := by kernel_rfl
theorem Tryd.call42 : callable Tryd.prog 42 = true := by kernel_rfl
theorem Tryd.call43 : callable Tryd.prog 43 = true := by kernel_rfl
theorem Tryd.call44 : callable Tryd.prog 44 = true := by kernel_rfl
theorem Tryd.call45 : callable Tryd.prog 45 = true := by kernel_rfl
theorem Tryd.call46 : callable Tryd.prog 46 = true := by kernel_rfl
theorem Tryd.call47 : callable Tryd.prog 47 = true := by kernel_rfl
theorem Tryd.call48 : callable Tryd.prog 48 = true := by kernel_rfl
theorem Tryd.call49 : callable Tryd.prog 49 = true := by kernel_rfl
theorem Tryd.call50 : callable Tryd.prog 50 = true := by kernel_rfl
theorem Tryd.call51 : callable Tryd.prog 51 = true := by kernel_rfl
theorem Tryd.call52 : callable Tryd.prog 52 = true := by kernel_rfl
theorem Tryd.call53 : callable Tryd.prog 53 = true := by kernel_rfl
theorem Tryd.call54 : callable Tryd.prog 54 = true := by kernel_rfl
theorem Tryd.call58 : callable Tryd.prog 58 = true := by kernel_rfl
theorem Tryd.call60 : callable Tryd.prog 60 = true := by kernel_rfl
theorem Tryd.call64 : callable Tryd.prog 64 = true := by kernel_rfl
theorem Tryd.call67 : callable Tryd.prog 67 = true := by kernel_rfl
theorem Tryd.call68 : callable Tryd.prog 68 = true := by kernel_rfl
theorem Tryd.call69 : callable Tryd.prog 69 = true := by kernel_rfl
theorem Tryd.call70 : callable Tryd.prog 70 = true := by kernel_rfl
theorem Tryd.call71 : callable Tryd.prog 71 = true := by kernel_rfl
theorem Tryd.call72 : callable Tryd.prog 72 = true := by kernel_rfl
theorem Tryd.call73 : callable Tryd.prog 73 = true := by kernel_rfl
theorem Tryd.call74 : callable Tryd.prog 74 = true := by kernel_rfl
theorem Tryd.call75 : callable Tryd.prog 75 = true := by kernel_rfl
theorem Tryd.call76 : callable Tryd.prog 76 = true := by kernel_rfl
theorem Tryd.call77 : callable Tryd.prog 77 = true := by kernel_rfl
theorem Tryd.call78 : callable Tryd.prog 78 = true := by kernel_rfl
theorem Tryd.call79 : callable Tryd.prog 79 = true := by kernel_rfl
theorem Tryd.call80 : callable Tryd.prog 80 = true := by kernel_rfl
theorem Tryd.call82 : callable Tryd.prog 82 = true := by kernel_rfl
theorem Tryd.call83 : callable Tryd.prog 83 = true := by kernel_rfl
theorem Tryd.call85 : callable Tryd.prog 85 = true := by kernel_rfl
theorem Tryd.call86 : callable Tryd.prog 86 = true := by kernel_rfl
theorem Tryd.call87 : callable Tryd.prog 87 = true := by kernel_rfl
theorem Tryd.call88 : callable Tryd.prog 88 = true := by kernel_rfl
theorem Tryd.call89 : callable Tryd.prog 89 = true := by kernel_rfl
theorem Tryd.call90 : callable Tryd.prog 90 = true := by kernel_rfl
theorem Tryd.call91 : callable Tryd.prog 91 = true := by kernel_rfl
theorem Tryd.call92 : callable Tryd.prog 92 = true := by kernel_rfl
theorem Tryd.call93 : callable Tryd.prog 93 = true := by kernel_rfl
theorem Tryd.call94 : callable Tryd.prog 94 = true := by kernel_rfl
theorem Tryd.call95 : callable Tryd.prog 95 = true := by kernel_rfl
theorem Tryd.call96 : callable Tryd.prog 96 = true := by kernel_rfl
theorem Tryd.call97 : callable Tryd.prog 97 = true := by kernel_rfl
end Go.PM

namespace Go.PM
open Go.Proofs
attribute [local irreducible] W PCalls pcall pcallI WL
@[reducible] def pw (x : UInt32) : PV := pint .u32 x.toNat
theorem wrap_u32 (n : Int) : IntKind.u32.wrap n = n % 4294967296 := by
  simp [IntKind.wrap, IntKind.bits, IntKind.signed]
theorem bitsw (op : BinOp) (f : BitVec 32 → BitVec 32 → BitVec 32) (x y : UInt32) (h : bits op .u32 (x.toNat : Int) (y.toNat : Int) = IntKind.u32.wrap ((f (BitVec.ofInt 32 (x.toNat : Int)) (BitVec.ofInt 32 (y.toNat : Int))).toNat : Int)) :
    bits op .u32 (x.toNat : Int) (y.toNat : Int) = ((f x.toBitVec y.toBitVec).toNat : Int) := by
  have e : ∀ z : UInt32, BitVec.ofInt 32 (z.toNat : Int) = z.toBitVec := fun z => by
    rw [BitVec.ofInt_natCast]
    apply BitVec.eq_of_toNat_eq
    have := z.toNat_lt
    simp
  rw [h, e, e, wrap_u32]
  have := (f x.toBitVec y.toBitVec).isLt
  omega
theorem w_xor (x y : UInt32) : bits .xor .u32 (x.toNat : Int) (y.toNat : Int) = ((x ^^^ y).toNat : Int) := bitsw .xor (· ^^^ ·) x y rfl
theorem w_and (x y : UInt32) : bits .and .u32 (x.toNat : Int) (y.toNat : Int) = ((x &&& y).toNat : Int) := bitsw .and (· &&& ·) x y rfl
theorem w_or (x y : UInt32) : bits .or .u32 (x.toNat : Int) (y.toNat : Int) = ((x ||| y).toNat : Int) := bitsw .or (· ||| ·) x y rfl
theorem w_add (x y : UInt32) : IntKind.u32.wrap ((x.toNat : Int) + (y.toNat : Int)) = ((x + y).toNat : Int) := by
  rw [wrap_u32, UInt32.toNat_add]
  omega
theorem w_not (x : UInt32) : bits .xor .u32 (if IntKind.u32.signed = true then -1 else IntKind.u32.max) (x.toNat : Int) = ((x ^^^ 4294967295).toNat : Int) := by
  have e : (if IntKind.u32.signed = true then (-1 : Int) else IntKind.u32.max) = ((4294967295 : UInt32).toNat : Int) := by decide
  rw [e, w_xor, UInt32.xor_comm]
/-- A word turned right. -/
def R (x : UInt32) (n : Nat) : UInt32 := (x <<< UInt32.ofNat (32 - n)) ||| (x >>> UInt32.ofNat n)
theorem w_shl (x : UInt32) (s : Nat) (h : s < 32) : IntKind.u32.wrap ((x.toNat : Int) * 2 ^ min s IntKind.u32.bits) = ((x <<< UInt32.ofNat s).toNat : Int) := by
  have h1 : min s IntKind.u32.bits = s := by simp only [IntKind.bits]; omega
  have h2 : (UInt32.ofNat s).toNat = s := UInt32.toNat_ofNat_of_lt' (show s < 4294967296 by omega)
  rw [h1, wrap_u32, UInt32.toNat_shiftLeft, h2, Nat.mod_eq_of_lt h, Nat.shiftLeft_eq]
  have e : (x.toNat : Int) * 2 ^ s = ((x.toNat * 2 ^ s : Nat) : Int) := by rw [Int.natCast_mul, Int.natCast_pow]; rfl
  rw [e]
  generalize x.toNat * 2 ^ s = y
  omega
theorem w_shr (x : UInt32) (s : Nat) (h : s < 32) : ((x.toNat : Int)).fdiv (2 ^ min s IntKind.u32.bits) = ((x >>> UInt32.ofNat s).toNat : Int) := by
  have h1 : min s IntKind.u32.bits = s := by simp only [IntKind.bits]; omega
  have h2 : (UInt32.ofNat s).toNat = s := UInt32.toNat_ofNat_of_lt' (show s < 4294967296 by omega)
  rw [h1, UInt32.toNat_shiftRight, h2, Nat.mod_eq_of_lt h, Nat.shiftRight_eq_div_pow, show (2 : Int) ^ s = ((2 ^ s : Nat) : Int) by rw [Int.natCast_pow]; rfl, Int.fdiv_eq_ediv_of_nonneg _ (Int.natCast_nonneg _)]
  rfl
theorem and31 : ∀ n : _root_.Fin 32, 1 ≤ n.val → bits .and .u64 (IntKind.u64.wrap (-(n.val : Int))) 31 = ((32 - n.val : Nat) : Int) := by decide +kernel
theorem rot_c (G : Globs) (x : UInt32) (n : Nat) (h1 : 1 ≤ n) (h2 : n ≤ 31) : PCalls Tryd.prog G 91 [pw x, pint .i64 (-(n : Int))] [] (fun res H => res = pw (R x n) ∧ H = []) := by
  have ha := and31 ⟨n, by omega⟩ h1
  simp only at ha
  have hs1 := w_shl x (32 - n) (by omega)
  have hs2 := w_shr x n (by omega)
  have hw : IntKind.u64.wrap (32 - ((32 - n : Nat) : Int)) = (n : Int) := by
    simp [IntKind.wrap, IntKind.bits, IntKind.signed]
    omega
  (refine PCalls_f Tryd.func91 rfl Tryd.ntmps91 Tryd.results91 (by simp) fun fin hfin => ?_; have hnm : True := trivial; simp only [ev, Nat.reduceAdd, Nat.reduceMul, Nat.reduceSub, Nat.reduceLeDiff, Nat.reduceEqDiff, ↓reduceIte, reduceCtorEq, Nat.reduceLT, Nat.reducePow, Nat.reduceDiv, Nat.reduceMod, Nat.reduceBEq, Int.reduceLT, Int.reduceLE, Int.reduceToNat, Int.reduceAdd, Int.reduceSub, Int.reduceNeg])
  repeat' (first
    | (with_reducible apply W_seq_k; intro nx hnx)
    | (with_reducible first | refine wr 51 ?_)
    | ((with_reducible first | (apply WL_op; intro nx hnx) | refine Ev_out ?_ | refine wc ?_ | (refine pf hnm fun nm hnm => ?_; try simp only [fmb] at hnm) | (refine pm hnm fun nm hnm => ?_; try simp only [fmb] at hnm)); try (simp (maxSteps := 2000000) (disch := omega) only [ev, ↓evp, PV.cells, PV.one, PV.mem?, Value.cells, Nat.reduceAdd, Nat.reduceMul, Nat.reduceSub, Nat.reduceLeDiff, Nat.reduceEqDiff, ↓reduceIte, reduceCtorEq, Nat.reduceLT, Nat.reducePow, Nat.reduceDiv, Nat.reduceMod, Nat.reduceBEq, Int.reduceLT, Int.reduceLE, Int.reduceToNat, Int.reduceAdd, Int.reduceSub, Int.reduceNeg, hnm, Tryd.tf3, Tryd.tf74, Tryd.tf131, ha, hs1, hw, hs2, w_or]))
    | ((with_reducible first | apply W_block | apply W_scope | apply WL_nil | apply W_label | apply W_skip | apply W_exit | apply W_ret) <;> try simp only [kks, Nat.reduceAdd, Nat.reduceMul, Nat.reduceSub, Nat.reduceLeDiff, Nat.reduceEqDiff, ↓reduceIte, reduceCtorEq, Nat.reduceLT, Nat.reducePow, Nat.reduceDiv, Nat.reduceMod, Nat.reduceBEq, Int.reduceLT, Int.reduceLE, Int.reduceToNat, Int.reduceAdd, Int.reduceSub, Int.reduceNeg])
    | (with_reducible apply hnx; clear hnx nx)
    | (with_reducible refine And.intro (by omega) ?_)
    | (with_reducible refine And.intro ?_ ?_)
    | (clear hnx nx; with_reducible apply hnx; clear hnx nx)
    | (clear hnx nx; clear hnx nx; with_reducible apply hnx; clear hnx nx))
  (refine hfin _ _ (Fin_ret1 rfl (Sub_nil _) ?_); simp only [cob, Nat.reduceAdd, Nat.reduceMul, Nat.reduceSub, Nat.reduceLeDiff, Nat.reduceEqDiff, ↓reduceIte, reduceCtorEq, Nat.reduceLT, Nat.reducePow, Nat.reduceDiv, Nat.reduceMod, Nat.reduceBEq, Int.reduceLT, Int.reduceLE, Int.reduceToNat, Int.reduceAdd, Int.reduceSub, Int.reduceNeg]; first | trivial | exact ⟨rfl, by trivial⟩ | (simp; done) | (simp; omega))
theorem rot_k (G : Globs) (x : UInt32) (k : Int) (n : Nat) (hk : k = -(n : Int)) (h1 : 1 ≤ n) (h2 : n ≤ 31) : PCalls Tryd.prog G 91 [pw x, pint .i64 k] [] (fun res H => res = pw (R x n) ∧ H = []) := by
  rw [hk]
  exact rot_c G x n h1 h2
/-- The mix of a word. -/
def Mx (x : UInt32) (i j k : Nat) : UInt32 := R x i ^^^ R x j ^^^ R x k
theorem mix_c (G : Globs) (x : UInt32) (i j k : Nat) (hi : 1 ≤ i ∧ i ≤ 31) (hj : 1 ≤ j ∧ j ≤ 31) (hk : 1 ≤ k ∧ k ≤ 31) : PCalls Tryd.prog G 80 [pw x, pint .i64 i, pint .i64 j, pint .i64 k] [] (fun res H => res = pw (Mx x i j k) ∧ H = []) := by
  (refine PCalls_f Tryd.func80 rfl Tryd.ntmps80 Tryd.results80 (by simp) fun fin hfin => ?_; have hnm : True := trivial; simp only [ev, Nat.reduceAdd, Nat.reduceMul, Nat.reduceSub, Nat.reduceLeDiff, Nat.reduceEqDiff, ↓reduceIte, reduceCtorEq, Nat.reduceLT, Nat.reducePow, Nat.reduceDiv, Nat.reduceMod, Nat.reduceBEq, Int.reduceLT, Int.reduceLE, Int.reduceToNat, Int.reduceAdd, Int.reduceSub, Int.reduceNeg])
  repeat' (first
    | (with_reducible apply W_seq_k; intro nx hnx)
    | (with_reducible first | refine wr 271 ?_)
    | ((with_reducible first | (apply WL_op; intro nx hnx) | refine Ev_out ?_ | refine wc ?_); try (simp (maxSteps := 2000000) (disch := omega) only [ev, ↓evp, PV.cells, PV.one, PV.mem?, Value.cells, Nat.reduceAdd, Nat.reduceMul, Nat.reduceSub, Nat.reduceLeDiff, Nat.reduceEqDiff, ↓reduceIte, reduceCtorEq, Nat.reduceLT, Nat.reducePow, Nat.reduceDiv, Nat.reduceMod, Nat.reduceBEq, Int.reduceLT, Int.reduceLE, Int.reduceToNat, Int.reduceAdd, Int.reduceSub, Int.reduceNeg, hnm, Tryd.tf3, Tryd.tf74, Tryd.call91, w_xor]))
    | ((with_reducible first | apply W_block | apply W_scope | apply WL_nil | apply W_label | apply W_skip | apply W_exit | apply W_ret) <;> try simp only [kks, Nat.reduceAdd, Nat.reduceMul, Nat.reduceSub, Nat.reduceLeDiff, Nat.reduceEqDiff, ↓reduceIte, reduceCtorEq, Nat.reduceLT, Nat.reducePow, Nat.reduceDiv, Nat.reduceMod, Nat.reduceBEq, Int.reduceLT, Int.reduceLE, Int.reduceToNat, Int.reduceAdd, Int.reduceSub, Int.reduceNeg])
    | (with_reducible apply hnx; clear hnx nx)
    | (with_reducible refine And.intro (by omega) ?_)
    | (with_reducible refine And.intro ?_ ?_)
    | (with_reducible refine pe (rot_k G x (0 - i) i (by omega) hi.1 hi.2) ?_)
    | (with_reducible refine pe (rot_k G x (0 - j) j (by omega) hj.1 hj.2) ?_)
    | (with_reducible refine pe (rot_k G x (0 - k) k (by omega) hk.1 hk.2) ?_)
    | (clear hnx nx; with_reducible apply hnx; clear hnx nx)
    | (clear hnx nx; clear hnx nx; with_reducible apply hnx; clear hnx nx))
  (refine hfin _ _ (Fin_ret1 rfl (Sub_nil _) ?_); simp only [cob, Nat.reduceAdd, Nat.reduceMul, Nat.reduceSub, Nat.reduceLeDiff, Nat.reduceEqDiff, ↓reduceIte, reduceCtorEq, Nat.reduceLT, Nat.reducePow, Nat.reduceDiv, Nat.reduceMod, Nat.reduceBEq, Int.reduceLT, Int.reduceLE, Int.reduceToNat, Int.reduceAdd, Int.reduceSub, Int.reduceNeg]; first | trivial | exact ⟨rfl, by trivial⟩ | (simp; done) | (simp; omega))
/-- The reference's rotation. -/
theorem rotr_c (G : Globs) (x : UInt32) (n : Nat) (h1 : 1 ≤ n) (h2 : n ≤ 31) : PCalls Tryd.prog G 97 [pw x, pint .i64 n] [] (fun res H => res = pw (R x n) ∧ H = []) := by
  have hs1 := w_shl x (32 - n) (by omega)
  have hs2 := w_shr x n (by omega)
  have hc : (x >>> UInt32.ofNat n) ||| (x <<< UInt32.ofNat (32 - n)) = R x n := UInt32.or_comm _ _
  have hn : (32 - (n : Int)).toNat = 32 - n := by omega
  (refine PCalls_f Tryd.func97 rfl Tryd.ntmps97 Tryd.results97 (by simp) fun fin hfin => ?_; have hnm : True := trivial; simp only [ev, Nat.reduceAdd, Nat.reduceMul, Nat.reduceSub, Nat.reduceLeDiff, Nat.reduceEqDiff, ↓reduceIte, reduceCtorEq, Nat.reduceLT, Nat.reducePow, Nat.reduceDiv, Nat.reduceMod, Nat.reduceBEq, Int.reduceLT, Int.reduceLE, Int.reduceToNat, Int.reduceAdd, Int.reduceSub, Int.reduceNeg])
  repeat' (first
    | (with_reducible apply W_seq_k; intro nx hnx)
    | (with_reducible first | refine wr 19 ?_ | refine wd (id := 1) 19 1 (.op 0 true (.op 1 true (.op 2 true (.op 3 true (.op 4 true (.op 5 true (.op 6 true (.op 7 true (.op 8 true (.done)))))))))) (by kernel_rfl) ?_)
    | ((with_reducible first | (apply WL_op; intro nx hnx) | refine Ev_out ?_ | refine wc ?_ | (apply popsD_op; intro nx hnx) | (refine popsD_alt ?_ ?_; intro nx hnx)); try (simp (maxSteps := 2000000) (disch := omega) only [ev, ↓evp, PV.cells, PV.one, PV.mem?, Value.cells, Nat.reduceAdd, Nat.reduceMul, Nat.reduceSub, Nat.reduceLeDiff, Nat.reduceEqDiff, ↓reduceIte, reduceCtorEq, Nat.reduceLT, Nat.reducePow, Nat.reduceDiv, Nat.reduceMod, Nat.reduceBEq, Int.reduceLT, Int.reduceLE, Int.reduceToNat, Int.reduceAdd, Int.reduceSub, Int.reduceNeg, hnm, Tryd.tf3, Tryd.tf74, hs1, hs2, hn, w_or, hc]))
    | ((with_reducible first | apply W_block | apply W_scope | apply WL_nil | apply W_label | apply W_skip | apply W_exit | apply W_ret | apply popsD_done | exact popsD_stop) <;> try simp only [kks, Nat.reduceAdd, Nat.reduceMul, Nat.reduceSub, Nat.reduceLeDiff, Nat.reduceEqDiff, ↓reduceIte, reduceCtorEq, Nat.reduceLT, Nat.reducePow, Nat.reduceDiv, Nat.reduceMod, Nat.reduceBEq, Int.reduceLT, Int.reduceLE, Int.reduceToNat, Int.reduceAdd, Int.reduceSub, Int.reduceNeg])
    | (with_reducible apply hnx; clear hnx nx)
    | (with_reducible refine And.intro (by omega) ?_)
    | (with_reducible refine And.intro ?_ ?_)
    | (clear hnx nx; with_reducible apply hnx; clear hnx nx)
    | (clear hnx nx; clear hnx nx; with_reducible apply hnx; clear hnx nx))
  (refine hfin _ _ (Fin_ret1 rfl (Sub_nil _) ?_); simp only [cob, Nat.reduceAdd, Nat.reduceMul, Nat.reduceSub, Nat.reduceLeDiff, Nat.reduceEqDiff, ↓reduceIte, reduceCtorEq, Nat.reduceLT, Nat.reducePow, Nat.reduceDiv, Nat.reduceMod, Nat.reduceBEq, Int.reduceLT, Int.reduceLE, Int.reduceToNat, Int.reduceAdd, Int.reduceSub, Int.reduceNeg]; first | trivial | exact ⟨rfl, by trivial⟩ | (simp; done) | (simp; omega))
end Go.PM

namespace Go.PM
open Go.Proofs
attribute [local irreducible] W PCalls pcall pcallI WL
def accB (m : UInt32) (x : UInt8) : UInt32 := (m <<< UInt32.ofNat 8) ||| x.toUInt32
def wB (b : List UInt8) (t : Nat) : UInt32 := ((b.drop (4 * t)).take 4).foldl accB 0
def S0 (p : UInt32) : UInt32 := R p 7 ^^^ R p 18 ^^^ (p >>> UInt32.ofNat 3)
def S1 (q : UInt32) : UInt32 := R q 17 ^^^ R q 19 ^^^ (q >>> UInt32.ofNat 10)
/-- The next word. -/
def nxt (b : List UInt8) (w : List UInt32) (t : Nat) : UInt32 := if t < 16 then wB b t else w.getD (t - 16) 0 + S0 (w.getD (t - 15) 0) + w.getD (t - 7) 0 + S1 (w.getD (t - 2) 0)
/-- The first words of a block. -/
def WLs (b : List UInt8) : Nat → List UInt32
  | 0 => []
  | t + 1 => WLs b t ++ [nxt b (WLs b t) t]
theorem WLs_len (b : List UInt8) : ∀ t, (WLs b t).length = t
  | 0 => rfl
  | t + 1 => by simp [WLs, WLs_len b t]
theorem WLs_get (b : List UInt8) (t i : Nat) (h : t ≤ i) : (WLs b t).getD i 0 = 0 := by
  rw [List.getD_eq_getElem?_getD, List.getElem?_eq_none (by rw [WLs_len]; exact h)]
  rfl
theorem WLs_keep (b : List UInt8) (t i : Nat) (h : i < t) : (WLs b (t + 1)).getD i 0 = (WLs b t).getD i 0 := by
  rw [WLs, List.getD_eq_getElem?_getD, List.getD_eq_getElem?_getD, List.getElem?_append_left (by rw [WLs_len]; exact h)]
theorem WLs_new (b : List UInt8) (t : Nat) : (WLs b (t + 1)).getD t 0 = nxt b (WLs b t) t := by
  rw [WLs, List.getD_eq_getElem?_getD, List.getElem?_append_right (by rw [WLs_len]; exact Nat.le_refl _)]
  simp [WLs_len]
/-- The cells while the word t is made: a is what it holds so far. -/
def cA (b : List UInt8) (t : Nat) (a : UInt32) : List PV := tab 64 fun m => if m = t then pw a else pw ((WLs b t).getD m 0)
def cW (b : List UInt8) (t : Nat) : List PV := tab 64 fun m => pw ((WLs b t).getD m 0)
theorem cW_len (b : List UInt8) (t : Nat) : (cW b t).length = 64 := tab_len _ _
theorem cA_len (b : List UInt8) (t : Nat) (a : UInt32) : (cA b t a).length = 64 := tab_len _ _
theorem cW_get (b : List UInt8) (t i : Nat) (h : i < 64) : (cW b t)[i]? = some (pw ((WLs b t).getD i 0)) := tab_get h
theorem cA_get (b : List UInt8) (t : Nat) (a : UInt32) (h : t < 64) : (cA b t a)[t]? = some (pw a) := by
  rw [cA, tab_get h]
  simp
theorem cA_zero (b : List UInt8) (t : Nat) : cA b t 0 = cW b t := by
  rw [cA, cW]
  refine tab_congr fun i _ => ?_
  by_cases h : i = t
  · subst h
    rw [if_pos rfl, WLs_get b i i (Nat.le_refl _)]
  · rw [if_neg h]
theorem cW_zero (b : List UInt8) : cW b 0 = List.replicate 64 (pint .u32 0) := by
  rw [cW, tab_congr (g := fun _ => pint .u32 0) (fun i _ => by simp [WLs])]
  simp [tab, List.range_succ]
theorem cA_set (b : List UInt8) (t : Nat) (a a' : UInt32) (h : t < 64) : List.take t (cA b t a) ++ [pw a'] ++ List.drop (t + 1) (cA b t a) = cA b t a' := by
  rw [cA, tab_set h, cA]
  refine tab_congr fun i _ => ?_
  by_cases h : i = t
  · rw [if_pos h, if_pos h]
  · rw [if_neg h, if_neg h, if_neg h]
theorem cW_set (b : List UInt8) (t : Nat) (h : t < 64) : List.take t (cW b t) ++ [pw (nxt b (WLs b t) t)] ++ List.drop (t + 1) (cW b t) = cW b (t + 1) := by
  rw [cW, tab_set h, cW]
  refine tab_congr fun i _ => ?_
  by_cases h : i = t
  · subst h
    rw [if_pos rfl, WLs_new]
  · rw [if_neg h]
    rcases Nat.lt_or_ge i t with h2 | h2
    · rw [WLs_keep b t i h2]
    · rw [WLs_get b t i h2, WLs_get b (t + 1) i (by omega)]
theorem cA_done (b : List UInt8) (t : Nat) (h : t < 16) : cA b t (wB b t) = cW b (t + 1) := by
  rw [cA, cW]
  refine tab_congr fun i _ => ?_
  by_cases h3 : i = t
  · subst h3
    rw [if_pos rfl, WLs_new, nxt, if_pos h]
  · rw [if_neg h3]
    rcases Nat.lt_or_ge i t with h2 | h2
    · rw [WLs_keep b t i h2]
    · rw [WLs_get b t i h2, WLs_get b (t + 1) i (by omega)]
theorem cW_full (b : List UInt8) : cW b 64 = (WLs b 64).map pw := by
  apply List.ext_getElem
  · simp [cW_len, WLs_len]
  · intro i h1 h2
    rw [cW_len] at h1
    have h3 := cW_get b 64 i h1
    rw [List.getElem?_eq_getElem (by rw [cW_len]; exact h1)] at h3
    rw [Option.some.inj h3, List.getElem_map]
    simp [WLs_len, h1]
attribute [irreducible] cA cW
theorem w_byte (x : UInt8) : IntKind.u32.wrap ((x.toNat : Nat) : Int) = ((x.toUInt32.toNat : Nat) : Int) := by
  have := x.toNat_lt
  rw [wrap_u32, UInt8.toNat_toUInt32]
  omega
theorem all_one_pw (d : List UInt32) : (d.map pw).all PV.one = true := by
  rw [List.all_eq_true]
  intro p hp
  obtain ⟨b, _, rfl⟩ := List.mem_map.1 hp
  rfl
theorem all_one_byte (d : List UInt8) : (d.map pbyte).all PV.one = true := by
  rw [List.all_eq_true]
  intro p hp
  obtain ⟨b, _, rfl⟩ := List.mem_map.1 hp
  rfl
set_option maxRecDepth 100000 in
set_option maxHeartbeats 8000000 in
theorem sched_c (G : Globs) (b : List UInt8) (hb : b.length = 64) : PCalls Tryd.prog G 79 [.list 1 (b.map pbyte)] [] (fun res H => res = .agg ((WLs b 64).map pw) ∧ H = []) := by
  (refine PCalls_f Tryd.func79 rfl Tryd.ntmps79 Tryd.results79 (by simp) fun fin hfin => ?_; have hnm : True := trivial; simp only [ev, Nat.reduceAdd, Nat.reduceMul, Nat.reduceSub, Nat.reduceLeDiff, Nat.reduceEqDiff, ↓reduceIte, reduceCtorEq, Nat.reduceLT, Nat.reducePow, Nat.reduceDiv, Nat.reduceMod, Nat.reduceBEq, Int.reduceLT, Int.reduceLE, Int.reduceToNat, Int.reduceAdd, Int.reduceSub, Int.reduceNeg])
  repeat' (first
    | (with_reducible apply W_seq_k; intro nx hnx)
    | (with_reducible first | refine wr 29364189 ?_ | refine wd (id := 11) 29364189 1 (.op 0 true (.op 1 true (.op 2 true (.op 3 true (.op 4 true (.op 5 true (.op 6 true (.op 7 true (.op 8 true (.op 9 true (.done))))))))))) (by kernel_rfl) ?_ | refine wd (id := 14) 29364189 1 (.op 0 true (.op 1 true (.op 2 true (.op 3 true (.op 4 true (.op 5 true (.op 6 true (.op 7 true (.op 8 true (.op 9 true (.op 10 true (.op 11 true (.op 12 true (.op 13 true (.op 14 true (.op 15 false (.done))))))))))))))))) (by kernel_rfl) ?_)
    | ((with_reducible first | (apply WL_op; intro nx hnx) | refine Ev_out ?_ | refine wc ?_ | (apply popsD_op; intro nx hnx) | (refine popsD_alt ?_ ?_; intro nx hnx) | (refine pf hnm fun nm hnm => ?_; try simp only [fmb] at hnm) | (refine pm hnm fun nm hnm => ?_; try simp only [fmb] at hnm)); try (simp (maxSteps := 2000000) (disch := omega) only [ev, ↓evp, PV.cells, PV.one, PV.mem?, Value.cells, Nat.reduceAdd, Nat.reduceMul, Nat.reduceSub, Nat.reduceLeDiff, Nat.reduceEqDiff, ↓reduceIte, reduceCtorEq, Nat.reduceLT, Nat.reducePow, Nat.reduceDiv, Nat.reduceMod, Nat.reduceBEq, Int.reduceLT, Int.reduceLE, Int.reduceToNat, Int.reduceAdd, Int.reduceSub, Int.reduceNeg, hnm, Tryd.tf0, Tryd.tf3, Tryd.tf4, Tryd.tf5, Tryd.tf27, Tryd.tf74, Tryd.tf131, Tryd.tf132, Tryd.call91]))
    | ((with_reducible first | apply W_block | apply W_scope | apply WL_nil | apply W_label | apply W_skip | apply W_exit | apply W_ret | apply popsD_done | exact popsD_stop) <;> try simp only [kks, Nat.reduceAdd, Nat.reduceMul, Nat.reduceSub, Nat.reduceLeDiff, Nat.reduceEqDiff, ↓reduceIte, reduceCtorEq, Nat.reduceLT, Nat.reducePow, Nat.reduceDiv, Nat.reduceMod, Nat.reduceBEq, Int.reduceLT, Int.reduceLE, Int.reduceToNat, Int.reduceAdd, Int.reduceSub, Int.reduceNeg])
    | (with_reducible apply pg <;> (intro hc; (try simp only [hcb, Nat.reduceAdd, Nat.reduceMul, Nat.reduceSub, Nat.reduceLeDiff, Nat.reduceEqDiff, ↓reduceIte, reduceCtorEq, Nat.reduceLT, Nat.reducePow, Nat.reduceDiv, Nat.reduceMod, Nat.reduceBEq, Int.reduceLT, Int.reduceLE, Int.reduceToNat, Int.reduceAdd, Int.reduceSub, Int.reduceNeg, ne_eq, forall_const] at hc); first | (exfalso; omega) | exact absurd trivial hc | skip))
    | (with_reducible apply hnx; clear hnx nx)
    | (with_reducible refine And.intro (by omega) ?_)
    | (with_reducible refine And.intro ?_ ?_)
    | (clear hnx nx; with_reducible apply hnx; clear hnx nx)
    | (clear hnx nx; clear hnx nx; with_reducible apply hnx; clear hnx nx))
  rename_i N2 _
  obtain ⟨N3, hN3⟩ : ∃ N, N = nm := ⟨_, rfl⟩
  subst hN3
  have hN : N3 ≠ N2 := by simp only [ne_eq, hnm, not_false_eq_true]
  have hN1 : ¬ N3 = N2 := hN
  have hN4 : ¬ N2 = N3 := fun e => hN e.symm
  clear hnm
  have hnm : True := trivial
  refine W_loop_k (fun z τ => ∃ t : Nat, t ≤ 64 ∧ z = 64 - t ∧ τ = ⟨fr 79 [(0, .list 1 (b.map pbyte)), (2, .ptr N2 0), (3, .ptr N3 0), (11, pint .i64 t)], [(N3, ⟨132, false, 0, cW b t⟩), (N2, ⟨132, false, 0, cW b 0⟩)]⟩) 64 ⟨fr 79 [(0, .list 1 (b.map pbyte)), (2, .ptr N2 0), (3, .ptr N3 0), (11, pint .i64 (0 : Nat))], [(N3, ⟨132, false, 0, cW b 0⟩), (N2, ⟨132, false, 0, cW b 0⟩)]⟩ (by
    rw [cW_zero]
    refine Wk_fr (by simp only [wkb, Nat.reduceAdd, Nat.reduceMul, Nat.reduceSub, Nat.reduceLeDiff, Nat.reduceEqDiff, ↓reduceIte, reduceCtorEq, Nat.reduceLT, Nat.reducePow, Nat.reduceDiv, Nat.reduceMod, Nat.reduceBEq, Int.reduceLT, Int.reduceLE, Int.reduceToNat, Int.reduceAdd, Int.reduceSub, Int.reduceNeg]) ?_
    exact ⟨by simp, by simp [names, hN]⟩) ⟨0, by omega, by omega, rfl⟩ ?_
  rintro z τ ⟨t, ht, rfl, rfl⟩ lp hlp
  have hcl := cW_len b t
  by_cases ht1 : t < 16
  · have hmid : List.drop (4 * t) (List.take (4 * t + 4) (b.map pbyte)) = ((b.drop (4 * t)).take 4).map pbyte := by
      rw [List.drop_take, List.map_take, List.map_drop, show 4 * t + 4 - 4 * t = 4 by omega]
    have h41 : (4 * (t : Int)).toNat = 4 * t := by omega
    have h42 : (4 * (t : Int) + 4).toNat = 4 * t + 4 := by omega
    obtain ⟨c, hcd⟩ : ∃ c, c = (b.drop (4 * t)).take 4 := ⟨_, rfl⟩
    have hc4 : c.length = 4 := by rw [hcd, List.length_take, List.length_drop]; omega
    rw [← hcd] at hmid
    repeat' (first
    | (with_reducible apply W_seq_k; intro nx hnx)
    | (with_reducible first | refine wr 29364189 ?_ | refine wd (id := 11) 29364189 1 (.op 0 true (.op 1 true (.op 2 true (.op 3 true (.op 4 true (.op 5 true (.op 6 true (.op 7 true (.op 8 true (.op 9 true (.done))))))))))) (by kernel_rfl) ?_ | refine wd (id := 14) 29364189 1 (.op 0 true (.op 1 true (.op 2 true (.op 3 true (.op 4 true (.op 5 true (.op 6 true (.op 7 true (.op 8 true (.op 9 true (.op 10 true (.op 11 true (.op 12 true (.op 13 true (.op 14 true (.op 15 false (.done))))))))))))))))) (by kernel_rfl) ?_)
    | ((with_reducible first | (apply WL_op; intro nx hnx) | refine Ev_out ?_ | refine wc ?_ | (apply popsD_op; intro nx hnx) | (refine popsD_alt ?_ ?_; intro nx hnx) | (refine pf hnm fun nm hnm => ?_; try simp only [fmb] at hnm) | (refine pm hnm fun nm hnm => ?_; try simp only [fmb] at hnm)); try (simp (maxSteps := 2000000) (disch := omega) only [ev, ↓evp, PV.cells, PV.one, PV.mem?, Value.cells, Nat.reduceAdd, Nat.reduceMul, Nat.reduceSub, Nat.reduceLeDiff, Nat.reduceEqDiff, ↓reduceIte, reduceCtorEq, Nat.reduceLT, Nat.reducePow, Nat.reduceDiv, Nat.reduceMod, Nat.reduceBEq, Int.reduceLT, Int.reduceLE, Int.reduceToNat, Int.reduceAdd, Int.reduceSub, Int.reduceNeg, hnm, Tryd.tf0, Tryd.tf3, Tryd.tf4, Tryd.tf5, Tryd.tf27, Tryd.tf74, Tryd.tf131, Tryd.tf132, Tryd.call91, hN1, hN4, hmid, h41, h42, hc4]))
    | ((with_reducible first | apply W_block | apply W_scope | apply WL_nil | apply W_label | apply W_skip | apply W_exit | apply W_ret | apply popsD_done | exact popsD_stop) <;> try simp only [kks, Nat.reduceAdd, Nat.reduceMul, Nat.reduceSub, Nat.reduceLeDiff, Nat.reduceEqDiff, ↓reduceIte, reduceCtorEq, Nat.reduceLT, Nat.reducePow, Nat.reduceDiv, Nat.reduceMod, Nat.reduceBEq, Int.reduceLT, Int.reduceLE, Int.reduceToNat, Int.reduceAdd, Int.reduceSub, Int.reduceNeg])
    | (with_reducible apply pg <;> (intro hc; (try simp only [hcb, Nat.reduceAdd, Nat.reduceMul, Nat.reduceSub, Nat.reduceLeDiff, Nat.reduceEqDiff, ↓reduceIte, reduceCtorEq, Nat.reduceLT, Nat.reducePow, Nat.reduceDiv, Nat.reduceMod, Nat.reduceBEq, Int.reduceLT, Int.reduceLE, Int.reduceToNat, Int.reduceAdd, Int.reduceSub, Int.reduceNeg, ne_eq, forall_const] at hc); first | (exfalso; omega) | exact absurd trivial hc | skip))
    | (with_reducible apply hnx; clear hnx nx)
    | (with_reducible refine And.intro (by omega) ?_)
    | (with_reducible refine And.intro ?_ ?_)
    | (clear hnx nx; with_reducible apply hnx; clear hnx nx)
    | (clear hnx nx; clear hnx nx; with_reducible apply hnx; clear hnx nx))
    all_goals first
      | (exfalso
         omega)
      | skip
    refine W_loop_k (fun z τ => ∃ i : Nat, i ≤ 4 ∧ z = 4 - i ∧ τ = ⟨fr 79 [(0, .list 1 (b.map pbyte)), (2, .ptr N2 0), (3, .ptr N3 0), (4, pint .i64 t), (11, pint .i64 t), (22, .list 1 (c.map pbyte)), (23, pint .i64 4), (24, pint .i64 i)], [(N3, ⟨132, false, 0, cA b t ((c.take i).foldl accB 0)⟩), (N2, ⟨132, false, 0, cW b 0⟩)]⟩) 4 ⟨fr 79 [(0, .list 1 (b.map pbyte)), (2, .ptr N2 0), (3, .ptr N3 0), (4, pint .i64 t), (11, pint .i64 t), (22, .list 1 (c.map pbyte)), (23, pint .i64 4), (24, pint .i64 (0 : Nat))], [(N3, ⟨132, false, 0, cA b t ((c.take 0).foldl accB 0)⟩), (N2, ⟨132, false, 0, cW b 0⟩)]⟩ (by
      rw [List.take_zero, List.foldl_nil, cA_zero]
      refine Wk_fr (by simp only [wkb, Nat.reduceAdd, Nat.reduceMul, Nat.reduceSub, Nat.reduceLeDiff, Nat.reduceEqDiff, ↓reduceIte, reduceCtorEq, Nat.reduceLT, Nat.reducePow, Nat.reduceDiv, Nat.reduceMod, Nat.reduceBEq, Int.reduceLT, Int.reduceLE, Int.reduceToNat, Int.reduceAdd, Int.reduceSub, Int.reduceNeg]) ?_
      exact ⟨by simp, by simp [names, hN]⟩) ⟨0, by omega, by omega, rfl⟩ ?_
    rintro z τ ⟨i, hi, rfl, rfl⟩ lp2 hlp2
    have hal := cA_len b t ((c.take i).foldl accB 0)
    have hag := cA_get b t ((c.take i).foldl accB 0) (by omega)
    by_cases hi4 : i < 4
    · have hic : i < c.length := by omega
      have hst : (c.take (i + 1)).foldl accB 0 = accB ((c.take i).foldl accB 0) c[i] := by
        rw [List.take_add_one, List.getElem?_eq_getElem hic, Option.toList_some, List.foldl_append]
        rfl
      have hsh := w_shl ((c.take i).foldl accB 0) 8 (by omega)
      have hby := w_byte c[i]
      have hor : ((c.take i).foldl accB 0 <<< UInt32.ofNat 8) ||| c[i].toUInt32 = (c.take (i + 1)).foldl accB 0 := by rw [hst]; rfl
      have hset := cA_set b t ((c.take i).foldl accB 0) ((c.take (i + 1)).foldl accB 0) (by omega)
      repeat' (first
    | (with_reducible apply W_seq_k; intro nx hnx)
    | (with_reducible first | refine wr 29364189 ?_ | refine wd (id := 11) 29364189 1 (.op 0 true (.op 1 true (.op 2 true (.op 3 true (.op 4 true (.op 5 true (.op 6 true (.op 7 true (.op 8 true (.op 9 true (.done))))))))))) (by kernel_rfl) ?_ | refine wd (id := 14) 29364189 1 (.op 0 true (.op 1 true (.op 2 true (.op 3 true (.op 4 true (.op 5 true (.op 6 true (.op 7 true (.op 8 true (.op 9 true (.op 10 true (.op 11 true (.op 12 true (.op 13 true (.op 14 true (.op 15 false (.done))))))))))))))))) (by kernel_rfl) ?_)
    | ((with_reducible first | (apply WL_op; intro nx hnx) | refine Ev_out ?_ | refine wc ?_ | (apply popsD_op; intro nx hnx) | (refine popsD_alt ?_ ?_; intro nx hnx) | (refine pf hnm fun nm hnm => ?_; try simp only [fmb] at hnm) | (refine pm hnm fun nm hnm => ?_; try simp only [fmb] at hnm)); try (simp (maxSteps := 2000000) (disch := omega) only [ev, ↓evp, PV.cells, PV.one, PV.mem?, Value.cells, Nat.reduceAdd, Nat.reduceMul, Nat.reduceSub, Nat.reduceLeDiff, Nat.reduceEqDiff, ↓reduceIte, reduceCtorEq, Nat.reduceLT, Nat.reducePow, Nat.reduceDiv, Nat.reduceMod, Nat.reduceBEq, Int.reduceLT, Int.reduceLE, Int.reduceToNat, Int.reduceAdd, Int.reduceSub, Int.reduceNeg, hnm, Tryd.tf0, Tryd.tf3, Tryd.tf4, Tryd.tf5, Tryd.tf27, Tryd.tf74, Tryd.tf131, Tryd.tf132, Tryd.call91, hN1, hN4, hal, hag, hsh, hby, w_or, hor, hset]))
    | ((with_reducible first | apply W_block | apply W_scope | apply WL_nil | apply W_label | apply W_skip | apply W_exit | apply W_ret | apply popsD_done | exact popsD_stop) <;> try simp only [kks, Nat.reduceAdd, Nat.reduceMul, Nat.reduceSub, Nat.reduceLeDiff, Nat.reduceEqDiff, ↓reduceIte, reduceCtorEq, Nat.reduceLT, Nat.reducePow, Nat.reduceDiv, Nat.reduceMod, Nat.reduceBEq, Int.reduceLT, Int.reduceLE, Int.reduceToNat, Int.reduceAdd, Int.reduceSub, Int.reduceNeg])
    | (with_reducible apply pg <;> (intro hc; (try simp only [hcb, Nat.reduceAdd, Nat.reduceMul, Nat.reduceSub, Nat.reduceLeDiff, Nat.reduceEqDiff, ↓reduceIte, reduceCtorEq, Nat.reduceLT, Nat.reducePow, Nat.reduceDiv, Nat.reduceMod, Nat.reduceBEq, Int.reduceLT, Int.reduceLE, Int.reduceToNat, Int.reduceAdd, Int.reduceSub, Int.reduceNeg, ne_eq, forall_const] at hc); first | (exfalso; omega) | exact absurd trivial hc | skip))
    | (with_reducible apply hnx; clear hnx nx)
    | (with_reducible refine And.intro (by omega) ?_)
    | (with_reducible refine And.intro ?_ ?_)
    | (clear hnx nx; with_reducible apply hnx; clear hnx nx)
    | (clear hnx nx; clear hnx nx; with_reducible apply hnx; clear hnx nx))
      all_goals first
        | (exfalso
           omega)
        | (refine hlp2 _ (4 - (i + 1)) _ (by omega) ?_ ⟨i + 1, by omega, rfl, rfl⟩
           refine Wk_fr (by simp only [wkb, Nat.reduceAdd, Nat.reduceMul, Nat.reduceSub, Nat.reduceLeDiff, Nat.reduceEqDiff, ↓reduceIte, reduceCtorEq, Nat.reduceLT, Nat.reducePow, Nat.reduceDiv, Nat.reduceMod, Nat.reduceBEq, Int.reduceLT, Int.reduceLE, Int.reduceToNat, Int.reduceAdd, Int.reduceSub, Int.reduceNeg]) ?_
           exact ⟨by simp, by simp [names, hN]⟩)
    · have hi5 : i = 4 := by omega
      have hdone := cA_done b t ht1
      rw [wB, ← hcd] at hdone
      rw [hi5, List.take_of_length_le (by omega), hdone]
      repeat' (first
    | (with_reducible apply W_seq_k; intro nx hnx)
    | (with_reducible first | refine wr 29364189 ?_ | refine wd (id := 11) 29364189 1 (.op 0 true (.op 1 true (.op 2 true (.op 3 true (.op 4 true (.op 5 true (.op 6 true (.op 7 true (.op 8 true (.op 9 true (.done))))))))))) (by kernel_rfl) ?_ | refine wd (id := 14) 29364189 1 (.op 0 true (.op 1 true (.op 2 true (.op 3 true (.op 4 true (.op 5 true (.op 6 true (.op 7 true (.op 8 true (.op 9 true (.op 10 true (.op 11 true (.op 12 true (.op 13 true (.op 14 true (.op 15 false (.done))))))))))))))))) (by kernel_rfl) ?_)
    | ((with_reducible first | (apply WL_op; intro nx hnx) | refine Ev_out ?_ | refine wc ?_ | (apply popsD_op; intro nx hnx) | (refine popsD_alt ?_ ?_; intro nx hnx) | (refine pf hnm fun nm hnm => ?_; try simp only [fmb] at hnm) | (refine pm hnm fun nm hnm => ?_; try simp only [fmb] at hnm)); try (simp (maxSteps := 2000000) (disch := omega) only [ev, ↓evp, PV.cells, PV.one, PV.mem?, Value.cells, Nat.reduceAdd, Nat.reduceMul, Nat.reduceSub, Nat.reduceLeDiff, Nat.reduceEqDiff, ↓reduceIte, reduceCtorEq, Nat.reduceLT, Nat.reducePow, Nat.reduceDiv, Nat.reduceMod, Nat.reduceBEq, Int.reduceLT, Int.reduceLE, Int.reduceToNat, Int.reduceAdd, Int.reduceSub, Int.reduceNeg, hnm, Tryd.tf0, Tryd.tf3, Tryd.tf4, Tryd.tf5, Tryd.tf27, Tryd.tf74, Tryd.tf131, Tryd.tf132, Tryd.call91, hN1, hN4]))
    | ((with_reducible first | apply W_block | apply W_scope | apply WL_nil | apply W_label | apply W_skip | apply W_exit | apply W_ret | apply popsD_done | exact popsD_stop) <;> try simp only [kks, Nat.reduceAdd, Nat.reduceMul, Nat.reduceSub, Nat.reduceLeDiff, Nat.reduceEqDiff, ↓reduceIte, reduceCtorEq, Nat.reduceLT, Nat.reducePow, Nat.reduceDiv, Nat.reduceMod, Nat.reduceBEq, Int.reduceLT, Int.reduceLE, Int.reduceToNat, Int.reduceAdd, Int.reduceSub, Int.reduceNeg])
    | (with_reducible apply pg <;> (intro hc; (try simp only [hcb, Nat.reduceAdd, Nat.reduceMul, Nat.reduceSub, Nat.reduceLeDiff, Nat.reduceEqDiff, ↓reduceIte, reduceCtorEq, Nat.reduceLT, Nat.reducePow, Nat.reduceDiv, Nat.reduceMod, Nat.reduceBEq, Int.reduceLT, Int.reduceLE, Int.reduceToNat, Int.reduceAdd, Int.reduceSub, Int.reduceNeg, ne_eq, forall_const] at hc); first | (exfalso; omega) | exact absurd trivial hc | skip))
    | (with_reducible apply hnx; clear hnx nx)
    | (with_reducible refine And.intro (by omega) ?_)
    | (with_reducible refine And.intro ?_ ?_)
    | (clear hnx nx; with_reducible apply hnx; clear hnx nx)
    | (clear hnx nx; clear hnx nx; with_reducible apply hnx; clear hnx nx))
      all_goals first
        | (exfalso
           omega)
        | (refine hlp _ (64 - (t + 1)) _ (by omega) ?_ ⟨t + 1, by omega, rfl, rfl⟩
           refine Wk_fr (by simp only [wkb, Nat.reduceAdd, Nat.reduceMul, Nat.reduceSub, Nat.reduceLeDiff, Nat.reduceEqDiff, ↓reduceIte, reduceCtorEq, Nat.reduceLT, Nat.reducePow, Nat.reduceDiv, Nat.reduceMod, Nat.reduceBEq, Int.reduceLT, Int.reduceLE, Int.reduceToNat, Int.reduceAdd, Int.reduceSub, Int.reduceNeg]) ?_
           exact ⟨by simp, by simp [names, hN]⟩)
  · by_cases ht2 : t < 64
    · have g15 := cW_get b t (t - 15) (by omega)
      have g2 := cW_get b t (t - 2) (by omega)
      have g16 := cW_get b t (t - 16) (by omega)
      have g7 := cW_get b t (t - 7) (by omega)
      have hnx : nxt b (WLs b t) t = (WLs b t).getD (t - 16) 0 + S0 ((WLs b t).getD (t - 15) 0) + (WLs b t).getD (t - 7) 0 + S1 ((WLs b t).getD (t - 2) 0) := by rw [nxt, if_neg ht1]
      have hset := cW_set b t ht2
      obtain ⟨p, hp⟩ : ∃ p, p = (WLs b t).getD (t - 15) 0 := ⟨_, rfl⟩
      obtain ⟨q, hq⟩ : ∃ p, p = (WLs b t).getD (t - 2) 0 := ⟨_, rfl⟩
      obtain ⟨u, hu⟩ : ∃ p, p = (WLs b t).getD (t - 16) 0 := ⟨_, rfl⟩
      obtain ⟨v, hv⟩ : ∃ p, p = (WLs b t).getD (t - 7) 0 := ⟨_, rfl⟩
      rw [← hp, ← hq, ← hu, ← hv] at hnx
      rw [← hp] at g15
      rw [← hq] at g2
      rw [← hu] at g16
      rw [← hv] at g7
      rw [hnx] at hset
      have i15 : ((t : Int) - 15).toNat = t - 15 := by omega
      have i2 : ((t : Int) - 2).toNat = t - 2 := by omega
      have i16 : ((t : Int) - 16).toNat = t - 16 := by omega
      have i7 : ((t : Int) - 7).toNat = t - 7 := by omega
      have hr3 := w_shr p 3 (by omega)
      have hr10 := w_shr q 10 (by omega)
      have hS0 : R p 7 ^^^ R p 18 ^^^ (p >>> UInt32.ofNat 3) = S0 p := rfl
      have hS1 : R q 17 ^^^ R q 19 ^^^ (q >>> UInt32.ofNat 10) = S1 q := rfl
      repeat' (first
    | (with_reducible apply W_seq_k; intro nx hnx)
    | (with_reducible first | refine wr 29364189 ?_ | refine wd (id := 11) 29364189 1 (.op 0 true (.op 1 true (.op 2 true (.op 3 true (.op 4 true (.op 5 true (.op 6 true (.op 7 true (.op 8 true (.op 9 true (.done))))))))))) (by kernel_rfl) ?_ | refine wd (id := 14) 29364189 1 (.op 0 true (.op 1 true (.op 2 true (.op 3 true (.op 4 true (.op 5 true (.op 6 true (.op 7 true (.op 8 true (.op 9 true (.op 10 true (.op 11 true (.op 12 true (.op 13 true (.op 14 true (.op 15 false (.done))))))))))))))))) (by kernel_rfl) ?_)
    | ((with_reducible first | (apply WL_op; intro nx hnx) | refine Ev_out ?_ | refine wc ?_ | (apply popsD_op; intro nx hnx) | (refine popsD_alt ?_ ?_; intro nx hnx) | (refine pf hnm fun nm hnm => ?_; try simp only [fmb] at hnm) | (refine pm hnm fun nm hnm => ?_; try simp only [fmb] at hnm)); try (simp (maxSteps := 2000000) (disch := omega) only [ev, ↓evp, PV.cells, PV.one, PV.mem?, Value.cells, Nat.reduceAdd, Nat.reduceMul, Nat.reduceSub, Nat.reduceLeDiff, Nat.reduceEqDiff, ↓reduceIte, reduceCtorEq, Nat.reduceLT, Nat.reducePow, Nat.reduceDiv, Nat.reduceMod, Nat.reduceBEq, Int.reduceLT, Int.reduceLE, Int.reduceToNat, Int.reduceAdd, Int.reduceSub, Int.reduceNeg, hnm, Tryd.tf0, Tryd.tf3, Tryd.tf4, Tryd.tf5, Tryd.tf27, Tryd.tf74, Tryd.tf131, Tryd.tf132, Tryd.call91, hN1, hN4, hcl, g15, g2, g16, g7, i15, i2, i16, i7, hr3, hr10, w_xor, w_add, hS0, hS1, hset]))
    | ((with_reducible first | apply W_block | apply W_scope | apply WL_nil | apply W_label | apply W_skip | apply W_exit | apply W_ret | apply popsD_done | exact popsD_stop) <;> try simp only [kks, Nat.reduceAdd, Nat.reduceMul, Nat.reduceSub, Nat.reduceLeDiff, Nat.reduceEqDiff, ↓reduceIte, reduceCtorEq, Nat.reduceLT, Nat.reducePow, Nat.reduceDiv, Nat.reduceMod, Nat.reduceBEq, Int.reduceLT, Int.reduceLE, Int.reduceToNat, Int.reduceAdd, Int.reduceSub, Int.reduceNeg])
    | (with_reducible apply pg <;> (intro hc; (try simp only [hcb, Nat.reduceAdd, Nat.reduceMul, Nat.reduceSub, Nat.reduceLeDiff, Nat.reduceEqDiff, ↓reduceIte, reduceCtorEq, Nat.reduceLT, Nat.reducePow, Nat.reduceDiv, Nat.reduceMod, Nat.reduceBEq, Int.reduceLT, Int.reduceLE, Int.reduceToNat, Int.reduceAdd, Int.reduceSub, Int.reduceNeg, ne_eq, forall_const] at hc); first | (exfalso; omega) | exact absurd trivial hc | skip))
    | (with_reducible apply hnx; clear hnx nx)
    | (with_reducible refine And.intro (by omega) ?_)
    | (with_reducible refine And.intro ?_ ?_)
    | (with_reducible refine pe (rot_k G p (-7) 7 (by decide) (by decide) (by decide)) ?_)
    | (with_reducible refine pe (rot_k G p (-18) 18 (by decide) (by decide) (by decide)) ?_)
    | (with_reducible refine pe (rot_k G q (-17) 17 (by decide) (by decide) (by decide)) ?_)
    | (with_reducible refine pe (rot_k G q (-19) 19 (by decide) (by decide) (by decide)) ?_)
    | (clear hnx nx; with_reducible apply hnx; clear hnx nx)
    | (clear hnx nx; clear hnx nx; with_reducible apply hnx; clear hnx nx))
      all_goals first
        | (exfalso
           omega)
        | (refine hlp _ (64 - (t + 1)) _ (by omega) ?_ ⟨t + 1, by omega, rfl, rfl⟩
           refine Wk_fr (by simp only [wkb, Nat.reduceAdd, Nat.reduceMul, Nat.reduceSub, Nat.reduceLeDiff, Nat.reduceEqDiff, ↓reduceIte, reduceCtorEq, Nat.reduceLT, Nat.reducePow, Nat.reduceDiv, Nat.reduceMod, Nat.reduceBEq, Int.reduceLT, Int.reduceLE, Int.reduceToNat, Int.reduceAdd, Int.reduceSub, Int.reduceNeg]) ?_
           exact ⟨by simp, by simp [names, hN]⟩)
    · have ht64 : t = 64 := by omega
      subst ht64
      have hcf := cW_full b
      have hone := all_one_pw (WLs b 64)
      have hwl := WLs_len b 64
      have hc0 := cW_len b 0
      have htk : List.take 64 ((WLs b 64).map pw) = (WLs b 64).map pw := List.take_of_length_le (by simp [hwl])
      have hdr : List.drop 64 (cW b 0) = [] := List.drop_of_length_le (by omega)
      rw [hcf]
      repeat' (first
    | (with_reducible apply W_seq_k; intro nx hnx)
    | (with_reducible first | refine wr 29364189 ?_ | refine wd (id := 11) 29364189 1 (.op 0 true (.op 1 true (.op 2 true (.op 3 true (.op 4 true (.op 5 true (.op 6 true (.op 7 true (.op 8 true (.op 9 true (.done))))))))))) (by kernel_rfl) ?_ | refine wd (id := 14) 29364189 1 (.op 0 true (.op 1 true (.op 2 true (.op 3 true (.op 4 true (.op 5 true (.op 6 true (.op 7 true (.op 8 true (.op 9 true (.op 10 true (.op 11 true (.op 12 true (.op 13 true (.op 14 true (.op 15 false (.done))))))))))))))))) (by kernel_rfl) ?_)
    | ((with_reducible first | (apply WL_op; intro nx hnx) | refine Ev_out ?_ | refine wc ?_ | (apply popsD_op; intro nx hnx) | (refine popsD_alt ?_ ?_; intro nx hnx) | (refine pf hnm fun nm hnm => ?_; try simp only [fmb] at hnm) | (refine pm hnm fun nm hnm => ?_; try simp only [fmb] at hnm)); try (simp (maxSteps := 2000000) (disch := omega) only [ev, ↓evp, PV.cells, PV.one, PV.mem?, Value.cells, Nat.reduceAdd, Nat.reduceMul, Nat.reduceSub, Nat.reduceLeDiff, Nat.reduceEqDiff, ↓reduceIte, reduceCtorEq, Nat.reduceLT, Nat.reducePow, Nat.reduceDiv, Nat.reduceMod, Nat.reduceBEq, Int.reduceLT, Int.reduceLE, Int.reduceToNat, Int.reduceAdd, Int.reduceSub, Int.reduceNeg, hnm, Tryd.tf0, Tryd.tf3, Tryd.tf4, Tryd.tf5, Tryd.tf27, Tryd.tf74, Tryd.tf131, Tryd.tf132, Tryd.call91, hN1, hN4, hwl, htk, hone, hc0, hdr, Nat.min_self]))
    | ((with_reducible first | apply W_block | apply W_scope | apply WL_nil | apply W_label | apply W_skip | apply W_exit | apply W_ret | apply popsD_done | exact popsD_stop) <;> try simp only [kks, Nat.reduceAdd, Nat.reduceMul, Nat.reduceSub, Nat.reduceLeDiff, Nat.reduceEqDiff, ↓reduceIte, reduceCtorEq, Nat.reduceLT, Nat.reducePow, Nat.reduceDiv, Nat.reduceMod, Nat.reduceBEq, Int.reduceLT, Int.reduceLE, Int.reduceToNat, Int.reduceAdd, Int.reduceSub, Int.reduceNeg])
    | (with_reducible apply pg <;> (intro hc; (try simp only [hcb, Nat.reduceAdd, Nat.reduceMul, Nat.reduceSub, Nat.reduceLeDiff, Nat.reduceEqDiff, ↓reduceIte, reduceCtorEq, Nat.reduceLT, Nat.reducePow, Nat.reduceDiv, Nat.reduceMod, Nat.reduceBEq, Int.reduceLT, Int.reduceLE, Int.reduceToNat, Int.reduceAdd, Int.reduceSub, Int.reduceNeg, ne_eq, forall_const] at hc); first | (exfalso; omega) | exact absurd trivial hc | skip))
    | (with_reducible apply hnx; clear hnx nx)
    | (with_reducible refine And.intro (by omega) ?_)
    | (with_reducible refine And.intro ?_ ?_)
    | (clear hnx nx; with_reducible apply hnx; clear hnx nx)
    | (clear hnx nx; clear hnx nx; with_reducible apply hnx; clear hnx nx))
      refine hfin _ _ (Fin_cell (res := .agg ((WLs b 64).map pw)) Tryd.tf132 (n := N2) (off := 0) (o := ⟨132, false, 0, (WLs b 64).map pw⟩) (by simp only [fr_getD_cons, Nat.reduceEqDiff, Nat.reduceLT, ↓reduceIte]) (by simp [look, hN1]) ?_ (Sub_nil _) ⟨rfl, rfl⟩)
      simp [pload, hwl, htk, hone]
end Go.PM

namespace Go.PM
open Go.Proofs
attribute [local irreducible] W PCalls pcall pcallI WL
/-- The constants of the rounds. -/
def KS : List UInt32 := [1116352408, 1899447441, 3049323471, 3921009573, 961987163, 1508970993, 2453635748, 2870763221, 3624381080, 310598401, 607225278, 1426881987, 1925078388, 2162078206, 2614888103, 3248222580, 3835390401, 4022224774, 264347078, 604807628, 770255983, 1249150122, 1555081692, 1996064986, 2554220882, 2821834349, 2952996808, 3210313671, 3336571891, 3584528711, 113926993, 338241895, 666307205, 773529912, 1294757372, 1396182291, 1695183700, 1986661051, 2177026350, 2456956037, 2730485921, 2820302411, 3259730800, 3345764771, 3516065817, 3600352804, 4094571909, 275423344, 430227734, 506948616, 659060556, 883997877, 958139571, 1322822218, 1537002063, 1747873779, 1955562222, 2024104815, 2227730452, 2361852424, 2428436474, 2756734187, 3204031479, 3329325298]
def chW (x y z : UInt32) : UInt32 := (x &&& y) ^^^ ((x ^^^ 4294967295) &&& z)
def maW (x y z : UInt32) : UInt32 := (x &&& y) ^^^ (x &&& z) ^^^ (y &&& z)
def xW (e0 e1 e2 e3 k w : UInt32) : UInt32 := e3 + Mx e0 6 11 25 + chW e0 e1 e2 + k + w
def yW (v0 v1 v2 : UInt32) : UInt32 := Mx v0 2 13 22 + maW v0 v1 v2
/-- A round. -/
def rnd (k w : UInt32) : List UInt32 → List UInt32
  | [v0, v1, v2, v3, e0, e1, e2, e3] => [xW e0 e1 e2 e3 k w + yW v0 v1 v2, v0, v1, v2, v3 + xW e0 e1 e2 e3 k w, e0, e1, e2]
  | s => s
def rds (w s : List UInt32) : Nat → List UInt32
  | 0 => s
  | t + 1 => rnd (KS.getD t 0) (w.getD t 0) (rds w s t)
/-- What a block makes of the state. -/
def comp (s : List UInt32) (b : List UInt8) : List UInt32 := List.zipWith (· + ·) s (rds (WLs b 64) s 64)
theorem rnd_len (k w : UInt32) (s : List UInt32) (h : s.length = 8) : (rnd k w s).length = 8 := by
  match s, h with
  | [v0, v1, v2, v3, e0, e1, e2, e3], _ => rfl
theorem rds_len (w s : List UInt32) (h : s.length = 8) : ∀ t, (rds w s t).length = 8
  | 0 => h
  | t + 1 => rnd_len _ _ _ (rds_len w s h t)
theorem comp_len (s : List UInt32) (b : List UInt8) (h : s.length = 8) : (comp s b).length = 8 := by
  rw [comp, List.length_zipWith, h, rds_len _ _ h]
  rfl
theorem list8 {l : List UInt32} (h : l.length = 8) : ∃ a b c d e f g i, l = [a, b, c, d, e, f, g, i] := by
  match l, h with
  | [a, b, c, d, e, f, g, i], _ => exact ⟨a, b, c, d, e, f, g, i, rfl⟩
theorem KS_len : KS.length = 64 := rfl
set_option maxRecDepth 100000 in
set_option maxHeartbeats 8000000 in
theorem compress_c (G : Globs) (hG : G 0 = .iptr (KS.map pw) 0) (s : List UInt32) (hs : s.length = 8) (b : List UInt8) (hb : b.length = 64) : PCalls Tryd.prog G 64 [.agg (s.map pw), .list 1 (b.map pbyte)] [] (fun res H => res = .agg ((comp s b).map pw) ∧ H = []) := by
  have hcomp : comp s b = List.zipWith (· + ·) s (rds (WLs b 64) s 64) := rfl
  have hwl := WLs_len b 64
  obtain ⟨w, hw⟩ : ∃ w, w = WLs b 64 := ⟨_, rfl⟩
  have hsch := sched_c G b hb
  rw [← hw] at hwl hcomp hsch
  have hwm : (w.map pw).length = 64 := by rw [List.length_map, hwl]
  have hwt : List.take 64 (w.map pw) = w.map pw := List.take_of_length_le (by omega)
  have hw1 := all_one_pw w
  have hk1 := all_one_pw KS
  have hkl := KS_len
  have hkt : List.take 64 (KS.map pw) = KS.map pw := List.take_of_length_le (by rw [List.length_map]; decide)
  have hrl := rds_len w s hs
  have hr0 : rds w s 0 = s := rfl
  have hrs : ∀ t, rds w s (t + 1) = rnd (KS.getD t 0) (w.getD t 0) (rds w s t) := fun _ => rfl
  obtain ⟨s0, s1, s2, s3, s4, s5, s6, s7, rfl⟩ := list8 hs
  generalize KS = ks at *
  simp only [List.map_cons, List.map_nil]
  (refine PCalls_f Tryd.func64 rfl Tryd.ntmps64 Tryd.results64 (by simp) fun fin hfin => ?_; have hnm : True := trivial; simp only [ev, Nat.reduceAdd, Nat.reduceMul, Nat.reduceSub, Nat.reduceLeDiff, Nat.reduceEqDiff, ↓reduceIte, reduceCtorEq, Nat.reduceLT, Nat.reducePow, Nat.reduceDiv, Nat.reduceMod, Nat.reduceBEq, Int.reduceLT, Int.reduceLE, Int.reduceToNat, Int.reduceAdd, Int.reduceSub, Int.reduceNeg])
  repeat' (first
    | (with_reducible apply W_seq_k; intro nx hnx)
    | (with_reducible first | refine wr 19807040628566084398392287223 ?_ | refine wd (id := 2) 19807040628566084398392287223 1 (.op 0 true (.op 1 true (.op 2 true (.alt 3 true (.alt 4 true (.alt 5 true (.alt 6 true (.op 7 true (.op 8 false (.op 9 false (.done)))) (.alt 7 true (.op 6 true (.op 8 false (.op 9 false (.done)))) .stop)) (.alt 6 true (.alt 5 true (.op 7 true (.op 8 false (.op 9 false (.done)))) (.alt 7 true (.alt 5 true (.op 8 false (.op 9 false (.done))) (.alt 8 false (.alt 5 true (.op 9 false (.done)) .stop) .stop)) .stop)) (.alt 7 true (.alt 5 true (.op 6 true (.op 8 false (.op 9 false (.done)))) (.alt 6 true (.alt 5 true (.op 8 false (.op 9 false (.done))) (.alt 8 false (.alt 5 true (.op 9 false (.done)) .stop) .stop)) .stop)) .stop))) (.alt 6 true (.alt 4 true (.alt 5 true (.op 7 true (.op 8 false (.op 9 false (.done)))) (.alt 7 true (.alt 5 true (.op 8 false (.op 9 false (.done))) (.alt 8 false (.alt 5 true (.op 9 false (.done)) .stop) .stop)) .stop)) (.alt 7 true (.alt 4 true (.alt 5 true (.op 8 false (.op 9 false (.done))) (.alt 8 false (.alt 5 true (.op 9 false (.done)) .stop) .stop)) (.alt 8 false (.alt 4 true (.alt 5 true (.op 9 false (.done)) .stop) .stop) .stop)) .stop)) (.alt 7 true (.alt 4 true (.alt 5 true (.op 6 true (.op 8 false (.op 9 false (.done)))) (.alt 6 true (.alt 5 true (.op 8 false (.op 9 false (.done))) (.alt 8 false (.alt 5 true (.op 9 false (.done)) .stop) .stop)) .stop)) (.alt 6 true (.alt 4 true (.alt 5 true (.op 8 false (.op 9 false (.done))) (.alt 8 false (.alt 5 true (.op 9 false (.done)) .stop) .stop)) (.alt 8 false (.alt 4 true (.alt 5 true (.op 9 false (.done)) .stop) .stop) .stop)) .stop)) .stop))) (.alt 6 true (.alt 3 true (.alt 4 true (.alt 5 true (.op 7 true (.op 8 false (.op 9 false (.done)))) (.alt 7 true (.alt 5 true (.op 8 false (.op 9 false (.done))) (.alt 8 false (.alt 5 true (.op 9 false (.done)) .stop) .stop)) .stop)) (.alt 7 true (.alt 4 true (.alt 5 true (.op 8 false (.op 9 false (.done))) (.alt 8 false (.alt 5 true (.op 9 false (.done)) .stop) .stop)) (.alt 8 false (.alt 4 true (.alt 5 true (.op 9 false (.done)) .stop) .stop) .stop)) .stop)) (.alt 7 true (.alt 3 true (.alt 4 true (.alt 5 true (.op 8 false (.op 9 false (.done))) (.alt 8 false (.alt 5 true (.op 9 false (.done)) .stop) .stop)) (.alt 8 false (.alt 4 true (.alt 5 true (.op 9 false (.done)) .stop) .stop) .stop)) (.alt 8 false (.alt 3 true (.alt 4 true (.alt 5 true (.op 9 false (.done)) .stop) .stop) .stop) .stop)) .stop)) (.alt 7 true (.alt 3 true (.alt 4 true (.alt 5 true (.op 6 true (.op 8 false (.op 9 false (.done)))) (.alt 6 true (.alt 5 true (.op 8 false (.op 9 false (.done))) (.alt 8 false (.alt 5 true (.op 9 false (.done)) .stop) .stop)) .stop)) (.alt 6 true (.alt 4 true (.alt 5 true (.op 8 false (.op 9 false (.done))) (.alt 8 false (.alt 5 true (.op 9 false (.done)) .stop) .stop)) (.alt 8 false (.alt 4 true (.alt 5 true (.op 9 false (.done)) .stop) .stop) .stop)) .stop)) (.alt 6 true (.alt 3 true (.alt 4 true (.alt 5 true (.op 8 false (.op 9 false (.done))) (.alt 8 false (.alt 5 true (.op 9 false (.done)) .stop) .stop)) (.alt 8 false (.alt 4 true (.alt 5 true (.op 9 false (.done)) .stop) .stop) .stop)) (.alt 8 false (.alt 3 true (.alt 4 true (.alt 5 true (.op 9 false (.done)) .stop) .stop) .stop) .stop)) .stop)) .stop)))))) (by kernel_rfl) ?_ | refine wd (id := 6) 19807040628566084398392287223 1 (.op 0 true (.op 1 true (.op 2 true (.op 3 true (.op 6 true (.op 7 true (.op 8 true (.op 9 true (.op 10 true (.op 11 true (.op 12 true (.op 13 true (.op 14 true (.op 15 true (.op 16 true (.op 17 true (.op 19 true (.op 21 true (.op 22 true (.op 23 true (.op 4 true (.op 5 true (.op 18 true (.op 20 true (.op 24 true (.op 25 true (.done))))))))))))))))))))))))))) (by kernel_rfl) ?_ | refine wd (id := 7) 19807040628566084398392287223 1 (.op 0 true (.op 1 true (.op 3 true (.op 4 true (.op 5 true (.op 6 true (.op 7 true (.op 8 true (.op 9 true (.op 10 true (.op 11 true (.op 12 true (.op 13 true (.op 14 true (.op 15 true (.op 16 true (.op 17 true (.op 18 true (.op 19 true (.op 2 true (.op 20 true (.op 21 true (.done))))))))))))))))))))))) (by kernel_rfl) ?_ | refine wd (id := 14) 19807040628566084398392287223 1 (.op 0 true (.op 1 true (.op 2 true (.op 3 true (.op 4 true (.op 5 true (.op 6 true (.op 7 true (.op 8 false (.done)))))))))) (by kernel_rfl) ?_ | refine wd (id := 15) 19807040628566084398392287223 1 (.op 0 true (.op 1 true (.op 2 true (.op 3 true (.op 4 true (.op 5 true (.op 6 true (.op 7 true (.op 8 true (.op 9 false (.done))))))))))) (by kernel_rfl) ?_)
    | ((with_reducible first | (apply WL_op; intro nx hnx) | refine Ev_out ?_ | refine wc ?_ | (apply popsD_op; intro nx hnx) | (refine popsD_alt ?_ ?_; intro nx hnx) | (refine pf hnm fun nm hnm => ?_; try simp only [fmb] at hnm) | (refine pm hnm fun nm hnm => ?_; try simp only [fmb] at hnm)); try (simp (maxSteps := 2000000) (disch := omega) only [ev, ↓evp, PV.cells, PV.one, PV.mem?, Value.cells, Nat.reduceAdd, Nat.reduceMul, Nat.reduceSub, Nat.reduceLeDiff, Nat.reduceEqDiff, ↓reduceIte, reduceCtorEq, Nat.reduceLT, Nat.reducePow, Nat.reduceDiv, Nat.reduceMod, Nat.reduceBEq, Int.reduceLT, Int.reduceLE, Int.reduceToNat, Int.reduceAdd, Int.reduceSub, Int.reduceNeg, hnm, Tryd.tf0, Tryd.tf3, Tryd.tf5, Tryd.tf27, Tryd.tf74, Tryd.tf75, Tryd.tf132, Tryd.tf134, Tryd.tf135, Tryd.call79, Tryd.call80]))
    | ((with_reducible first | apply W_block | apply W_scope | apply WL_nil | apply W_label | apply W_skip | apply W_exit | apply W_ret | apply popsD_done | exact popsD_stop) <;> try simp only [kks, Nat.reduceAdd, Nat.reduceMul, Nat.reduceSub, Nat.reduceLeDiff, Nat.reduceEqDiff, ↓reduceIte, reduceCtorEq, Nat.reduceLT, Nat.reducePow, Nat.reduceDiv, Nat.reduceMod, Nat.reduceBEq, Int.reduceLT, Int.reduceLE, Int.reduceToNat, Int.reduceAdd, Int.reduceSub, Int.reduceNeg])
    | (with_reducible apply pg <;> (intro hc; (try simp only [hcb, Nat.reduceAdd, Nat.reduceMul, Nat.reduceSub, Nat.reduceLeDiff, Nat.reduceEqDiff, ↓reduceIte, reduceCtorEq, Nat.reduceLT, Nat.reducePow, Nat.reduceDiv, Nat.reduceMod, Nat.reduceBEq, Int.reduceLT, Int.reduceLE, Int.reduceToNat, Int.reduceAdd, Int.reduceSub, Int.reduceNeg, ne_eq, forall_const] at hc); first | (exfalso; omega) | exact absurd trivial hc | skip))
    | (with_reducible apply hnx; clear hnx nx)
    | (with_reducible refine And.intro (by omega) ?_)
    | (with_reducible refine And.intro ?_ ?_)
    | (clear hnx nx; with_reducible apply hnx; clear hnx nx)
    | (clear hnx nx; clear hnx nx; with_reducible apply hnx; clear hnx nx))
  refine pcall_k hsch ?_
  rintro _ _ ⟨rfl, rfl⟩ -
  refine Ev_in ?_
  repeat' (first
    | (with_reducible first | refine wr 19807040628566084398392287223 ?_ | refine wd (id := 2) 19807040628566084398392287223 1 (.op 0 true (.op 1 true (.op 2 true (.alt 3 true (.alt 4 true (.alt 5 true (.alt 6 true (.op 7 true (.op 8 false (.op 9 false (.done)))) (.alt 7 true (.op 6 true (.op 8 false (.op 9 false (.done)))) .stop)) (.alt 6 true (.alt 5 true (.op 7 true (.op 8 false (.op 9 false (.done)))) (.alt 7 true (.alt 5 true (.op 8 false (.op 9 false (.done))) (.alt 8 false (.alt 5 true (.op 9 false (.done)) .stop) .stop)) .stop)) (.alt 7 true (.alt 5 true (.op 6 true (.op 8 false (.op 9 false (.done)))) (.alt 6 true (.alt 5 true (.op 8 false (.op 9 false (.done))) (.alt 8 false (.alt 5 true (.op 9 false (.done)) .stop) .stop)) .stop)) .stop))) (.alt 6 true (.alt 4 true (.alt 5 true (.op 7 true (.op 8 false (.op 9 false (.done)))) (.alt 7 true (.alt 5 true (.op 8 false (.op 9 false (.done))) (.alt 8 false (.alt 5 true (.op 9 false (.done)) .stop) .stop)) .stop)) (.alt 7 true (.alt 4 true (.alt 5 true (.op 8 false (.op 9 false (.done))) (.alt 8 false (.alt 5 true (.op 9 false (.done)) .stop) .stop)) (.alt 8 false (.alt 4 true (.alt 5 true (.op 9 false (.done)) .stop) .stop) .stop)) .stop)) (.alt 7 true (.alt 4 true (.alt 5 true (.op 6 true (.op 8 false (.op 9 false (.done)))) (.alt 6 true (.alt 5 true (.op 8 false (.op 9 false (.done))) (.alt 8 false (.alt 5 true (.op 9 false (.done)) .stop) .stop)) .stop)) (.alt 6 true (.alt 4 true (.alt 5 true (.op 8 false (.op 9 false (.done))) (.alt 8 false (.alt 5 true (.op 9 false (.done)) .stop) .stop)) (.alt 8 false (.alt 4 true (.alt 5 true (.op 9 false (.done)) .stop) .stop) .stop)) .stop)) .stop))) (.alt 6 true (.alt 3 true (.alt 4 true (.alt 5 true (.op 7 true (.op 8 false (.op 9 false (.done)))) (.alt 7 true (.alt 5 true (.op 8 false (.op 9 false (.done))) (.alt 8 false (.alt 5 true (.op 9 false (.done)) .stop) .stop)) .stop)) (.alt 7 true (.alt 4 true (.alt 5 true (.op 8 false (.op 9 false (.done))) (.alt 8 false (.alt 5 true (.op 9 false (.done)) .stop) .stop)) (.alt 8 false (.alt 4 true (.alt 5 true (.op 9 false (.done)) .stop) .stop) .stop)) .stop)) (.alt 7 true (.alt 3 true (.alt 4 true (.alt 5 true (.op 8 false (.op 9 false (.done))) (.alt 8 false (.alt 5 true (.op 9 false (.done)) .stop) .stop)) (.alt 8 false (.alt 4 true (.alt 5 true (.op 9 false (.done)) .stop) .stop) .stop)) (.alt 8 false (.alt 3 true (.alt 4 true (.alt 5 true (.op 9 false (.done)) .stop) .stop) .stop) .stop)) .stop)) (.alt 7 true (.alt 3 true (.alt 4 true (.alt 5 true (.op 6 true (.op 8 false (.op 9 false (.done)))) (.alt 6 true (.alt 5 true (.op 8 false (.op 9 false (.done))) (.alt 8 false (.alt 5 true (.op 9 false (.done)) .stop) .stop)) .stop)) (.alt 6 true (.alt 4 true (.alt 5 true (.op 8 false (.op 9 false (.done))) (.alt 8 false (.alt 5 true (.op 9 false (.done)) .stop) .stop)) (.alt 8 false (.alt 4 true (.alt 5 true (.op 9 false (.done)) .stop) .stop) .stop)) .stop)) (.alt 6 true (.alt 3 true (.alt 4 true (.alt 5 true (.op 8 false (.op 9 false (.done))) (.alt 8 false (.alt 5 true (.op 9 false (.done)) .stop) .stop)) (.alt 8 false (.alt 4 true (.alt 5 true (.op 9 false (.done)) .stop) .stop) .stop)) (.alt 8 false (.alt 3 true (.alt 4 true (.alt 5 true (.op 9 false (.done)) .stop) .stop) .stop) .stop)) .stop)) .stop)))))) (by kernel_rfl) ?_ | refine wd (id := 6) 19807040628566084398392287223 1 (.op 0 true (.op 1 true (.op 2 true (.op 3 true (.op 6 true (.op 7 true (.op 8 true (.op 9 true (.op 10 true (.op 11 true (.op 12 true (.op 13 true (.op 14 true (.op 15 true (.op 16 true (.op 17 true (.op 19 true (.op 21 true (.op 22 true (.op 23 true (.op 4 true (.op 5 true (.op 18 true (.op 20 true (.op 24 true (.op 25 true (.done))))))))))))))))))))))))))) (by kernel_rfl) ?_ | refine wd (id := 7) 19807040628566084398392287223 1 (.op 0 true (.op 1 true (.op 3 true (.op 4 true (.op 5 true (.op 6 true (.op 7 true (.op 8 true (.op 9 true (.op 10 true (.op 11 true (.op 12 true (.op 13 true (.op 14 true (.op 15 true (.op 16 true (.op 17 true (.op 18 true (.op 19 true (.op 2 true (.op 20 true (.op 21 true (.done))))))))))))))))))))))) (by kernel_rfl) ?_ | refine wd (id := 14) 19807040628566084398392287223 1 (.op 0 true (.op 1 true (.op 2 true (.op 3 true (.op 4 true (.op 5 true (.op 6 true (.op 7 true (.op 8 false (.done)))))))))) (by kernel_rfl) ?_ | refine wd (id := 15) 19807040628566084398392287223 1 (.op 0 true (.op 1 true (.op 2 true (.op 3 true (.op 4 true (.op 5 true (.op 6 true (.op 7 true (.op 8 true (.op 9 false (.done))))))))))) (by kernel_rfl) ?_)
    | ((with_reducible first | (apply WL_op; intro nx hnx) | refine Ev_out ?_ | refine wc ?_ | (apply popsD_op; intro nx hnx) | (refine popsD_alt ?_ ?_; intro nx hnx) | (refine pf hnm fun nm hnm => ?_; try simp only [fmb] at hnm) | (refine pm hnm fun nm hnm => ?_; try simp only [fmb] at hnm)); try (simp (maxSteps := 2000000) (disch := omega) only [ev, ↓evp, PV.cells, PV.one, PV.mem?, Value.cells, Nat.reduceAdd, Nat.reduceMul, Nat.reduceSub, Nat.reduceLeDiff, Nat.reduceEqDiff, ↓reduceIte, reduceCtorEq, Nat.reduceLT, Nat.reducePow, Nat.reduceDiv, Nat.reduceMod, Nat.reduceBEq, Int.reduceLT, Int.reduceLE, Int.reduceToNat, Int.reduceAdd, Int.reduceSub, Int.reduceNeg, hnm, Tryd.tf0, Tryd.tf3, Tryd.tf5, Tryd.tf27, Tryd.tf74, Tryd.tf75, Tryd.tf132, Tryd.tf134, Tryd.tf135, Tryd.call79, Tryd.call80, hwm, hwl, hwt, hw1]))
    | ((with_reducible first | apply W_block | apply W_scope | apply WL_nil | apply W_label | apply W_skip | apply W_exit | apply W_ret | apply popsD_done | exact popsD_stop) <;> try simp only [kks, Nat.reduceAdd, Nat.reduceMul, Nat.reduceSub, Nat.reduceLeDiff, Nat.reduceEqDiff, ↓reduceIte, reduceCtorEq, Nat.reduceLT, Nat.reducePow, Nat.reduceDiv, Nat.reduceMod, Nat.reduceBEq, Int.reduceLT, Int.reduceLE, Int.reduceToNat, Int.reduceAdd, Int.reduceSub, Int.reduceNeg])
    | (with_reducible apply pg <;> (intro hc; (try simp only [hcb, Nat.reduceAdd, Nat.reduceMul, Nat.reduceSub, Nat.reduceLeDiff, Nat.reduceEqDiff, ↓reduceIte, reduceCtorEq, Nat.reduceLT, Nat.reducePow, Nat.reduceDiv, Nat.reduceMod, Nat.reduceBEq, Int.reduceLT, Int.reduceLE, Int.reduceToNat, Int.reduceAdd, Int.reduceSub, Int.reduceNeg, ne_eq, forall_const] at hc); first | (exfalso; omega) | exact absurd trivial hc | skip))
    | (with_reducible apply hnx; clear hnx nx)
    | (with_reducible refine And.intro (by omega) ?_)
    | (with_reducible refine And.intro ?_ ?_)
    | (clear hnx nx; with_reducible apply hnx; clear hnx nx)
    | (clear hnx nx; clear hnx nx; with_reducible apply hnx; clear hnx nx))
  with_reducible apply W_seq_k
  intro nx hnx
  have hnx := W_join hnx (fun τ => ∃ N2 N4 N5 N6 N7 : Int, [N7, N6, N5, N4, N2].Nodup ∧ τ = ⟨fr 116 [(2, .ptr N2 0), (4, .ptr N4 0), (5, .ptr N5 0), (6, .ptr N6 0), (7, .ptr N7 0)],
    [(N7, ⟨134, false, 0, [pw s4, pw s5, pw s6, pw s7]⟩), (N6, ⟨134, false, 0, [pw s0, pw s1, pw s2, pw s3]⟩), (N5, ⟨132, false, 0, w.map pw⟩), (N4, ⟨75, false, 0, [pint .u32 0, pint .u32 0, pint .u32 0, pint .u32 0, pint .u32 0, pint .u32 0, pint .u32 0, pint .u32 0]⟩), (N2, ⟨75, false, 0, [pw s0, pw s1, pw s2, pw s3, pw s4, pw s5, pw s6, pw s7]⟩)]⟩) (by
    clear hnx nx hnm
    rintro τ ⟨N2, N4, N5, N6, N7, hnd, rfl⟩
    have hnd0 := hnd
    simp only [List.nodup_cons, List.mem_cons, List.not_mem_nil, or_false, not_or, List.nodup_nil, and_true, not_false_eq_true] at hnd
    have hnm : ((¬ N7 = N6 ∧ ¬ N7 = N5 ∧ ¬ N7 = N4 ∧ ¬ N7 = N2) ∧ (¬ N6 = N5 ∧ ¬ N6 = N4 ∧ ¬ N6 = N2) ∧ (¬ N5 = N4 ∧ ¬ N5 = N2) ∧ ¬ N4 = N2) ∧ (¬ N6 = N7 ∧ ¬ N5 = N7 ∧ ¬ N4 = N7 ∧ ¬ N2 = N7) ∧ (¬ N5 = N6 ∧ ¬ N4 = N6 ∧ ¬ N2 = N6) ∧ (¬ N4 = N5 ∧ ¬ N2 = N5) ∧ ¬ N2 = N4 :=
      ⟨hnd, ⟨fun e => hnd.1.1 e.symm, fun e => hnd.1.2.1 e.symm, fun e => hnd.1.2.2.1 e.symm, fun e => hnd.1.2.2.2 e.symm⟩, ⟨fun e => hnd.2.1.1 e.symm, fun e => hnd.2.1.2.1 e.symm, fun e => hnd.2.1.2.2 e.symm⟩, ⟨fun e => hnd.2.2.1.1 e.symm, fun e => hnd.2.2.1.2 e.symm⟩, fun e => hnd.2.2.2 e.symm⟩
    repeat' (first
    | (with_reducible apply W_seq_k; intro nx hnx)
    | (with_reducible first | refine wr 19807040628566084398392287223 ?_ | refine wd (id := 2) 19807040628566084398392287223 1 (.op 0 true (.op 1 true (.op 2 true (.alt 3 true (.alt 4 true (.alt 5 true (.alt 6 true (.op 7 true (.op 8 false (.op 9 false (.done)))) (.alt 7 true (.op 6 true (.op 8 false (.op 9 false (.done)))) .stop)) (.alt 6 true (.alt 5 true (.op 7 true (.op 8 false (.op 9 false (.done)))) (.alt 7 true (.alt 5 true (.op 8 false (.op 9 false (.done))) (.alt 8 false (.alt 5 true (.op 9 false (.done)) .stop) .stop)) .stop)) (.alt 7 true (.alt 5 true (.op 6 true (.op 8 false (.op 9 false (.done)))) (.alt 6 true (.alt 5 true (.op 8 false (.op 9 false (.done))) (.alt 8 false (.alt 5 true (.op 9 false (.done)) .stop) .stop)) .stop)) .stop))) (.alt 6 true (.alt 4 true (.alt 5 true (.op 7 true (.op 8 false (.op 9 false (.done)))) (.alt 7 true (.alt 5 true (.op 8 false (.op 9 false (.done))) (.alt 8 false (.alt 5 true (.op 9 false (.done)) .stop) .stop)) .stop)) (.alt 7 true (.alt 4 true (.alt 5 true (.op 8 false (.op 9 false (.done))) (.alt 8 false (.alt 5 true (.op 9 false (.done)) .stop) .stop)) (.alt 8 false (.alt 4 true (.alt 5 true (.op 9 false (.done)) .stop) .stop) .stop)) .stop)) (.alt 7 true (.alt 4 true (.alt 5 true (.op 6 true (.op 8 false (.op 9 false (.done)))) (.alt 6 true (.alt 5 true (.op 8 false (.op 9 false (.done))) (.alt 8 false (.alt 5 true (.op 9 false (.done)) .stop) .stop)) .stop)) (.alt 6 true (.alt 4 true (.alt 5 true (.op 8 false (.op 9 false (.done))) (.alt 8 false (.alt 5 true (.op 9 false (.done)) .stop) .stop)) (.alt 8 false (.alt 4 true (.alt 5 true (.op 9 false (.done)) .stop) .stop) .stop)) .stop)) .stop))) (.alt 6 true (.alt 3 true (.alt 4 true (.alt 5 true (.op 7 true (.op 8 false (.op 9 false (.done)))) (.alt 7 true (.alt 5 true (.op 8 false (.op 9 false (.done))) (.alt 8 false (.alt 5 true (.op 9 false (.done)) .stop) .stop)) .stop)) (.alt 7 true (.alt 4 true (.alt 5 true (.op 8 false (.op 9 false (.done))) (.alt 8 false (.alt 5 true (.op 9 false (.done)) .stop) .stop)) (.alt 8 false (.alt 4 true (.alt 5 true (.op 9 false (.done)) .stop) .stop) .stop)) .stop)) (.alt 7 true (.alt 3 true (.alt 4 true (.alt 5 true (.op 8 false (.op 9 false (.done))) (.alt 8 false (.alt 5 true (.op 9 false (.done)) .stop) .stop)) (.alt 8 false (.alt 4 true (.alt 5 true (.op 9 false (.done)) .stop) .stop) .stop)) (.alt 8 false (.alt 3 true (.alt 4 true (.alt 5 true (.op 9 false (.done)) .stop) .stop) .stop) .stop)) .stop)) (.alt 7 true (.alt 3 true (.alt 4 true (.alt 5 true (.op 6 true (.op 8 false (.op 9 false (.done)))) (.alt 6 true (.alt 5 true (.op 8 false (.op 9 false (.done))) (.alt 8 false (.alt 5 true (.op 9 false (.done)) .stop) .stop)) .stop)) (.alt 6 true (.alt 4 true (.alt 5 true (.op 8 false (.op 9 false (.done))) (.alt 8 false (.alt 5 true (.op 9 false (.done)) .stop) .stop)) (.alt 8 false (.alt 4 true (.alt 5 true (.op 9 false (.done)) .stop) .stop) .stop)) .stop)) (.alt 6 true (.alt 3 true (.alt 4 true (.alt 5 true (.op 8 false (.op 9 false (.done))) (.alt 8 false (.alt 5 true (.op 9 false (.done)) .stop) .stop)) (.alt 8 false (.alt 4 true (.alt 5 true (.op 9 false (.done)) .stop) .stop) .stop)) (.alt 8 false (.alt 3 true (.alt 4 true (.alt 5 true (.op 9 false (.done)) .stop) .stop) .stop) .stop)) .stop)) .stop)))))) (by kernel_rfl) ?_ | refine wd (id := 6) 19807040628566084398392287223 1 (.op 0 true (.op 1 true (.op 2 true (.op 3 true (.op 6 true (.op 7 true (.op 8 true (.op 9 true (.op 10 true (.op 11 true (.op 12 true (.op 13 true (.op 14 true (.op 15 true (.op 16 true (.op 17 true (.op 19 true (.op 21 true (.op 22 true (.op 23 true (.op 4 true (.op 5 true (.op 18 true (.op 20 true (.op 24 true (.op 25 true (.done))))))))))))))))))))))))))) (by kernel_rfl) ?_ | refine wd (id := 7) 19807040628566084398392287223 1 (.op 0 true (.op 1 true (.op 3 true (.op 4 true (.op 5 true (.op 6 true (.op 7 true (.op 8 true (.op 9 true (.op 10 true (.op 11 true (.op 12 true (.op 13 true (.op 14 true (.op 15 true (.op 16 true (.op 17 true (.op 18 true (.op 19 true (.op 2 true (.op 20 true (.op 21 true (.done))))))))))))))))))))))) (by kernel_rfl) ?_ | refine wd (id := 14) 19807040628566084398392287223 1 (.op 0 true (.op 1 true (.op 2 true (.op 3 true (.op 4 true (.op 5 true (.op 6 true (.op 7 true (.op 8 false (.done)))))))))) (by kernel_rfl) ?_ | refine wd (id := 15) 19807040628566084398392287223 1 (.op 0 true (.op 1 true (.op 2 true (.op 3 true (.op 4 true (.op 5 true (.op 6 true (.op 7 true (.op 8 true (.op 9 false (.done))))))))))) (by kernel_rfl) ?_)
    | ((with_reducible first | (apply WL_op; intro nx hnx) | refine Ev_out ?_ | refine wc ?_ | (apply popsD_op; intro nx hnx) | (refine popsD_alt ?_ ?_; intro nx hnx) | (refine pf hnm fun nm hnm => ?_; try simp only [fmb] at hnm) | (refine pm hnm fun nm hnm => ?_; try simp only [fmb] at hnm)); try (simp (maxSteps := 2000000) (disch := omega) only [ev, ↓evp, PV.cells, PV.one, PV.mem?, Value.cells, Nat.reduceAdd, Nat.reduceMul, Nat.reduceSub, Nat.reduceLeDiff, Nat.reduceEqDiff, ↓reduceIte, reduceCtorEq, Nat.reduceLT, Nat.reducePow, Nat.reduceDiv, Nat.reduceMod, Nat.reduceBEq, Int.reduceLT, Int.reduceLE, Int.reduceToNat, Int.reduceAdd, Int.reduceSub, Int.reduceNeg, hnm, Tryd.tf0, Tryd.tf3, Tryd.tf5, Tryd.tf27, Tryd.tf74, Tryd.tf75, Tryd.tf132, Tryd.tf134, Tryd.tf135, Tryd.call79, Tryd.call80, hG, hwm, hwl, hwt, hw1, hk1, hkl, hkt]))
    | ((with_reducible first | apply W_block | apply W_scope | apply WL_nil | apply W_label | apply W_skip | apply W_exit | apply W_ret | apply popsD_done | exact popsD_stop) <;> try simp only [kks, Nat.reduceAdd, Nat.reduceMul, Nat.reduceSub, Nat.reduceLeDiff, Nat.reduceEqDiff, ↓reduceIte, reduceCtorEq, Nat.reduceLT, Nat.reducePow, Nat.reduceDiv, Nat.reduceMod, Nat.reduceBEq, Int.reduceLT, Int.reduceLE, Int.reduceToNat, Int.reduceAdd, Int.reduceSub, Int.reduceNeg])
    | (with_reducible apply pg <;> (intro hc; (try simp only [hcb, Nat.reduceAdd, Nat.reduceMul, Nat.reduceSub, Nat.reduceLeDiff, Nat.reduceEqDiff, ↓reduceIte, reduceCtorEq, Nat.reduceLT, Nat.reducePow, Nat.reduceDiv, Nat.reduceMod, Nat.reduceBEq, Int.reduceLT, Int.reduceLE, Int.reduceToNat, Int.reduceAdd, Int.reduceSub, Int.reduceNeg, ne_eq, forall_const] at hc); first | (exfalso; omega) | exact absurd trivial hc | skip))
    | (with_reducible apply hnx; clear hnx nx)
    | (with_reducible refine And.intro (by omega) ?_)
    | (with_reducible refine And.intro ?_ ?_)
    | (clear hnx nx; with_reducible apply hnx; clear hnx nx)
    | (clear hnx nx; clear hnx nx; with_reducible apply hnx; clear hnx nx))
    refine W_loop_k (fun z τ => ∃ (t : Nat) (v0 v1 v2 v3 e0 e1 e2 e3 : UInt32), t ≤ 64 ∧ z = 64 - t ∧ rds w [s0, s1, s2, s3, s4, s5, s6, s7] t = [v0, v1, v2, v3, e0, e1, e2, e3] ∧ τ = ⟨fr 116 [(2, .ptr N2 0), (4, .ptr N4 0), (5, .ptr N5 0), (6, .ptr N6 0), (7, .ptr N7 0), (21, .agg (ks.map pw)), (22, pint .i64 t)],
      [(N7, ⟨134, false, 0, [pw e0, pw e1, pw e2, pw e3]⟩), (N6, ⟨134, false, 0, [pw v0, pw v1, pw v2, pw v3]⟩), (N5, ⟨132, false, 0, w.map pw⟩), (N4, ⟨75, false, 0, [pint .u32 0, pint .u32 0, pint .u32 0, pint .u32 0, pint .u32 0, pint .u32 0, pint .u32 0, pint .u32 0]⟩), (N2, ⟨75, false, 0, [pw s0, pw s1, pw s2, pw s3, pw s4, pw s5, pw s6, pw s7]⟩)]⟩) 64
      ⟨fr 116 [(2, .ptr N2 0), (4, .ptr N4 0), (5, .ptr N5 0), (6, .ptr N6 0), (7, .ptr N7 0), (21, .agg (ks.map pw)), (22, pint .i64 (0 : Nat))],
      [(N7, ⟨134, false, 0, [pw s4, pw s5, pw s6, pw s7]⟩), (N6, ⟨134, false, 0, [pw s0, pw s1, pw s2, pw s3]⟩), (N5, ⟨132, false, 0, w.map pw⟩), (N4, ⟨75, false, 0, [pint .u32 0, pint .u32 0, pint .u32 0, pint .u32 0, pint .u32 0, pint .u32 0, pint .u32 0, pint .u32 0]⟩), (N2, ⟨75, false, 0, [pw s0, pw s1, pw s2, pw s3, pw s4, pw s5, pw s6, pw s7]⟩)]⟩ (by
      refine Wk_fr (by simp only [wkb, Nat.reduceAdd, Nat.reduceMul, Nat.reduceSub, Nat.reduceLeDiff, Nat.reduceEqDiff, ↓reduceIte, reduceCtorEq, Nat.reduceLT, Nat.reducePow, Nat.reduceDiv, Nat.reduceMod, Nat.reduceBEq, Int.reduceLT, Int.reduceLE, Int.reduceToNat, Int.reduceAdd, Int.reduceSub, Int.reduceNeg]) ?_
      exact ⟨by simp, by simp [names, hnm]⟩) ⟨0, s0, s1, s2, s3, s4, s5, s6, s7, by omega, by omega, hr0, rfl⟩ ?_
    rintro z τ ⟨t, v0, v1, v2, v3, e0, e1, e2, e3, ht, rfl, hrt, rfl⟩ lp hlp
    by_cases ht2 : t < 64
    · have hst := hrs t
      rw [hrt] at hst
      obtain ⟨k, hk⟩ : ∃ k, k = ks.getD t 0 := ⟨_, rfl⟩
      obtain ⟨u, hu⟩ : ∃ u, u = w.getD t 0 := ⟨_, rfl⟩
      rw [← hk, ← hu] at hst
      have hkg : ks[t]'(by omega) = k := by rw [hk]; simp [hkl, ht2]
      have hkq : ks[t]? = some k := by rw [List.getElem?_eq_getElem (by omega), hkg]
      have hug : w[t]? = some u := by rw [hu, List.getElem?_eq_getElem (by omega)]; simp [hwl, ht2]
      have hug2 : w[t]'(by omega) = u := by rw [hu]; simp [hwl, ht2]
      obtain ⟨X, hX⟩ : ∃ X, X = xW e0 e1 e2 e3 k u := ⟨_, rfl⟩
      obtain ⟨Y, hY⟩ : ∃ Y, Y = yW v0 v1 v2 := ⟨_, rfl⟩
      have hst : rds w [s0, s1, s2, s3, s4, s5, s6, s7] (t + 1) = [X + Y, v0, v1, v2, v3 + X, e0, e1, e2] := by
        rw [hst, rnd, ← hX, ← hY]
      have hx : e3 + Mx e0 6 11 25 + (e0 &&& e1 ^^^ (e0 ^^^ 4294967295) &&& e2) + k + u = X := by rw [hX, xW, chW]
      have hy : Mx v0 2 13 22 + (v0 &&& v1 ^^^ v0 &&& v2 ^^^ v1 &&& v2) = Y := by rw [hY, yW, maW]
      have hm1 : PCalls Tryd.prog G 80 [pw e0, pint .i64 6, pint .i64 11, pint .i64 25] [] (fun res H => res = pw (Mx e0 6 11 25) ∧ H = []) := mix_c G e0 6 11 25 (by decide) (by decide) (by decide)
      have hm2 : PCalls Tryd.prog G 80 [pw v0, pint .i64 2, pint .i64 13, pint .i64 22] [] (fun res H => res = pw (Mx v0 2 13 22) ∧ H = []) := mix_c G v0 2 13 22 (by decide) (by decide) (by decide)
      repeat' (first
    | (with_reducible apply W_seq_k; intro nx hnx)
    | (with_reducible first | refine wr 19807040628566084398392287223 ?_ | refine wd (id := 2) 19807040628566084398392287223 1 (.op 0 true (.op 1 true (.op 2 true (.alt 3 true (.alt 4 true (.alt 5 true (.alt 6 true (.op 7 true (.op 8 false (.op 9 false (.done)))) (.alt 7 true (.op 6 true (.op 8 false (.op 9 false (.done)))) .stop)) (.alt 6 true (.alt 5 true (.op 7 true (.op 8 false (.op 9 false (.done)))) (.alt 7 true (.alt 5 true (.op 8 false (.op 9 false (.done))) (.alt 8 false (.alt 5 true (.op 9 false (.done)) .stop) .stop)) .stop)) (.alt 7 true (.alt 5 true (.op 6 true (.op 8 false (.op 9 false (.done)))) (.alt 6 true (.alt 5 true (.op 8 false (.op 9 false (.done))) (.alt 8 false (.alt 5 true (.op 9 false (.done)) .stop) .stop)) .stop)) .stop))) (.alt 6 true (.alt 4 true (.alt 5 true (.op 7 true (.op 8 false (.op 9 false (.done)))) (.alt 7 true (.alt 5 true (.op 8 false (.op 9 false (.done))) (.alt 8 false (.alt 5 true (.op 9 false (.done)) .stop) .stop)) .stop)) (.alt 7 true (.alt 4 true (.alt 5 true (.op 8 false (.op 9 false (.done))) (.alt 8 false (.alt 5 true (.op 9 false (.done)) .stop) .stop)) (.alt 8 false (.alt 4 true (.alt 5 true (.op 9 false (.done)) .stop) .stop) .stop)) .stop)) (.alt 7 true (.alt 4 true (.alt 5 true (.op 6 true (.op 8 false (.op 9 false (.done)))) (.alt 6 true (.alt 5 true (.op 8 false (.op 9 false (.done))) (.alt 8 false (.alt 5 true (.op 9 false (.done)) .stop) .stop)) .stop)) (.alt 6 true (.alt 4 true (.alt 5 true (.op 8 false (.op 9 false (.done))) (.alt 8 false (.alt 5 true (.op 9 false (.done)) .stop) .stop)) (.alt 8 false (.alt 4 true (.alt 5 true (.op 9 false (.done)) .stop) .stop) .stop)) .stop)) .stop))) (.alt 6 true (.alt 3 true (.alt 4 true (.alt 5 true (.op 7 true (.op 8 false (.op 9 false (.done)))) (.alt 7 true (.alt 5 true (.op 8 false (.op 9 false (.done))) (.alt 8 false (.alt 5 true (.op 9 false (.done)) .stop) .stop)) .stop)) (.alt 7 true (.alt 4 true (.alt 5 true (.op 8 false (.op 9 false (.done))) (.alt 8 false (.alt 5 true (.op 9 false (.done)) .stop) .stop)) (.alt 8 false (.alt 4 true (.alt 5 true (.op 9 false (.done)) .stop) .stop) .stop)) .stop)) (.alt 7 true (.alt 3 true (.alt 4 true (.alt 5 true (.op 8 false (.op 9 false (.done))) (.alt 8 false (.alt 5 true (.op 9 false (.done)) .stop) .stop)) (.alt 8 false (.alt 4 true (.alt 5 true (.op 9 false (.done)) .stop) .stop) .stop)) (.alt 8 false (.alt 3 true (.alt 4 true (.alt 5 true (.op 9 false (.done)) .stop) .stop) .stop) .stop)) .stop)) (.alt 7 true (.alt 3 true (.alt 4 true (.alt 5 true (.op 6 true (.op 8 false (.op 9 false (.done)))) (.alt 6 true (.alt 5 true (.op 8 false (.op 9 false (.done))) (.alt 8 false (.alt 5 true (.op 9 false (.done)) .stop) .stop)) .stop)) (.alt 6 true (.alt 4 true (.alt 5 true (.op 8 false (.op 9 false (.done))) (.alt 8 false (.alt 5 true (.op 9 false (.done)) .stop) .stop)) (.alt 8 false (.alt 4 true (.alt 5 true (.op 9 false (.done)) .stop) .stop) .stop)) .stop)) (.alt 6 true (.alt 3 true (.alt 4 true (.alt 5 true (.op 8 false (.op 9 false (.done))) (.alt 8 false (.alt 5 true (.op 9 false (.done)) .stop) .stop)) (.alt 8 false (.alt 4 true (.alt 5 true (.op 9 false (.done)) .stop) .stop) .stop)) (.alt 8 false (.alt 3 true (.alt 4 true (.alt 5 true (.op 9 false (.done)) .stop) .stop) .stop) .stop)) .stop)) .stop)))))) (by kernel_rfl) ?_ | refine wd (id := 6) 19807040628566084398392287223 1 (.op 0 true (.op 1 true (.op 2 true (.op 3 true (.op 6 true (.op 7 true (.op 8 true (.op 9 true (.op 10 true (.op 11 true (.op 12 true (.op 13 true (.op 14 true (.op 15 true (.op 16 true (.op 17 true (.op 19 true (.op 21 true (.op 22 true (.op 23 true (.op 4 true (.op 5 true (.op 18 true (.op 20 true (.op 24 true (.op 25 true (.done))))))))))))))))))))))))))) (by kernel_rfl) ?_ | refine wd (id := 7) 19807040628566084398392287223 1 (.op 0 true (.op 1 true (.op 3 true (.op 4 true (.op 5 true (.op 6 true (.op 7 true (.op 8 true (.op 9 true (.op 10 true (.op 11 true (.op 12 true (.op 13 true (.op 14 true (.op 15 true (.op 16 true (.op 17 true (.op 18 true (.op 19 true (.op 2 true (.op 20 true (.op 21 true (.done))))))))))))))))))))))) (by kernel_rfl) ?_ | refine wd (id := 14) 19807040628566084398392287223 1 (.op 0 true (.op 1 true (.op 2 true (.op 3 true (.op 4 true (.op 5 true (.op 6 true (.op 7 true (.op 8 false (.done)))))))))) (by kernel_rfl) ?_ | refine wd (id := 15) 19807040628566084398392287223 1 (.op 0 true (.op 1 true (.op 2 true (.op 3 true (.op 4 true (.op 5 true (.op 6 true (.op 7 true (.op 8 true (.op 9 false (.done))))))))))) (by kernel_rfl) ?_)
    | ((with_reducible first | (apply WL_op; intro nx hnx) | refine Ev_out ?_ | refine wc ?_ | (apply popsD_op; intro nx hnx) | (refine popsD_alt ?_ ?_; intro nx hnx) | (refine pf hnm fun nm hnm => ?_; try simp only [fmb] at hnm) | (refine pm hnm fun nm hnm => ?_; try simp only [fmb] at hnm)); try (simp (maxSteps := 2000000) (disch := omega) only [ev, ↓evp, PV.cells, PV.one, PV.mem?, Value.cells, Nat.reduceAdd, Nat.reduceMul, Nat.reduceSub, Nat.reduceLeDiff, Nat.reduceEqDiff, ↓reduceIte, reduceCtorEq, Nat.reduceLT, Nat.reducePow, Nat.reduceDiv, Nat.reduceMod, Nat.reduceBEq, Int.reduceLT, Int.reduceLE, Int.reduceToNat, Int.reduceAdd, Int.reduceSub, Int.reduceNeg, hnm, Tryd.tf0, Tryd.tf3, Tryd.tf5, Tryd.tf27, Tryd.tf74, Tryd.tf75, Tryd.tf132, Tryd.tf134, Tryd.tf135, Tryd.call79, Tryd.call80, hkl, hkg, hkq, hug, hug2, w_and, w_xor, w_not, w_add, hx, hy]))
    | ((with_reducible first | apply W_block | apply W_scope | apply WL_nil | apply W_label | apply W_skip | apply W_exit | apply W_ret | apply popsD_done | exact popsD_stop) <;> try simp only [kks, Nat.reduceAdd, Nat.reduceMul, Nat.reduceSub, Nat.reduceLeDiff, Nat.reduceEqDiff, ↓reduceIte, reduceCtorEq, Nat.reduceLT, Nat.reducePow, Nat.reduceDiv, Nat.reduceMod, Nat.reduceBEq, Int.reduceLT, Int.reduceLE, Int.reduceToNat, Int.reduceAdd, Int.reduceSub, Int.reduceNeg])
    | (with_reducible apply pg <;> (intro hc; (try simp only [hcb, Nat.reduceAdd, Nat.reduceMul, Nat.reduceSub, Nat.reduceLeDiff, Nat.reduceEqDiff, ↓reduceIte, reduceCtorEq, Nat.reduceLT, Nat.reducePow, Nat.reduceDiv, Nat.reduceMod, Nat.reduceBEq, Int.reduceLT, Int.reduceLE, Int.reduceToNat, Int.reduceAdd, Int.reduceSub, Int.reduceNeg, ne_eq, forall_const] at hc); first | (exfalso; omega) | exact absurd trivial hc | skip))
    | (with_reducible apply hnx; clear hnx nx)
    | (with_reducible refine And.intro (by omega) ?_)
    | (with_reducible refine And.intro ?_ ?_)
    | (with_reducible refine pe (hm1) ?_)
    | (with_reducible refine pe (hm2) ?_)
    | (clear hnx nx; with_reducible apply hnx; clear hnx nx)
    | (clear hnx nx; clear hnx nx; with_reducible apply hnx; clear hnx nx))
      refine hlp _ (64 - (t + 1)) _ (by omega) ?_ ⟨t + 1, X + Y, v0, v1, v2, v3 + X, e0, e1, e2, by omega, rfl, hst, rfl⟩
      refine Wk_fr (by simp only [wkb, Nat.reduceAdd, Nat.reduceMul, Nat.reduceSub, Nat.reduceLeDiff, Nat.reduceEqDiff, ↓reduceIte, reduceCtorEq, Nat.reduceLT, Nat.reducePow, Nat.reduceDiv, Nat.reduceMod, Nat.reduceBEq, Int.reduceLT, Int.reduceLE, Int.reduceToNat, Int.reduceAdd, Int.reduceSub, Int.reduceNeg]) ?_
      exact Sub_refl (by simp only [names, List.map_cons, List.map_nil]; exact hnd0)
    · have ht64 : t = 64 := by omega
      subst ht64
      rw [hrt] at hcomp
      repeat' (first
    | (with_reducible apply W_seq_k; intro nx hnx)
    | (with_reducible first | refine wr 19807040628566084398392287223 ?_ | refine wd (id := 2) 19807040628566084398392287223 1 (.op 0 true (.op 1 true (.op 2 true (.alt 3 true (.alt 4 true (.alt 5 true (.alt 6 true (.op 7 true (.op 8 false (.op 9 false (.done)))) (.alt 7 true (.op 6 true (.op 8 false (.op 9 false (.done)))) .stop)) (.alt 6 true (.alt 5 true (.op 7 true (.op 8 false (.op 9 false (.done)))) (.alt 7 true (.alt 5 true (.op 8 false (.op 9 false (.done))) (.alt 8 false (.alt 5 true (.op 9 false (.done)) .stop) .stop)) .stop)) (.alt 7 true (.alt 5 true (.op 6 true (.op 8 false (.op 9 false (.done)))) (.alt 6 true (.alt 5 true (.op 8 false (.op 9 false (.done))) (.alt 8 false (.alt 5 true (.op 9 false (.done)) .stop) .stop)) .stop)) .stop))) (.alt 6 true (.alt 4 true (.alt 5 true (.op 7 true (.op 8 false (.op 9 false (.done)))) (.alt 7 true (.alt 5 true (.op 8 false (.op 9 false (.done))) (.alt 8 false (.alt 5 true (.op 9 false (.done)) .stop) .stop)) .stop)) (.alt 7 true (.alt 4 true (.alt 5 true (.op 8 false (.op 9 false (.done))) (.alt 8 false (.alt 5 true (.op 9 false (.done)) .stop) .stop)) (.alt 8 false (.alt 4 true (.alt 5 true (.op 9 false (.done)) .stop) .stop) .stop)) .stop)) (.alt 7 true (.alt 4 true (.alt 5 true (.op 6 true (.op 8 false (.op 9 false (.done)))) (.alt 6 true (.alt 5 true (.op 8 false (.op 9 false (.done))) (.alt 8 false (.alt 5 true (.op 9 false (.done)) .stop) .stop)) .stop)) (.alt 6 true (.alt 4 true (.alt 5 true (.op 8 false (.op 9 false (.done))) (.alt 8 false (.alt 5 true (.op 9 false (.done)) .stop) .stop)) (.alt 8 false (.alt 4 true (.alt 5 true (.op 9 false (.done)) .stop) .stop) .stop)) .stop)) .stop))) (.alt 6 true (.alt 3 true (.alt 4 true (.alt 5 true (.op 7 true (.op 8 false (.op 9 false (.done)))) (.alt 7 true (.alt 5 true (.op 8 false (.op 9 false (.done))) (.alt 8 false (.alt 5 true (.op 9 false (.done)) .stop) .stop)) .stop)) (.alt 7 true (.alt 4 true (.alt 5 true (.op 8 false (.op 9 false (.done))) (.alt 8 false (.alt 5 true (.op 9 false (.done)) .stop) .stop)) (.alt 8 false (.alt 4 true (.alt 5 true (.op 9 false (.done)) .stop) .stop) .stop)) .stop)) (.alt 7 true (.alt 3 true (.alt 4 true (.alt 5 true (.op 8 false (.op 9 false (.done))) (.alt 8 false (.alt 5 true (.op 9 false (.done)) .stop) .stop)) (.alt 8 false (.alt 4 true (.alt 5 true (.op 9 false (.done)) .stop) .stop) .stop)) (.alt 8 false (.alt 3 true (.alt 4 true (.alt 5 true (.op 9 false (.done)) .stop) .stop) .stop) .stop)) .stop)) (.alt 7 true (.alt 3 true (.alt 4 true (.alt 5 true (.op 6 true (.op 8 false (.op 9 false (.done)))) (.alt 6 true (.alt 5 true (.op 8 false (.op 9 false (.done))) (.alt 8 false (.alt 5 true (.op 9 false (.done)) .stop) .stop)) .stop)) (.alt 6 true (.alt 4 true (.alt 5 true (.op 8 false (.op 9 false (.done))) (.alt 8 false (.alt 5 true (.op 9 false (.done)) .stop) .stop)) (.alt 8 false (.alt 4 true (.alt 5 true (.op 9 false (.done)) .stop) .stop) .stop)) .stop)) (.alt 6 true (.alt 3 true (.alt 4 true (.alt 5 true (.op 8 false (.op 9 false (.done))) (.alt 8 false (.alt 5 true (.op 9 false (.done)) .stop) .stop)) (.alt 8 false (.alt 4 true (.alt 5 true (.op 9 false (.done)) .stop) .stop) .stop)) (.alt 8 false (.alt 3 true (.alt 4 true (.alt 5 true (.op 9 false (.done)) .stop) .stop) .stop) .stop)) .stop)) .stop)))))) (by kernel_rfl) ?_ | refine wd (id := 6) 19807040628566084398392287223 1 (.op 0 true (.op 1 true (.op 2 true (.op 3 true (.op 6 true (.op 7 true (.op 8 true (.op 9 true (.op 10 true (.op 11 true (.op 12 true (.op 13 true (.op 14 true (.op 15 true (.op 16 true (.op 17 true (.op 19 true (.op 21 true (.op 22 true (.op 23 true (.op 4 true (.op 5 true (.op 18 true (.op 20 true (.op 24 true (.op 25 true (.done))))))))))))))))))))))))))) (by kernel_rfl) ?_ | refine wd (id := 7) 19807040628566084398392287223 1 (.op 0 true (.op 1 true (.op 3 true (.op 4 true (.op 5 true (.op 6 true (.op 7 true (.op 8 true (.op 9 true (.op 10 true (.op 11 true (.op 12 true (.op 13 true (.op 14 true (.op 15 true (.op 16 true (.op 17 true (.op 18 true (.op 19 true (.op 2 true (.op 20 true (.op 21 true (.done))))))))))))))))))))))) (by kernel_rfl) ?_ | refine wd (id := 14) 19807040628566084398392287223 1 (.op 0 true (.op 1 true (.op 2 true (.op 3 true (.op 4 true (.op 5 true (.op 6 true (.op 7 true (.op 8 false (.done)))))))))) (by kernel_rfl) ?_ | refine wd (id := 15) 19807040628566084398392287223 1 (.op 0 true (.op 1 true (.op 2 true (.op 3 true (.op 4 true (.op 5 true (.op 6 true (.op 7 true (.op 8 true (.op 9 false (.done))))))))))) (by kernel_rfl) ?_)
    | ((with_reducible first | (apply WL_op; intro nx hnx) | refine Ev_out ?_ | refine wc ?_ | (apply popsD_op; intro nx hnx) | (refine popsD_alt ?_ ?_; intro nx hnx) | (refine pf hnm fun nm hnm => ?_; try simp only [fmb] at hnm) | (refine pm hnm fun nm hnm => ?_; try simp only [fmb] at hnm)); try (simp (maxSteps := 2000000) (disch := omega) only [ev, ↓evp, PV.cells, PV.one, PV.mem?, Value.cells, Nat.reduceAdd, Nat.reduceMul, Nat.reduceSub, Nat.reduceLeDiff, Nat.reduceEqDiff, ↓reduceIte, reduceCtorEq, Nat.reduceLT, Nat.reducePow, Nat.reduceDiv, Nat.reduceMod, Nat.reduceBEq, Int.reduceLT, Int.reduceLE, Int.reduceToNat, Int.reduceAdd, Int.reduceSub, Int.reduceNeg, hnm, Tryd.tf0, Tryd.tf3, Tryd.tf5, Tryd.tf27, Tryd.tf74, Tryd.tf75, Tryd.tf132, Tryd.tf134, Tryd.tf135, Tryd.call79, Tryd.call80]))
    | ((with_reducible first | apply W_block | apply W_scope | apply WL_nil | apply W_label | apply W_skip | apply W_exit | apply W_ret | apply popsD_done | exact popsD_stop) <;> try simp only [kks, Nat.reduceAdd, Nat.reduceMul, Nat.reduceSub, Nat.reduceLeDiff, Nat.reduceEqDiff, ↓reduceIte, reduceCtorEq, Nat.reduceLT, Nat.reducePow, Nat.reduceDiv, Nat.reduceMod, Nat.reduceBEq, Int.reduceLT, Int.reduceLE, Int.reduceToNat, Int.reduceAdd, Int.reduceSub, Int.reduceNeg])
    | (with_reducible apply pg <;> (intro hc; (try simp only [hcb, Nat.reduceAdd, Nat.reduceMul, Nat.reduceSub, Nat.reduceLeDiff, Nat.reduceEqDiff, ↓reduceIte, reduceCtorEq, Nat.reduceLT, Nat.reducePow, Nat.reduceDiv, Nat.reduceMod, Nat.reduceBEq, Int.reduceLT, Int.reduceLE, Int.reduceToNat, Int.reduceAdd, Int.reduceSub, Int.reduceNeg, ne_eq, forall_const] at hc); first | (exfalso; omega) | exact absurd trivial hc | skip))
    | (with_reducible apply hnx; clear hnx nx)
    | (with_reducible refine And.intro (by omega) ?_)
    | (with_reducible refine And.intro ?_ ?_)
    | (clear hnx nx; with_reducible apply hnx; clear hnx nx)
    | (clear hnx nx; clear hnx nx; with_reducible apply hnx; clear hnx nx))
      refine W_loop_k (fun z τ => ∃ (i : Nat) (cs : List PV), i ≤ 4 ∧ z = 4 - i ∧ ((i = 0 ∧ cs = [pw s0, pw s1, pw s2, pw s3, pw s4, pw s5, pw s6, pw s7]) ∨ (i = 1 ∧ cs = [pw (s0 + v0), pw s1, pw s2, pw s3, pw (s4 + e0), pw s5, pw s6, pw s7]) ∨ (i = 2 ∧ cs = [pw (s0 + v0), pw (s1 + v1), pw s2, pw s3, pw (s4 + e0), pw (s5 + e1), pw s6, pw s7]) ∨ (i = 3 ∧ cs = [pw (s0 + v0), pw (s1 + v1), pw (s2 + v2), pw s3, pw (s4 + e0), pw (s5 + e1), pw (s6 + e2), pw s7]) ∨ (i = 4 ∧ cs = [pw (s0 + v0), pw (s1 + v1), pw (s2 + v2), pw (s3 + v3), pw (s4 + e0), pw (s5 + e1), pw (s6 + e2), pw (s7 + e3)])) ∧ τ = ⟨fr 116 [(2, .ptr N2 0), (4, .ptr N4 0), (6, .ptr N6 0), (7, .ptr N7 0), (94, pint .i64 i)], [(N7, ⟨134, false, 0, [pw e0, pw e1, pw e2, pw e3]⟩), (N6, ⟨134, false, 0, [pw v0, pw v1, pw v2, pw v3]⟩), (N4, ⟨75, false, 0, [pint .u32 0, pint .u32 0, pint .u32 0, pint .u32 0, pint .u32 0, pint .u32 0, pint .u32 0, pint .u32 0]⟩), (N2, ⟨75, false, 0, cs⟩)]⟩) 4
        ⟨fr 116 [(2, .ptr N2 0), (4, .ptr N4 0), (6, .ptr N6 0), (7, .ptr N7 0), (94, pint .i64 (0 : Nat))], [(N7, ⟨134, false, 0, [pw e0, pw e1, pw e2, pw e3]⟩), (N6, ⟨134, false, 0, [pw v0, pw v1, pw v2, pw v3]⟩), (N4, ⟨75, false, 0, [pint .u32 0, pint .u32 0, pint .u32 0, pint .u32 0, pint .u32 0, pint .u32 0, pint .u32 0, pint .u32 0]⟩), (N2, ⟨75, false, 0, [pw s0, pw s1, pw s2, pw s3, pw s4, pw s5, pw s6, pw s7]⟩)]⟩ (by
        refine Wk_fr (by simp only [wkb, Nat.reduceAdd, Nat.reduceMul, Nat.reduceSub, Nat.reduceLeDiff, Nat.reduceEqDiff, ↓reduceIte, reduceCtorEq, Nat.reduceLT, Nat.reducePow, Nat.reduceDiv, Nat.reduceMod, Nat.reduceBEq, Int.reduceLT, Int.reduceLE, Int.reduceToNat, Int.reduceAdd, Int.reduceSub, Int.reduceNeg]) ?_
        exact ⟨by simp, by simp [names, hnm]⟩) ⟨0, _, by omega, by omega, .inl ⟨rfl, rfl⟩, rfl⟩ ?_
      rintro z τ ⟨i, cs, hi, rfl, hcs, rfl⟩ lp2 hlp2
      rcases hcs with ⟨rfl, rfl⟩ | ⟨rfl, rfl⟩ | ⟨rfl, rfl⟩ | ⟨rfl, rfl⟩ | ⟨rfl, rfl⟩
      all_goals
        repeat' (first
    | (with_reducible apply W_seq_k; intro nx hnx)
    | (with_reducible first | refine wr 19807040628566084398392287223 ?_ | refine wd (id := 2) 19807040628566084398392287223 1 (.op 0 true (.op 1 true (.op 2 true (.alt 3 true (.alt 4 true (.alt 5 true (.alt 6 true (.op 7 true (.op 8 false (.op 9 false (.done)))) (.alt 7 true (.op 6 true (.op 8 false (.op 9 false (.done)))) .stop)) (.alt 6 true (.alt 5 true (.op 7 true (.op 8 false (.op 9 false (.done)))) (.alt 7 true (.alt 5 true (.op 8 false (.op 9 false (.done))) (.alt 8 false (.alt 5 true (.op 9 false (.done)) .stop) .stop)) .stop)) (.alt 7 true (.alt 5 true (.op 6 true (.op 8 false (.op 9 false (.done)))) (.alt 6 true (.alt 5 true (.op 8 false (.op 9 false (.done))) (.alt 8 false (.alt 5 true (.op 9 false (.done)) .stop) .stop)) .stop)) .stop))) (.alt 6 true (.alt 4 true (.alt 5 true (.op 7 true (.op 8 false (.op 9 false (.done)))) (.alt 7 true (.alt 5 true (.op 8 false (.op 9 false (.done))) (.alt 8 false (.alt 5 true (.op 9 false (.done)) .stop) .stop)) .stop)) (.alt 7 true (.alt 4 true (.alt 5 true (.op 8 false (.op 9 false (.done))) (.alt 8 false (.alt 5 true (.op 9 false (.done)) .stop) .stop)) (.alt 8 false (.alt 4 true (.alt 5 true (.op 9 false (.done)) .stop) .stop) .stop)) .stop)) (.alt 7 true (.alt 4 true (.alt 5 true (.op 6 true (.op 8 false (.op 9 false (.done)))) (.alt 6 true (.alt 5 true (.op 8 false (.op 9 false (.done))) (.alt 8 false (.alt 5 true (.op 9 false (.done)) .stop) .stop)) .stop)) (.alt 6 true (.alt 4 true (.alt 5 true (.op 8 false (.op 9 false (.done))) (.alt 8 false (.alt 5 true (.op 9 false (.done)) .stop) .stop)) (.alt 8 false (.alt 4 true (.alt 5 true (.op 9 false (.done)) .stop) .stop) .stop)) .stop)) .stop))) (.alt 6 true (.alt 3 true (.alt 4 true (.alt 5 true (.op 7 true (.op 8 false (.op 9 false (.done)))) (.alt 7 true (.alt 5 true (.op 8 false (.op 9 false (.done))) (.alt 8 false (.alt 5 true (.op 9 false (.done)) .stop) .stop)) .stop)) (.alt 7 true (.alt 4 true (.alt 5 true (.op 8 false (.op 9 false (.done))) (.alt 8 false (.alt 5 true (.op 9 false (.done)) .stop) .stop)) (.alt 8 false (.alt 4 true (.alt 5 true (.op 9 false (.done)) .stop) .stop) .stop)) .stop)) (.alt 7 true (.alt 3 true (.alt 4 true (.alt 5 true (.op 8 false (.op 9 false (.done))) (.alt 8 false (.alt 5 true (.op 9 false (.done)) .stop) .stop)) (.alt 8 false (.alt 4 true (.alt 5 true (.op 9 false (.done)) .stop) .stop) .stop)) (.alt 8 false (.alt 3 true (.alt 4 true (.alt 5 true (.op 9 false (.done)) .stop) .stop) .stop) .stop)) .stop)) (.alt 7 true (.alt 3 true (.alt 4 true (.alt 5 true (.op 6 true (.op 8 false (.op 9 false (.done)))) (.alt 6 true (.alt 5 true (.op 8 false (.op 9 false (.done))) (.alt 8 false (.alt 5 true (.op 9 false (.done)) .stop) .stop)) .stop)) (.alt 6 true (.alt 4 true (.alt 5 true (.op 8 false (.op 9 false (.done))) (.alt 8 false (.alt 5 true (.op 9 false (.done)) .stop) .stop)) (.alt 8 false (.alt 4 true (.alt 5 true (.op 9 false (.done)) .stop) .stop) .stop)) .stop)) (.alt 6 true (.alt 3 true (.alt 4 true (.alt 5 true (.op 8 false (.op 9 false (.done))) (.alt 8 false (.alt 5 true (.op 9 false (.done)) .stop) .stop)) (.alt 8 false (.alt 4 true (.alt 5 true (.op 9 false (.done)) .stop) .stop) .stop)) (.alt 8 false (.alt 3 true (.alt 4 true (.alt 5 true (.op 9 false (.done)) .stop) .stop) .stop) .stop)) .stop)) .stop)))))) (by kernel_rfl) ?_ | refine wd (id := 6) 19807040628566084398392287223 1 (.op 0 true (.op 1 true (.op 2 true (.op 3 true (.op 6 true (.op 7 true (.op 8 true (.op 9 true (.op 10 true (.op 11 true (.op 12 true (.op 13 true (.op 14 true (.op 15 true (.op 16 true (.op 17 true (.op 19 true (.op 21 true (.op 22 true (.op 23 true (.op 4 true (.op 5 true (.op 18 true (.op 20 true (.op 24 true (.op 25 true (.done))))))))))))))))))))))))))) (by kernel_rfl) ?_ | refine wd (id := 7) 19807040628566084398392287223 1 (.op 0 true (.op 1 true (.op 3 true (.op 4 true (.op 5 true (.op 6 true (.op 7 true (.op 8 true (.op 9 true (.op 10 true (.op 11 true (.op 12 true (.op 13 true (.op 14 true (.op 15 true (.op 16 true (.op 17 true (.op 18 true (.op 19 true (.op 2 true (.op 20 true (.op 21 true (.done))))))))))))))))))))))) (by kernel_rfl) ?_ | refine wd (id := 14) 19807040628566084398392287223 1 (.op 0 true (.op 1 true (.op 2 true (.op 3 true (.op 4 true (.op 5 true (.op 6 true (.op 7 true (.op 8 false (.done)))))))))) (by kernel_rfl) ?_ | refine wd (id := 15) 19807040628566084398392287223 1 (.op 0 true (.op 1 true (.op 2 true (.op 3 true (.op 4 true (.op 5 true (.op 6 true (.op 7 true (.op 8 true (.op 9 false (.done))))))))))) (by kernel_rfl) ?_)
    | ((with_reducible first | (apply WL_op; intro nx hnx) | refine Ev_out ?_ | refine wc ?_ | (apply popsD_op; intro nx hnx) | (refine popsD_alt ?_ ?_; intro nx hnx) | (refine pf hnm fun nm hnm => ?_; try simp only [fmb] at hnm) | (refine pm hnm fun nm hnm => ?_; try simp only [fmb] at hnm)); try (simp (maxSteps := 2000000) (disch := omega) only [ev, ↓evp, PV.cells, PV.one, PV.mem?, Value.cells, Nat.reduceAdd, Nat.reduceMul, Nat.reduceSub, Nat.reduceLeDiff, Nat.reduceEqDiff, ↓reduceIte, reduceCtorEq, Nat.reduceLT, Nat.reducePow, Nat.reduceDiv, Nat.reduceMod, Nat.reduceBEq, Int.reduceLT, Int.reduceLE, Int.reduceToNat, Int.reduceAdd, Int.reduceSub, Int.reduceNeg, hnm, Tryd.tf0, Tryd.tf3, Tryd.tf5, Tryd.tf27, Tryd.tf74, Tryd.tf75, Tryd.tf132, Tryd.tf134, Tryd.tf135, Tryd.call79, Tryd.call80, w_add, Nat.min_self]))
    | ((with_reducible first | apply W_block | apply W_scope | apply WL_nil | apply W_label | apply W_skip | apply W_exit | apply W_ret | apply popsD_done | exact popsD_stop) <;> try simp only [kks, Nat.reduceAdd, Nat.reduceMul, Nat.reduceSub, Nat.reduceLeDiff, Nat.reduceEqDiff, ↓reduceIte, reduceCtorEq, Nat.reduceLT, Nat.reducePow, Nat.reduceDiv, Nat.reduceMod, Nat.reduceBEq, Int.reduceLT, Int.reduceLE, Int.reduceToNat, Int.reduceAdd, Int.reduceSub, Int.reduceNeg])
    | (with_reducible apply pg <;> (intro hc; (try simp only [hcb, Nat.reduceAdd, Nat.reduceMul, Nat.reduceSub, Nat.reduceLeDiff, Nat.reduceEqDiff, ↓reduceIte, reduceCtorEq, Nat.reduceLT, Nat.reducePow, Nat.reduceDiv, Nat.reduceMod, Nat.reduceBEq, Int.reduceLT, Int.reduceLE, Int.reduceToNat, Int.reduceAdd, Int.reduceSub, Int.reduceNeg, ne_eq, forall_const] at hc); first | (exfalso; omega) | exact absurd trivial hc | skip))
    | (with_reducible apply hnx; clear hnx nx)
    | (with_reducible refine And.intro (by omega) ?_)
    | (with_reducible refine And.intro ?_ ?_)
    | (clear hnx nx; with_reducible apply hnx; clear hnx nx)
    | (clear hnx nx; clear hnx nx; with_reducible apply hnx; clear hnx nx))
      · refine hlp2 _ 3 _ (by omega) ?_ ⟨1, _, by omega, rfl, .inr (.inl ⟨rfl, rfl⟩), rfl⟩
        refine Wk_fr (by simp only [wkb, Nat.reduceAdd, Nat.reduceMul, Nat.reduceSub, Nat.reduceLeDiff, Nat.reduceEqDiff, ↓reduceIte, reduceCtorEq, Nat.reduceLT, Nat.reducePow, Nat.reduceDiv, Nat.reduceMod, Nat.reduceBEq, Int.reduceLT, Int.reduceLE, Int.reduceToNat, Int.reduceAdd, Int.reduceSub, Int.reduceNeg]) ?_
        exact Sub_refl (by simp [names, hnm])
      · refine hlp2 _ 2 _ (by omega) ?_ ⟨2, _, by omega, rfl, .inr (.inr (.inl ⟨rfl, rfl⟩)), rfl⟩
        refine Wk_fr (by simp only [wkb, Nat.reduceAdd, Nat.reduceMul, Nat.reduceSub, Nat.reduceLeDiff, Nat.reduceEqDiff, ↓reduceIte, reduceCtorEq, Nat.reduceLT, Nat.reducePow, Nat.reduceDiv, Nat.reduceMod, Nat.reduceBEq, Int.reduceLT, Int.reduceLE, Int.reduceToNat, Int.reduceAdd, Int.reduceSub, Int.reduceNeg]) ?_
        exact Sub_refl (by simp [names, hnm])
      · refine hlp2 _ 1 _ (by omega) ?_ ⟨3, _, by omega, rfl, .inr (.inr (.inr (.inl ⟨rfl, rfl⟩))), rfl⟩
        refine Wk_fr (by simp only [wkb, Nat.reduceAdd, Nat.reduceMul, Nat.reduceSub, Nat.reduceLeDiff, Nat.reduceEqDiff, ↓reduceIte, reduceCtorEq, Nat.reduceLT, Nat.reducePow, Nat.reduceDiv, Nat.reduceMod, Nat.reduceBEq, Int.reduceLT, Int.reduceLE, Int.reduceToNat, Int.reduceAdd, Int.reduceSub, Int.reduceNeg]) ?_
        exact Sub_refl (by simp [names, hnm])
      · refine hlp2 _ 0 _ (by omega) ?_ ⟨4, _, by omega, rfl, .inr (.inr (.inr (.inr ⟨rfl, rfl⟩))), rfl⟩
        refine Wk_fr (by simp only [wkb, Nat.reduceAdd, Nat.reduceMul, Nat.reduceSub, Nat.reduceLeDiff, Nat.reduceEqDiff, ↓reduceIte, reduceCtorEq, Nat.reduceLT, Nat.reducePow, Nat.reduceDiv, Nat.reduceMod, Nat.reduceBEq, Int.reduceLT, Int.reduceLE, Int.reduceToNat, Int.reduceAdd, Int.reduceSub, Int.reduceNeg]) ?_
        exact Sub_refl (by simp [names, hnm])
      · refine hfin _ _ (Fin_cell (res := .agg ((comp [s0, s1, s2, s3, s4, s5, s6, s7] b).map pw)) Tryd.tf75 (n := N4) (off := 0) (o := ⟨75, false, 0, [pw (s0 + v0), pw (s1 + v1), pw (s2 + v2), pw (s3 + v3), pw (s4 + e0), pw (s5 + e1), pw (s6 + e2), pw (s7 + e3)]⟩) (by simp only [fr_getD_cons, Nat.reduceEqDiff, Nat.reduceLT, ↓reduceIte]) (by simp [look, hnm]) ?_ (Sub_nil _) ⟨rfl, rfl⟩)
        rw [hcomp]
        simp [pload])
  have mkT : ∀ (l : List (Nat × PV)) (H : Heap) (a b c d e : Int), [e, d, c, b, a].Nodup → (∀ x ∈ [(2, PV.ptr a 0), (4, PV.ptr b 0), (5, PV.ptr c 0), (6, PV.ptr d 0), (7, PV.ptr e 0)], (fr 116 l).getD x.1 .junk = x.2) →
      Sub [(e, ⟨134, false, 0, [pw s4, pw s5, pw s6, pw s7]⟩), (d, ⟨134, false, 0, [pw s0, pw s1, pw s2, pw s3]⟩), (c, ⟨132, false, 0, w.map pw⟩), (b, ⟨75, false, 0, [pint .u32 0, pint .u32 0, pint .u32 0, pint .u32 0, pint .u32 0, pint .u32 0, pint .u32 0, pint .u32 0]⟩), (a, ⟨75, false, 0, [pw s0, pw s1, pw s2, pw s3, pw s4, pw s5, pw s6, pw s7]⟩)] H → nx ⟨fr 116 l, H⟩ :=
    fun l H a b c d e h1 h2 h3 => hnx _ ⟨_, ⟨a, b, c, d, e, h1, rfl⟩, Wk_fr h2 h3⟩
  clear hnx
  repeat' (first
    | (with_reducible apply W_seq_k; intro nx hnx)
    | (with_reducible first | refine wr 19807040628566084398392287223 ?_ | refine wd (id := 2) 19807040628566084398392287223 1 (.op 0 true (.op 1 true (.op 2 true (.alt 3 true (.alt 4 true (.alt 5 true (.alt 6 true (.op 7 true (.op 8 false (.op 9 false (.done)))) (.alt 7 true (.op 6 true (.op 8 false (.op 9 false (.done)))) .stop)) (.alt 6 true (.alt 5 true (.op 7 true (.op 8 false (.op 9 false (.done)))) (.alt 7 true (.alt 5 true (.op 8 false (.op 9 false (.done))) (.alt 8 false (.alt 5 true (.op 9 false (.done)) .stop) .stop)) .stop)) (.alt 7 true (.alt 5 true (.op 6 true (.op 8 false (.op 9 false (.done)))) (.alt 6 true (.alt 5 true (.op 8 false (.op 9 false (.done))) (.alt 8 false (.alt 5 true (.op 9 false (.done)) .stop) .stop)) .stop)) .stop))) (.alt 6 true (.alt 4 true (.alt 5 true (.op 7 true (.op 8 false (.op 9 false (.done)))) (.alt 7 true (.alt 5 true (.op 8 false (.op 9 false (.done))) (.alt 8 false (.alt 5 true (.op 9 false (.done)) .stop) .stop)) .stop)) (.alt 7 true (.alt 4 true (.alt 5 true (.op 8 false (.op 9 false (.done))) (.alt 8 false (.alt 5 true (.op 9 false (.done)) .stop) .stop)) (.alt 8 false (.alt 4 true (.alt 5 true (.op 9 false (.done)) .stop) .stop) .stop)) .stop)) (.alt 7 true (.alt 4 true (.alt 5 true (.op 6 true (.op 8 false (.op 9 false (.done)))) (.alt 6 true (.alt 5 true (.op 8 false (.op 9 false (.done))) (.alt 8 false (.alt 5 true (.op 9 false (.done)) .stop) .stop)) .stop)) (.alt 6 true (.alt 4 true (.alt 5 true (.op 8 false (.op 9 false (.done))) (.alt 8 false (.alt 5 true (.op 9 false (.done)) .stop) .stop)) (.alt 8 false (.alt 4 true (.alt 5 true (.op 9 false (.done)) .stop) .stop) .stop)) .stop)) .stop))) (.alt 6 true (.alt 3 true (.alt 4 true (.alt 5 true (.op 7 true (.op 8 false (.op 9 false (.done)))) (.alt 7 true (.alt 5 true (.op 8 false (.op 9 false (.done))) (.alt 8 false (.alt 5 true (.op 9 false (.done)) .stop) .stop)) .stop)) (.alt 7 true (.alt 4 true (.alt 5 true (.op 8 false (.op 9 false (.done))) (.alt 8 false (.alt 5 true (.op 9 false (.done)) .stop) .stop)) (.alt 8 false (.alt 4 true (.alt 5 true (.op 9 false (.done)) .stop) .stop) .stop)) .stop)) (.alt 7 true (.alt 3 true (.alt 4 true (.alt 5 true (.op 8 false (.op 9 false (.done))) (.alt 8 false (.alt 5 true (.op 9 false (.done)) .stop) .stop)) (.alt 8 false (.alt 4 true (.alt 5 true (.op 9 false (.done)) .stop) .stop) .stop)) (.alt 8 false (.alt 3 true (.alt 4 true (.alt 5 true (.op 9 false (.done)) .stop) .stop) .stop) .stop)) .stop)) (.alt 7 true (.alt 3 true (.alt 4 true (.alt 5 true (.op 6 true (.op 8 false (.op 9 false (.done)))) (.alt 6 true (.alt 5 true (.op 8 false (.op 9 false (.done))) (.alt 8 false (.alt 5 true (.op 9 false (.done)) .stop) .stop)) .stop)) (.alt 6 true (.alt 4 true (.alt 5 true (.op 8 false (.op 9 false (.done))) (.alt 8 false (.alt 5 true (.op 9 false (.done)) .stop) .stop)) (.alt 8 false (.alt 4 true (.alt 5 true (.op 9 false (.done)) .stop) .stop) .stop)) .stop)) (.alt 6 true (.alt 3 true (.alt 4 true (.alt 5 true (.op 8 false (.op 9 false (.done))) (.alt 8 false (.alt 5 true (.op 9 false (.done)) .stop) .stop)) (.alt 8 false (.alt 4 true (.alt 5 true (.op 9 false (.done)) .stop) .stop) .stop)) (.alt 8 false (.alt 3 true (.alt 4 true (.alt 5 true (.op 9 false (.done)) .stop) .stop) .stop) .stop)) .stop)) .stop)))))) (by kernel_rfl) ?_ | refine wd (id := 6) 19807040628566084398392287223 1 (.op 0 true (.op 1 true (.op 2 true (.op 3 true (.op 6 true (.op 7 true (.op 8 true (.op 9 true (.op 10 true (.op 11 true (.op 12 true (.op 13 true (.op 14 true (.op 15 true (.op 16 true (.op 17 true (.op 19 true (.op 21 true (.op 22 true (.op 23 true (.op 4 true (.op 5 true (.op 18 true (.op 20 true (.op 24 true (.op 25 true (.done))))))))))))))))))))))))))) (by kernel_rfl) ?_ | refine wd (id := 7) 19807040628566084398392287223 1 (.op 0 true (.op 1 true (.op 3 true (.op 4 true (.op 5 true (.op 6 true (.op 7 true (.op 8 true (.op 9 true (.op 10 true (.op 11 true (.op 12 true (.op 13 true (.op 14 true (.op 15 true (.op 16 true (.op 17 true (.op 18 true (.op 19 true (.op 2 true (.op 20 true (.op 21 true (.done))))))))))))))))))))))) (by kernel_rfl) ?_ | refine wd (id := 14) 19807040628566084398392287223 1 (.op 0 true (.op 1 true (.op 2 true (.op 3 true (.op 4 true (.op 5 true (.op 6 true (.op 7 true (.op 8 false (.done)))))))))) (by kernel_rfl) ?_ | refine wd (id := 15) 19807040628566084398392287223 1 (.op 0 true (.op 1 true (.op 2 true (.op 3 true (.op 4 true (.op 5 true (.op 6 true (.op 7 true (.op 8 true (.op 9 false (.done))))))))))) (by kernel_rfl) ?_)
    | ((with_reducible first | (apply WL_op; intro nx hnx) | refine Ev_out ?_ | refine wc ?_ | (apply popsD_op; intro nx hnx) | (refine popsD_alt ?_ ?_; intro nx hnx) | (refine pf hnm fun nm hnm => ?_; try simp only [fmb] at hnm) | (refine pm hnm fun nm hnm => ?_; try simp only [fmb] at hnm)); try (simp (maxSteps := 2000000) (disch := omega) only [ev, ↓evp, PV.cells, PV.one, PV.mem?, Value.cells, Nat.reduceAdd, Nat.reduceMul, Nat.reduceSub, Nat.reduceLeDiff, Nat.reduceEqDiff, ↓reduceIte, reduceCtorEq, Nat.reduceLT, Nat.reducePow, Nat.reduceDiv, Nat.reduceMod, Nat.reduceBEq, Int.reduceLT, Int.reduceLE, Int.reduceToNat, Int.reduceAdd, Int.reduceSub, Int.reduceNeg, hnm, Tryd.tf0, Tryd.tf3, Tryd.tf5, Tryd.tf27, Tryd.tf74, Tryd.tf75, Tryd.tf132, Tryd.tf134, Tryd.tf135, Tryd.call79, Tryd.call80, hG, hwm, hwl, hwt, hw1, hk1, hkl, hkt]))
    | ((with_reducible first | apply W_block | apply W_scope | apply WL_nil | apply W_label | apply W_skip | apply W_exit | apply W_ret | apply popsD_done | exact popsD_stop) <;> try simp only [kks, Nat.reduceAdd, Nat.reduceMul, Nat.reduceSub, Nat.reduceLeDiff, Nat.reduceEqDiff, ↓reduceIte, reduceCtorEq, Nat.reduceLT, Nat.reducePow, Nat.reduceDiv, Nat.reduceMod, Nat.reduceBEq, Int.reduceLT, Int.reduceLE, Int.reduceToNat, Int.reduceAdd, Int.reduceSub, Int.reduceNeg])
    | (with_reducible apply pg <;> (intro hc; (try simp only [hcb, Nat.reduceAdd, Nat.reduceMul, Nat.reduceSub, Nat.reduceLeDiff, Nat.reduceEqDiff, ↓reduceIte, reduceCtorEq, Nat.reduceLT, Nat.reducePow, Nat.reduceDiv, Nat.reduceMod, Nat.reduceBEq, Int.reduceLT, Int.reduceLE, Int.reduceToNat, Int.reduceAdd, Int.reduceSub, Int.reduceNeg, ne_eq, forall_const] at hc); first | (exfalso; omega) | exact absurd trivial hc | skip))
    | (with_reducible apply hnx; clear hnx nx)
    | (with_reducible refine And.intro (by omega) ?_)
    | (with_reducible refine And.intro ?_ ?_)
    | (clear hnx nx; with_reducible apply hnx; clear hnx nx)
    | (clear hnx nx; clear hnx nx; with_reducible apply hnx; clear hnx nx))
  all_goals
    apply mkT
    rotate_left
    · simp only [List.forall_mem_cons, List.not_mem_nil, false_implies, implies_true, and_true, fr_getD_cons, fr_getD_nil, Nat.reduceEqDiff, Nat.reduceLT, ↓reduceIte]
      exact ⟨rfl, rfl, rfl, rfl, rfl⟩
    · exact ⟨by simp only [List.mem_cons, List.not_mem_nil, or_false, forall_eq_or_imp, forall_eq, true_or, or_true, and_self], by simp [names, hnm]⟩
    · simp [hnm]
end Go.PM

namespace Go.PM
open Go.Proofs Go.RowKit Go.ChangeShapes Go.WideShapes
/-- What the row lists, a variable at a time. -/
theorem listed {P : Program} {w : World} (n : String) (d : DataW Unit) : ∀ (l : List (String × DataW Unit)) (ps : List MemPlace), DataW.LaidVars P w l ps → (n, d) ∈ l →
    ∃ g t cs fuel p, P.globalNamed n = some g ∧ (P.globals[g]?).map (·.type) = some t ∧ w.var? P n = some cs ∧ DataW.trod (fun _ => ()) P w 0 (fun _ => true) false fuel t cs.toList = some (d, p) := by
  intro l
  induction l with
  | nil => intro _ _ hm; cases hm
  | cons y r ih =>
    rintro ps ⟨g, t, cs, fuel, p, q, a1, a2, a3, a4, a5, _⟩ hm
    cases hm with
    | head => exact ⟨g, t, cs, fuel, p, a1, a2, a3, a4⟩
    | tail _ hm => exact ih q a5 hm
/-- The numbers of the tables. -/
def ksI : List Int := KS.map fun x => (x.toNat : Int)
theorem ks_rep {w : World} {l : List (String × DataW Unit)} {n : String} {g : Nat} {t e : TypeId} (h : laidMet Tryd.prog l w) (hm : (n, Lib.tabData .u32 ksI) ∈ l) (hg : Tryd.prog.globalNamed n = some g) (hty : (Tryd.prog.globals[g]?).map (·.type) = some t)
    (ht : Tryd.prog.underlying t = some (.array 64 e)) (he : Tryd.prog.underlying e = some (.int .u32)) (hce : Tryd.prog.cellsOf e = 1) (hct : Tryd.prog.cellsOf t = 64) :
    Rep w (fun b => b < w.heap.size) (.iptr (KS.map pw) 0) (.pointer (some (at_ g 0))) := by
  obtain ⟨ps, hps, _⟩ := h
  obtain ⟨g', t', cs, fuel, p, hg', ht', hv, hd⟩ := listed n _ l ps hps hm
  obtain rfl := Option.some.inj (hg.symm.trans hg')
  obtain rfl := Option.some.inj (hty.symm.trans ht')
  have hc := Lib.cells_of_tab ht he hce hct hd
  have cell : ∀ i (x : UInt32), KS[i]? = some x → w.cell? (at_ g i) = some (.int .u32 x.toNat) := by
    intro i x hx
    have h1 := World.var?_cell hg hv i
    rw [show at_ g i = ⟨g, i, none⟩ from rfl, h1, ← Array.getElem?_toList, hc, List.getElem?_map, ksI, List.getElem?_map, hx]
    rfl
  have hlt : g < w.heap.size := cell_lt (cell 0 _ rfl)
  exact Rep.iptr (KS.map pw) g 0 0 (fun j => .int .u32 ((KS.getD j 0).toNat : Int)) hlt (fun j u hu => by
    rw [List.getElem?_map] at hu
    obtain ⟨x, hx, rfl⟩ := Option.map_eq_some_iff.1 hu
    rw [Nat.zero_add, cell j x hx, List.getD_eq_getElem?_getD, hx]
    rfl) (fun j u hu => by
    rw [List.getElem?_map] at hu
    obtain ⟨x, hx, rfl⟩ := Option.map_eq_some_iff.1 hu
    rw [List.getD_eq_getElem?_getD, hx]
    exact .val _)
/-- The program's variables: those of the list hold the tables. -/
def globsK (l : List Nat) : Globs := fun g => if g ∈ l then .iptr (KS.map pw) 0 else .val (.pointer (some (at_ g 0)))
theorem globsK_rep {w : World} (l : List Nat) (h : ∀ g ∈ l, Rep w (fun b => b < w.heap.size) (.iptr (KS.map pw) 0) (.pointer (some (at_ g 0)))) (g : Nat) : Rep w (fun b => b < w.heap.size) (globsK l g) (.pointer (some (at_ g 0))) := by
  unfold globsK
  split
  · exact h g ‹_›
  · exact .val _
/-- a function that answers true -/
theorem calls_trueG {P : Program} {G : Globs} {f : FuncId} {args : List PV} {w : World} {vals : Array Value} (h : PCalls P G f args [] (fun res H => res = pbool true ∧ H = [])) (hG : ∀ g, Rep w (fun b => b < w.heap.size) (G g) (.pointer (some (at_ g 0))))
    (hs : vals.size = args.length) (hr : ∀ (i : Nat) (p : PV), args[i]? = some p → ∃ v : Value, vals[i]? = some v ∧ Rep w (fun b => b < w.heap.size) p v) :
    Calls P f vals w fun e w' => e = .returned (.bool true) ∧ Below w.heap.size w w' := by
  refine (h w (fun b => b < w.heap.size) [] vals (fun _ h => h) hG (by simp) (by simp) (by simp) hs hr).mono ?_
  rintro e w' ⟨v, A', res, Hout, rfl, ⟨rfl, rfl⟩, hrep, hs'⟩
  rw [hrep.val_eq]
  exact ⟨rfl, hs'.ext.below (Nat.le_refl _)⟩
end Go.PM

namespace Go.PM
open Go.Proofs
attribute [local irreducible] W PCalls pcall
/-- A change. -/
structure Chg where
  at_ : Int
  drop : Int
  add : List (List UInt8)
  deriving DecidableEq
@[reducible] def Chg.pv (c : Chg) : PV := .agg [pint .i64 c.at_, pint .i64 c.drop, .list 1 (c.add.map pstr)]
theorem wrap_add_left (a b : Int) : IntKind.i64.wrap (IntKind.i64.wrap a + b) = IntKind.i64.wrap (a + b) := by
  rw [IntKind.wrap_i64, IntKind.wrap_i64, IntKind.wrap_i64]; omega
theorem wrap_add_right (a b : Int) : IntKind.i64.wrap (a + IntKind.i64.wrap b) = IntKind.i64.wrap (a + b) := by
  rw [IntKind.wrap_i64, IntKind.wrap_i64, IntKind.wrap_i64]; omega
theorem wrap_zero : IntKind.i64.wrap 0 = 0 := rfl
theorem around_c (G : Globs) (n m : Int) (hn : -9223372036854775808 ≤ n) (hn2 : n ≤ 9223372036854775807) (hm : 0 < m) : PCalls Tryd.prog G 20 [pint .i64 n, pint .i64 m] [] (fun res H => res = pint .i64 (if n < 0 then (-(n+1)).tmod m else n.tmod m) ∧ H = []) := by
  (refine PCalls_f Tryd.func20 rfl Tryd.ntmps20 Tryd.results20 (by simp) fun fin hfin => ?_; have hnm : True := trivial; simp only [ev, simprocAttr])
  repeat' (first
    | (with_reducible apply W_seq_k; intro nx hnx)
    | (with_reducible first | refine wr 19 ?_)
    | ((with_reducible first | (apply WL_op; intro nx hnx) | refine Ev_out ?_ | refine wc ?_); try (simp (maxSteps := 2000000) (disch := omega) only [ev, ↓evp, PV.cells, PV.one, PV.mem?, Value.cells, simprocAttr, hnm, Tryd.tf3, Tryd.tf4]))
    | ((with_reducible first | apply W_block | apply W_scope | apply WL_nil | apply W_label | apply W_skip | apply W_exit | apply W_ret) <;> try simp only [kks, simprocAttr])
    | (with_reducible apply pg <;> (intro hc; (try simp only [hcb, simprocAttr, ne_eq, forall_const] at hc); first | (exfalso; omega) | exact absurd trivial hc | skip))
    | (with_reducible apply hnx; clear hnx nx)
    | (with_reducible refine And.intro (by omega) ?_)
    | (with_reducible refine And.intro ?_ ?_)
    | (clear hnx nx; with_reducible apply hnx; clear hnx nx)
    | (clear hnx nx; clear hnx nx; with_reducible apply hnx; clear hnx nx))
  · refine hfin _ _ (Fin_ret1 rfl (Sub_nil _) ?_); simp only [cob, simprocAttr]
    rw [if_pos hc, show (0 : Int) - (n + 1) = -(n + 1) by omega]
    exact ⟨rfl, trivial⟩
  · refine hfin _ _ (Fin_ret1 rfl (Sub_nil _) ?_); simp only [cob, simprocAttr]
    rw [if_neg hc]
    exact ⟨rfl, trivial⟩
theorem tshort_c (G : Globs) (s : List UInt8) (most : Nat) (hs : (s.length : Int) ≤ 9223372036854775807) : PCalls Tryd.prog G 7 [pstr s, pint .i64 most] [] (fun res H => res = pstr (s.take most) ∧ H = []) := by
  (refine PCalls_f Tryd.func7 rfl Tryd.ntmps7 Tryd.results7 (by simp) fun fin hfin => ?_; have hnm : True := trivial; simp only [ev, simprocAttr])
  repeat' (first
    | (with_reducible apply W_seq_k; intro nx hnx)
    | (with_reducible first | refine wr 19 ?_)
    | ((with_reducible first | (apply WL_op; intro nx hnx) | refine Ev_out ?_ | refine wc ?_); try (simp (maxSteps := 2000000) (disch := omega) only [ev, ↓evp, PV.cells, PV.one, PV.mem?, Value.cells, simprocAttr, hnm, Tryd.tf3, Tryd.tf4, Tryd.tf9]))
    | ((with_reducible first | apply W_block | apply W_scope | apply WL_nil | apply W_label | apply W_skip | apply W_exit | apply W_ret) <;> try simp only [kks, simprocAttr])
    | (with_reducible apply pg <;> (intro hc; (try simp only [hcb, simprocAttr, ne_eq, forall_const] at hc); first | (exfalso; omega) | exact absurd trivial hc | skip))
    | (with_reducible apply hnx; clear hnx nx)
    | (with_reducible refine And.intro (by omega) ?_)
    | (with_reducible refine And.intro ?_ ?_)
    | (clear hnx nx; with_reducible apply hnx; clear hnx nx)
    | (clear hnx nx; clear hnx nx; with_reducible apply hnx; clear hnx nx))
  · refine hfin _ _ (Fin_ret1 rfl (Sub_nil _) ?_); simp only [cob, simprocAttr]
    simp
  · refine hfin _ _ (Fin_ret1 rfl (Sub_nil _) ?_); simp only [cob, simprocAttr]
    have hl : s.length ≤ most := by omega
    rw [List.take_of_length_le hl]
    exact ⟨rfl, trivial⟩
theorem sameLines_c (G : Globs) (xs ys : List (List UInt8)) (hx : (xs.length : Int) ≤ 9223372036854775807) : PCalls Tryd.prog G 13 [.list 1 (xs.map pstr), .list 1 (ys.map pstr)] [] (fun res H => res = pbool (decide (xs = ys)) ∧ H = []) := by
  (refine PCalls_f Tryd.func13 rfl Tryd.ntmps13 Tryd.results13 (by simp) fun fin hfin => ?_; have hnm : True := trivial; simp only [ev, simprocAttr])
  repeat' (first
    | (with_reducible apply W_seq_k; intro nx hnx)
    | (with_reducible first | refine wr 51 ?_ | refine wd (id := 6) 51 1 (.op 0 true (.op 1 true (.op 2 true (.op 3 true (.op 4 true (.op 5 true (.op 6 true (.op 7 true (.op 8 true (.done)))))))))) (by kernel_rfl) ?_)
    | ((with_reducible first | (apply WL_op; intro nx hnx) | refine Ev_out ?_ | refine wc ?_ | (apply popsD_op; intro nx hnx) | (refine popsD_alt ?_ ?_; intro nx hnx)); try (simp (maxSteps := 2000000) (disch := omega) only [ev, ↓evp, PV.cells, PV.one, PV.mem?, Value.cells, simprocAttr, hnm, Tryd.tf0, Tryd.tf3, Tryd.tf4, Tryd.tf9, Tryd.tf24]))
    | ((with_reducible first | apply W_block | apply W_scope | apply WL_nil | apply W_label | apply W_skip | apply W_exit | apply W_ret | apply popsD_done | exact popsD_stop) <;> try simp only [kks, simprocAttr])
    | (with_reducible apply pg <;> (intro hc; (try simp only [hcb, simprocAttr, ne_eq, forall_const] at hc); first | (exfalso; omega) | exact absurd trivial hc | skip))
    | (with_reducible apply hnx; clear hnx nx)
    | (with_reducible refine And.intro (by omega) ?_)
    | (with_reducible refine And.intro ?_ ?_)
    | (clear hnx nx; with_reducible apply hnx; clear hnx nx)
    | (clear hnx nx; clear hnx nx; with_reducible apply hnx; clear hnx nx))
  · refine hfin _ _ (Fin_ret1 rfl (Sub_nil _) ?_); simp only [cob, simprocAttr]
    simp
    intro h
    exact hc (by rw [h])
  · refine W_loop_k (fun n τ => ∃ i : Nat, i ≤ xs.length ∧ n = xs.length - i ∧ xs.take i = ys.take i ∧ τ = ⟨fr 26 [(0, .list 1 (xs.map pstr)), (1, .list 1 (ys.map pstr)), (5, pint .i64 i)], []⟩) xs.length ⟨fr 26 [(0, .list 1 (xs.map pstr)), (1, .list 1 (ys.map pstr)), (5, pint .i64 (0 : Nat))], []⟩ (by exact Wk_fr (by simp only [wkb, simprocAttr]) (Sub_nil _)) ⟨0, by omega, by omega, by simp, rfl⟩ ?_
    rintro n τ ⟨i, hi, rfl, he, rfl⟩ lp hlp
    skip
    repeat' (first
    | (with_reducible apply W_seq_k; intro nx hnx)
    | (with_reducible first | refine wr 51 ?_ | refine wd (id := 6) 51 1 (.op 0 true (.op 1 true (.op 2 true (.op 3 true (.op 4 true (.op 5 true (.op 6 true (.op 7 true (.op 8 true (.done)))))))))) (by kernel_rfl) ?_)
    | ((with_reducible first | (apply WL_op; intro nx hnx) | refine Ev_out ?_ | refine wc ?_ | (apply popsD_op; intro nx hnx) | (refine popsD_alt ?_ ?_; intro nx hnx)); try (simp (maxSteps := 2000000) (disch := omega) only [ev, ↓evp, PV.cells, PV.one, PV.mem?, Value.cells, simprocAttr, hnm, Tryd.tf0, Tryd.tf3, Tryd.tf4, Tryd.tf9, Tryd.tf24]))
    | ((with_reducible first | apply W_block | apply W_scope | apply WL_nil | apply W_label | apply W_skip | apply W_exit | apply W_ret | apply popsD_done | exact popsD_stop) <;> try simp only [kks, simprocAttr])
    | (with_reducible apply pg <;> (intro hc; (try simp only [hcb, simprocAttr, ne_eq, forall_const] at hc); first | (exfalso; omega) | exact absurd trivial hc | skip))
    | (with_reducible apply hnx; clear hnx nx)
    | (with_reducible refine And.intro (by omega) ?_)
    | (with_reducible refine And.intro ?_ ?_)
    | (clear hnx nx; with_reducible apply hnx; clear hnx nx)
    | (clear hnx nx; clear hnx nx; with_reducible apply hnx; clear hnx nx))
    · refine hfin _ _ (Fin_ret1 rfl (Sub_nil _) ?_); simp only [cob, simprocAttr]
      simp
      intro h
      subst h
      exact hc rfl
    · refine hlp _ (xs.length - (i+1)) _ (by omega) ?_ ⟨i+1, by omega, rfl, ?_, rfl⟩
      · exact Wk_fr (by simp only [wkb, simprocAttr]) (Sub_nil _)
      · rw [List.take_add_one, List.take_add_one, he]
        have h1 : i < xs.length := by omega
        have h2 : i < ys.length := by omega
        rw [List.getElem?_eq_getElem h1, List.getElem?_eq_getElem h2, hc]
    · refine hfin _ _ (Fin_ret1 rfl (Sub_nil _) ?_); simp only [cob, simprocAttr]
      simp
      rw [List.take_of_length_le (by omega), List.take_of_length_le (by omega)] at he
      exact he
/-- How many lines changes drop and add. -/
def sizeL (l : List Chg) : Int := (l.map fun c => c.drop + (c.add.length : Int)).sum
theorem sizeL_succ (l : List Chg) (i : Nat) (h : i < l.length) : sizeL (l.take (i + 1)) = sizeL (l.take i) + (l[i].drop + (l[i].add.length : Int)) := by
  unfold sizeL
  rw [List.take_add_one, List.getElem?_eq_getElem h]
  simp only [List.map_append, List.sum_append, Option.toList_some, List.map_cons, List.map_nil, List.sum_cons, List.sum_nil, Int.add_zero]
theorem size_c (G : Globs) (l : List Chg) (hl : (l.length : Int) ≤ 9223372036854775807) : PCalls Tryd.prog G 18 [.list 3 (l.map Chg.pv)] [] (fun res H => res = pint .i64 (IntKind.i64.wrap (sizeL l)) ∧ H = []) := by
  (refine PCalls_f Tryd.func18 rfl Tryd.ntmps18 Tryd.results18 (by simp) fun fin hfin => ?_; have hnm : True := trivial; simp only [ev, simprocAttr])
  repeat' (first
    | (with_reducible apply W_seq_k; intro nx hnx)
    | (with_reducible first | refine wr 493 ?_)
    | ((with_reducible first | (apply WL_op; intro nx hnx) | refine Ev_out ?_ | refine wc ?_ | (refine pf hnm fun nm hnm => ?_; try simp only [fmb] at hnm) | (refine pm hnm fun nm hnm => ?_; try simp only [fmb] at hnm)); try (simp (maxSteps := 2000000) (disch := omega) only [ev, ↓evp, PV.cells, PV.one, PV.mem?, Value.cells, simprocAttr, hnm, Tryd.tf0, Tryd.tf1, Tryd.tf2, Tryd.tf3, Tryd.tf9, Tryd.tf24, Tryd.tf48, Tryd.tf52]))
    | ((with_reducible first | apply W_block | apply W_scope | apply WL_nil | apply W_label | apply W_skip | apply W_exit | apply W_ret) <;> try simp only [kks, simprocAttr])
    | (with_reducible apply pg <;> (intro hc; (try simp only [hcb, simprocAttr, ne_eq, forall_const] at hc); first | (exfalso; omega) | exact absurd trivial hc | skip))
    | (with_reducible apply hnx; clear hnx nx)
    | (with_reducible refine And.intro (by omega) ?_)
    | (with_reducible refine And.intro ?_ ?_)
    | (clear hnx nx; with_reducible apply hnx; clear hnx nx)
    | (clear hnx nx; clear hnx nx; with_reducible apply hnx; clear hnx nx))
  refine W_loop_k (fun n τ => ∃ i : Nat, i ≤ l.length ∧ n = l.length - i ∧ τ = ⟨fr 22 [(0, .list 3 (l.map Chg.pv)), (3, pint .i64 (IntKind.i64.wrap (sizeL (l.take i)))), (6, .list 3 (l.map Chg.pv)), (7, pint .i64 l.length), (8, pint .i64 i)], []⟩) l.length ⟨fr 22 [(0, .list 3 (l.map Chg.pv)), (3, pint .i64 (IntKind.i64.wrap (sizeL (l.take 0)))), (6, .list 3 (l.map Chg.pv)), (7, pint .i64 l.length), (8, pint .i64 (0 : Nat))], []⟩ (by exact Wk_fr (by simp only [wkb, simprocAttr, List.take_zero, sizeL, List.map_nil, List.sum_nil, wrap_zero]) (Sub_nil _)) ⟨0, by omega, by omega, rfl⟩ ?_
  rintro n τ ⟨i, hi, rfl, rfl⟩ lp hlp
  skip
  repeat' (first
    | (with_reducible apply W_seq_k; intro nx hnx)
    | (with_reducible first | refine wr 493 ?_)
    | ((with_reducible first | (apply WL_op; intro nx hnx) | refine Ev_out ?_ | refine wc ?_ | (refine pf hnm fun nm hnm => ?_; try simp only [fmb] at hnm) | (refine pm hnm fun nm hnm => ?_; try simp only [fmb] at hnm)); try (simp (maxSteps := 2000000) (disch := omega) only [ev, ↓evp, PV.cells, PV.one, PV.mem?, Value.cells, simprocAttr, hnm, Tryd.tf0, Tryd.tf1, Tryd.tf2, Tryd.tf3, Tryd.tf9, Tryd.tf24, Tryd.tf48, Tryd.tf52]))
    | ((with_reducible first | apply W_block | apply W_scope | apply WL_nil | apply W_label | apply W_skip | apply W_exit | apply W_ret) <;> try simp only [kks, simprocAttr])
    | (with_reducible apply pg <;> (intro hc; (try simp only [hcb, simprocAttr, ne_eq, forall_const] at hc); first | (exfalso; omega) | exact absurd trivial hc | skip))
    | (with_reducible apply hnx; clear hnx nx)
    | (with_reducible refine And.intro (by omega) ?_)
    | (with_reducible refine And.intro ?_ ?_)
    | (clear hnx nx; with_reducible apply hnx; clear hnx nx)
    | (clear hnx nx; clear hnx nx; with_reducible apply hnx; clear hnx nx))
  · refine hlp _ (l.length - (i+1)) _ (by omega) ?_ ⟨i+1, by omega, rfl, rfl⟩
    rw [sizeL_succ l i (by omega)]
    exact Wk_fr (by simp only [wkb, simprocAttr, wrap_add_left, wrap_add_right]) (Sub_nil _)
  · refine hfin _ _ (Fin_ret1 rfl (Sub_nil _) ?_); simp only [cob, simprocAttr]
    have hl' : l.length ≤ i := by omega
    rw [List.take_of_length_le hl']
    exact ⟨rfl, trivial⟩
end Go.PM

namespace Go.PM
section
variable {α : Type} [DecidableEq α]
def lcsRow (x : α) (f : List α → Nat) : List α → Nat
  | [] => 0
  | y :: b => if x = y then f b + 1 else max (f (y :: b)) (lcsRow x f b)
/-- The greatest number of elements that two lists have in common, in order. -/
def lcs : List α → List α → Nat
  | [], _ => 0
  | x :: a, b => lcsRow x (lcs a) b
theorem lcs_nil (b : List α) : lcs [] b = 0 := rfl
theorem lcs_nil' (a : List α) : lcs a [] = 0 := by cases a <;> rfl
theorem lcs_cons (x y : α) (a b : List α) : lcs (x :: a) (y :: b) = if x = y then lcs a b + 1 else max (lcs a (y :: b)) (lcs (x :: a) b) := rfl
theorem lcs_le : ∀ a b : List α, lcs a b ≤ a.length ∧ lcs a b ≤ b.length
  | [], b => ⟨Nat.zero_le _, Nat.zero_le _⟩
  | x :: a, [] => ⟨Nat.zero_le _, Nat.zero_le _⟩
  | x :: a, y :: b => by
    have h1 := lcs_le a b
    have h2 := lcs_le a (y :: b)
    have h3 := lcs_le (x :: a) b
    rw [lcs_cons]
    simp only [List.length_cons] at *
    split <;> omega
  termination_by a b => a.length + b.length
theorem lcs_step : ∀ (a b : List α), (∀ x, lcs a b ≤ lcs (x :: a) b ∧ lcs (x :: a) b ≤ lcs a b + 1) ∧ (∀ y, lcs a b ≤ lcs a (y :: b) ∧ lcs a (y :: b) ≤ lcs a b + 1)
  | [], [] => ⟨fun x => by simp [lcs_nil', lcs_nil], fun y => by simp [lcs_nil]⟩
  | [], z :: b => by
    refine ⟨fun x => ?_, fun y => by simp [lcs_nil]⟩
    have h := (lcs_step [] b).1 x
    rw [lcs_cons]
    simp only [lcs_nil] at *
    split <;> omega
  | z :: a, [] => by
    refine ⟨fun x => by simp [lcs_nil'], fun y => ?_⟩
    have h := (lcs_step a []).2 y
    rw [lcs_cons]
    simp only [lcs_nil'] at *
    split <;> omega
  | z :: a, w :: b => by
    have hab := lcs_step a b
    have ha := lcs_step a (w :: b)
    have hb := lcs_step (z :: a) b
    constructor
    · intro x
      have e := lcs_cons x w (z :: a) b
      have e1 := lcs_cons z w a b
      have q1 := hab.1 z
      have q2 := hab.2 w
      have q3 := ha.1 z
      have q4 := hb.1 x
      have q5 := hb.2 w
      by_cases h : x = w
      · rw [if_pos h] at e
        omega
      · rw [if_neg h] at e
        omega
    · intro y
      have e := lcs_cons z y a (w :: b)
      have q3 := ha.1 z
      have q4 := ha.2 y
      have q5 := hb.2 w
      have q1 := hab.1 z
      have q2 := hab.2 w
      have e1 := lcs_cons z w a b
      by_cases h : z = y
      · rw [if_pos h] at e
        omega
      · rw [if_neg h] at e
        omega
  termination_by a b => a.length + b.length
end
/-- The walk: what is left of the lists is a and b; i lines of the old list lie behind; cur is the open change. -/
def run : Nat → Int → Option Chg → List (List UInt8) → List (List UInt8) → List Chg
  | 0, _, cur, _, _ => cur.toList
  | k + 1, i, cur, a, b => match a, b with
    | [], [] => cur.toList
    | x :: a', [] => run k (i + 1) (some ⟨(cur.getD ⟨i, 0, []⟩).at_, (cur.getD ⟨i, 0, []⟩).drop + 1, (cur.getD ⟨i, 0, []⟩).add⟩) a' []
    | [], y :: b' => run k i (some ⟨(cur.getD ⟨i, 0, []⟩).at_, (cur.getD ⟨i, 0, []⟩).drop, (cur.getD ⟨i, 0, []⟩).add ++ [y]⟩) [] b'
    | x :: a', y :: b' => if x = y then cur.toList ++ run k (i + 1) none a' b'
      else if lcs (x :: a') b' ≤ lcs a' (y :: b') then run k (i + 1) (some ⟨(cur.getD ⟨i, 0, []⟩).at_, (cur.getD ⟨i, 0, []⟩).drop + 1, (cur.getD ⟨i, 0, []⟩).add⟩) a' (y :: b')
      else run k i (some ⟨(cur.getD ⟨i, 0, []⟩).at_, (cur.getD ⟨i, 0, []⟩).drop, (cur.getD ⟨i, 0, []⟩).add ++ [y]⟩) (x :: a') b'
/-- The changes that lead from a to b. -/
def diffL (a b : List (List UInt8)) : List Chg := run (a.length + b.length) 0 none a b
/-- Do the first elements stand and agree? -/
def heads : List (List UInt8) → List (List UInt8) → Bool
  | x :: _, y :: _ => decide (x = y)
  | _, _ => false
theorem run_end (k : Nat) (i : Int) (cur : Option Chg) : run k i cur [] [] = cur.toList := by cases k <;> rfl
theorem run_keep {k : Nat} {i : Int} {cur : Option Chg} {x y : List UInt8} {a b : List (List UInt8)} (h : x = y) : run (k + 1) i cur (x :: a) (y :: b) = cur.toList ++ run k (i + 1) none a b := by
  rw [run, if_pos h]
theorem run_drop {k : Nat} {i : Int} {cur : Option Chg} {x : List UInt8} {a b : List (List UInt8)} (h : b = [] ∨ (heads (x :: a) b = false ∧ lcs (x :: a) b.tail ≤ lcs a b)) :
    run (k + 1) i cur (x :: a) b = run k (i + 1) (some ⟨(cur.getD ⟨i, 0, []⟩).at_, (cur.getD ⟨i, 0, []⟩).drop + 1, (cur.getD ⟨i, 0, []⟩).add⟩) a b := by
  cases b with
  | nil => rfl
  | cons y b =>
    rcases h with h | ⟨h1, h2⟩
    · cases h
    · simp only [heads, decide_eq_false_iff_not] at h1
      simp only [List.tail_cons] at h2
      rw [run, if_neg h1, if_pos h2]
theorem run_add {k : Nat} {i : Int} {cur : Option Chg} {y : List UInt8} {a b : List (List UInt8)} (h : a = [] ∨ (heads a (y :: b) = false ∧ ¬ lcs a b ≤ lcs a.tail (y :: b))) :
    run (k + 1) i cur a (y :: b) = run k i (some ⟨(cur.getD ⟨i, 0, []⟩).at_, (cur.getD ⟨i, 0, []⟩).drop, (cur.getD ⟨i, 0, []⟩).add ++ [y]⟩) a b := by
  cases a with
  | nil => rfl
  | cons x a =>
    rcases h with h | ⟨h1, h2⟩
    · cases h
    · simp only [heads, decide_eq_false_iff_not] at h1
      simp only [List.tail_cons] at h2
      rw [run, if_neg h1, if_neg h2]
end Go.PM

namespace Go.PM
open Go.Proofs
attribute [local irreducible] W PCalls pcall pcallI
theorem add_one_ne (i : Nat) : (i + 1 = i) = False := by simp
theorem ne_add_one (i : Nat) : (i = i + 1) = False := by simp
@[reducible] def rowV (m : Nat) (V : Nat → Nat → Int) : Nat → List PV := fun i => tab (m + 1) fun j => pint .i64 (V i j)
@[reducible] def tblV (w k : Nat) (nms : Nat → Int) : List PV := tab k fun i => .row (nms i) 1 w
/-- What the table says. -/
def lcsT (a b : List (List UInt8)) (i j : Nat) : Int := lcs (a.drop i) (b.drop j)
theorem lcsT_end (a b : List (List UInt8)) (i j : Nat) (h : a.length ≤ i ∨ b.length ≤ j) : lcsT a b i j = 0 := by
  unfold lcsT
  rcases h with h | h
  · rw [List.drop_of_length_le h]
    rfl
  · rw [List.drop_of_length_le h, lcs_nil']
    rfl
theorem lcsT_le (a b : List (List UInt8)) (i j : Nat) : 0 ≤ lcsT a b i j ∧ lcsT a b i j ≤ a.length := by
  have := (lcs_le (a.drop i) (b.drop j)).1
  rw [List.length_drop] at this
  unfold lcsT
  omega
theorem lcsT_eq (a b : List (List UInt8)) (i j : Nat) (hi : i < a.length) (hj : j < b.length) (h : a[i] = b[j]) : lcsT a b i j = lcsT a b (i + 1) (j + 1) + 1 := by
  unfold lcsT
  rw [List.drop_eq_getElem_cons hi, List.drop_eq_getElem_cons hj, lcs_cons, if_pos h]
  rfl
theorem lcsT_ne (a b : List (List UInt8)) (i j : Nat) (hi : i < a.length) (hj : j < b.length) (h : ¬a[i] = b[j]) : lcsT a b i j = max (lcsT a b (i + 1) j) (lcsT a b i (j + 1)) := by
  unfold lcsT
  have e := lcs_cons a[i] b[j] (a.drop (i + 1)) (b.drop (j + 1))
  rw [if_neg h, ← List.drop_eq_getElem_cons hi, ← List.drop_eq_getElem_cons hj] at e
  rw [e]
  omega
theorem lcsT_max (a b : List (List UInt8)) (i j : Nat) (hi : i < a.length) (hj : j < b.length) : max (lcsT a b (i + 1) j) (lcsT a b i (j + 1)) ≤ lcsT a b (i + 1) (j + 1) + 1 := by
  unfold lcsT
  have h1 := (lcs_step (a.drop (i + 1)) (b.drop (j + 1))).2 b[j]
  have h2 := (lcs_step (a.drop (i + 1)) (b.drop (j + 1))).1 a[i]
  rw [← List.drop_eq_getElem_cons hj] at h1
  rw [← List.drop_eq_getElem_cons hi] at h2
  omega
theorem Sub_tab {ty : TypeId} {nms : Nat → Int} {cont : Nat → List PV} {k : Nat} {T : Int} {o : PObj} (hi : Inj nms k) (hT : ∀ j, j < k → nms j ≠ T) : Sub ((T, o) :: rowsH ty nms cont k) ((T, o) :: rowsH ty nms cont k) := by
  refine Sub_refl ?_
  show (T :: names (rowsH ty nms cont k)).Nodup
  refine List.nodup_cons.2 ⟨fun h => ?_, rowsH_nodup hi⟩
  obtain ⟨i, hi, e⟩ := rowsH_names.1 h
  exact hT i hi e
theorem Sub_eq {H H' : Heap} (h : H = H') (hs : Sub H' H') : Sub H' H := by
  rw [h]
  exact hs
set_option maxRecDepth 100000 in
set_option maxHeartbeats 4000000 in
theorem common_r (G : Globs) (a b : List (List UInt8)) (ha : a.length ≤ 4000000) (hb : b.length ≤ 4000000) :
    PCalls Tryd.prog G 54 [.list 1 (a.map pstr), .list 1 (b.map pstr)] [] (fun res H => ∃ (T : Int) (nms : Nat → Int), Inj nms (a.length + 1) ∧ (∀ j, j < a.length + 1 → nms j ≠ T) ∧ res = .row T 1 (a.length + 1) ∧
      H = (T, ⟨22, true, 1, tblV (b.length + 1) (a.length + 1) nms⟩) :: rowsH 3 nms (rowV b.length (lcsT a b)) (a.length + 1)) := by
  (refine PCalls_f Tryd.func54 rfl Tryd.ntmps54 Tryd.results54 (by simp) fun fin hfin => ?_; have hnm : True := trivial; simp only [ev, simprocAttr])
  repeat' (first
    | (with_reducible apply W_seq_k; intro nx hnx)
    | (with_reducible first | refine wr 499 ?_ | refine wd (id := 12) 499 1 (.op 0 true (.op 1 true (.op 2 true (.op 3 true (.op 4 true (.op 5 true (.op 6 true (.op 7 true (.op 8 true (.op 9 true (.op 10 true (.op 11 true (.op 12 true (.op 13 true (.op 14 true (.op 15 true (.op 16 true (.op 17 true (.op 18 true (.op 19 true (.op 20 true (.op 21 true (.op 22 true (.op 23 false (.done))))))))))))))))))))))))) (by kernel_rfl) ?_ | refine wd (id := 13) 499 1 (.op 0 true (.op 1 true (.op 2 true (.op 3 true (.op 4 true (.op 5 true (.op 6 true (.op 7 true (.op 8 true (.done)))))))))) (by kernel_rfl) ?_ | refine wd (id := 14) 499 1 (.op 0 true (.op 1 true (.op 2 true (.op 3 true (.op 4 true (.op 5 true (.op 6 true (.op 7 true (.op 8 true (.op 9 true (.op 10 true (.op 11 true (.op 12 true (.op 13 true (.op 14 true (.op 15 true (.op 16 true (.op 17 true (.op 18 true (.op 19 true (.op 20 true (.op 21 true (.op 22 true (.op 23 true (.op 24 false (.done)))))))))))))))))))))))))) (by kernel_rfl) ?_)
    | ((with_reducible first | (apply WL_op; intro nx hnx) | refine Ev_out ?_ | refine wc ?_ | (apply popsD_op; intro nx hnx) | (refine popsD_alt ?_ ?_; intro nx hnx) | (refine pf hnm fun nm hnm => ?_; try simp only [fmb] at hnm) | (refine pm hnm fun nm hnm => ?_; try simp only [fmb] at hnm) | (refine pmaybe_k ?_; intro bn hbn)); try (simp (maxSteps := 2000000) (disch := omega) only [ev, ↓evp, PV.cells, PV.one, PV.mem?, Value.cells, simprocAttr, hnm, Tryd.tf0, Tryd.tf1, Tryd.tf3, Tryd.tf4, Tryd.tf9, Tryd.tf22, Tryd.tf24, Tryd.tf84]))
    | ((with_reducible first | apply W_block | apply W_scope | apply WL_nil | apply W_label | apply W_skip | apply W_exit | apply W_ret | apply popsD_done | exact popsD_stop) <;> try simp only [kks, simprocAttr])
    | (with_reducible apply pg <;> (intro hc; (try simp only [hcb, simprocAttr, ne_eq, forall_const] at hc); first | (exfalso; omega) | exact absurd trivial hc | skip))
    | (with_reducible apply hnx; clear hnx nx)
    | (with_reducible refine And.intro (by omega) ?_)
    | (with_reducible refine And.intro ?_ ?_)
    | (clear hnx nx; with_reducible apply hnx; clear hnx nx)
    | (clear hnx nx; clear hnx nx; with_reducible apply hnx; clear hnx nx))
  refine W_adopt_f 5 22 1 (by simp only [fr_getD_cons, Nat.reduceEqDiff, Nat.reduceLT, ↓reduceIte]) fun nm0 _ => ?_
  refine W_loop_k (fun k τ => ∃ (i : Nat) (T : Int) (nms : Nat → Int), i ≤ a.length + 1 ∧ k = a.length + 1 - i ∧ Inj nms i ∧ (∀ j, j < i → nms j ≠ T) ∧
      τ = ⟨fr 93 [(0, .list 1 (a.map pstr)), (1, .list 1 (b.map pstr)), (5, .row T 1 i), (6, pint .i64 i)], (T, ⟨22, true, 1, tblV (b.length + 1) i nms⟩) :: rowsH 3 nms (rowV b.length fun _ _ => 0) i⟩) (a.length + 1)
    ⟨fr 93 [(0, .list 1 (a.map pstr)), (1, .list 1 (b.map pstr)), (5, .row nm0 1 0), (6, pint .i64 (0 : Nat))], [(nm0, ⟨22, true, 1, []⟩)]⟩ (by exact Wk_fr (by simp only [wkb, simprocAttr]) ⟨by simp, by simp [names]⟩)
    ⟨0, nm0, fun _ => 0, by omega, by omega, fun i j h => by omega, fun j h => by omega, by simp [tab, rowsH]⟩ ?_
  rintro k τ ⟨i, T, nms, hi, rfl, hinj, hT, rfl⟩ lp hlp
  repeat' (first
    | (with_reducible apply W_seq_k; intro nx hnx)
    | (with_reducible first | refine wr 499 ?_ | refine wd (id := 12) 499 1 (.op 0 true (.op 1 true (.op 2 true (.op 3 true (.op 4 true (.op 5 true (.op 6 true (.op 7 true (.op 8 true (.op 9 true (.op 10 true (.op 11 true (.op 12 true (.op 13 true (.op 14 true (.op 15 true (.op 16 true (.op 17 true (.op 18 true (.op 19 true (.op 20 true (.op 21 true (.op 22 true (.op 23 false (.done))))))))))))))))))))))))) (by kernel_rfl) ?_ | refine wd (id := 13) 499 1 (.op 0 true (.op 1 true (.op 2 true (.op 3 true (.op 4 true (.op 5 true (.op 6 true (.op 7 true (.op 8 true (.done)))))))))) (by kernel_rfl) ?_ | refine wd (id := 14) 499 1 (.op 0 true (.op 1 true (.op 2 true (.op 3 true (.op 4 true (.op 5 true (.op 6 true (.op 7 true (.op 8 true (.op 9 true (.op 10 true (.op 11 true (.op 12 true (.op 13 true (.op 14 true (.op 15 true (.op 16 true (.op 17 true (.op 18 true (.op 19 true (.op 20 true (.op 21 true (.op 22 true (.op 23 true (.op 24 false (.done)))))))))))))))))))))))))) (by kernel_rfl) ?_)
    | ((with_reducible first | (apply WL_op; intro nx hnx) | refine Ev_out ?_ | refine wc ?_ | (apply popsD_op; intro nx hnx) | (refine popsD_alt ?_ ?_; intro nx hnx) | (refine pf hnm fun nm hnm => ?_; try simp only [fmb] at hnm) | (refine pm hnm fun nm hnm => ?_; try simp only [fmb] at hnm) | (refine pmaybe_k ?_; intro bn hbn)); try (simp (maxSteps := 2000000) (disch := omega) only [ev, ↓evp, PV.cells, PV.one, PV.mem?, Value.cells, simprocAttr, hnm, Tryd.tf0, Tryd.tf1, Tryd.tf3, Tryd.tf4, Tryd.tf9, Tryd.tf22, Tryd.tf24, Tryd.tf84, tab_rep, tab_len]))
    | ((with_reducible first | apply W_block | apply W_scope | apply WL_nil | apply W_label | apply W_skip | apply W_exit | apply W_ret | apply popsD_done | exact popsD_stop) <;> try simp only [kks, simprocAttr])
    | (with_reducible apply pg <;> (intro hc; (try simp only [hcb, simprocAttr, ne_eq, forall_const] at hc); first | (exfalso; omega) | exact absurd trivial hc | skip))
    | (with_reducible apply hnx; clear hnx nx)
    | (with_reducible refine And.intro (by omega) ?_)
    | (with_reducible refine And.intro ?_ ?_)
    | (clear hnx nx; with_reducible apply hnx; clear hnx nx)
    | (clear hnx nx; clear hnx nx; with_reducible apply hnx; clear hnx nx))
  · rename_i nR hR nS hS
    obtain ⟨⟨⟨_, hRr⟩, _⟩, _, ⟨hmR, _⟩, hmr⟩ := hnm
    have hRr' : ∀ j, j < i → nms j ≠ nR := fun j hj => of_eq_false (hRr _ (rowsH_names.2 ⟨j, hj, rfl⟩)).2
    have hmr' : ∀ j, j < i → nms j ≠ nm := fun j hj => of_eq_false (hmr _ (rowsH_names.2 ⟨j, hj, rfl⟩)).2
    have hinj' := hinj.more hRr'
    have hT' : ∀ j, j < i + 1 → (if j = i then nR else nms j) ≠ nm := fun j hj => by
      split
      · exact fun e => of_eq_false hmR e.symm
      · exact hmr' j (by omega)
    refine hlp _ (a.length + 1 - (i + 1)) _ (by omega) ?_ ⟨i + 1, nm, fun j => if j = i then nR else nms j, by omega, rfl, hinj', hT', rfl⟩
    have e1 : tblV (b.length + 1) (i + 1) (fun j => if j = i then nR else nms j) = tblV (b.length + 1) i nms ++ [.row nR 1 (b.length + 1)] := by
      have := tab_push i fun j => PV.row (if j = i then nR else nms j) 1 (b.length + 1)
      simp only [if_true] at this
      rw [tblV, ← this]
      congr 1
      exact tab_congr fun j hj => by rw [if_neg (by omega)]
    have e2 : rowsH 3 (fun j => if j = i then nR else nms j) (rowV b.length fun _ _ => 0) (i + 1) = (nR, ⟨3, true, 1, rowV b.length (fun _ _ => 0) i⟩) :: rowsH 3 nms (rowV b.length fun _ _ => 0) i := by
      rw [rowsH_succ, if_pos rfl]
      congr 1
      exact rowsH_congr fun j hj => ⟨by rw [if_neg (by omega)], rfl⟩
    refine Wk_fr (by simp only [wkb, simprocAttr]) ?_
    refine ⟨fun x hx => ?_, (Sub_tab (o := default) hinj' hT').2⟩
    rw [e1, e2] at hx
    rcases List.mem_cons.1 hx with rfl | hx
    · exact List.mem_cons_self
    · exact List.mem_cons_of_mem _ (List.mem_cons_of_mem _ hx)
  · have hi' : i = a.length + 1 := by omega
    subst hi'
    refine W_loop_k (fun k τ => ∃ (z : Int) (V : Nat → Nat → Int), -1 ≤ z ∧ z < a.length ∧ k = (z + 1).toNat ∧ (∀ i j, i ≤ a.length → j ≤ b.length → V i j = if z < i then lcsT a b i j else 0) ∧
        τ = ⟨fr 93 [(0, .list 1 (a.map pstr)), (1, .list 1 (b.map pstr)), (5, .row T 1 (a.length + 1)), (7, pint .i64 z)], (T, ⟨22, true, 1, tblV (b.length + 1) (a.length + 1) nms⟩) :: rowsH 3 nms (rowV b.length V) (a.length + 1)⟩) a.length
      ⟨fr 93 [(0, .list 1 (a.map pstr)), (1, .list 1 (b.map pstr)), (5, .row T 1 (a.length + 1)), (7, pint .i64 ((a.length : Int) - 1))], (T, ⟨22, true, 1, tblV (b.length + 1) (a.length + 1) nms⟩) :: rowsH 3 nms (rowV b.length fun _ _ => 0) (a.length + 1)⟩ (by exact Wk_fr (by simp only [wkb, simprocAttr]) (Sub_tab hinj hT))
      ⟨a.length - 1, fun _ _ => 0, by omega, by omega, by omega, fun i j hi hj => by
        split
        · rw [lcsT_end a b i j (by omega)]
        · rfl, rfl⟩ ?_
    rintro k τ ⟨z, V, hz1, hz2, rfl, hV, rfl⟩ lp hlp
    by_cases hz : 0 ≤ z
    · obtain ⟨i, rfl⟩ : ∃ i : Nat, z = i := ⟨z.toNat, by omega⟩
      repeat' (first
    | (with_reducible apply W_seq_k; intro nx hnx)
    | (with_reducible first | refine wr 499 ?_ | refine wd (id := 12) 499 1 (.op 0 true (.op 1 true (.op 2 true (.op 3 true (.op 4 true (.op 5 true (.op 6 true (.op 7 true (.op 8 true (.op 9 true (.op 10 true (.op 11 true (.op 12 true (.op 13 true (.op 14 true (.op 15 true (.op 16 true (.op 17 true (.op 18 true (.op 19 true (.op 20 true (.op 21 true (.op 22 true (.op 23 false (.done))))))))))))))))))))))))) (by kernel_rfl) ?_ | refine wd (id := 13) 499 1 (.op 0 true (.op 1 true (.op 2 true (.op 3 true (.op 4 true (.op 5 true (.op 6 true (.op 7 true (.op 8 true (.done)))))))))) (by kernel_rfl) ?_ | refine wd (id := 14) 499 1 (.op 0 true (.op 1 true (.op 2 true (.op 3 true (.op 4 true (.op 5 true (.op 6 true (.op 7 true (.op 8 true (.op 9 true (.op 10 true (.op 11 true (.op 12 true (.op 13 true (.op 14 true (.op 15 true (.op 16 true (.op 17 true (.op 18 true (.op 19 true (.op 20 true (.op 21 true (.op 22 true (.op 23 true (.op 24 false (.done)))))))))))))))))))))))))) (by kernel_rfl) ?_)
    | ((with_reducible first | (apply WL_op; intro nx hnx) | refine Ev_out ?_ | refine wc ?_ | (apply popsD_op; intro nx hnx) | (refine popsD_alt ?_ ?_; intro nx hnx) | (refine pf hnm fun nm hnm => ?_; try simp only [fmb] at hnm) | (refine pm hnm fun nm hnm => ?_; try simp only [fmb] at hnm) | (refine pmaybe_k ?_; intro bn hbn)); try (simp (maxSteps := 2000000) (disch := omega) only [ev, ↓evp, PV.cells, PV.one, PV.mem?, Value.cells, simprocAttr, hnm, Tryd.tf0, Tryd.tf1, Tryd.tf3, Tryd.tf4, Tryd.tf9, Tryd.tf22, Tryd.tf24, Tryd.tf84, tab_rep, tab_len]))
    | ((with_reducible first | apply W_block | apply W_scope | apply WL_nil | apply W_label | apply W_skip | apply W_exit | apply W_ret | apply popsD_done | exact popsD_stop) <;> try simp only [kks, simprocAttr])
    | (with_reducible apply pg <;> (intro hc; (try simp only [hcb, simprocAttr, ne_eq, forall_const] at hc); first | (exfalso; omega) | exact absurd trivial hc | skip))
    | (with_reducible apply hnx; clear hnx nx)
    | (with_reducible refine And.intro (by omega) ?_)
    | (with_reducible refine And.intro ?_ ?_)
    | (clear hnx nx; with_reducible apply hnx; clear hnx nx)
    | (clear hnx nx; clear hnx nx; with_reducible apply hnx; clear hnx nx))
      refine W_loop_k (fun k τ => ∃ (y : Int) (V : Nat → Nat → Int), -1 ≤ y ∧ y < b.length ∧ k = (y + 1).toNat ∧ (∀ i' j, i' ≤ a.length → j ≤ b.length → V i' j = if i < i' ∨ (i = i' ∧ y < j) then lcsT a b i' j else 0) ∧
        τ = ⟨fr 93 [(0, .list 1 (a.map pstr)), (1, .list 1 (b.map pstr)), (5, .row T 1 (a.length + 1)), (7, pint .i64 i), (8, pint .i64 y)], (T, ⟨22, true, 1, tblV (b.length + 1) (a.length + 1) nms⟩) :: rowsH 3 nms (rowV b.length V) (a.length + 1)⟩) b.length
        ⟨fr 93 [(0, .list 1 (a.map pstr)), (1, .list 1 (b.map pstr)), (5, .row T 1 (a.length + 1)), (7, pint .i64 i), (8, pint .i64 ((b.length : Int) - 1))], (T, ⟨22, true, 1, tblV (b.length + 1) (a.length + 1) nms⟩) :: rowsH 3 nms (rowV b.length V) (a.length + 1)⟩ (by exact Wk_fr (by simp only [wkb, simprocAttr]) (Sub_tab hinj hT))
        ⟨b.length - 1, V, by omega, by omega, by omega, fun i' j hi' hj => by
          rw [hV i' j hi' hj]
          by_cases h1 : i < i'
          · rw [if_pos (by omega), if_pos (by omega)]
          · rw [if_neg (by omega)]
            split
            · rw [lcsT_end a b i' j (by omega)]
            · rfl, rfl⟩ ?_
      clear hV V
      rintro k τ ⟨y, V, hy1, hy2, rfl, hV, rfl⟩ lp2 hlp2
      by_cases hy : 0 ≤ y
      · obtain ⟨j, rfl⟩ : ∃ j : Nat, y = j := ⟨y.toNat, by omega⟩
        have hT' : ∀ q, q < a.length + 1 → (T = nms q) = False := fun q hq => by
          have := hT q hq
          simp only [eq_iff_iff, iff_false]
          exact fun e => this e.symm
        have hV1 := lcsT_le a b (i + 1) (j + 1)
        rw [← (show V (i + 1) (j + 1) = lcsT a b (i + 1) (j + 1) by rw [hV _ _ (by omega) (by omega), if_pos (by omega)])] at hV1
        have hVs : V (i + 1) j = lcsT a b (i + 1) j ∧ V i (j + 1) = lcsT a b i (j + 1) ∧ V (i + 1) (j + 1) = lcsT a b (i + 1) (j + 1) :=
          ⟨by rw [hV _ _ (by omega) (by omega), if_pos (by omega)], by rw [hV _ _ (by omega) (by omega), if_pos (by omega)], by rw [hV _ _ (by omega) (by omega), if_pos (by omega)]⟩
        have hfit : ∀ X : Int, X = lcsT a b i j → ∀ i' j', i' ≤ a.length → j' ≤ b.length → (if i' = i ∧ j' = j then X else V i' j') = if i < i' ∨ (i = i' ∧ (j : Int) - 1 < (j' : Int)) then lcsT a b i' j' else 0 := by
          intro X hX i' j' hi' hj'
          by_cases h : i' = i ∧ j' = j
          · obtain ⟨rfl, rfl⟩ := h
            rw [if_pos ⟨rfl, rfl⟩, if_pos (by omega), hX]
          · rw [if_neg h, hV i' j' hi' hj']
            by_cases h2 : i < i' ∨ (i = i' ∧ (j : Int) < (j' : Int))
            · rw [if_pos h2, if_pos (by omega)]
            · rw [if_neg h2, if_neg (by omega)]
        repeat' (first
    | (with_reducible apply W_seq_k; intro nx hnx)
    | (with_reducible first | refine wr 499 ?_ | refine wd (id := 12) 499 1 (.op 0 true (.op 1 true (.op 2 true (.op 3 true (.op 4 true (.op 5 true (.op 6 true (.op 7 true (.op 8 true (.op 9 true (.op 10 true (.op 11 true (.op 12 true (.op 13 true (.op 14 true (.op 15 true (.op 16 true (.op 17 true (.op 18 true (.op 19 true (.op 20 true (.op 21 true (.op 22 true (.op 23 false (.done))))))))))))))))))))))))) (by kernel_rfl) ?_ | refine wd (id := 13) 499 1 (.op 0 true (.op 1 true (.op 2 true (.op 3 true (.op 4 true (.op 5 true (.op 6 true (.op 7 true (.op 8 true (.done)))))))))) (by kernel_rfl) ?_ | refine wd (id := 14) 499 1 (.op 0 true (.op 1 true (.op 2 true (.op 3 true (.op 4 true (.op 5 true (.op 6 true (.op 7 true (.op 8 true (.op 9 true (.op 10 true (.op 11 true (.op 12 true (.op 13 true (.op 14 true (.op 15 true (.op 16 true (.op 17 true (.op 18 true (.op 19 true (.op 20 true (.op 21 true (.op 22 true (.op 23 true (.op 24 false (.done)))))))))))))))))))))))))) (by kernel_rfl) ?_)
    | ((with_reducible first | (apply WL_op; intro nx hnx) | refine Ev_out ?_ | refine wc ?_ | (apply popsD_op; intro nx hnx) | (refine popsD_alt ?_ ?_; intro nx hnx) | (refine pf hnm fun nm hnm => ?_; try simp only [fmb] at hnm) | (refine pm hnm fun nm hnm => ?_; try simp only [fmb] at hnm) | (refine pmaybe_k ?_; intro bn hbn)); try (simp (maxSteps := 2000000) (disch := omega) only [ev, ↓evp, PV.cells, PV.one, PV.mem?, Value.cells, simprocAttr, hnm, Tryd.tf0, Tryd.tf1, Tryd.tf3, Tryd.tf4, Tryd.tf9, Tryd.tf22, Tryd.tf24, Tryd.tf84, tab_rep, tab_len, tab_get, tab_set, tab_set1, hT', look_rowsH hinj, upd_rowsH hinj, add_one_ne, ne_add_one]))
    | ((with_reducible first | apply W_block | apply W_scope | apply WL_nil | apply W_label | apply W_skip | apply W_exit | apply W_ret | apply popsD_done | exact popsD_stop) <;> try simp only [kks, simprocAttr])
    | (with_reducible apply pg <;> (intro hc; (try simp only [hcb, simprocAttr, ne_eq, forall_const] at hc); first | (exfalso; omega) | exact absurd trivial hc | skip))
    | (with_reducible apply hnx; clear hnx nx)
    | (with_reducible refine And.intro (by omega) ?_)
    | (with_reducible refine And.intro ?_ ?_)
    | (clear hnx nx; with_reducible apply hnx; clear hnx nx)
    | (clear hnx nx; clear hnx nx; with_reducible apply hnx; clear hnx nx))
        · have hX : max (max (V (i + 1) j) (V i (j + 1))) (V (i + 1) (j + 1) + 1) = lcsT a b i j := by
            have h1 := lcsT_eq a b i j (by omega) (by omega) hc
            have h2 := lcsT_max a b i j (by omega) (by omega)
            omega
          refine hlp2 _ _ _ (by omega) ?_ ⟨(j : Int) - 1, fun i' j' => if i' = i ∧ j' = j then max (max (V (i + 1) j) (V i (j + 1))) (V (i + 1) (j + 1) + 1) else V i' j', by omega, by omega, rfl, hfit _ hX, rfl⟩
          refine Wk_fr (by simp only [wkb, simprocAttr]) ?_
          exact Sub_eq (congrArg _ (rowsH_congr fun q hq => ⟨rfl, by
            by_cases h : q = i
            · subst h
              simp only [if_true]
              exact tab_congr fun t _ => by by_cases h2 : t = j <;> simp [h2]
            · simp only [h, if_false]
              exact tab_congr fun t _ => by simp [h]⟩)) (Sub_tab hinj hT)
        · have hX : max (V (i + 1) j) (V i (j + 1)) = lcsT a b i j := by
            have h1 := lcsT_ne a b i j (by omega) (by omega) hc
            omega
          refine hlp2 _ _ _ (by omega) ?_ ⟨(j : Int) - 1, fun i' j' => if i' = i ∧ j' = j then max (V (i + 1) j) (V i (j + 1)) else V i' j', by omega, by omega, rfl, hfit _ hX, rfl⟩
          refine Wk_fr (by simp only [wkb, simprocAttr]) ?_
          exact Sub_eq (congrArg _ (rowsH_congr fun q hq => ⟨rfl, by
            by_cases h : q = i
            · subst h
              simp only [if_true]
              exact tab_congr fun t _ => by by_cases h2 : t = j <;> simp [h2]
            · simp only [h, if_false]
              exact tab_congr fun t _ => by simp [h]⟩)) (Sub_tab hinj hT)
      · repeat' (first
    | (with_reducible apply W_seq_k; intro nx hnx)
    | (with_reducible first | refine wr 499 ?_ | refine wd (id := 12) 499 1 (.op 0 true (.op 1 true (.op 2 true (.op 3 true (.op 4 true (.op 5 true (.op 6 true (.op 7 true (.op 8 true (.op 9 true (.op 10 true (.op 11 true (.op 12 true (.op 13 true (.op 14 true (.op 15 true (.op 16 true (.op 17 true (.op 18 true (.op 19 true (.op 20 true (.op 21 true (.op 22 true (.op 23 false (.done))))))))))))))))))))))))) (by kernel_rfl) ?_ | refine wd (id := 13) 499 1 (.op 0 true (.op 1 true (.op 2 true (.op 3 true (.op 4 true (.op 5 true (.op 6 true (.op 7 true (.op 8 true (.done)))))))))) (by kernel_rfl) ?_ | refine wd (id := 14) 499 1 (.op 0 true (.op 1 true (.op 2 true (.op 3 true (.op 4 true (.op 5 true (.op 6 true (.op 7 true (.op 8 true (.op 9 true (.op 10 true (.op 11 true (.op 12 true (.op 13 true (.op 14 true (.op 15 true (.op 16 true (.op 17 true (.op 18 true (.op 19 true (.op 20 true (.op 21 true (.op 22 true (.op 23 true (.op 24 false (.done)))))))))))))))))))))))))) (by kernel_rfl) ?_)
    | ((with_reducible first | (apply WL_op; intro nx hnx) | refine Ev_out ?_ | refine wc ?_ | (apply popsD_op; intro nx hnx) | (refine popsD_alt ?_ ?_; intro nx hnx) | (refine pf hnm fun nm hnm => ?_; try simp only [fmb] at hnm) | (refine pm hnm fun nm hnm => ?_; try simp only [fmb] at hnm) | (refine pmaybe_k ?_; intro bn hbn)); try (simp (maxSteps := 2000000) (disch := omega) only [ev, ↓evp, PV.cells, PV.one, PV.mem?, Value.cells, simprocAttr, hnm, Tryd.tf0, Tryd.tf1, Tryd.tf3, Tryd.tf4, Tryd.tf9, Tryd.tf22, Tryd.tf24, Tryd.tf84, tab_rep, tab_len]))
    | ((with_reducible first | apply W_block | apply W_scope | apply WL_nil | apply W_label | apply W_skip | apply W_exit | apply W_ret | apply popsD_done | exact popsD_stop) <;> try simp only [kks, simprocAttr])
    | (with_reducible apply pg <;> (intro hc; (try simp only [hcb, simprocAttr, ne_eq, forall_const] at hc); first | (exfalso; omega) | exact absurd trivial hc | skip))
    | (with_reducible apply hnx; clear hnx nx)
    | (with_reducible refine And.intro (by omega) ?_)
    | (with_reducible refine And.intro ?_ ?_)
    | (clear hnx nx; with_reducible apply hnx; clear hnx nx)
    | (clear hnx nx; clear hnx nx; with_reducible apply hnx; clear hnx nx))
        refine hlp _ _ _ (by omega) ?_ ⟨(i : Int) - 1, V, by omega, by omega, rfl, ?_, rfl⟩
        · exact Wk_fr (by simp only [wkb, simprocAttr]) (Sub_tab hinj hT)
        · intro i' j hi' hj
          rw [hV i' j hi' hj]
          by_cases h : i ≤ i'
          · rw [if_pos (by omega), if_pos (by omega)]
          · rw [if_neg (by omega), if_neg (by omega)]
    · repeat' (first
    | (with_reducible apply W_seq_k; intro nx hnx)
    | (with_reducible first | refine wr 499 ?_ | refine wd (id := 12) 499 1 (.op 0 true (.op 1 true (.op 2 true (.op 3 true (.op 4 true (.op 5 true (.op 6 true (.op 7 true (.op 8 true (.op 9 true (.op 10 true (.op 11 true (.op 12 true (.op 13 true (.op 14 true (.op 15 true (.op 16 true (.op 17 true (.op 18 true (.op 19 true (.op 20 true (.op 21 true (.op 22 true (.op 23 false (.done))))))))))))))))))))))))) (by kernel_rfl) ?_ | refine wd (id := 13) 499 1 (.op 0 true (.op 1 true (.op 2 true (.op 3 true (.op 4 true (.op 5 true (.op 6 true (.op 7 true (.op 8 true (.done)))))))))) (by kernel_rfl) ?_ | refine wd (id := 14) 499 1 (.op 0 true (.op 1 true (.op 2 true (.op 3 true (.op 4 true (.op 5 true (.op 6 true (.op 7 true (.op 8 true (.op 9 true (.op 10 true (.op 11 true (.op 12 true (.op 13 true (.op 14 true (.op 15 true (.op 16 true (.op 17 true (.op 18 true (.op 19 true (.op 20 true (.op 21 true (.op 22 true (.op 23 true (.op 24 false (.done)))))))))))))))))))))))))) (by kernel_rfl) ?_)
    | ((with_reducible first | (apply WL_op; intro nx hnx) | refine Ev_out ?_ | refine wc ?_ | (apply popsD_op; intro nx hnx) | (refine popsD_alt ?_ ?_; intro nx hnx) | (refine pf hnm fun nm hnm => ?_; try simp only [fmb] at hnm) | (refine pm hnm fun nm hnm => ?_; try simp only [fmb] at hnm) | (refine pmaybe_k ?_; intro bn hbn)); try (simp (maxSteps := 2000000) (disch := omega) only [ev, ↓evp, PV.cells, PV.one, PV.mem?, Value.cells, simprocAttr, hnm, Tryd.tf0, Tryd.tf1, Tryd.tf3, Tryd.tf4, Tryd.tf9, Tryd.tf22, Tryd.tf24, Tryd.tf84, tab_rep, tab_len]))
    | ((with_reducible first | apply W_block | apply W_scope | apply WL_nil | apply W_label | apply W_skip | apply W_exit | apply W_ret | apply popsD_done | exact popsD_stop) <;> try simp only [kks, simprocAttr])
    | (with_reducible apply pg <;> (intro hc; (try simp only [hcb, simprocAttr, ne_eq, forall_const] at hc); first | (exfalso; omega) | exact absurd trivial hc | skip))
    | (with_reducible apply hnx; clear hnx nx)
    | (with_reducible refine And.intro (by omega) ?_)
    | (with_reducible refine And.intro ?_ ?_)
    | (clear hnx nx; with_reducible apply hnx; clear hnx nx)
    | (clear hnx nx; clear hnx nx; with_reducible apply hnx; clear hnx nx))
      refine hfin _ _ (Fin_ret1 rfl (Sub_tab hinj hT) ?_); simp only [cob, simprocAttr]
      refine ⟨T, nms, hinj, hT, rfl, congrArg _ (rowsH_congr fun q hq => ⟨rfl, tab_congr fun t ht => ?_⟩)⟩
      rw [hV q t (by omega) (by omega), if_pos (by omega)]
/-- The table, as a list of lists. -/
@[reducible] def tblL (a b : List (List UInt8)) : PV := .list 1 (tab (a.length + 1) fun i => .list 1 (tab (b.length + 1) fun j => pint .i64 (lcsT a b i j)))
theorem common_c (G : Globs) (a b : List (List UInt8)) (ha : a.length ≤ 4000000) (hb : b.length ≤ 4000000) :
    PCalls Tryd.prog G 54 [.list 1 (a.map pstr), .list 1 (b.map pstr)] [] (fun res H => res = tblL a b ∧ H = []) := by
  refine (common_r G a b ha hb).px fun res H hR => ?_
  obtain ⟨T, nms, hinj, hT, rfl, rfl⟩ := hR
  exact ⟨_, _, Px_table hinj hT (fun i hi => tab_len _ _) (fun i hi p hp => by obtain ⟨j, _, rfl⟩ := tab_mem.1 hp; rfl) (fun i hi p hp => by obtain ⟨j, _, rfl⟩ := tab_mem.1 hp; rfl), rfl, rfl⟩
end Go.PM

namespace Go.PM
section
variable {G : Globs}
/-- The cells of changes, one after the other. -/
def flatC (l : List Chg) : List PV := l.flatMap fun c => [pint .i64 c.at_, pint .i64 c.drop, .list 1 (c.add.map pstr)]
theorem flatC_nil : flatC [] = [] := rfl
theorem flatC_len : ∀ l : List Chg, (flatC l).length = l.length * 3
  | [] => rfl
  | c :: l => by
    have := flatC_len l
    simp only [flatC, List.flatMap_cons, List.length_append, List.length_cons, List.length_nil] at this ⊢
    omega
theorem flatC_snoc (l : List Chg) (c : Chg) : flatC (l ++ [c]) = flatC l ++ [pint .i64 c.at_, pint .i64 c.drop, .list 1 (c.add.map pstr)] := by simp [flatC]
theorem flatC_stab (l : List Chg) : ∀ p ∈ flatC l, stab p = true ∧ p.one = true := by
  intro p hp
  obtain ⟨c, _, hc⟩ := List.mem_flatMap.1 hp
  simp only [List.mem_cons, List.not_mem_nil, or_false] at hc
  rcases hc with rfl | rfl | rfl <;> exact ⟨rfl, rfl⟩
theorem flatC_len3 (l : List Chg) (x y z : PV) : (flatC l ++ [x, y, z]).length = l.length * 3 + 3 := by
  rw [List.length_append, flatC_len]
  rfl
theorem flatC_get1 (l : List Chg) (x y z : PV) : (flatC l ++ [x, y, z])[l.length * 3 + 1]? = some y := by
  rw [List.getElem?_append_right (by rw [flatC_len]; omega), flatC_len, show l.length * 3 + 1 - l.length * 3 = 1 by omega]
  rfl
theorem flatC_get2 (l : List Chg) (x y z : PV) : (flatC l ++ [x, y, z])[l.length * 3 + 2]? = some z := by
  rw [List.getElem?_append_right (by rw [flatC_len]; omega), flatC_len, show l.length * 3 + 2 - l.length * 3 = 2 by omega]
  rfl
theorem flatC_set1 (l : List Chg) (x y z v : PV) : List.take (l.length * 3 + 1) (flatC l ++ [x, y, z]) ++ v :: List.drop (l.length * 3 + 1 + 1) (flatC l ++ [x, y, z]) = flatC l ++ [x, v, z] := by
  rw [List.take_append, List.drop_append, List.take_of_length_le (by rw [flatC_len]; omega), List.drop_of_length_le (by rw [flatC_len]; omega), flatC_len,
    show l.length * 3 + 1 - l.length * 3 = 1 by omega, show l.length * 3 + 1 + 1 - l.length * 3 = 2 by omega]
  simp
theorem flatC_set2 (l : List Chg) (x y z v : PV) : List.take (l.length * 3 + 2) (flatC l ++ [x, y, z]) ++ v :: List.drop (l.length * 3 + 2 + 1) (flatC l ++ [x, y, z]) = flatC l ++ [x, y, v] := by
  rw [List.take_append, List.drop_append, List.take_of_length_le (by rw [flatC_len]; omega), List.drop_of_length_le (by rw [flatC_len]; omega), flatC_len,
    show l.length * 3 + 2 - l.length * 3 = 2 by omega, show l.length * 3 + 2 + 1 - l.length * 3 = 3 by omega]
  simp
theorem flatC_set1a (l : List Chg) (x y z v : PV) : List.take (l.length * 3 + 1) (flatC l ++ [x, y, z]) ++ [v] ++ List.drop (l.length * 3 + 1 + 1) (flatC l ++ [x, y, z]) = flatC l ++ [x, v, z] := by
  rw [← flatC_set1 l x y z v]
  simp
theorem flatC_set2a (l : List Chg) (x y z v : PV) : List.take (l.length * 3 + 2) (flatC l ++ [x, y, z]) ++ [v] ++ List.drop (l.length * 3 + 2 + 1) (flatC l ++ [x, y, z]) = flatC l ++ [x, y, v] := by
  rw [← flatC_set2 l x y z v]
  simp
theorem flatC_put2 (l : List Chg) (x y z v : PV) : (flatC l ++ [x, y, z]).set (l.length * 3 + 2) v = flatC l ++ [x, y, v] := by
  rw [List.set_append_right _ _ (by rw [flatC_len]; omega), flatC_len, show l.length * 3 + 2 - l.length * 3 = 2 by omega]
  rfl
theorem map_frz_flatC (n : Int) (cs : List PV) (l : List Chg) : (flatC l).map (frz1 n cs) = flatC l := by
  conv => rhs; rw [← List.map_id (flatC l)]
  exact List.map_congr_left fun p hp => (stab_frz (flatC_stab l p hp).1 n cs).2
theorem frz1_add {A : Int} (add : List (List UInt8)) : frz1 A (add.map pstr) (.row A 1 add.length) = .list 1 (add.map pstr) := by
  simp only [frz1, if_true, elemsOf, List.length_map]
  rw [if_pos (by omega), List.take_of_length_le (by simp)]
theorem map_frz_rest {n : Int} {cs : List PV} : ∀ {rest : Heap}, (∀ x ∈ rest, ∀ u ∈ x.2.cells, stab u = true) → rest.map (fun x => (x.1, { x.2 with cells := x.2.cells.map (frz1 n cs) })) = rest
  | [], _ => rfl
  | (m, o) :: rest, h => by
    rw [List.map_cons, map_frz_rest fun x hx => h x (List.mem_cons_of_mem _ hx)]
    have : o.cells.map (frz1 n cs) = o.cells := by
      conv => rhs; rw [← List.map_id o.cells]
      exact List.map_congr_left fun p hp => (stab_frz (h (m, o) List.mem_cons_self p hp) n cs).2
    simp only [this]
theorem frzH_close {O A : Int} (hOA : O ≠ A) {t1 t2 : TypeId} (cl : List Chg) (at_ drop : Int) (add : List (List UInt8)) {rest : Heap} (hr : ∀ x ∈ rest, ∀ u ∈ x.2.cells, stab u = true) :
    frzH A (add.map pstr) ((O, ⟨t1, true, 3, flatC cl ++ [pint .i64 at_, pint .i64 drop, .row A 1 add.length]⟩) :: (A, ⟨t2, true, 1, add.map pstr⟩) :: rest) = (O, ⟨t1, true, 3, flatC (cl ++ [⟨at_, drop, add⟩])⟩) :: rest := by
  simp only [frzH, del, if_neg hOA, if_true, List.map_cons, List.map_append, map_frz_flatC, frz1_add, List.map_nil]
  rw [map_frz_rest hr, flatC_snoc]
  rfl
theorem frzOk_close {O A : Int} (hOA : O ≠ A) {t1 t2 : TypeId} (cl : List Chg) (at_ drop : Int) (add : List (List UInt8)) {rest : Heap} (hr : ∀ x ∈ rest, ∀ u ∈ x.2.cells, stab u = true ∧ u.one = true) :
    frzOk A (add.map pstr) ((O, ⟨t1, true, 3, flatC cl ++ [pint .i64 at_, pint .i64 drop, .row A 1 add.length]⟩) :: (A, ⟨t2, true, 1, add.map pstr⟩) :: rest) := by
  intro x hx u hu
  simp only [del, if_neg hOA, if_true] at hx
  rcases List.mem_cons.1 hx with rfl | hx
  · rcases List.mem_append.1 hu with hu | hu
    · rw [(stab_frz (flatC_stab cl u hu).1 _ _).2]
      exact (flatC_stab cl u hu).2
    · simp only [List.mem_cons, List.not_mem_nil, or_false] at hu
      rcases hu with rfl | rfl | rfl
      · rfl
      · rfl
      · rw [frz1_add]
        rfl
  · rw [(stab_frz (hr x hx u hu).1 _ _).2]
    exact (hr x hx u hu).2
/-- The added lines of a change are turned no more. -/
theorem Wx_close {N : Nat} {L : List (Nat × PV)} {O A : Int} (hOA : O ≠ A) {t1 t2 : TypeId} (cl : List Chg) (at_ drop : Int) (add : List (List UInt8)) {rest : Heap} (hr : ∀ x ∈ rest, ∀ u ∈ x.2.cells, stab u = true ∧ u.one = true)
    (hL : ∀ x ∈ L, frz A (add.map pstr) x.2 = x.2) :
    Wx G [] ⟨fr N L, (O, ⟨t1, true, 3, flatC cl ++ [pint .i64 at_, pint .i64 drop, .row A 1 add.length]⟩) :: (A, ⟨t2, true, 1, add.map pstr⟩) :: rest⟩ ⟨fr N L, (O, ⟨t1, true, 3, flatC (cl ++ [⟨at_, drop, add⟩])⟩) :: rest⟩ := by
  have h := Wx.freeze_f (G := G) (I := []) (N := N) (l := L) (H := (O, ⟨t1, true, 3, flatC cl ++ [pint .i64 at_, pint .i64 drop, .row A 1 add.length]⟩) :: (A, ⟨t2, true, 1, add.map pstr⟩) :: rest) A (o := ⟨t2, true, 1, add.map pstr⟩) (by simp)
    (by simp only [look, if_neg hOA, if_true]) (frzOk_close hOA cl at_ drop add hr)
  rw [frzH_close hOA cl at_ drop add fun x hx u hu => (hr x hx u hu).1] at h
  have e : L.map (fun x => (x.1, frz A (add.map pstr) x.2)) = L := by
    conv => rhs; rw [← List.map_id L]
    exact List.map_congr_left fun x hx => by rw [hL x hx]; rfl
  simp only [e] at h
  exact h
theorem Px_close {O A : Int} (hOA : O ≠ A) {t1 t2 : TypeId} (k : Nat) (cl : List Chg) (at_ drop : Int) (add : List (List UInt8)) :
    Px G (.row O 3 k) [(O, ⟨t1, true, 3, flatC cl ++ [pint .i64 at_, pint .i64 drop, .row A 1 add.length]⟩), (A, ⟨t2, true, 1, add.map pstr⟩)] (.row O 3 k) [(O, ⟨t1, true, 3, flatC (cl ++ [⟨at_, drop, add⟩])⟩)] := by
  have h := Px.freeze (G := G) (.row O 3 k) ((O, ⟨t1, true, 3, flatC cl ++ [pint .i64 at_, pint .i64 drop, .row A 1 add.length]⟩) :: (A, ⟨t2, true, 1, add.map pstr⟩) :: []) A (o := ⟨t2, true, 1, add.map pstr⟩)
    (by simp only [look, if_neg hOA, if_true]) (frzOk_close hOA cl at_ drop add (by simp))
  rw [frzH_close hOA cl at_ drop add (by simp)] at h
  have e : frz A (add.map pstr) (.row O 3 k) = .row O 3 k := by simp only [frz, frz1, if_neg hOA]
  simp only [e] at h
  exact h
theorem elems_flatC : ∀ (l : List Chg), (List.range l.length).map (fun i => PV.agg (((flatC l).drop (i * 3)).take 3)) = l.map Chg.pv
  | [] => rfl
  | c :: l => by
    rw [List.length_cons, List.range_succ_eq_map, List.map_cons, List.map_cons, List.map_map]
    congr 1
    rw [← elems_flatC l]
    refine List.map_congr_left fun i _ => ?_
    simp only [Function.comp_apply, Nat.succ_eq_add_one]
    rw [show (i + 1) * 3 = i * 3 + 3 by omega]
    show PV.agg (List.take 3 (List.drop (i * 3 + 3) ([pint .i64 c.at_, pint .i64 c.drop, .list 1 (c.add.map pstr)] ++ flatC l))) = _
    rw [List.drop_append]
    simp
/-- A list of changes is handed back. -/
theorem Px_chg {O : Int} {t1 : TypeId} (cl : List Chg) : Px G (.row O 3 cl.length) [(O, ⟨t1, true, 3, flatC cl⟩)] (.list 3 (cl.map Chg.pv)) [] := by
  have h := Px.freeze (G := G) (.row O 3 cl.length) [(O, ⟨t1, true, 3, flatC cl⟩)] O (o := ⟨t1, true, 3, flatC cl⟩) (by simp only [look, if_true]) (by simp [frzOk, del])
  have e : frz O (flatC cl) (.row O 3 cl.length) = .list 3 (cl.map Chg.pv) := by
    simp only [frz, frz1, if_true, elemsOf]
    rw [if_pos (by rw [flatC_len]; omega), if_neg (by omega), elems_flatC]
  simp only [e] at h
  simpa [frzH, del] using h
end
attribute [irreducible] flatC
end Go.PM

namespace Go.PM
open Go.Proofs
attribute [local irreducible] W PCalls pcall pcallI
theorem step_keep {a b : List (List UInt8)} {i j k : Nat} {cur : Option Chg} (hi : i < a.length) (hj : j < b.length) (h : a[i] = b[j]) :
    run (k + 1) i cur (a.drop i) (b.drop j) = cur.toList ++ run k ((i : Int) + 1) none (a.drop (i + 1)) (b.drop (j + 1)) := by
  rw [List.drop_eq_getElem_cons hi, List.drop_eq_getElem_cons hj, run_keep h]
theorem step_drop {a b : List (List UInt8)} {i j k : Nat} {cur : Option Chg} (hi : i < a.length) (h : b.length ≤ j ∨ ∃ hj : j < b.length, ¬ a[i] = b[j] ∧ lcsT a b i (j + 1) ≤ lcsT a b (i + 1) j) :
    run (k + 1) i cur (a.drop i) (b.drop j) = run k ((i : Int) + 1) (some ⟨(cur.getD ⟨i, 0, []⟩).at_, (cur.getD ⟨i, 0, []⟩).drop + 1, (cur.getD ⟨i, 0, []⟩).add⟩) (a.drop (i + 1)) (b.drop j) := by
  rw [List.drop_eq_getElem_cons hi]
  refine run_drop ?_
  rcases h with h | ⟨hj, h1, h2⟩
  · exact .inl (List.drop_of_length_le h)
  · refine .inr ⟨?_, ?_⟩
    · rw [List.drop_eq_getElem_cons hj]
      simp only [heads, decide_eq_false_iff_not]
      exact h1
    · unfold lcsT at h2
      rw [List.tail_drop, ← List.drop_eq_getElem_cons hi]
      omega
theorem step_add {a b : List (List UInt8)} {i j k : Nat} {cur : Option Chg} (hj : j < b.length) (h : a.length ≤ i ∨ ∃ hi : i < a.length, ¬ a[i] = b[j] ∧ ¬ lcsT a b i (j + 1) ≤ lcsT a b (i + 1) j) :
    run (k + 1) i cur (a.drop i) (b.drop j) = run k i (some ⟨(cur.getD ⟨i, 0, []⟩).at_, (cur.getD ⟨i, 0, []⟩).drop, (cur.getD ⟨i, 0, []⟩).add ++ [b[j]]⟩) (a.drop i) (b.drop (j + 1)) := by
  rw [List.drop_eq_getElem_cons hj]
  refine run_add ?_
  rcases h with h | ⟨hi, h1, h2⟩
  · exact .inl (List.drop_of_length_le h)
  · refine .inr ⟨?_, ?_⟩
    · rw [List.drop_eq_getElem_cons hi]
      simp only [heads, decide_eq_false_iff_not]
      exact h1
    · unfold lcsT at h2
      rw [List.tail_drop, ← List.drop_eq_getElem_cons hj]
      omega
/-- The walk of the third loop: what stands at its head. -/
def diffJ (a b : List (List UInt8)) (k : Nat) (τ : PState) : Prop :=
  ∃ (i j k0 : Nat) (cl : List Chg) (O : Int), i ≤ a.length ∧ j ≤ b.length ∧ k = (a.length - i) + (b.length - j) ∧ k ≤ k0 ∧
    ((cl.length ≤ i + j ∧ cl ++ run k0 i none (a.drop i) (b.drop j) = diffL a b ∧
        τ = ⟨fr 198 [(0, .list 1 (a.map pstr)), (1, .list 1 (b.map pstr)), (5, pint .i64 a.length), (6, pint .i64 b.length), (7, tblL a b), (13, .row O 3 cl.length), (14, pbool false), (15, pint .i64 i), (16, pint .i64 j)], [(O, ⟨52, true, 3, flatC cl⟩)]⟩) ∨
      (∃ (A at_ drop : Int) (add : List (List UInt8)), O ≠ A ∧ 0 ≤ drop ∧ drop ≤ i ∧ add.length ≤ j ∧ cl.length + 1 ≤ i + j ∧ cl ++ run k0 i (some ⟨at_, drop, add⟩) (a.drop i) (b.drop j) = diffL a b ∧
        τ = ⟨fr 198 [(0, .list 1 (a.map pstr)), (1, .list 1 (b.map pstr)), (5, pint .i64 a.length), (6, pint .i64 b.length), (7, tblL a b), (13, .row O 3 (cl.length + 1)), (14, pbool true), (15, pint .i64 i), (16, pint .i64 j)],
          [(O, ⟨52, true, 3, flatC cl ++ [pint .i64 at_, pint .i64 drop, .row A 1 add.length]⟩), (A, ⟨9, true, 1, add.map pstr⟩)]⟩))
/-- back to the loop's head, a line was added -/
theorem leaf_add {G : Globs} {a b : List (List UInt8)} {lp : PState → Prop} {k : Nat} (hlp : ∀ σ'' n', n' < k → Wxs G [] σ'' (diffJ a b n') → lp σ'') {l : List (Nat × PV)} {R : Heap} {O A : Int} {X : Int × PObj} {cA cO : List PV}
    (i j k0 : Nat) (cl : List Chg) (at_ drop : Int) (add : List (List UInt8)) (hi : i ≤ a.length) (hj : j ≤ b.length) (hlt : (a.length - i) + (b.length - j) < k) (hk : (a.length - i) + (b.length - j) ≤ k0) (hd0 : 0 ≤ drop) (hd1 : drop ≤ i) (hadd : add.length ≤ j) (hlen : cl.length + 1 ≤ i + j)
    (hrun : cl ++ run k0 i (some ⟨at_, drop, add⟩) (a.drop i) (b.drop j) = diffL a b) (hOA : ¬ A = O)
    (hfr : ∀ x ∈ [(0, PV.list 1 (a.map pstr)), (1, .list 1 (b.map pstr)), (5, pint .i64 a.length), (6, pint .i64 b.length), (7, tblL a b), (13, .row O 3 (cl.length + 1)), (14, pbool true), (15, pint .i64 i), (16, pint .i64 j)], (fr 198 l).getD x.1 .junk = x.2)
    (hcA : cA = add.map pstr) (hcO : cO = flatC cl ++ [pint .i64 at_, pint .i64 drop, .row A 1 add.length]) : lp ⟨fr 198 l, (A, ⟨9, true, 1, cA⟩) :: X :: (O, ⟨52, true, 3, cO⟩) :: R⟩ := by
  subst hcA hcO
  refine hlp _ _ hlt (.of (.of_wk (Wk_fr hfr ⟨?_, ?_⟩)) ⟨i, j, k0, cl, O, hi, hj, rfl, hk, .inr ⟨A, at_, drop, add, fun e => hOA e.symm, hd0, hd1, hadd, hlen, hrun, rfl⟩⟩)
  · intro x hx
    simp only [List.mem_cons, List.not_mem_nil, or_false] at hx ⊢
    rcases hx with rfl | rfl
    · exact .inr (.inr (.inl rfl))
    · exact .inl rfl
  · simp only [names, List.map_cons, List.map_nil]
    simp
    exact fun e => hOA e.symm
/-- back to the loop's head, a line was dropped as the first of a change -/
theorem leaf_drop {G : Globs} {a b : List (List UInt8)} {lp : PState → Prop} {k : Nat} (hlp : ∀ σ'' n', n' < k → Wxs G [] σ'' (diffJ a b n') → lp σ'') {l : List (Nat × PV)} {R : Heap} {O : Int} {cO : List PV}
    (i j k0 : Nat) (cl : List Chg) (at_ drop : Int) (hi : i ≤ a.length) (hj : j ≤ b.length) (hlt : (a.length - i) + (b.length - j) < k) (hk : (a.length - i) + (b.length - j) ≤ k0) (hd0 : 0 ≤ drop) (hd1 : drop ≤ i) (hlen : cl.length + 1 ≤ i + j)
    (hrun : cl ++ run k0 i (some ⟨at_, drop, []⟩) (a.drop i) (b.drop j) = diffL a b)
    (hfr : ∀ x ∈ [(0, PV.list 1 (a.map pstr)), (1, .list 1 (b.map pstr)), (5, pint .i64 a.length), (6, pint .i64 b.length), (7, tblL a b), (13, .row O 3 (cl.length + 1)), (14, pbool true), (15, pint .i64 i), (16, pint .i64 j)], (fr 198 l).getD x.1 .junk = x.2)
    (hcO : cO = flatC cl ++ [pint .i64 at_, pint .i64 drop, pnil]) : lp ⟨fr 198 l, (O, ⟨52, true, 3, cO⟩) :: R⟩ := by
  subst hcO
  refine hlp _ _ hlt (Wxs.adopt_c O (cl.length * 3 + 2) 9 1 (o := ⟨52, true, 3, flatC cl ++ [pint .i64 at_, pint .i64 drop, pnil]⟩) (by simp only [look, if_true]) (flatC_get2 cl _ _ _) fun A hA => ?_)
  simp only [names, List.map_cons, List.mem_cons, not_or] at hA
  simp only [upd, if_true, flatC_put2]
  refine .of (.of_wk (Wk_fr hfr ⟨?_, ?_⟩)) ⟨i, j, k0, cl, O, hi, hj, rfl, hk, .inr ⟨A, at_, drop, [], fun e => hA.1 e.symm, hd0, hd1, by simp, hlen, hrun, rfl⟩⟩
  · intro x hx
    simp only [List.mem_cons, List.not_mem_nil, or_false] at hx ⊢
    rcases hx with rfl | rfl
    · exact .inr (.inl rfl)
    · exact .inl rfl
  · simp only [names, List.map_cons, List.map_nil]
    simp
    exact fun e => hA.1 e.symm
set_option maxRecDepth 100000 in
set_option maxHeartbeats 8000000 in
theorem diff_closed (G : Globs) (a b : List (List UInt8)) (ha : a.length ≤ 4000000) (hb : b.length ≤ 4000000) (i j k0 : Nat) (cl : List Chg) (O : Int) (hi : i ≤ a.length) (hj : j ≤ b.length) (hk : (a.length - i) + (b.length - j) ≤ k0)
    (hlen : cl.length ≤ i + j) (hrun : cl ++ run k0 i none (a.drop i) (b.drop j) = diffL a b) (lp : PState → Prop) (hlp : ∀ σ'' n', n' < (a.length - i) + (b.length - j) → Wxs G [] σ'' (diffJ a b n') → lp σ'') (K : Exit → PState → Prop)
    (hK : ∀ σ', cl = diffL a b → Wk σ' ⟨fr 198 [(13, .row O 3 cl.length)], [(O, ⟨52, true, 3, flatC cl⟩)]⟩ → K (.exit 6) σ') :
    W Tryd.prog G [] (nav (Tryd.f16.body.getD .skip) [1, 1, 1, 1, 1, 1, 1, 0, 1, 0, 0]) ⟨fr 198 [(0, .list 1 (a.map pstr)), (1, .list 1 (b.map pstr)), (5, pint .i64 a.length), (6, pint .i64 b.length), (7, tblL a b), (13, .row O 3 cl.length), (14, pbool false), (15, pint .i64 i), (16, pint .i64 j)], [(O, ⟨52, true, 3, flatC cl⟩)]⟩ (seqK lp K) := by
  simp only [Tryd.f16, Option.getD_some, nav]
  have hnm : True := trivial
  repeat' (first
    | (with_reducible apply W_seq_k; intro nx hnx)
    | (with_reducible first | refine wr 105965634715635 ?_ | refine wd (id := 16) 105965634715635 1 (.op 0 true (.op 1 true (.op 2 true (.op 3 true (.op 4 true (.op 5 true (.op 6 true (.op 7 true (.op 8 true (.done)))))))))) (by kernel_rfl) ?_ | refine wd (id := 17) 105965634715635 1 (.op 0 true (.op 1 true (.op 2 true (.op 3 true (.op 4 true (.op 5 true (.op 6 true (.op 7 true (.op 8 true (.op 9 true (.op 10 true (.op 11 true (.op 12 true (.op 13 true (.op 14 true (.op 15 true (.op 16 false (.done)))))))))))))))))) (by kernel_rfl) ?_ | refine wd (id := 18) 105965634715635 1 (.op 0 true (.op 1 true (.op 2 true (.op 3 true (.op 4 true (.op 5 true (.op 6 true (.op 7 true (.op 8 true (.op 9 true (.op 10 true (.op 11 true (.op 12 true (.op 13 true (.op 14 true (.op 15 true (.op 16 true (.op 17 true (.op 18 true (.op 19 true (.op 20 true (.op 21 true (.op 22 true (.op 23 false (.done))))))))))))))))))))))))) (by kernel_rfl) ?_ | refine wd (id := 25) 105965634715635 1 (.op 0 true (.op 1 true (.op 2 true (.op 3 true (.op 4 true (.op 5 true (.op 6 true (.op 7 true (.op 8 true (.op 9 true (.op 10 true (.op 11 true (.op 12 true (.op 13 true (.op 14 true (.op 15 true (.op 16 true (.op 17 true (.op 18 true (.done)))))))))))))))))))) (by kernel_rfl) ?_ | refine wd (id := 33) 105965634715635 1 (.op 0 true (.op 1 true (.op 2 true (.op 3 true (.op 4 true (.op 5 true (.op 6 true (.op 7 true (.op 8 true (.op 9 true (.op 10 true (.op 11 true (.op 12 true (.op 13 true (.op 14 true (.op 15 true (.op 16 true (.op 17 true (.op 18 true (.op 19 true (.op 20 true (.op 21 true (.op 22 true (.op 23 true (.op 24 true (.op 25 true (.op 26 true (.done)))))))))))))))))))))))))))) (by kernel_rfl) ?_ | refine wd (id := 36) 105965634715635 3 (.op 0 true (.op 1 true (.op 2 true (.op 3 true (.op 4 true (.op 5 true (.op 6 true (.op 7 true (.op 8 true (.op 9 true (.op 10 false (.op 11 true (.op 12 true (.op 13 false (.done))))))))))))))) (by kernel_rfl) ?_)
    | ((with_reducible first | (apply WL_op; intro nx hnx) | refine Ev_out ?_ | refine wc ?_ | (apply popsD_op; intro nx hnx) | (refine popsD_alt ?_ ?_; intro nx hnx) | (refine pf hnm fun nm hnm => ?_; try simp only [fmb] at hnm) | (refine pm hnm fun nm hnm => ?_; try simp only [fmb] at hnm) | (refine pmaybe_k ?_; intro bn hbn)); try (simp (maxSteps := 2000000) (disch := omega) only [ev, ↓evp, PV.cells, PV.one, PV.mem?, Value.cells, simprocAttr, hnm, Tryd.tf0, Tryd.tf1, Tryd.tf2, Tryd.tf3, Tryd.tf4, Tryd.tf9, Tryd.tf22, Tryd.tf24, Tryd.tf48, Tryd.tf52, Tryd.tf84, Tryd.tf85, tab_len, tab_getD, flatC_len, flatC_len3, flatC_get1, flatC_get2, flatC_set1a, flatC_set2a, Nat.add_sub_cancel]))
    | ((with_reducible first | apply W_block | apply W_scope | apply WL_nil | apply W_label | apply W_skip | apply W_exit | apply W_ret | apply popsD_done | exact popsD_stop) <;> try simp only [kks, simprocAttr])
    | (with_reducible apply pg <;> (intro hc; (try simp only [hcb, simprocAttr, ne_eq, forall_const] at hc); first | (exfalso; omega) | exact absurd trivial hc | skip))
    | (with_reducible apply hnx; clear hnx nx)
    | (with_reducible refine And.intro (by omega) ?_)
    | (with_reducible refine And.intro ?_ ?_)
    | (clear hnx nx; with_reducible apply hnx; clear hnx nx)
    | (clear hnx nx; clear hnx nx; with_reducible apply hnx; clear hnx nx))
  all_goals first
    | (have hij : i = a.length ∧ j = b.length := by omega
       refine hK _ ?_ ?_
       · rw [List.drop_of_length_le (by omega), List.drop_of_length_le (by omega), run_end] at hrun
         simpa using hrun
       · exact Wk_fr (by simp only [wkb, simprocAttr]) ⟨by simp, by simp [names]⟩)
    | (have hk1 : k0 = (k0 - 1) + 1 := by omega
       rw [hk1, step_keep (by omega) (by omega) hc] at hrun
       refine hlp _ _ ?_ (.of (.of_wk ?_) ⟨i + 1, j + 1, k0 - 1, cl, O, by omega, by omega, rfl, by omega, .inl ⟨by omega, hrun, rfl⟩⟩)
       · omega
       · exact Wk_fr (by simp only [wkb, simprocAttr]) ⟨by simp, by simp [names]⟩)
    | (have hk1 : k0 = (k0 - 1) + 1 := by omega
       rw [hk1, step_drop (by omega) (by first | exact .inl (by omega) | exact .inr ⟨by omega, by assumption, by omega⟩)] at hrun
       exact leaf_drop hlp (i + 1) j (k0 - 1) cl i 1 (by omega) (by omega) (by omega) (by omega) (by omega) (by omega) (by omega) hrun (by simp only [List.forall_mem_cons, List.not_mem_nil, false_implies, implies_true, and_true, true_and, and_self, fr_getD_cons, fr_getD_nil, Nat.reduceEqDiff, Nat.reduceLT, ↓reduceIte, Int.natCast_add, Int.cast_ofNat_Int, Int.natCast_zero]) rfl)
    | (have hk1 : k0 = (k0 - 1) + 1 := by omega
       rw [hk1, step_add (by omega) (by first | exact .inl (by omega) | exact .inr ⟨by omega, by assumption, by omega⟩)] at hrun
       exact leaf_add hlp i (j + 1) (k0 - 1) cl i 0 [b[j]] (by omega) (by omega) (by omega) (by omega) (by omega) (by omega) (by simp) (by omega) hrun (by simp only [hnm, not_false_eq_true]) (by simp only [List.forall_mem_cons, List.not_mem_nil, false_implies, implies_true, and_true, true_and, and_self, fr_getD_cons, fr_getD_nil, Nat.reduceEqDiff, Nat.reduceLT, ↓reduceIte, Int.natCast_add, Int.cast_ofNat_Int, Int.natCast_zero]) rfl rfl)
set_option maxRecDepth 100000 in
set_option maxHeartbeats 8000000 in
theorem diff_open (G : Globs) (a b : List (List UInt8)) (ha : a.length ≤ 4000000) (hb : b.length ≤ 4000000) (i j k0 : Nat) (cl : List Chg) (O A at_ drop : Int) (add : List (List UInt8)) (hi : i ≤ a.length) (hj : j ≤ b.length) (hk : (a.length - i) + (b.length - j) ≤ k0)
    (hOA : O ≠ A) (hd0 : 0 ≤ drop) (hd1 : drop ≤ i) (hadd : add.length ≤ j) (hlen : cl.length + 1 ≤ i + j) (hrun : cl ++ run k0 i (some ⟨at_, drop, add⟩) (a.drop i) (b.drop j) = diffL a b)
    (lp : PState → Prop) (hlp : ∀ σ'' n', n' < (a.length - i) + (b.length - j) → Wxs G [] σ'' (diffJ a b n') → lp σ'') (K : Exit → PState → Prop)
    (hK : ∀ σ', cl ++ [⟨at_, drop, add⟩] = diffL a b → Wk σ' ⟨fr 198 [(13, .row O 3 (cl.length + 1))], [(O, ⟨52, true, 3, flatC cl ++ [pint .i64 at_, pint .i64 drop, .row A 1 add.length]⟩), (A, ⟨9, true, 1, add.map pstr⟩)]⟩ → K (.exit 6) σ') :
    W Tryd.prog G [] (nav (Tryd.f16.body.getD .skip) [1, 1, 1, 1, 1, 1, 1, 0, 1, 0, 0]) ⟨fr 198 [(0, PV.list 1 (a.map pstr)), (1, .list 1 (b.map pstr)), (5, pint .i64 a.length), (6, pint .i64 b.length), (7, tblL a b), (13, .row O 3 (cl.length + 1)), (14, pbool true), (15, pint .i64 i), (16, pint .i64 j)], [(O, ⟨52, true, 3, flatC cl ++ [pint .i64 at_, pint .i64 drop, .row A 1 add.length]⟩), (A, ⟨9, true, 1, add.map pstr⟩)]⟩ (seqK lp K) := by
  simp only [Tryd.f16, Option.getD_some, nav]
  have hnm : True := trivial
  have hOA' : ¬ A = O := fun e => hOA e.symm
  have hsub : Sub [(O, ⟨52, true, 3, flatC cl ++ [pint .i64 at_, pint .i64 drop, .row A 1 add.length]⟩), (A, ⟨9, true, 1, add.map pstr⟩)] [(O, ⟨52, true, 3, flatC cl ++ [pint .i64 at_, pint .i64 drop, .row A 1 add.length]⟩), (A, ⟨9, true, 1, add.map pstr⟩)] :=
    Sub_refl (by simp only [names, List.map_cons, List.map_nil]; simp; exact hOA)
  repeat' (first
    | (with_reducible apply W_seq_k; intro nx hnx)
    | (with_reducible first | refine wr 105965634715635 ?_ | refine wd (id := 16) 105965634715635 1 (.op 0 true (.op 1 true (.op 2 true (.op 3 true (.op 4 true (.op 5 true (.op 6 true (.op 7 true (.op 8 true (.done)))))))))) (by kernel_rfl) ?_ | refine wd (id := 17) 105965634715635 1 (.op 0 true (.op 1 true (.op 2 true (.op 3 true (.op 4 true (.op 5 true (.op 6 true (.op 7 true (.op 8 true (.op 9 true (.op 10 true (.op 11 true (.op 12 true (.op 13 true (.op 14 true (.op 15 true (.op 16 false (.done)))))))))))))))))) (by kernel_rfl) ?_ | refine wd (id := 18) 105965634715635 1 (.op 0 true (.op 1 true (.op 2 true (.op 3 true (.op 4 true (.op 5 true (.op 6 true (.op 7 true (.op 8 true (.op 9 true (.op 10 true (.op 11 true (.op 12 true (.op 13 true (.op 14 true (.op 15 true (.op 16 true (.op 17 true (.op 18 true (.op 19 true (.op 20 true (.op 21 true (.op 22 true (.op 23 false (.done))))))))))))))))))))))))) (by kernel_rfl) ?_ | refine wd (id := 25) 105965634715635 1 (.op 0 true (.op 1 true (.op 2 true (.op 3 true (.op 4 true (.op 5 true (.op 6 true (.op 7 true (.op 8 true (.op 9 true (.op 10 true (.op 11 true (.op 12 true (.op 13 true (.op 14 true (.op 15 true (.op 16 true (.op 17 true (.op 18 true (.done)))))))))))))))))))) (by kernel_rfl) ?_ | refine wd (id := 33) 105965634715635 1 (.op 0 true (.op 1 true (.op 2 true (.op 3 true (.op 4 true (.op 5 true (.op 6 true (.op 7 true (.op 8 true (.op 9 true (.op 10 true (.op 11 true (.op 12 true (.op 13 true (.op 14 true (.op 15 true (.op 16 true (.op 17 true (.op 18 true (.op 19 true (.op 20 true (.op 21 true (.op 22 true (.op 23 true (.op 24 true (.op 25 true (.op 26 true (.done)))))))))))))))))))))))))))) (by kernel_rfl) ?_ | refine wd (id := 36) 105965634715635 3 (.op 0 true (.op 1 true (.op 2 true (.op 3 true (.op 4 true (.op 5 true (.op 6 true (.op 7 true (.op 8 true (.op 9 true (.op 10 false (.op 11 true (.op 12 true (.op 13 false (.done))))))))))))))) (by kernel_rfl) ?_)
    | ((with_reducible first | (apply WL_op; intro nx hnx) | refine Ev_out ?_ | refine wc ?_ | (apply popsD_op; intro nx hnx) | (refine popsD_alt ?_ ?_; intro nx hnx) | (refine pf hnm fun nm hnm => ?_; try simp only [fmb] at hnm) | (refine pm hnm fun nm hnm => ?_; try simp only [fmb] at hnm) | (refine pmaybe_k ?_; intro bn hbn)); try (simp (maxSteps := 2000000) (disch := omega) only [ev, ↓evp, PV.cells, PV.one, PV.mem?, Value.cells, simprocAttr, hnm, Tryd.tf0, Tryd.tf1, Tryd.tf2, Tryd.tf3, Tryd.tf4, Tryd.tf9, Tryd.tf22, Tryd.tf24, Tryd.tf48, Tryd.tf52, Tryd.tf84, Tryd.tf85, tab_len, tab_getD, flatC_len, flatC_len3, flatC_get1, flatC_get2, flatC_set1a, flatC_set2a, Nat.add_sub_cancel, hOA, hOA']))
    | ((with_reducible first | apply W_block | apply W_scope | apply WL_nil | apply W_label | apply W_skip | apply W_exit | apply W_ret | apply popsD_done | exact popsD_stop) <;> try simp only [kks, simprocAttr])
    | (with_reducible apply pg <;> (intro hc; (try simp only [hcb, simprocAttr, ne_eq, forall_const] at hc); first | (exfalso; omega) | exact absurd trivial hc | skip))
    | (with_reducible apply hnx; clear hnx nx)
    | (with_reducible refine And.intro (by omega) ?_)
    | (with_reducible refine And.intro ?_ ?_)
    | (clear hnx nx; with_reducible apply hnx; clear hnx nx)
    | (clear hnx nx; clear hnx nx; with_reducible apply hnx; clear hnx nx))
  all_goals first
    | (have hij : i = a.length ∧ j = b.length := by omega
       refine hK _ ?_ ?_
       · rw [List.drop_of_length_le (by omega), List.drop_of_length_le (by omega), run_end] at hrun
         simpa using hrun
       · exact Wk_fr (by simp only [List.forall_mem_cons, List.not_mem_nil, false_implies, implies_true, and_true, true_and, and_self, fr_getD_cons, fr_getD_nil, Nat.reduceEqDiff, Nat.reduceLT, ↓reduceIte, Int.natCast_add, Int.cast_ofNat_Int, Int.natCast_zero]) hsub)
    | (have hk1 : k0 = (k0 - 1) + 1 := by omega
       rw [hk1, step_keep (by omega) (by omega) hc] at hrun
       refine hlp _ ((a.length - (i + 1)) + (b.length - (j + 1))) (by omega) (Wxs.wx ((Wx.of_wk (τ := ⟨fr 198 [(0, .list 1 (a.map pstr)), (1, .list 1 (b.map pstr)), (5, pint .i64 a.length), (6, pint .i64 b.length), (7, tblL a b), (13, .row O 3 (cl.length + 1)), (14, pbool false), (15, pint .i64 ((i + 1 : Nat) : Int)), (16, pint .i64 ((j + 1 : Nat) : Int))], _⟩)
         (Wk_fr (by simp only [List.forall_mem_cons, List.not_mem_nil, false_implies, implies_true, and_true, true_and, and_self, fr_getD_cons, fr_getD_nil, Nat.reduceEqDiff, Nat.reduceLT, ↓reduceIte, Int.natCast_add, Int.cast_ofNat_Int, Int.natCast_zero]) hsub)).trans (Wx_close hOA cl at_ drop add (rest := []) (by simp) ?_)) (.of (Wx.refl _) ⟨i + 1, j + 1, k0 - 1, cl ++ [⟨at_, drop, add⟩], O, by omega, by omega, rfl, by omega, .inl ⟨?_, ?_, ?_⟩⟩))
       · simp [frz, frz1, hOA]
       · simp only [List.length_append, List.length_cons, List.length_nil]
         omega
       · rw [List.append_assoc]
         exact hrun
       · simp only [List.length_append, List.length_cons, List.length_nil])
    | (have hk1 : k0 = (k0 - 1) + 1 := by omega
       rw [hk1, step_drop (by omega) (by first | exact .inl (by omega) | exact .inr ⟨by omega, by assumption, by omega⟩)] at hrun
       refine hlp _ ((a.length - (i + 1)) + (b.length - j)) (by omega) (.of (.of_wk (Wk_fr (l' := [(0, PV.list 1 (a.map pstr)), (1, .list 1 (b.map pstr)), (5, pint .i64 a.length), (6, pint .i64 b.length), (7, tblL a b), (13, .row O 3 (cl.length + 1)), (14, pbool true), (15, pint .i64 ((i + 1 : Nat) : Int)), (16, pint .i64 j)]) (by simp only [List.forall_mem_cons, List.not_mem_nil, false_implies, implies_true, and_true, true_and, and_self, fr_getD_cons, fr_getD_nil, Nat.reduceEqDiff, Nat.reduceLT, ↓reduceIte, Int.natCast_add, Int.cast_ofNat_Int, Int.natCast_zero]) (Sub_refl (by simp only [names, List.map_cons, List.map_nil]; simp; exact hOA)))) ⟨i + 1, j, k0 - 1, cl, O, by omega, by omega, rfl, by omega, .inr ⟨A, at_, drop + 1, add, hOA, by omega, by omega, by omega, by omega, hrun, rfl⟩⟩))
    | (have hk1 : k0 = (k0 - 1) + 1 := by omega
       rw [hk1, step_add (by omega) (by first | exact .inl (by omega) | exact .inr ⟨by omega, by assumption, by omega⟩)] at hrun
       exact leaf_add hlp i (j + 1) (k0 - 1) cl at_ drop (add ++ [b[j]]) (by omega) (by omega) (by omega) (by omega) (by omega) (by omega) (by simp; omega) (by omega) hrun (by simp only [hnm, not_false_eq_true]) (by simp only [List.forall_mem_cons, List.not_mem_nil, false_implies, implies_true, and_true, true_and, and_self, fr_getD_cons, fr_getD_nil, Nat.reduceEqDiff, Nat.reduceLT, ↓reduceIte, Int.natCast_add, Int.cast_ofNat_Int, Int.natCast_zero]) (by simp) (by simp))
end Go.PM
